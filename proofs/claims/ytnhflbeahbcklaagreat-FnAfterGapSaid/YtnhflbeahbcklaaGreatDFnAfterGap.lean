/- What the functions that the law FnAfterGap reaches compute, over numbers, texts and lists. Written by a program of this session. Conditions: none. -/
import Derived.Test.YtnhflbeahbcklaaGreatAL2
namespace Go.Proofs.YtnhflbeahbcklaaGreat.A
open Go Go.Proofs Go.Proofs.YtnhflbeahbcklaaGreatAL Go.RowKit
set_option linter.unusedVariables false
set_option linter.unusedSimpArgs false
structure Seq where
 Level : Int
 Bits : Int
 Cols : (List Int)
 Rows : (List Int)
structure Par where
 Qp : Int
 Large : Bool
 Exact : Bool
 Confined : Bool
structure Pic where
 Wide : Int
 High : Int
 Dots : ByteArray
structure Xuq where
 Tile : Int
 Frame : Int
 Qp : Int
structure Rate where
 Qp : Int
 Target : Int
 Debt : Int
structure Xa5 where
 Seq : Seq
 Par : Par
 Rate : Rate
 Frame : Int
 Since : Int
 Every : Int
 Reach : Int
 Has : Bool
 Ref : Pic
structure Xdk where
 Has : Bool
 Live : Bool
 Seq : Seq
 Par : Par
 Frame : Int
 Count : Int
 Gone : Int
structure Yaq where
 Key : Bool
 Qp : Int
 Row : ByteArray
structure Yxj where
 Left : Int
 Top : Int
 Wide : Int
 High : Int
structure Xe9 where
 Key : Bool
 Qp : Int
 Large : Bool
 Exact : Bool
structure Xnf where
 row_ : ByteArray
 at_ : Int
 bad_ : Bool
structure Xbj where
 b_ : (List Int)
 i_ : Int
 h_ : Int
structure Xam where
 Kind : Int
 Mode : Int
 Dx : Int
 Dy : Int
 Levels : (List Int)
structure Xiw where
 Above : (List Int)
 Left : (List Int)
 Corner : Int
def Yz3 : Bool := false
def Xb0 : ByteArray := ⟨#[]⟩
def Xf3 : (List Int) := []
def Zbb : Pic := ⟨0, 0, ⟨#[]⟩⟩
def Xwv : Xam := ⟨0, 0, 0, 0, []⟩
noncomputable section
def Yfp (p0 : (List Int)) : Option Bool :=
 some (decide ((p0.length : Int) > 1048576))
def Xna (p0 : (List Int)) (v3 : (Int × Int)) : Option (Lp (Int × Int) Int) :=
 bnd (
 sel (decide (v3.2 < (p0.length : Int))) (
 some (decide (v3.2 < 4000))) (
 some false)) fun v7 =>
 sel v7 (
 req (0 ≤ v3.2 ∧ v3.2 < p0.length) <|
 some (.go ((IntKind.wrap .i64 (BitVec.ofInt (IntKind.bits .i64) (Xaa .i64 ((Xaa .i64 ((Xaa .i64 (v3.1 * 131)) + (Xaa .i64 ((p0.getD v3.2.toNat 0))))) + 7)) &&& BitVec.ofInt (IntKind.bits .i64) 1073741823).toNat), Xaa .i64 (v3.2 + 1)))) (
 some (.done v3.1))
def Xmw (p0 : (List Int)) : Option Xbj :=
 bnd (loop (Xna p0) (Xaa .i64 (94701 + (p0.length : Int)), 0)) fun v6 =>
 some (⟨p0, 0, v6⟩ : Xbj)
def Xb5 (p0 : Xbj) : Option (Int × Xbj) :=
 req (0 ≤ (33 : Int)) <|
 req (0 ≤ (45 : Int)) <|
 bnd (
 sel (decide (p0.i_ < (p0.b_.length : Int))) (
 req (0 ≤ p0.i_ ∧ p0.i_ < p0.b_.length) <|
 some ((IntKind.wrap .i64 (BitVec.ofInt (IntKind.bits .i64) (Xaa .i64 ((IntKind.wrap .i64 (BitVec.ofInt (IntKind.bits .i64) (IntKind.wrap .i64 (BitVec.ofInt (IntKind.bits .i64) ((Xaa .i64 ((Xaa .i64 (p0.h_ * 6364136223846793005)) + 1442695040888963407)) / 2 ^ min (33 : Int).toNat (IntKind.bits .i64)) ^^^ BitVec.ofInt (IntKind.bits .i64) ((Xaa .i64 ((Xaa .i64 (p0.h_ * 6364136223846793005)) + 1442695040888963407)) / 2 ^ min (45 : Int).toNat (IntKind.bits .i64))).toNat) &&& BitVec.ofInt (IntKind.bits .i64) 255).toNat) + (Xaa .i64 ((p0.b_.getD p0.i_.toNat 0))))) &&& BitVec.ofInt (IntKind.bits .i64) 255).toNat), Xaa .i64 (p0.i_ + 1))) (
 some ((IntKind.wrap .i64 (BitVec.ofInt (IntKind.bits .i64) (IntKind.wrap .i64 (BitVec.ofInt (IntKind.bits .i64) ((Xaa .i64 ((Xaa .i64 (p0.h_ * 6364136223846793005)) + 1442695040888963407)) / 2 ^ min (33 : Int).toNat (IntKind.bits .i64)) ^^^ BitVec.ofInt (IntKind.bits .i64) ((Xaa .i64 ((Xaa .i64 (p0.h_ * 6364136223846793005)) + 1442695040888963407)) / 2 ^ min (45 : Int).toNat (IntKind.bits .i64))).toNat) &&& BitVec.ofInt (IntKind.bits .i64) 255).toNat), p0.i_))) fun v1 =>
 some (v1.1, (⟨p0.b_, v1.2, Xaa .i64 ((Xaa .i64 (p0.h_ * 6364136223846793005)) + 1442695040888963407)⟩ : Xbj))
def Xa1 (p0 : Xbj) (p1 : Int) : Option (Int × Xbj) :=
 sel (decide (p1 ≤ 0)) (
 some (0, p0)) (
 sel (decide (p1 ≤ 256)) (
 bnd (Xb5 p0) fun q1 =>
 req (p1 ≠ 0) <|
 some ((q1.1.tmod p1), q1.2)) (
 bnd (Xb5 p0) fun q2 =>
 bnd (Xb5 q2.2) fun q3 =>
 bnd (Xb5 q3.2) fun q4 =>
 bnd (Xb5 q4.2) fun q5 =>
 req (p1 ≠ 0) <|
 some (((Xaa .i64 ((Xaa .i64 ((Xaa .i64 ((Xaa .i64 (q2.1 * 16777216)) + (Xaa .i64 (q3.1 * 65536)))) + (Xaa .i64 (q4.1 * 256)))) + q5.1)).tmod p1), q5.2)))
def Xfy (p0 : Xbj) (p1 : Int) : Option (Bool × Xbj) :=
 bnd (Xa1 p0 p1) fun q1 =>
 some ((q1.1 == 0), q1.2)
def Xgo (p0 : Xbj) : Option (Par × Xbj) :=
 bnd (Xa1 p0 41) fun q1 =>
 bnd (Xfy q1.2 4) fun q2 =>
 bnd (
 bnd (Xa1 q2.2 3) fun q4 =>
 sel (q4.1 == 0) (
 some (true, false, q4.2.b_, q4.2.i_, q4.2.h_)) (
 sel (q4.1 == 1) (
 some (false, true, q4.2.b_, q4.2.i_, q4.2.h_)) (
 some (false, false, q4.2.b_, q4.2.i_, q4.2.h_)))) fun v3 =>
 some ((⟨q1.1, v3.1, v3.2.1, (!q2.1)⟩ : Par), (⟨v3.2.2.1, v3.2.2.2.1, v3.2.2.2.2⟩ : Xbj))
def Xan (p0 : Int) (p1 : Int) (p2 : Int) : Option Bool :=
 bnd (
 sel (decide (p0 ≥ p1)) (
 some (decide (p0 ≤ p2))) (
 some false)) fun v1 =>
 some v1
def Xg2 (p0 : (List Int)) (v4 : (Int × Int)) : Option (Lp (Int × Int) (Ou Int Int)) :=
 sel (decide (v4.2 < (p0.length : Int))) (
 req (0 ≤ v4.2 ∧ v4.2 < p0.length) <|
 bnd (Xan (p0.getD v4.2.toNat 0) 1 8) fun q8 =>
 sel (!q8) (
 some (.done (.ret 0))) (
 req (0 ≤ v4.2 ∧ v4.2 < p0.length) <|
 some (.go (Xaa .i64 (v4.1 + (p0.getD v4.2.toNat 0)), Xaa .i64 (v4.2 + 1))))) (
 some (.done (.out v4.1)))
def Xh3 (p0 : (List Int)) : Option Int :=
 bnd (
 sel (decide ((p0.length : Int) < 1)) (
 some true) (
 some (decide ((p0.length : Int) > 4)))) fun v1 =>
 sel v1 (
 some 0) (
 bnd (loop (Xg2 p0) (0, 0)) fun o9 => match o9 with
| .out v7 => (
 some v7)
| .ret r => some r)
def Xjd (p0 : Seq) : Option Int :=
 bnd (Xh3 p0.Cols) fun q1 =>
 bnd (Xh3 p0.Rows) fun q2 =>
 some (Xaa .i64 (q1 * q2))
def Xfp (p0 : Int) : Option Int :=
 sel (p0 == 1) (
 some 16) (
 sel (p0 == 2) (
 some 64) (
 sel (p0 == 3) (
 some 256) (
 some 0)))
def Xms (p0 : Seq) : Option Bool :=
 bnd (
 bnd (Xjd p0) fun q2 =>
 bnd (Xfp p0.Level) fun q3 =>
 bnd (Xan q2 1 q3) fun q4 =>
 sel q4 (
 bnd (Xan p0.Bits 3 8) fun q5 =>
 some q5) (
 some false)) fun v1 =>
 some v1
def Xki (p0 : Seq) : Option Int :=
 bnd (Xms p0) fun q1 =>
 sel (!q1) (
 some 0) (
 some (Xaa .i64 ((p0.Cols.length : Int) * (p0.Rows.length : Int))))
def Xrr (p0 : Par) : Option Bool :=
 bnd (
 bnd (Xan p0.Qp 0 40) fun q2 =>
 sel q2 (
 sel p0.Large (
 some (!p0.Exact)) (
 some true)) (
 some false)) fun v1 =>
 some v1
def Xg8 (v5 : (Int × (List Int) × Int × Int × (List Int))) : Option (Lp (Int × (List Int) × Int × Int × (List Int)) (List Int)) :=
 sel (decide (v5.1 < 12)) (
 bnd (Xa1 (⟨v5.2.1, v5.2.2.1, v5.2.2.2.1⟩ : Xbj) 10000) fun q9 =>
 req ((v5.2.2.2.2.length + ([q9.1]).length) * 8 ≤ 140737488355328 ∧ v5.2.2.2.2.length + ([q9.1]).length ≤ maxLen) <|
 some (.go (Xaa .i64 (v5.1 + 1), q9.2.b_, q9.2.i_, q9.2.h_, (v5.2.2.2.2 ++ ([q9.1]))))) (
 some (.done v5.2.2.2.2))
def Xhy (p0 : (List Int)) : Option (List Int) :=
 bnd (Xmw p0) fun q1 =>
 bnd (Xb5 q1) fun q2 =>
 bnd (loop (Xg8) (0, q2.2.b_, q2.2.i_, q2.2.h_, ([] : List Int))) fun v8 =>
 some v8
def Xdo (p0 : (List Int)) : Option (List Int) :=
 req ((([] : List Int).length + p0.length) * 8 ≤ 140737488355328 ∧ ([] : List Int).length + p0.length ≤ maxLen) <|
 some (([] : List Int) ++ p0)
def Xhp (p0 : Seq) : Option Seq :=
 bnd (Xdo p0.Cols) fun q1 =>
 bnd (Xdo p0.Rows) fun q2 =>
 some (⟨p0.Level, p0.Bits, q1, q2⟩ : Seq)
def Xnm (p0 : Seq) : Option Bool :=
 bnd (
 sel (p0.Level == 0) (
 sel (p0.Bits == 0) (
 sel ((p0.Cols.length : Int) == 0) (
 some ((p0.Rows.length : Int) == 0)) (
 some false)) (
 some false)) (
 some false)) fun v1 =>
 some v1
def Xaj (p0 : Int) (p1 : Int) (p2 : Int) : Option Bool :=
 bnd (
 sel (decide (p0 ≥ p1)) (
 some (decide (p0 ≤ p2))) (
 some false)) fun v1 =>
 some v1
def Xdp (p0 : (List Int)) (v2 : (Int × Int)) : Option (Lp (Int × Int) Int) :=
 sel (decide (v2.2 < (p0.length : Int))) (
 req (0 ≤ v2.2 ∧ v2.2 < p0.length) <|
 some (.go (Xaa .i64 (v2.1 + (p0.getD v2.2.toNat 0)), Xaa .i64 (v2.2 + 1)))) (
 some (.done v2.1))
def Xce (p0 : (List Int)) : Option Int :=
 bnd (loop (Xdp p0) (0, 0)) fun v4 =>
 some v4
def Xcg (p0 : Seq) (v11 : Int) (v26 : Int) : Option (Lp Int (Ou Unit Int)) :=
 sel (decide (v26 < ((([p0.Cols, p0.Rows]).getD v11.toNat Xf3).length : Int))) (
 req (0 ≤ v26 ∧ v26 < (([p0.Cols, p0.Rows]).getD v11.toNat Xf3).length) <|
 bnd (Xaj ((([p0.Cols, p0.Rows]).getD v11.toNat Xf3).getD v26.toNat 0) 1 8) fun q30 =>
 sel (!q30) (
 some (.done (.ret 0))) (
 some (.go (Xaa .i64 (v26 + 1))))) (
 some (.done (.out ())))
def Xdc (p0 : Seq) (v11 : Int) : Option (Lp Int (Ou Unit Int)) :=
 sel (decide (v11 < (([p0.Cols, p0.Rows]).length : Int))) (
 req (0 ≤ v11 ∧ v11 < ([p0.Cols, p0.Rows]).length) <|
 req (v11.toNat < ([p0.Cols, p0.Rows]).length) <|
 bnd (Xaj ((([p0.Cols, p0.Rows]).getD v11.toNat Xf3).length : Int) 1 4) fun q23 =>
 sel (!q23) (
 some (.done (.ret 0))) (
 bnd (loop (Xcg p0 v11) 0) fun o31 => match o31 with
| .out v29 => (
 some (.go (Xaa .i64 (v11 + 1))))
| .ret r => some (.done (.ret r)))) (
 some (.done (.out ())))
def Xdv (p0 : Seq) : Option Int :=
 bnd (loop (Xdc p0) 0) fun o32 => match o32 with
| .out v22 => (
 bnd (Xce p0.Cols) fun q33 =>
 bnd (Xce p0.Rows) fun q34 =>
 some (Xaa .i64 (q33 * q34)))
| .ret r => some r
def Xff (p0 : Int) : Option Int :=
 bnd (Xaj p0 1 3) fun q1 =>
 sel (!q1) (
 some 0) (
 req (0 ≤ (Xaa .i64 (p0 - 1)) ∧ (Xaa .i64 (p0 - 1)) < ([16, 64, 256]).length) <|
 req ((Xaa .i64 (p0 - 1)).toNat < ([16, 64, 256]).length) <|
 some (([16, 64, 256]).getD ((Xaa .i64 (p0 - 1)).toNat) 0))
def Xgs (p0 : Seq) : Option Bool :=
 bnd (
 bnd (Xdv p0) fun q2 =>
 bnd (Xff p0.Level) fun q3 =>
 bnd (Xaj q2 1 q3) fun q4 =>
 sel q4 (
 bnd (Xaj p0.Bits 3 8) fun q5 =>
 some q5) (
 some false)) fun v1 =>
 some v1
def Xem (p0 : Par) : Option Bool :=
 bnd (
 bnd (Xaj p0.Qp 0 40) fun q2 =>
 sel q2 (
 sel p0.Large (
 some (!p0.Exact)) (
 some true)) (
 some false)) fun v1 =>
 some v1
def Xdw (p0 : Seq) : Option Int :=
 bnd (Xgs p0) fun q1 =>
 sel (!q1) (
 some 0) (
 some (Xaa .i64 ((p0.Cols.length : Int) * (p0.Rows.length : Int))))
def Xpb (p0 : Seq) : Option (Int × Int) :=
 bnd (Xgs p0) fun q1 =>
 sel (!q1) (
 some (0, 0)) (
 bnd (Xce p0.Cols) fun q2 =>
 bnd (Xce p0.Rows) fun q3 =>
 some (Xaa .i64 (8 * q2), Xaa .i64 (8 * q3)))
def Xcx (p0 : Pic) : Option Bool :=
 bnd (
 bnd (Xaj p0.Wide 1 256) fun q2 =>
 sel q2 (
 bnd (Xaj p0.High 1 256) fun q3 =>
 sel q3 (
 some ((p0.Dots.size : Int) == (Xaa .i64 (p0.Wide * p0.High)))) (
 some false)) (
 some false)) fun v1 =>
 some v1
def Xq9 (p0 : Pic) (p1 : Seq) : Option Bool :=
 bnd (Xpb p1) fun q1 =>
 bnd (
 bnd (Xcx p0) fun q3 =>
 sel q3 (
 sel (p0.Wide == q1.1) (
 some (p0.High == q1.2)) (
 some false)) (
 some false)) fun v2 =>
 some v2
def Xme (p0 : Int) : Option Bool :=
 bnd (
 sel (p0 == 1) (
 some true) (
 sel (p0 == 5) (
 some true) (
 sel (p0 == 7) (
 some true) (
 some (p0 == 8))))) fun v1 =>
 some v1
def Xek (p0 : ByteArray) (v3 : (Int × (List Int))) : Option (Lp (Int × (List Int)) (List Int)) :=
 sel (decide (v3.1 < (Xaa .i64 (8 * (p0.size : Int))))) (
 req ((8 : Int) ≠ 0) <|
 req (0 ≤ (Xaa .i64 (v3.1.tdiv 8)) ∧ (Xaa .i64 (v3.1.tdiv 8)) < p0.size) <|
 req ((8 : Int) ≠ 0) <|
 req (0 ≤ (Xaa .i64 (7 - (v3.1.tmod 8)))) <|
 req ((v3.2.length + ([Xaa .u8 (48 + (IntKind.wrap .u8 (BitVec.ofInt (IntKind.bits .u8) ((Xx0 p0 (Xaa .i64 (v3.1.tdiv 8))) / 2 ^ min (Xaa .i64 (7 - (v3.1.tmod 8))).toNat (IntKind.bits .u8)) &&& BitVec.ofInt (IntKind.bits .u8) 1).toNat))]).length) * 1 ≤ 140737488355328 ∧ v3.2.length + ([Xaa .u8 (48 + (IntKind.wrap .u8 (BitVec.ofInt (IntKind.bits .u8) ((Xx0 p0 (Xaa .i64 (v3.1.tdiv 8))) / 2 ^ min (Xaa .i64 (7 - (v3.1.tmod 8))).toNat (IntKind.bits .u8)) &&& BitVec.ofInt (IntKind.bits .u8) 1).toNat))]).length ≤ maxLen) <|
 some (.go (Xaa .i64 (v3.1 + 1), (v3.2 ++ ([Xaa .u8 (48 + (IntKind.wrap .u8 (BitVec.ofInt (IntKind.bits .u8) ((Xx0 p0 (Xaa .i64 (v3.1.tdiv 8))) / 2 ^ min (Xaa .i64 (7 - (v3.1.tmod 8))).toNat (IntKind.bits .u8)) &&& BitVec.ofInt (IntKind.bits .u8) 1).toNat))]))))) (
 some (.done v3.2))
def Xel (v5 : (List Int)) (v8 : Int) : Option (Lp Int Int) :=
 req (0 ≤ (Xaa .i64 (v8 - 1)) ∧ (Xaa .i64 (v8 - 1)) < v5.length) <|
 req ((Xaa .i64 (v8 - 1)).toNat < v5.length) <|
 sel ((v5.getD ((Xaa .i64 (v8 - 1)).toNat) 0) == 48) (
 some (.go (Xaa .i64 (v8 - 1)))) (
 some (.done v8))
def Xks (p0 : ByteArray) : Option (ByteArray × Bool) :=
 bnd (
 sel ((Xaa .i64 (8 * (p0.size : Int))) == 0) (
 some true) (
 req (0 ≤ (Xaa .i64 ((p0.size : Int) - 1)) ∧ (Xaa .i64 ((p0.size : Int) - 1)) < p0.size) <|
 sel ((Xx0 p0 (Xaa .i64 ((p0.size : Int) - 1))) == 0) (
 some true) (
 some (decide ((Xaa .i64 (8 * (p0.size : Int))) > 400008))))) fun v1 =>
 sel v1 (
 some (⟨#[]⟩, false)) (
 req (0 ≤ (0 : Int) ∧ (0 : Int) ≤ (Xaa .i64 (8 * (p0.size : Int))) ∧ (Xaa .i64 (8 * (p0.size : Int))) * 1 ≤ 281474976710656) <|
 bnd (loop (Xek p0) (0, (List.replicate (0 : Int).toNat (0 : Int)))) fun v5 =>
 bnd (loop (Xel v5) (Xaa .i64 (8 * (p0.size : Int)))) fun v10 =>
 sel (decide ((Xaa .i64 (v10 - 1)) > 400000)) (
 some (⟨#[]⟩, false)) (
 req (0 ≤ (0 : Int) ∧ (0 : Int) ≤ (Xaa .i64 (v10 - 1)) ∧ (Xaa .i64 (v10 - 1)) ≤ (v5.length : Int)) <|
 req ((0 : Int).toNat + ((Xaa .i64 (v10 - 1)).toNat - (0 : Int).toNat) ≤ v5.length) <|
 some ((strOfNums ((v5.drop ((0 : Int).toNat)).take ((Xaa .i64 (v10 - 1)).toNat - (0 : Int).toNat))), true)))
def Xma (p0 : ByteArray) : Option (Int × ByteArray × Bool) :=
 bnd (
 sel (p0.toList == (⟨#[]⟩ : ByteArray).toList) (
 some true) (
 req (0 ≤ (0 : Int) ∧ (0 : Int) < p0.size) <|
 bnd (Xme (Xaa .i64 ((Xx0 p0 (0 : Int))))) fun q2 =>
 some (!q2))) fun v1 =>
 sel v1 (
 some (0, ⟨#[]⟩, false)) (
 req (0 ≤ (1 : Int) ∧ (1 : Int) ≤ (p0.size : Int) ∧ (p0.size : Int) ≤ (p0.size : Int)) <|
 bnd (Xks (p0.extract (1 : Int).toNat (p0.size : Int).toNat)) fun q3 =>
 sel (!q3.2) (
 some (0, ⟨#[]⟩, false)) (
 req (0 ≤ (0 : Int) ∧ (0 : Int) < p0.size) <|
 some (Xaa .i64 ((Xx0 p0 (0 : Int))), q3.1, true)))
def Xky (p0 : ByteArray) (v3 : Int) : Option (Lp Int (Ou Unit Bool)) :=
 sel (decide (v3 < (p0.size : Int))) (
 bnd (
 req (0 ≤ v3 ∧ v3 < p0.size) <|
 sel ((Xx0 p0 v3) != 48) (
 req (0 ≤ v3 ∧ v3 < p0.size) <|
 some ((Xx0 p0 v3) != 49)) (
 some false)) fun v7 =>
 sel v7 (
 some (.done (.ret false))) (
 some (.go (Xaa .i64 (v3 + 1))))) (
 some (.done (.out ())))
def Xov (p0 : ByteArray) : Option Bool :=
 sel (decide ((p0.size : Int) > 400000)) (
 some false) (
 bnd (loop (Xky p0) 0) fun o8 => match o8 with
| .out v6 => (
 some true)
| .ret r => some r)
def Xhq (p0 : ByteArray) (p1 : Int) : Option Xnf :=
 bnd (
 bnd (Xov p0) fun q2 =>
 sel q2 (
 bnd (Xaj p1 0 (p0.size : Int)) fun q3 =>
 some (!q3)) (
 some true)) fun v1 =>
 some (⟨p0, p1, v1⟩ : Xnf)
def Xgj (p0 : Xnf) (p1 : Int) (v3 : (Int × Int)) : Option (Lp (Int × Int) Int) :=
 sel (decide (v3.2 < p1)) (
 req (0 ≤ (1 : Int)) <|
 req (0 ≤ (Xaa .i64 (p0.at_ + v3.2)) ∧ (Xaa .i64 (p0.at_ + v3.2)) < p0.row_.size) <|
 some (.go ((IntKind.wrap .i64 (BitVec.ofInt (IntKind.bits .i64) (Xaa .i64 (v3.1 * 2 ^ min (1 : Int).toNat (IntKind.bits .i64))) ||| BitVec.ofInt (IntKind.bits .i64) (Xaa .i64 (Xaa .u8 ((Xx0 p0.row_ (Xaa .i64 (p0.at_ + v3.2))) - 48)))).toNat), Xaa .i64 (v3.2 + 1)))) (
 some (.done v3.1))
def Xch (p0 : Xnf) (p1 : Int) : Option (Int × Xnf) :=
 bnd (
 sel p0.bad_ (
 some true) (
 some (decide ((Xaa .i64 ((p0.row_.size : Int) - p0.at_)) < p1)))) fun v1 =>
 sel v1 (
 some (0, (⟨p0.row_, p0.at_, true⟩ : Xnf))) (
 bnd (loop (Xgj p0 p1) (0, 0)) fun v5 =>
 some (v5, (⟨p0.row_, Xaa .i64 (p0.at_ + p1), p0.bad_⟩ : Xnf)))
def Xhr (p0 : Xnf) (v3 : Int) : Option (Lp Int Int) :=
 bnd (
 sel p0.bad_ (
 some false) (
 sel (decide ((Xaa .i64 (p0.at_ + v3)) < (p0.row_.size : Int))) (
 req (0 ≤ (Xaa .i64 (p0.at_ + v3)) ∧ (Xaa .i64 (p0.at_ + v3)) < p0.row_.size) <|
 some ((Xx0 p0.row_ (Xaa .i64 (p0.at_ + v3))) == 48)) (
 some false))) fun v7 =>
 sel v7 (
 some (.go (Xaa .i64 (v3 + 1)))) (
 some (.done v3))
def Xbw (p0 : Xnf) : Option (Int × Xnf) :=
 bnd (loop (Xhr p0) 0) fun v6 =>
 bnd (
 sel (decide (v6 > 20)) (
 some true) (
 some p0.bad_)) fun v9 =>
 bnd (Xch (⟨p0.row_, p0.at_, v9⟩ : Xnf) (Xaa .i64 ((Xaa .i64 (2 * v6)) + 1))) fun q10 =>
 bnd (
 sel q10.2.bad_ (
 some true) (
 some (decide ((Xaa .i64 (q10.1 - 1)) > 1000000)))) fun v11 =>
 sel v11 (
 some (0, (⟨q10.2.row_, q10.2.at_, true⟩ : Xnf))) (
 some (Xaa .i64 (q10.1 - 1), q10.2))
def Xfi (q1 : (Int × Xnf)) (v6 : (Int × ByteArray × Int × Bool × (List Int))) : Option (Lp (Int × ByteArray × Int × Bool × (List Int)) ((List Int) × ByteArray × Int × Bool)) :=
 bnd (
 sel (decide (v6.1 < q1.1)) (
 some (!v6.2.2.2.1)) (
 some false)) fun v11 =>
 sel v11 (
 bnd (Xbw (⟨v6.2.1, v6.2.2.1, v6.2.2.2.1⟩ : Xnf)) fun q12 =>
 req ((v6.2.2.2.2.length + ([q12.1]).length) * 8 ≤ 140737488355328 ∧ v6.2.2.2.2.length + ([q12.1]).length ≤ maxLen) <|
 some (.go (Xaa .i64 (v6.1 + 1), q12.2.row_, q12.2.at_, q12.2.bad_, (v6.2.2.2.2 ++ ([q12.1]))))) (
 some (.done (v6.2.2.2.2, v6.2.1, v6.2.2.1, v6.2.2.2.1)))
def Xgw (p0 : Xnf) : Option ((List Int) × Xnf) :=
 bnd (Xbw p0) fun q1 =>
 bnd (
 sel (decide (q1.1 > 4)) (
 some true) (
 some q1.2.bad_)) fun v2 =>
 bnd (loop (Xfi q1) (0, q1.2.row_, q1.2.at_, v2, ([] : List Int))) fun v10 =>
 some (v10.1, (⟨v10.2.1, v10.2.2.1, v10.2.2.2⟩ : Xnf))
def Xj5 (p0 : ByteArray) (p1 : Int) : Option (Seq × Int × Bool) :=
 bnd (Xhq p0 p1) fun q1 =>
 bnd (Xbw q1) fun q2 =>
 bnd (Xch q2.2 4) fun q3 =>
 bnd (Xgw q3.2) fun q4 =>
 bnd (Xgw q4.2) fun q5 =>
 bnd (
 sel q5.2.bad_ (
 some true) (
 bnd (Xgs (⟨q2.1, q3.1, q4.1, q5.1⟩ : Seq)) fun q7 =>
 some (!q7))) fun v6 =>
 sel v6 (
 some ((⟨0, 0, [], []⟩ : Seq), 0, false)) (
 some ((⟨q2.1, q3.1, q4.1, q5.1⟩ : Seq), q5.2.at_, true))
def Xj4 (p0 : ByteArray) (p1 : Int) : Option (Par × Int × Bool) :=
 bnd (Xhq p0 p1) fun q1 =>
 bnd (Xch q1 6) fun q2 =>
 bnd (Xch q2.2 1) fun q3 =>
 bnd (Xch q3.2 1) fun q4 =>
 bnd (Xch q4.2 1) fun q5 =>
 bnd (
 sel q5.2.bad_ (
 some true) (
 bnd (Xem (⟨q2.1, (q3.1 == 1), (q4.1 == 1), (q5.1 == 1)⟩ : Par)) fun q7 =>
 some (!q7))) fun v6 =>
 sel v6 (
 some ((⟨0, false, false, false⟩ : Par), 0, false)) (
 some ((⟨q2.1, (q3.1 == 1), (q4.1 == 1), (q5.1 == 1)⟩ : Par), q5.2.at_, true))
def Xo7 (p0 : Int) : Option (Int × Bool) :=
 bnd (Xaj p0 0 1000000) fun q1 =>
 sel (!q1) (
 some (0, false)) (
 req ((2 : Int) ≠ 0) <|
 sel ((p0.tmod 2) == 1) (
 req ((2 : Int) ≠ 0) <|
 some (Xaa .i64 ((Xaa .i64 (p0 + 1)).tdiv 2), true)) (
 req ((2 : Int) ≠ 0) <|
 some (Xaa .i64 ((Xaa .i64 (0 - p0)).tdiv 2), true)))
def Xdx (p0 : Xnf) : Option (Int × Xnf) :=
 bnd (Xbw p0) fun q1 =>
 bnd (Xo7 q1.1) fun q2 =>
 bnd (
 sel q1.2.bad_ (
 some true) (
 some (!q2.2))) fun v3 =>
 some (q2.1, (⟨q1.2.row_, q1.2.at_, v3⟩ : Xnf))
def Xl3 (p0 : Seq) (p1 : Par) (p2 : Xuq) : Option Bool :=
 bnd (
 bnd (Xgs p0) fun q2 =>
 sel q2 (
 bnd (Xem p1) fun q3 =>
 sel q3 (
 bnd (Xdw p0) fun q4 =>
 bnd (Xaj p2.Tile 0 (Xaa .i64 (q4 - 1))) fun q5 =>
 sel q5 (
 req (0 ≤ p0.Bits) <|
 bnd (Xaj p2.Frame 0 (Xaa .i64 ((Xaa .i64 (1 * 2 ^ min p0.Bits.toNat (IntKind.bits .i64))) - 1))) fun q6 =>
 sel q6 (
 bnd (Xaj p2.Qp 0 40) fun q7 =>
 some q7) (
 some false)) (
 some false)) (
 some false)) (
 some false)) fun v1 =>
 some v1
def Xf6 (p0 : Seq) (p1 : Par) (p2 : ByteArray) : Option (Xuq × Int × Bool) :=
 bnd (Xhq p2 0) fun q1 =>
 bnd (
 bnd (Xgs p0) fun q3 =>
 sel q3 (
 bnd (Xem p1) fun q4 =>
 some (!q4)) (
 some true)) fun v2 =>
 sel v2 (
 some ((⟨0, 0, 0⟩ : Xuq), 0, false)) (
 bnd (Xbw q1) fun q5 =>
 bnd (Xch q5.2 p0.Bits) fun q6 =>
 bnd (Xdx q6.2) fun q7 =>
 bnd (
 sel q7.2.bad_ (
 some true) (
 bnd (Xl3 p0 p1 (⟨q5.1, q6.1, Xaa .i64 (q7.1 + p1.Qp)⟩ : Xuq)) fun q9 =>
 some (!q9))) fun v8 =>
 sel v8 (
 some ((⟨0, 0, 0⟩ : Xuq), 0, false)) (
 some ((⟨q5.1, q6.1, Xaa .i64 (q7.1 + p1.Qp)⟩ : Xuq), q7.2.at_, true)))
def Xd3 (p0 : Xe9) : Option Bool :=
 bnd (
 bnd (Xaj p0.Qp 0 40) fun q2 =>
 sel q2 (
 sel p0.Large (
 some (!p0.Exact)) (
 some true)) (
 some false)) fun v1 =>
 some v1
def Xfj (p1 : Int) (v8 : (Int × Int × ByteArray × Int × Bool × (List Int))) : Option (Lp (Int × Int × ByteArray × Int × Bool × (List Int)) ((List Int) × ByteArray × Int × Bool)) :=
 bnd (
 sel (decide (v8.2.1 > 0)) (
 some (!v8.2.2.2.2.1)) (
 some false)) fun v16 =>
 sel v16 (
 bnd (Xbw (⟨v8.2.2.1, v8.2.2.2.1, v8.2.2.2.2.1⟩ : Xnf)) fun q17 =>
 bnd (Xdx q17.2) fun q18 =>
 bnd (
 sel (decide ((Xaa .i64 (v8.1 + q17.1)) ≥ p1)) (
 some true) (
 sel (q18.1 == 0) (
 some true) (
 bnd (Xaj q18.1 (-5000) 5000) fun q20 =>
 some (!q20)))) fun v19 =>
 sel v19 (
 some (.done (v8.2.2.2.2.2, q18.2.row_, q18.2.at_, true))) (
 req (0 ≤ (Xaa .i64 (v8.1 + q17.1)) ∧ (Xaa .i64 (v8.1 + q17.1)) < v8.2.2.2.2.2.length) <|
 req ((Xaa .i64 (v8.1 + q17.1)).toNat < v8.2.2.2.2.2.length) <|
 some (.go (Xaa .i64 ((Xaa .i64 (v8.1 + q17.1)) + 1), Xaa .i64 (v8.2.1 - 1), q18.2.row_, q18.2.at_, q18.2.bad_, (v8.2.2.2.2.2.set ((Xaa .i64 (v8.1 + q17.1)).toNat) q18.1))))) (
 some (.done (v8.2.2.2.2.2, v8.2.2.1, v8.2.2.2.1, v8.2.2.2.2.1)))
def Xgx (p0 : Xnf) (p1 : Int) : Option ((List Int) × Xnf) :=
 req (0 ≤ p1 ∧ p1 ≤ p1 ∧ p1 * 8 ≤ 281474976710656) <|
 bnd (Xbw p0) fun q1 =>
 bnd (loop (Xfj p1) (0, q1.1, q1.2.row_, q1.2.at_, q1.2.bad_, (List.replicate p1.toNat (0 : Int)))) fun v15 =>
 some (v15.1, (⟨v15.2.1, v15.2.2.1, v15.2.2.2⟩ : Xnf))
def Xcb (v5 : (Int × ByteArray × Int × Bool × (List Int))) : Option (Lp (Int × ByteArray × Int × Bool × (List Int)) ((List Int) × ByteArray × Int × Bool)) :=
 sel (decide (v5.1 < 4)) (
 bnd (Xgx (⟨v5.2.1, v5.2.2.1, v5.2.2.2.1⟩ : Xnf) 16) fun q9 =>
 req ((v5.2.2.2.2.length + q9.1.length) * 8 ≤ 140737488355328 ∧ v5.2.2.2.2.length + q9.1.length ≤ maxLen) <|
 some (.go (Xaa .i64 (v5.1 + 1), q9.2.row_, q9.2.at_, q9.2.bad_, (v5.2.2.2.2 ++ q9.1)))) (
 some (.done (v5.2.2.2.2, v5.2.1, v5.2.2.1, v5.2.2.2.1)))
def Xcq (p0 : Xnf) (p1 : Xe9) : Option ((List Int) × Xnf) :=
 bnd (
 sel p1.Large (
 some true) (
 some p1.Exact)) fun v1 =>
 sel v1 (
 bnd (Xgx p0 64) fun q2 =>
 some (q2.1, q2.2)) (
 bnd (loop (Xcb) (0, p0.row_, p0.at_, p0.bad_, ([] : List Int))) fun v8 =>
 some (v8.1, (⟨v8.2.1, v8.2.2.1, v8.2.2.2⟩ : Xnf)))
def Xk4 (p0 : (List Int)) (p2 : Int) (p3 : Int) (v3 : Int) : Option (Lp Int (Ou Unit Bool)) :=
 sel (decide (v3 < (p0.length : Int))) (
 req (0 ≤ v3 ∧ v3 < p0.length) <|
 bnd (Xaj (p0.getD v3.toNat 0) p2 p3) fun q7 =>
 sel (!q7) (
 some (.done (.ret false))) (
 some (.go (Xaa .i64 (v3 + 1))))) (
 some (.done (.out ())))
def Xbk (p0 : (List Int)) (p1 : Int) (p2 : Int) (p3 : Int) : Option Bool :=
 bnd (loop (Xk4 p0 p2 p3) 0) fun o8 => match o8 with
| .out v6 => (
 some ((p0.length : Int) == p1))
| .ret r => some r
def Xe2 (p0 : (List Int)) : Option Bool :=
 bnd (Xbk p0 64 (-5000) 5000) fun q1 =>
 some q1
def Xf8 (p0 : Xam) : Option Bool :=
 sel (p0.Kind == 0) (
 bnd (
 sel (p0.Mode == 0) (
 sel (p0.Dx == 0) (
 sel (p0.Dy == 0) (
 some ((p0.Levels.length : Int) == 0)) (
 some false)) (
 some false)) (
 some false)) fun v1 =>
 some v1) (
 sel (p0.Kind == 1) (
 bnd (
 sel (p0.Mode == 0) (
 bnd (Xaj p0.Dx (-16) 16) fun q3 =>
 sel q3 (
 bnd (Xaj p0.Dy (-16) 16) fun q4 =>
 sel q4 (
 bnd (Xe2 p0.Levels) fun q5 =>
 some q5) (
 some false)) (
 some false)) (
 some false)) fun v2 =>
 some v2) (
 sel (p0.Kind == 2) (
 bnd (
 bnd (Xaj p0.Mode 0 3) fun q7 =>
 sel q7 (
 sel (p0.Dx == 0) (
 sel (p0.Dy == 0) (
 bnd (Xe2 p0.Levels) fun q8 =>
 some q8) (
 some false)) (
 some false)) (
 some false)) fun v6 =>
 some v6) (
 some false)))
def Xgk (p0 : Xnf) (p1 : Xe9) : Option (Xam × Xnf) :=
 bnd (
 sel (!p1.Key) (
 bnd (Xbw p0) fun q2 =>
 some (q2.2.row_, q2.2.at_, q2.2.bad_, q2.1)) (
 some (p0.row_, p0.at_, p0.bad_, 2))) fun v1 =>
 bnd (
 sel v1.2.2.1 (
 some (v1.1, v1.2.1, v1.2.2.1, 0, 0, 0, [])) (
 sel (v1.2.2.2 == 1) (
 bnd (Xdx (⟨v1.1, v1.2.1, v1.2.2.1⟩ : Xnf)) fun q4 =>
 bnd (Xdx q4.2) fun q5 =>
 bnd (Xcq q5.2 p1) fun q6 =>
 some (q6.2.row_, q6.2.at_, q6.2.bad_, 0, q4.1, q5.1, q6.1)) (
 sel (v1.2.2.2 == 2) (
 bnd (Xbw (⟨v1.1, v1.2.1, v1.2.2.1⟩ : Xnf)) fun q7 =>
 bnd (Xcq q7.2 p1) fun q8 =>
 some (q8.2.row_, q8.2.at_, q8.2.bad_, q7.1, 0, 0, q8.1)) (
 some (v1.1, v1.2.1, v1.2.2.1, 0, 0, 0, []))))) fun v3 =>
 bnd (
 sel v3.2.2.1 (
 some true) (
 bnd (Xf8 (⟨v1.2.2.2, v3.2.2.2.1, v3.2.2.2.2.1, v3.2.2.2.2.2.1, v3.2.2.2.2.2.2⟩ : Xam)) fun q10 =>
 some (!q10))) fun v9 =>
 some ((⟨v1.2.2.2, v3.2.2.2.1, v3.2.2.2.2.1, v3.2.2.2.2.2.1, v3.2.2.2.2.2.2⟩ : Xam), (⟨v3.1, v3.2.1, v9⟩ : Xnf))
def Xgh (p2 : Int) (p3 : Xe9) (v7 : (Int × ByteArray × Int × Bool × (List Xam))) : Option (Lp (Int × ByteArray × Int × Bool × (List Xam)) (Ou (ByteArray × Int × Bool × (List Xam)) ((List Xam) × Bool))) :=
 sel (decide (v7.1 < p2)) (
 bnd (Xgk (⟨v7.2.1, v7.2.2.1, v7.2.2.2.1⟩ : Xnf) p3) fun q11 =>
 req ((v7.2.2.2.2.length + ([q11.1]).length) * 56 ≤ 140737488355328 ∧ v7.2.2.2.2.length + ([q11.1]).length ≤ maxLen) <|
 sel q11.2.bad_ (
 some (.done (.ret (([] : List Xam), false)))) (
 some (.go (Xaa .i64 (v7.1 + 1), q11.2.row_, q11.2.at_, q11.2.bad_, (v7.2.2.2.2 ++ ([q11.1])))))) (
 some (.done (.out (v7.2.1, v7.2.2.1, v7.2.2.2.1, v7.2.2.2.2))))
def Xia (p0 : ByteArray) (p1 : Int) (p2 : Int) (p3 : Xe9) : Option ((List Xam) × Bool) :=
 bnd (Xhq p0 p1) fun q1 =>
 bnd (
 bnd (Xaj p2 1 64) fun q3 =>
 sel q3 (
 bnd (Xd3 p3) fun q4 =>
 some (!q4)) (
 some true)) fun v2 =>
 sel v2 (
 some (([] : List Xam), false)) (
 bnd (loop (Xgh p2 p3) (0, q1.row_, q1.at_, q1.bad_, ([] : List Xam))) fun o12 => match o12 with
| .out v10 => (
 sel (v10.2.1 != (p0.size : Int)) (
 some (([] : List Xam), false)) (
 some (v10.2.2.2, true)))
| .ret r => some r)
def Xmf (p0 : Int) : Option Bool :=
 bnd (
 req ((8 : Int) ≠ 0) <|
 sel ((p0.tmod 8) == 0) (
 bnd (Xaj p0 8 64) fun q2 =>
 some q2) (
 some false)) fun v1 =>
 some v1
def Xi2 (p0 : Pic) (p1 : Yxj) : Option Bool :=
 bnd (
 bnd (Xaj p1.Wide 1 p0.Wide) fun q2 =>
 sel q2 (
 bnd (Xaj p1.High 1 p0.High) fun q3 =>
 sel q3 (
 bnd (Xaj p1.Left 0 (Xaa .i64 (p0.Wide - p1.Wide))) fun q4 =>
 sel q4 (
 bnd (Xaj p1.Top 0 (Xaa .i64 (p0.High - p1.High))) fun q5 =>
 some q5) (
 some false)) (
 some false)) (
 some false)) fun v1 =>
 some v1
def Xni (p0 : Int) (p1 : Int) (v5 : (Int × (List Int))) : Option (Lp (Int × (List Int)) (List Int)) :=
 sel (decide (v5.1 < ((List.replicate (Xaa .i64 (p0 * p1)).toNat (0 : Int)).length : Int))) (
 req (0 ≤ v5.1 ∧ v5.1 < v5.2.length) <|
 req (v5.1.toNat < v5.2.length) <|
 some (.go (Xaa .i64 (v5.1 + 1), (v5.2.set v5.1.toNat 128)))) (
 some (.done v5.2))
def Xtt (p0 : Int) (p1 : Int) : Option Pic :=
 bnd (
 bnd (Xaj p0 1 256) fun q2 =>
 sel q2 (
 bnd (Xaj p1 1 256) fun q3 =>
 some (!q3)) (
 some true)) fun v1 =>
 sel v1 (
 some (⟨0, 0, ⟨#[]⟩⟩ : Pic)) (
 req (0 ≤ (Xaa .i64 (p0 * p1)) ∧ (Xaa .i64 (p0 * p1)) ≤ (Xaa .i64 (p0 * p1)) ∧ (Xaa .i64 (p0 * p1)) * 1 ≤ 281474976710656) <|
 bnd (loop (Xni p0 p1) (0, (List.replicate (Xaa .i64 (p0 * p1)).toNat (0 : Int)))) fun v7 =>
 some (⟨p0, p1, (strOfNums v7)⟩ : Pic))
def Xb2 (p0 : Pic) (p1 : Int) (p2 : Int) : Option Bool :=
 bnd (
 req ((8 : Int) ≠ 0) <|
 sel ((p1.tmod 8) == 0) (
 req ((8 : Int) ≠ 0) <|
 sel ((p2.tmod 8) == 0) (
 bnd (Xaj p1 0 (Xaa .i64 (p0.Wide - 8))) fun q2 =>
 sel q2 (
 bnd (Xaj p2 0 (Xaa .i64 (p0.High - 8))) fun q3 =>
 some q3) (
 some false)) (
 some false)) (
 some false)) fun v1 =>
 some v1
def Xd8 (p0 : Xam) (p1 : Xe9) : Option Bool :=
 bnd (
 sel p1.Key (
 some (p0.Kind == 2)) (
 some true)) fun v1 =>
 some v1
def Xcp (p0 : Int) (p1 : Int) (p2 : Int) : Option Int :=
 some (if (if p2 < p0 then p2 else p0) > p1 then (if p2 < p0 then p2 else p0) else p1)
def Xeu (p0 : Pic) (p1 : Int) (p2 : Int) : Option Int :=
 bnd (Xcp p2 0 (Xaa .i64 (p0.High - 1))) fun q1 =>
 bnd (Xcp p1 0 (Xaa .i64 (p0.Wide - 1))) fun q2 =>
 req (0 ≤ (Xaa .i64 ((Xaa .i64 (q1 * p0.Wide)) + q2)) ∧ (Xaa .i64 ((Xaa .i64 (q1 * p0.Wide)) + q2)) < p0.Dots.size) <|
 some (Xaa .i64 ((Xx0 p0.Dots (Xaa .i64 ((Xaa .i64 (q1 * p0.Wide)) + q2)))))
def Xet (p0 : Pic) (p1 : Int) (p2 : Int) (v10 : (Int × (List Int))) (v23 : (Int × (List Int))) : Option (Lp (Int × (List Int)) (List Int)) :=
 sel (decide (v23.1 < 8)) (
 bnd (Xeu p0 (Xaa .i64 (p1 + v23.1)) (Xaa .i64 (p2 + v10.1))) fun q27 =>
 req ((v23.2.length + ([q27]).length) * 8 ≤ 140737488355328 ∧ v23.2.length + ([q27]).length ≤ maxLen) <|
 some (.go (Xaa .i64 (v23.1 + 1), (v23.2 ++ ([q27]))))) (
 some (.done v23.2))
def Xes (p0 : Pic) (p1 : Int) (p2 : Int) (v10 : (Int × (List Int))) : Option (Lp (Int × (List Int)) (List Int)) :=
 sel (decide (v10.1 < 8)) (
 bnd (loop (Xet p0 p1 p2 v10) (0, v10.2)) fun v26 =>
 some (.go (Xaa .i64 (v10.1 + 1), v26))) (
 some (.done v10.2))
def Xbz (p0 : Pic) (p1 : Int) (p2 : Int) : Option (List Int) :=
 req (0 ≤ (0 : Int) ∧ (0 : Int) ≤ (64 : Int) ∧ (64 : Int) * 8 ≤ 281474976710656) <|
 bnd (loop (Xes p0 p1 p2) (0, (List.replicate (0 : Int).toNat (0 : Int)))) fun v20 =>
 some v20
def Xk6 (p0 : Int) (v16 : (Int × (List Int))) (v37 : (Int × (List Int))) : Option (Lp (Int × (List Int)) (List Int)) :=
 sel (decide (v37.1 ≤ v16.1)) (
 bnd (
 bnd (
 req ((2 : Int) ≠ 0) <|
 sel ((v16.1.tmod 2) == 0) (
 some (Xaa .i64 (v16.1 - v37.1))) (
 some v37.1)) fun v44 =>
 bnd (
 sel (decide (v44 < p0)) (
 some (decide ((Xaa .i64 (v16.1 - v44)) < p0))) (
 some false)) fun v45 =>
 sel v45 (
 req ((v37.2.length + ([Xaa .i64 ((Xaa .i64 (v44 * p0)) + (Xaa .i64 (v16.1 - v44)))]).length) * 8 ≤ 140737488355328 ∧ v37.2.length + ([Xaa .i64 ((Xaa .i64 (v44 * p0)) + (Xaa .i64 (v16.1 - v44)))]).length ≤ maxLen) <|
 some (v37.2 ++ ([Xaa .i64 ((Xaa .i64 (v44 * p0)) + (Xaa .i64 (v16.1 - v44)))]))) (
 some v37.2)) fun v43 =>
 some (.go (Xaa .i64 (v37.1 + 1), v43))) (
 some (.done v37.2))
def Xg5 (p0 : Int) (v16 : (Int × (List Int))) : Option (Lp (Int × (List Int)) (List Int)) :=
 sel (decide (v16.1 ≤ (Xaa .i64 ((Xaa .i64 (2 * p0)) - 2)))) (
 bnd (loop (Xk6 p0 v16) (0, v16.2)) fun v42 =>
 some (.go (Xaa .i64 (v16.1 + 1), v42))) (
 some (.done v16.2))
def Xgv (p0 : Int) : Option (List Int) :=
 bnd (loop (Xg5 p0) (0, ([] : List Int))) fun v32 =>
 some v32
def Xid (p1 : (List Int)) (q2 : (List Int)) (v4 : (Int × (List Int))) : Option (Lp (Int × (List Int)) (List Int)) :=
 sel (decide (v4.1 < (q2.length : Int))) (
 req (0 ≤ v4.1 ∧ v4.1 < q2.length) <|
 req (v4.1.toNat < q2.length) <|
 req (0 ≤ v4.1 ∧ v4.1 < p1.length) <|
 req (0 ≤ (q2.getD v4.1.toNat 0) ∧ (q2.getD v4.1.toNat 0) < v4.2.length) <|
 req ((q2.getD v4.1.toNat 0).toNat < v4.2.length) <|
 some (.go (Xaa .i64 (v4.1 + 1), (v4.2.set ((q2.getD v4.1.toNat 0).toNat) (p1.getD v4.1.toNat 0))))) (
 some (.done v4.2))
def Xe1 (p0 : Int) (p1 : (List Int)) : Option ((List Int) × Bool) :=
 bnd (
 sel (p0 != 4) (
 sel (p0 != 8) (
 some true) (
 some ((p1.length : Int) != (Xaa .i64 (p0 * p0))))) (
 some ((p1.length : Int) != (Xaa .i64 (p0 * p0))))) fun v1 =>
 sel v1 (
 some (([] : List Int), false)) (
 req (0 ≤ (p1.length : Int) ∧ (p1.length : Int) ≤ (p1.length : Int) ∧ (p1.length : Int) * 8 ≤ 281474976710656) <|
 bnd (Xgv p0) fun q2 =>
 bnd (loop (Xid p1 q2) (0, (List.replicate (p1.length : Int).toNat (0 : Int)))) fun v6 =>
 some (v6, true))
def Xju (p0 : Int) : Option Int :=
 bnd (Xaj p0 0 40) fun q1 =>
 sel (!q1) (
 some 0) (
 req ((6 : Int) ≠ 0) <|
 req (0 ≤ (p0.tmod 6) ∧ (p0.tmod 6) < ([10, 11, 13, 14, 16, 18]).length) <|
 req ((p0.tmod 6).toNat < ([10, 11, 13, 14, 16, 18]).length) <|
 req ((6 : Int) ≠ 0) <|
 req (0 ≤ (Xaa .i64 (p0.tdiv 6))) <|
 some (Xaa .i64 ((([10, 11, 13, 14, 16, 18]).getD ((p0.tmod 6).toNat) 0) * 2 ^ min (Xaa .i64 (p0.tdiv 6)).toNat (IntKind.bits .i64))))
def Xi1 (p0 : Int) (p1 : Int) : Option Int :=
 bnd (Xaj p0 (-5000) 5000) fun q1 =>
 sel (!q1) (
 some 0) (
 bnd (Xju p1) fun q2 =>
 some (Xaa .i64 (p0 * q2)))
def Xl8 (p0 : Int) (p1 : Int) : Option Int :=
 bnd (
 bnd (Xaj p0 0 7) fun q2 =>
 sel q2 (
 bnd (Xaj p1 0 7) fun q3 =>
 some (!q3)) (
 some true)) fun v1 =>
 sel v1 (
 some 0) (
 req (0 ≤ (1 : Int)) <|
 req (0 ≤ (2 : Int)) <|
 req ((2 : Int) ≠ 0) <|
 sel (((Xaa .i64 ((Xaa .i64 ((IntKind.wrap .i64 (BitVec.ofInt (IntKind.bits .i64) (IntKind.wrap .i64 (BitVec.ofInt (IntKind.bits .i64) p0 &&& BitVec.ofInt (IntKind.bits .i64) p1).toNat) &&& BitVec.ofInt (IntKind.bits .i64) 1).toNat) + (IntKind.wrap .i64 (BitVec.ofInt (IntKind.bits .i64) ((IntKind.wrap .i64 (BitVec.ofInt (IntKind.bits .i64) p0 &&& BitVec.ofInt (IntKind.bits .i64) p1).toNat) / 2 ^ min (1 : Int).toNat (IntKind.bits .i64)) &&& BitVec.ofInt (IntKind.bits .i64) 1).toNat))) + (IntKind.wrap .i64 (BitVec.ofInt (IntKind.bits .i64) ((IntKind.wrap .i64 (BitVec.ofInt (IntKind.bits .i64) p0 &&& BitVec.ofInt (IntKind.bits .i64) p1).toNat) / 2 ^ min (2 : Int).toNat (IntKind.bits .i64)) &&& BitVec.ofInt (IntKind.bits .i64) 1).toNat))).tmod 2) == 0) (
 some 1) (
 some (-1)))
def Xk9 (p0 : (List Int)) (v31 : (Int × (List Int))) (v72 : (Int × (List Int))) (v85 : (Int × (List Int))) : Option (Lp (Int × (List Int)) (List Int)) :=
 sel (decide (v85.1 < 8)) (
 req (0 ≤ (Xaa .i64 ((Xaa .i64 (8 * v31.1)) + v72.1)) ∧ (Xaa .i64 ((Xaa .i64 (8 * v31.1)) + v72.1)) < v85.2.length) <|
 req ((Xaa .i64 ((Xaa .i64 (8 * v31.1)) + v72.1)).toNat < v85.2.length) <|
 bnd (Xl8 v72.1 v85.1) fun q89 =>
 req (0 ≤ (Xaa .i64 ((Xaa .i64 (8 * v31.1)) + v85.1)) ∧ (Xaa .i64 ((Xaa .i64 (8 * v31.1)) + v85.1)) < p0.length) <|
 req (0 ≤ (Xaa .i64 ((Xaa .i64 (8 * v31.1)) + v72.1)) ∧ (Xaa .i64 ((Xaa .i64 (8 * v31.1)) + v72.1)) < v85.2.length) <|
 req ((Xaa .i64 ((Xaa .i64 (8 * v31.1)) + v72.1)).toNat < v85.2.length) <|
 some (.go (Xaa .i64 (v85.1 + 1), (v85.2.set ((Xaa .i64 ((Xaa .i64 (8 * v31.1)) + v72.1)).toNat) (Xaa .i64 ((v85.2.getD ((Xaa .i64 ((Xaa .i64 (8 * v31.1)) + v72.1)).toNat) 0) + (Xaa .i64 (q89 * (p0.getD (Xaa .i64 ((Xaa .i64 (8 * v31.1)) + v85.1)).toNat 0))))))))) (
 some (.done v85.2))
def Xsb (p0 : (List Int)) (v31 : (Int × (List Int))) (v72 : (Int × (List Int))) : Option (Lp (Int × (List Int)) (List Int)) :=
 sel (decide (v72.1 < 8)) (
 bnd (loop (Xk9 p0 v31 v72) (0, v72.2)) fun v88 =>
 some (.go (Xaa .i64 (v72.1 + 1), v88))) (
 some (.done v72.2))
def Xsa (p0 : (List Int)) (v31 : (Int × (List Int))) : Option (Lp (Int × (List Int)) (List Int)) :=
 sel (decide (v31.1 < 8)) (
 bnd (loop (Xsb p0 v31) (0, v31.2)) fun v82 =>
 some (.go (Xaa .i64 (v31.1 + 1), v82))) (
 some (.done v31.2))
def Xi5 (v62 : (List Int)) (v123 : (Int × (List Int))) (v164 : (Int × (List Int))) (v177 : (Int × (List Int))) : Option (Lp (Int × (List Int)) (List Int)) :=
 sel (decide (v177.1 < 8)) (
 req (0 ≤ (Xaa .i64 ((Xaa .i64 (8 * v123.1)) + v164.1)) ∧ (Xaa .i64 ((Xaa .i64 (8 * v123.1)) + v164.1)) < v177.2.length) <|
 req ((Xaa .i64 ((Xaa .i64 (8 * v123.1)) + v164.1)).toNat < v177.2.length) <|
 bnd (Xl8 v123.1 v177.1) fun q181 =>
 req (0 ≤ (Xaa .i64 ((Xaa .i64 (8 * v177.1)) + v164.1)) ∧ (Xaa .i64 ((Xaa .i64 (8 * v177.1)) + v164.1)) < v62.length) <|
 req ((Xaa .i64 ((Xaa .i64 (8 * v177.1)) + v164.1)).toNat < v62.length) <|
 req (0 ≤ (Xaa .i64 ((Xaa .i64 (8 * v123.1)) + v164.1)) ∧ (Xaa .i64 ((Xaa .i64 (8 * v123.1)) + v164.1)) < v177.2.length) <|
 req ((Xaa .i64 ((Xaa .i64 (8 * v123.1)) + v164.1)).toNat < v177.2.length) <|
 some (.go (Xaa .i64 (v177.1 + 1), (v177.2.set ((Xaa .i64 ((Xaa .i64 (8 * v123.1)) + v164.1)).toNat) (Xaa .i64 ((v177.2.getD ((Xaa .i64 ((Xaa .i64 (8 * v123.1)) + v164.1)).toNat) 0) + (Xaa .i64 (q181 * (v62.getD ((Xaa .i64 ((Xaa .i64 (8 * v177.1)) + v164.1)).toNat) 0))))))))) (
 some (.done v177.2))
def Xqn (v62 : (List Int)) (v123 : (Int × (List Int))) (v164 : (Int × (List Int))) : Option (Lp (Int × (List Int)) (List Int)) :=
 sel (decide (v164.1 < 8)) (
 bnd (loop (Xi5 v62 v123 v164) (0, v164.2)) fun v180 =>
 some (.go (Xaa .i64 (v164.1 + 1), v180))) (
 some (.done v164.2))
def Xqm (v62 : (List Int)) (v123 : (Int × (List Int))) : Option (Lp (Int × (List Int)) (List Int)) :=
 sel (decide (v123.1 < 8)) (
 bnd (loop (Xqn v62 v123) (0, v123.2)) fun v174 =>
 some (.go (Xaa .i64 (v123.1 + 1), v174))) (
 some (.done v123.2))
def Xri (p0 : (List Int)) : Option (List Int) :=
 req (0 ≤ (64 : Int) ∧ (64 : Int) ≤ (64 : Int) ∧ (64 : Int) * 8 ≤ 281474976710656) <|
 bnd (loop (Xsa p0) (0, (List.replicate (64 : Int).toNat (0 : Int)))) fun v62 =>
 req (0 ≤ (64 : Int) ∧ (64 : Int) ≤ (64 : Int) ∧ (64 : Int) * 8 ≤ 281474976710656) <|
 bnd (loop (Xqm v62) (0, (List.replicate (64 : Int).toNat (0 : Int)))) fun v154 =>
 some v154
def Xoy (p0 : Int) (p1 : Int) : Option Int :=
 req (p1 ≠ 0) <|
 bnd (
 req (p1 ≠ 0) <|
 sel (decide ((p0.tmod p1) < 0)) (
 some (Xaa .i64 ((Xaa .i64 (p0.tdiv p1)) - 1))) (
 some (Xaa .i64 (p0.tdiv p1)))) fun v1 =>
 some v1
def Xpg (p0 : (List Int)) (v3 : (Int × (List Int))) : Option (Lp (Int × (List Int)) (List Int)) :=
 sel (decide (v3.1 < (p0.length : Int))) (
 req (0 ≤ v3.1 ∧ v3.1 < v3.2.length) <|
 req (v3.1.toNat < v3.2.length) <|
 bnd (Xoy (Xaa .i64 ((v3.2.getD v3.1.toNat 0) + 32)) 64) fun q7 =>
 req (0 ≤ v3.1 ∧ v3.1 < v3.2.length) <|
 req (v3.1.toNat < v3.2.length) <|
 some (.go (Xaa .i64 (v3.1 + 1), (v3.2.set v3.1.toNat q7)))) (
 some (.done v3.2))
def Xkd (p0 : (List Int)) : Option ((List Int) × (List Int)) :=
 bnd (loop (Xpg p0) (0, p0)) fun v6 =>
 some (v6, v6)
def Xi0 (p0 : (List Int)) : Option (List Int) :=
 bnd (Xbk p0 64 (-10000000) 10000000) fun q1 =>
 sel (!q1) (
 some ([] : List Int)) (
 bnd (Xri p0) fun q2 =>
 bnd (Xkd q2) fun q3 =>
 some q3.2)
def Xr6 (p0 : Int) : Option Int :=
 bnd (Xaj p0 0 15) fun q1 =>
 sel (!q1) (
 some (-1)) (
 req ((4 : Int) ≠ 0) <|
 req ((2 : Int) ≠ 0) <|
 req ((4 : Int) ≠ 0) <|
 req ((2 : Int) ≠ 0) <|
 bnd (
 sel (((Xaa .i64 (p0.tdiv 4)).tmod 2) == 0) (
 some (((p0.tmod 4).tmod 2) == 0)) (
 some false)) fun v2 =>
 sel v2 (
 some 0) (
 bnd (
 sel (((Xaa .i64 (p0.tdiv 4)).tmod 2) == 1) (
 some (((p0.tmod 4).tmod 2) == 1)) (
 some false)) fun v3 =>
 sel v3 (
 some 1) (
 some 2)))
def Xnk (p0 : Int) (p1 : Int) : Option Int :=
 bnd (
 bnd (Xaj p0 0 40) fun q2 =>
 sel q2 (
 bnd (Xaj p1 0 15) fun q3 =>
 some (!q3)) (
 some true)) fun v1 =>
 sel v1 (
 some 0) (
 req ((6 : Int) ≠ 0) <|
 bnd (Xr6 p1) fun q4 =>
 req (0 ≤ (p0.tmod 6) ∧ (p0.tmod 6) < 6) <|
 req (0 ≤ q4 ∧ q4 < 3) <|
 req (((0 + (p0.tmod 6).toNat * 3) + q4.toNat * 1) < ([10, 16, 13, 11, 18, 14, 13, 20, 16, 14, 23, 18, 16, 25, 20, 18, 29, 23] : List Int).length) <|
 req ((6 : Int) ≠ 0) <|
 req (0 ≤ (Xaa .i64 (p0.tdiv 6))) <|
 some (Xaa .i64 ((([10, 16, 13, 11, 18, 14, 13, 20, 16, 14, 23, 18, 16, 25, 20, 18, 29, 23] : List Int).getD ((0 + (p0.tmod 6).toNat * 3) + q4.toNat * 1) 0) * 2 ^ min (Xaa .i64 (p0.tdiv 6)).toNat (IntKind.bits .i64))))
def Xi3 (p0 : Int) (p1 : Int) (p2 : Int) : Option Int :=
 bnd (Xaj p0 (-5000) 5000) fun q1 =>
 sel (!q1) (
 some 0) (
 bnd (Xnk p1 p2) fun q2 =>
 some (Xaa .i64 (p0 * q2)))
def Xd4 (p0 : Int) (p1 : Int) (p2 : Int) (p3 : Int) : Option (Int × Int × Int × Int) :=
 bnd (Xoy p1 2) fun q1 =>
 bnd (Xoy p3 2) fun q2 =>
 some (Xaa .i64 ((Xaa .i64 (p0 + p2)) + (Xaa .i64 (p1 + q2))), Xaa .i64 ((Xaa .i64 (p0 - p2)) + (Xaa .i64 (q1 - p3))), Xaa .i64 ((Xaa .i64 (p0 - p2)) - (Xaa .i64 (q1 - p3))), Xaa .i64 ((Xaa .i64 (p0 + p2)) - (Xaa .i64 (p1 + q2))))
def Xfx (v4 : (Int × (List Int))) : Option (Lp (Int × (List Int)) (List Int)) :=
 sel (decide (v4.1 < 16)) (
 req (0 ≤ v4.1 ∧ v4.1 < v4.2.length) <|
 req (v4.1.toNat < v4.2.length) <|
 req (0 ≤ (Xaa .i64 (v4.1 + 1)) ∧ (Xaa .i64 (v4.1 + 1)) < v4.2.length) <|
 req ((Xaa .i64 (v4.1 + 1)).toNat < v4.2.length) <|
 req (0 ≤ (Xaa .i64 (v4.1 + 2)) ∧ (Xaa .i64 (v4.1 + 2)) < v4.2.length) <|
 req ((Xaa .i64 (v4.1 + 2)).toNat < v4.2.length) <|
 req (0 ≤ (Xaa .i64 (v4.1 + 3)) ∧ (Xaa .i64 (v4.1 + 3)) < v4.2.length) <|
 req ((Xaa .i64 (v4.1 + 3)).toNat < v4.2.length) <|
 bnd (Xd4 (v4.2.getD v4.1.toNat 0) (v4.2.getD ((Xaa .i64 (v4.1 + 1)).toNat) 0) (v4.2.getD ((Xaa .i64 (v4.1 + 2)).toNat) 0) (v4.2.getD ((Xaa .i64 (v4.1 + 3)).toNat) 0)) fun q8 =>
 req (0 ≤ v4.1 ∧ v4.1 ≤ (Xaa .i64 (v4.1 + 4)) ∧ (Xaa .i64 (v4.1 + 4)) ≤ (v4.2.length : Int)) <|
 req ((v4.1.toNat + ((Xaa .i64 (v4.1 + 4)).toNat - v4.1.toNat) ≤ v4.2.length ∧ ([q8.1, q8.2.1, q8.2.2.1, q8.2.2.2]).length ≤ ((Xaa .i64 (v4.1 + 4)).toNat - v4.1.toNat))) <|
 some (.go (Xaa .i64 (v4.1 + 4), (over v4.2 v4.1.toNat ([q8.1, q8.2.1, q8.2.2.1, q8.2.2.2]))))) (
 some (.done v4.2))
def Xfl (v17 : (Int × (List Int))) (q26 : (Int × Int × Int × Int)) (v28 : (Int × (List Int))) : Option (Lp (Int × (List Int)) (List Int)) :=
 sel (decide (v28.1 < 4)) (
 req (0 ≤ v28.1 ∧ v28.1 < ([q26.1, q26.2.1, q26.2.2.1, q26.2.2.2] : List Int).length) <|
 req (0 ≤ (Xaa .i64 (v17.1 + (Xaa .i64 (4 * v28.1)))) ∧ (Xaa .i64 (v17.1 + (Xaa .i64 (4 * v28.1)))) < v28.2.length) <|
 req ((Xaa .i64 (v17.1 + (Xaa .i64 (4 * v28.1)))).toNat < v28.2.length) <|
 some (.go (Xaa .i64 (v28.1 + 1), (v28.2.set ((Xaa .i64 (v17.1 + (Xaa .i64 (4 * v28.1)))).toNat) (([q26.1, q26.2.1, q26.2.2.1, q26.2.2.2] : List Int).getD v28.1.toNat 0))))) (
 some (.done v28.2))
def Xfk (v17 : (Int × (List Int))) : Option (Lp (Int × (List Int)) (List Int)) :=
 sel (decide (v17.1 < 4)) (
 req (0 ≤ v17.1 ∧ v17.1 < v17.2.length) <|
 req (v17.1.toNat < v17.2.length) <|
 req (0 ≤ (Xaa .i64 (v17.1 + 4)) ∧ (Xaa .i64 (v17.1 + 4)) < v17.2.length) <|
 req ((Xaa .i64 (v17.1 + 4)).toNat < v17.2.length) <|
 req (0 ≤ (Xaa .i64 (v17.1 + 8)) ∧ (Xaa .i64 (v17.1 + 8)) < v17.2.length) <|
 req ((Xaa .i64 (v17.1 + 8)).toNat < v17.2.length) <|
 req (0 ≤ (Xaa .i64 (v17.1 + 12)) ∧ (Xaa .i64 (v17.1 + 12)) < v17.2.length) <|
 req ((Xaa .i64 (v17.1 + 12)).toNat < v17.2.length) <|
 bnd (Xd4 (v17.2.getD v17.1.toNat 0) (v17.2.getD ((Xaa .i64 (v17.1 + 4)).toNat) 0) (v17.2.getD ((Xaa .i64 (v17.1 + 8)).toNat) 0) (v17.2.getD ((Xaa .i64 (v17.1 + 12)).toNat) 0)) fun q26 =>
 bnd (loop (Xfl v17 q26) (0, v17.2)) fun v30 =>
 some (.go (Xaa .i64 (v17.1 + 1), v30))) (
 some (.done v17.2))
def Xcj (p0 : (List Int)) : Option (List Int) :=
 bnd (Xdo p0) fun q1 =>
 bnd (loop (Xfx) (0, q1)) fun v7 =>
 bnd (loop (Xfk) (0, v7)) fun v25 =>
 some v25
def Xku (p0 : (List Int)) : Option (List Int) :=
 bnd (Xbk p0 16 (-10000000) 10000000) fun q1 =>
 sel (!q1) (
 some ([] : List Int)) (
 bnd (Xcj p0) fun q2 =>
 bnd (Xkd q2) fun q3 =>
 some q3.2)
def Xob (p0 : Int) (v7 : (Int × (List Int))) (v16 : (Int × (List Int))) : Option (Lp (Int × (List Int)) (List Int)) :=
 sel (decide (v16.1 < 4)) (
 req ((2 : Int) ≠ 0) <|
 req ((2 : Int) ≠ 0) <|
 req ((v16.2.length + ([Xaa .i64 ((Xaa .i64 ((Xaa .i64 ((Xaa .i64 (v7.1 + (Xaa .i64 ((Xaa .i64 (p0.tdiv 2)) * 4)))) * 8)) + v16.1)) + (Xaa .i64 ((p0.tmod 2) * 4)))]).length) * 8 ≤ 140737488355328 ∧ v16.2.length + ([Xaa .i64 ((Xaa .i64 ((Xaa .i64 ((Xaa .i64 (v7.1 + (Xaa .i64 ((Xaa .i64 (p0.tdiv 2)) * 4)))) * 8)) + v16.1)) + (Xaa .i64 ((p0.tmod 2) * 4)))]).length ≤ maxLen) <|
 some (.go (Xaa .i64 (v16.1 + 1), (v16.2 ++ ([Xaa .i64 ((Xaa .i64 ((Xaa .i64 ((Xaa .i64 (v7.1 + (Xaa .i64 ((Xaa .i64 (p0.tdiv 2)) * 4)))) * 8)) + v16.1)) + (Xaa .i64 ((p0.tmod 2) * 4)))]))))) (
 some (.done v16.2))
def Xjk (p0 : Int) (v7 : (Int × (List Int))) : Option (Lp (Int × (List Int)) (List Int)) :=
 sel (decide (v7.1 < 4)) (
 bnd (loop (Xob p0 v7) (0, v7.2)) fun v18 =>
 some (.go (Xaa .i64 (v7.1 + 1), v18))) (
 some (.done v7.2))
def Xka (p0 : Int) : Option (List Int) :=
 bnd (loop (Xjk p0) (0, ([] : List Int))) fun v14 =>
 some v14
def Xeq (p1 : Xe9) (q5 : ((List Int) × Bool)) (v8 : (Int × (List Int))) : Option (Lp (Int × (List Int)) (List Int)) :=
 sel (decide (v8.1 < (q5.1.length : Int))) (
 req (0 ≤ v8.1 ∧ v8.1 < v8.2.length) <|
 req (v8.1.toNat < v8.2.length) <|
 bnd (Xi1 (v8.2.getD v8.1.toNat 0) p1.Qp) fun q12 =>
 req (0 ≤ v8.1 ∧ v8.1 < v8.2.length) <|
 req (v8.1.toNat < v8.2.length) <|
 some (.go (Xaa .i64 (v8.1 + 1), (v8.2.set v8.1.toNat q12)))) (
 some (.done v8.2))
def Xd5 (p1 : Xe9) (q51 : ((List Int) × Bool)) (v54 : (Int × (List Int))) : Option (Lp (Int × (List Int)) (List Int)) :=
 sel (decide (v54.1 < (q51.1.length : Int))) (
 req (0 ≤ v54.1 ∧ v54.1 < v54.2.length) <|
 req (v54.1.toNat < v54.2.length) <|
 bnd (Xi3 (v54.2.getD v54.1.toNat 0) p1.Qp v54.1) fun q58 =>
 req (0 ≤ v54.1 ∧ v54.1 < v54.2.length) <|
 req (v54.1.toNat < v54.2.length) <|
 some (.go (Xaa .i64 (v54.1 + 1), (v54.2.set v54.1.toNat q58)))) (
 some (.done v54.2))
def Xf4 (q60 : (List Int)) (q61 : (List Int)) (v63 : (Int × (List Int))) : Option (Lp (Int × (List Int)) (List Int)) :=
 sel (decide (v63.1 < (q61.length : Int))) (
 req (0 ≤ v63.1 ∧ v63.1 < q61.length) <|
 req (v63.1.toNat < q61.length) <|
 req (0 ≤ v63.1 ∧ v63.1 < q60.length) <|
 req (v63.1.toNat < q60.length) <|
 req (0 ≤ (q61.getD v63.1.toNat 0) ∧ (q61.getD v63.1.toNat 0) < v63.2.length) <|
 req ((q61.getD v63.1.toNat 0).toNat < v63.2.length) <|
 some (.go (Xaa .i64 (v63.1 + 1), (v63.2.set ((q61.getD v63.1.toNat 0).toNat) (q60.getD v63.1.toNat 0))))) (
 some (.done v63.2))
def Xjs (p0 : (List Int)) (p1 : Xe9) (v32 : (Int × (List Int))) : Option (Lp (Int × (List Int)) (List Int)) :=
 sel (decide (v32.1 < 4)) (
 req (0 ≤ (Xaa .i64 (16 * v32.1)) ∧ (Xaa .i64 (16 * v32.1)) ≤ (Xaa .i64 ((Xaa .i64 (16 * v32.1)) + 16)) ∧ (Xaa .i64 ((Xaa .i64 (16 * v32.1)) + 16)) ≤ (p0.length : Int)) <|
 bnd (Xe1 4 ((p0.drop (Xaa .i64 (16 * v32.1)).toNat).take ((Xaa .i64 ((Xaa .i64 (16 * v32.1)) + 16)).toNat - (Xaa .i64 (16 * v32.1)).toNat))) fun q51 =>
 bnd (loop (Xd5 p1 q51) (0, q51.1)) fun v57 =>
 bnd (Xku v57) fun q60 =>
 bnd (Xka v32.1) fun q61 =>
 bnd (loop (Xf4 q60 q61) (0, v32.2)) fun v65 =>
 some (.go (Xaa .i64 (v32.1 + 1), v65))) (
 some (.done v32.2))
def Xhh (p0 : (List Int)) (p1 : Xe9) : Option ((List Int) × Bool) :=
 bnd (
 bnd (Xe2 p0) fun q2 =>
 sel q2 (
 bnd (Xd3 p1) fun q3 =>
 some (!q3)) (
 some true)) fun v1 =>
 sel v1 (
 some (([] : List Int), false)) (
 sel p1.Exact (
 bnd (Xe1 8 p0) fun q4 =>
 some (q4.1, q4.2)) (
 sel p1.Large (
 bnd (Xe1 8 p0) fun q5 =>
 bnd (loop (Xeq p1 q5) (0, q5.1)) fun v11 =>
 bnd (Xi0 v11) fun q14 =>
 some (q14, true)) (
 req (0 ≤ (64 : Int) ∧ (64 : Int) ≤ (64 : Int) ∧ (64 : Int) * 8 ≤ 281474976710656) <|
 bnd (loop (Xjs p0 p1) (0, (List.replicate (64 : Int).toNat (0 : Int)))) fun v50 =>
 some (v50, true))))
def Xmz (p0 : (List Int)) (p1 : (List Int)) (v6 : (Int × (List Int))) : Option (Lp (Int × (List Int)) (List Int)) :=
 sel (decide (v6.1 < (p0.length : Int))) (
 req (0 ≤ v6.1 ∧ v6.1 < p0.length) <|
 req (0 ≤ v6.1 ∧ v6.1 < p1.length) <|
 bnd (Xcp (Xaa .i64 ((p0.getD v6.1.toNat 0) + (p1.getD v6.1.toNat 0))) 0 255) fun q10 =>
 req ((v6.2.length + ([q10]).length) * 8 ≤ 140737488355328 ∧ v6.2.length + ([q10]).length ≤ maxLen) <|
 some (.go (Xaa .i64 (v6.1 + 1), (v6.2 ++ ([q10]))))) (
 some (.done v6.2))
def Xl4 (p0 : (List Int)) (p1 : (List Int)) : Option (List Int) :=
 bnd (
 bnd (Xbk p0 64 0 255) fun q2 =>
 sel q2 (
 bnd (Xbk p1 64 (-10000000) 10000000) fun q3 =>
 some (!q3)) (
 some true)) fun v1 =>
 sel v1 (
 some ([] : List Int)) (
 bnd (loop (Xmz p0 p1) (0, ([] : List Int))) fun v9 =>
 some v9)
def Xkt (p0 : Pic) (p1 : Int) (p2 : Int) (v9 : (Int × (List Int) × (List Int))) : Option (Lp (Int × (List Int) × (List Int)) ((List Int) × (List Int))) :=
 sel (decide (v9.1 < 8)) (
 bnd (
 bnd (
 sel (decide (p2 > 0)) (
 bnd (Xeu p0 (Xaa .i64 (p1 + v9.1)) (Xaa .i64 (p2 - 1))) fun q18 =>
 req ((v9.2.1.length + ([q18]).length) * 8 ≤ 140737488355328 ∧ v9.2.1.length + ([q18]).length ≤ maxLen) <|
 some (v9.2.1 ++ ([q18]))) (
 some v9.2.1)) fun v17 =>
 sel (decide (p1 > 0)) (
 bnd (Xeu p0 (Xaa .i64 (p1 - 1)) (Xaa .i64 (p2 + v9.1))) fun q19 =>
 req ((v9.2.2.length + ([q19]).length) * 8 ≤ 140737488355328 ∧ v9.2.2.length + ([q19]).length ≤ maxLen) <|
 some (v17, (v9.2.2 ++ ([q19])))) (
 some (v17, v9.2.2))) fun v16 =>
 some (.go (Xaa .i64 (v9.1 + 1), v16.1, v16.2))) (
 some (.done (v9.2.1, v9.2.2)))
def Xj2 (p0 : Pic) (p1 : Int) (p2 : Int) : Option (Xiw × Bool) :=
 bnd (
 bnd (Xcx p0) fun q2 =>
 sel q2 (
 bnd (Xb2 p0 p1 p2) fun q3 =>
 some (!q3)) (
 some true)) fun v1 =>
 sel v1 (
 some ((⟨[], [], 0⟩ : Xiw), false)) (
 bnd (loop (Xkt p0 p1 p2) (0, [], [])) fun v15 =>
 bnd (
 bnd (
 sel (decide (p1 > 0)) (
 some (decide (p2 > 0))) (
 some false)) fun v22 =>
 sel v22 (
 bnd (Xeu p0 (Xaa .i64 (p1 - 1)) (Xaa .i64 (p2 - 1))) fun q23 =>
 some q23) (
 some (-1))) fun v21 =>
 some ((⟨v15.1, v15.2, v21⟩ : Xiw), true))
def Xfe (p0 : Xiw) (v4 : Int) : Option (Lp Int (Ou Unit Bool)) :=
 sel (decide (v4 < (([p0.Above, p0.Left]).length : Int))) (
 req (0 ≤ v4 ∧ v4 < ([p0.Above, p0.Left]).length) <|
 req (v4.toNat < ([p0.Above, p0.Left]).length) <|
 bnd (
 sel (decide (((([p0.Above, p0.Left]).getD v4.toNat Xf3).length : Int) > 0)) (
 bnd (Xbk (([p0.Above, p0.Left]).getD v4.toNat Xf3) 8 0 255) fun q10 =>
 some (!q10)) (
 some false)) fun v9 =>
 sel v9 (
 some (.done (.ret false))) (
 some (.go (Xaa .i64 (v4 + 1))))) (
 some (.done (.out ())))
def Xj3 (p0 : Xiw) : Option Bool :=
 bnd (loop (Xfe p0) 0) fun o11 => match o11 with
| .out v8 => (
 bnd (Xaj p0.Corner (-1) 255) fun q12 =>
 some q12)
| .ret r => some r
def Xmg (p0 : (List Int)) : Option (List Int) :=
 sel ((p0.length : Int) == 0) (
 some ([128, 128, 128, 128, 128, 128, 128, 128])) (
 some p0)
def Xgg (p0 : Int) (v4 : Int) (q7 : (List Int)) (q8 : (List Int)) (v9 : Int) (v22 : (Int × (List Int))) (v39 : (Int × (List Int))) : Option (Lp (Int × (List Int)) (List Int)) :=
 sel (decide (v39.1 < 8)) (
 bnd (
 sel (p0 == 0) (
 req ((v39.2.length + ([v4]).length) * 8 ≤ 140737488355328 ∧ v39.2.length + ([v4]).length ≤ maxLen) <|
 some (v39.2 ++ ([v4]))) (
 sel (p0 == 1) (
 req (0 ≤ v39.1 ∧ v39.1 < q7.length) <|
 req ((v39.2.length + ([(q7.getD v39.1.toNat 0)]).length) * 8 ≤ 140737488355328 ∧ v39.2.length + ([(q7.getD v39.1.toNat 0)]).length ≤ maxLen) <|
 some (v39.2 ++ ([(q7.getD v39.1.toNat 0)]))) (
 sel (p0 == 2) (
 req (0 ≤ v22.1 ∧ v22.1 < q8.length) <|
 req ((v39.2.length + ([(q8.getD v22.1.toNat 0)]).length) * 8 ≤ 140737488355328 ∧ v39.2.length + ([(q8.getD v22.1.toNat 0)]).length ≤ maxLen) <|
 some (v39.2 ++ ([(q8.getD v22.1.toNat 0)]))) (
 req (0 ≤ v22.1 ∧ v22.1 < q8.length) <|
 req (0 ≤ v39.1 ∧ v39.1 < q7.length) <|
 bnd (Xcp (Xaa .i64 ((Xaa .i64 ((q8.getD v22.1.toNat 0) + (q7.getD v39.1.toNat 0))) - v9)) 0 255) fun q45 =>
 req ((v39.2.length + ([q45]).length) * 8 ≤ 140737488355328 ∧ v39.2.length + ([q45]).length ≤ maxLen) <|
 some (v39.2 ++ ([q45])))))) fun v44 =>
 some (.go (Xaa .i64 (v39.1 + 1), v44))) (
 some (.done v39.2))
def Xn3 (p0 : Int) (v4 : Int) (q7 : (List Int)) (q8 : (List Int)) (v9 : Int) (v22 : (Int × (List Int))) : Option (Lp (Int × (List Int)) (List Int)) :=
 sel (decide (v22.1 < 8)) (
 bnd (loop (Xgg p0 v4 q7 q8 v9 v22) (0, v22.2)) fun v43 =>
 some (.go (Xaa .i64 (v22.1 + 1), v43))) (
 some (.done v22.2))
def Xfw (p0 : Int) (p1 : Xiw) : Option (List Int) :=
 bnd (
 bnd (Xj3 p1) fun q2 =>
 sel q2 (
 bnd (Xaj p0 0 3) fun q3 =>
 some (!q3)) (
 some true)) fun v1 =>
 sel v1 (
 some ([] : List Int)) (
 bnd (
 sel (decide ((Xaa .i64 ((p1.Above.length : Int) + (p1.Left.length : Int))) > 0)) (
 bnd (Xce p1.Above) fun q5 =>
 bnd (Xce p1.Left) fun q6 =>
 req ((2 : Int) ≠ 0) <|
 req ((Xaa .i64 ((p1.Above.length : Int) + (p1.Left.length : Int))) ≠ 0) <|
 some (Xaa .i64 ((Xaa .i64 ((Xaa .i64 (q5 + q6)) + (Xaa .i64 ((Xaa .i64 ((p1.Above.length : Int) + (p1.Left.length : Int))).tdiv 2)))).tdiv (Xaa .i64 ((p1.Above.length : Int) + (p1.Left.length : Int)))))) (
 some 128)) fun v4 =>
 bnd (Xmg p1.Above) fun q7 =>
 bnd (Xmg p1.Left) fun q8 =>
 bnd (
 sel (decide (p1.Corner < 0)) (
 some 128) (
 some p1.Corner)) fun v9 =>
 bnd (loop (Xn3 p0 v4 q7 q8 v9) (0, ([] : List Int))) fun v35 =>
 some v35)
def Xd7 (p0 : Pic) (p1 : Pic) (p2 : Int) (p3 : Int) (p4 : Xe9) (p5 : Int) (p6 : Int) (p7 : Xam) : Option ((List Int) × Bool) :=
 bnd (
 bnd (Xcx p0) fun q2 =>
 sel q2 (
 bnd (Xb2 p0 p5 p6) fun q3 =>
 sel q3 (
 bnd (Xaj p2 0 256) fun q4 =>
 sel q4 (
 bnd (Xaj p3 0 256) fun q5 =>
 sel q5 (
 bnd (Xf8 p7) fun q6 =>
 sel q6 (
 bnd (Xd3 p4) fun q7 =>
 sel q7 (
 bnd (Xd8 p7 p4) fun q8 =>
 sel q8 (
 sel (p7.Kind != 2) (
 bnd (Xcx p1) fun q9 =>
 some (!q9)) (
 some false)) (
 some true)) (
 some true)) (
 some true)) (
 some true)) (
 some true)) (
 some true)) (
 some true)) fun v1 =>
 sel v1 (
 some (([] : List Int), false)) (
 sel (p7.Kind == 0) (
 bnd (Xbz p1 (Xaa .i64 (p2 + p5)) (Xaa .i64 (p3 + p6))) fun q10 =>
 some (q10, true)) (
 bnd (Xhh p7.Levels p4) fun q11 =>
 sel (p7.Kind == 1) (
 bnd (Xbz p1 (Xaa .i64 ((Xaa .i64 (p2 + p5)) + p7.Dx)) (Xaa .i64 ((Xaa .i64 (p3 + p6)) + p7.Dy))) fun q12 =>
 bnd (Xl4 q12 q11.1) fun q13 =>
 some (q13, true)) (
 bnd (Xj2 p0 p5 p6) fun q14 =>
 bnd (Xfw p7.Mode q14.1) fun q15 =>
 bnd (Xl4 q15 q11.1) fun q16 =>
 some (q16, true))))
def Xzi (p0 : Pic) : Option (List Int) :=
 req (p0.Dots.size ≤ maxLen) <|
 some (Xba p0.Dots)
def Xr9 (p0 : Pic) (p1 : Int) (p2 : Int) (p3 : (List Int)) (v3 : (Int × (List Int))) : Option (Lp (Int × (List Int)) (List Int)) :=
 sel (decide (v3.1 < (p3.length : Int))) (
 req (0 ≤ v3.1 ∧ v3.1 < p3.length) <|
 req ((8 : Int) ≠ 0) <|
 req ((8 : Int) ≠ 0) <|
 req (0 ≤ (Xaa .i64 ((Xaa .i64 ((Xaa .i64 ((Xaa .i64 (p2 + (Xaa .i64 (v3.1.tdiv 8)))) * p0.Wide)) + p1)) + (v3.1.tmod 8))) ∧ (Xaa .i64 ((Xaa .i64 ((Xaa .i64 ((Xaa .i64 (p2 + (Xaa .i64 (v3.1.tdiv 8)))) * p0.Wide)) + p1)) + (v3.1.tmod 8))) < v3.2.length) <|
 req ((Xaa .i64 ((Xaa .i64 ((Xaa .i64 ((Xaa .i64 (p2 + (Xaa .i64 (v3.1.tdiv 8)))) * p0.Wide)) + p1)) + (v3.1.tmod 8))).toNat < v3.2.length) <|
 some (.go (Xaa .i64 (v3.1 + 1), (v3.2.set ((Xaa .i64 ((Xaa .i64 ((Xaa .i64 ((Xaa .i64 (p2 + (Xaa .i64 (v3.1.tdiv 8)))) * p0.Wide)) + p1)) + (v3.1.tmod 8))).toNat) (Xaa .u8 ((p3.getD v3.1.toNat 0))))))) (
 some (.done v3.2))
def Xzn (p0 : Pic) (p1 : Int) (p2 : Int) (p3 : (List Int)) : Option Pic :=
 bnd (Xzi p0) fun q1 =>
 bnd (loop (Xr9 p0 p1 p2 p3) (0, q1)) fun v5 =>
 some (⟨p0.Wide, p0.High, (strOfNums v5)⟩ : Pic)
def Xox (p0 : Int) (p1 : Int) : Option Int :=
 req (0 ≤ p1) <|
 req ((Xaa .i64 (1 * 2 ^ min p1.toNat (IntKind.bits .i64))) ≠ 0) <|
 some ((Xaa .i64 (p0 + 1)).tmod (Xaa .i64 (1 * 2 ^ min p1.toNat (IntKind.bits .i64))))
def Xly (p0 : Xbj) : Option (Rate × Xbj) :=
 bnd (Xa1 p0 2000) fun q1 =>
 bnd (Xa1 q1.2 41) fun q2 =>
 bnd (Xa1 q2.2 (Xaa .i64 ((Xaa .i64 (16 * (Xaa .i64 (1 + q1.1)))) + 1))) fun q3 =>
 some ((⟨q2.1, Xaa .i64 (1 + q1.1), Xaa .i64 (q3.1 - (Xaa .i64 (8 * (Xaa .i64 (1 + q1.1)))))⟩ : Rate), q3.2)
def Xjo (p0 : (List Int)) (p1 : (List Int)) (v3 : Int) : Option (Lp Int (Ou Unit Int)) :=
 sel (decide (v3 ≤ 3)) (
 bnd (Xms (⟨v3, 3, p0, p1⟩ : Seq)) fun q7 =>
 sel q7 (
 some (.done (.ret v3))) (
 some (.go (Xaa .i64 (v3 + 1))))) (
 some (.done (.out ())))
def Xlj (p0 : (List Int)) (p1 : (List Int)) : Option Int :=
 bnd (loop (Xjo p0 p1) 1) fun o8 => match o8 with
| .out v6 => (
 some 0)
| .ret r => some r
def Xpo (p0 : Rate) : Option Bool :=
 bnd (
 bnd (Xan p0.Qp 0 40) fun q2 =>
 sel q2 (
 bnd (Xan p0.Target 1 100000) fun q3 =>
 sel q3 (
 bnd (Xan p0.Debt (Xaa .i64 ((-8) * p0.Target)) (Xaa .i64 (8 * p0.Target))) fun q4 =>
 some q4) (
 some false)) (
 some false)) fun v1 =>
 some v1
def Xmu (p0 : Seq) : Option (Int × Int) :=
 bnd (Xms p0) fun q1 =>
 sel (!q1) (
 some (0, 0)) (
 bnd (Xh3 p0.Cols) fun q2 =>
 bnd (Xh3 p0.Rows) fun q3 =>
 some (Xaa .i64 (8 * q2), Xaa .i64 (8 * q3)))
def Xfr (p0 : Pic) : Option Bool :=
 bnd (
 bnd (Xan p0.Wide 1 256) fun q2 =>
 sel q2 (
 bnd (Xan p0.High 1 256) fun q3 =>
 sel q3 (
 some ((p0.Dots.size : Int) == (Xaa .i64 (p0.Wide * p0.High)))) (
 some false)) (
 some false)) fun v1 =>
 some v1
def Xlk (p0 : Xa5) : Option Bool :=
 bnd (
 bnd (Xki p0.Seq) fun q2 =>
 sel (q2 != 1) (
 some true) (
 bnd (Xrr p0.Par) fun q3 =>
 sel q3 (
 bnd (Xpo p0.Rate) fun q4 =>
 sel q4 (
 sel (decide (p0.Frame < 0)) (
 some true) (
 req (0 ≤ (Xaa .u64 (p0.Seq.Bits))) <|
 some (decide (p0.Frame ≥ (Xaa .i64 (1 * 2 ^ min (Xaa .u64 (p0.Seq.Bits)).toNat (IntKind.bits .i64))))))) (
 some true)) (
 some true))) fun v1 =>
 sel v1 (
 some false) (
 bnd (
 bnd (Xan p0.Every 1 1000) fun q6 =>
 sel q6 (
 bnd (Xan p0.Since 0 1000) fun q7 =>
 sel q7 (
 bnd (Xan p0.Reach 0 4) fun q8 =>
 some (!q8)) (
 some true)) (
 some true)) fun v5 =>
 sel v5 (
 some false) (
 bnd (Xmu p0.Seq) fun q9 =>
 sel p0.Has (
 bnd (
 bnd (Xfr p0.Ref) fun q11 =>
 sel q11 (
 sel (p0.Ref.Wide == q9.1) (
 some (p0.Ref.High == q9.2)) (
 some false)) (
 some false)) fun v10 =>
 some v10) (
 bnd (
 sel (p0.Ref.Wide == 0) (
 sel (p0.Ref.High == 0) (
 some ((p0.Ref.Dots.size : Int) == 0)) (
 some false)) (
 some false)) fun v12 =>
 some v12)))
def Xjc (p0 : Int) (p1 : Int) (p2 : Int) (p3 : Par) (p4 : Rate) (p5 : Int) (p6 : Int) : Option (Xa5 × Bool) :=
 bnd (Xlj ([p0]) ([p1])) fun q1 =>
 bnd (Xlk (⟨(⟨q1, p2, [p0], [p1]⟩ : Seq), p3, p4, 0, 0, p5, p6, false, (⟨0, 0, ⟨#[]⟩⟩ : Pic)⟩ : Xa5)) fun q2 =>
 sel (!q2) (
 some ((⟨(⟨0, 0, [], []⟩ : Seq), (⟨0, false, false, false⟩ : Par), (⟨0, 0, 0⟩ : Rate), 0, 0, 0, 0, false, (⟨0, 0, ⟨#[]⟩⟩ : Pic)⟩ : Xa5), false)) (
 some ((⟨(⟨q1, p2, [p0], [p1]⟩ : Seq), p3, p4, 0, 0, p5, p6, false, (⟨0, 0, ⟨#[]⟩⟩ : Pic)⟩ : Xa5), true))
def Xls (p1 : Int) (v7 : (Int × Int × (List Int) × Int × Int × (List Int))) : Option (Lp (Int × Int × (List Int) × Int × Int × (List Int)) ((List Int) × (List Int) × Int × Int)) :=
 sel (decide (v7.2.1 < p1)) (
 bnd (
 bnd (Xa1 (⟨v7.2.2.1, v7.2.2.2.1, v7.2.2.2.2.1⟩ : Xbj) 6) fun q15 =>
 sel (q15.1 == 0) (
 bnd (Xb5 q15.2) fun q16 =>
 some (q16.1, q16.2.b_, q16.2.i_, q16.2.h_)) (
 sel (q15.1 == 1) (
 bnd (Xa1 q15.2 9) fun q17 =>
 some ((IntKind.wrap .i64 (BitVec.ofInt (IntKind.bits .i64) (Xaa .i64 ((Xaa .i64 (v7.1 + q17.1)) + 252)) &&& BitVec.ofInt (IntKind.bits .i64) 255).toNat), q17.2.b_, q17.2.i_, q17.2.h_)) (
 some (v7.1, q15.2.b_, q15.2.i_, q15.2.h_)))) fun v14 =>
 req ((v7.2.2.2.2.2.length + ([Xaa .u8 (v14.1)]).length) * 1 ≤ 140737488355328 ∧ v7.2.2.2.2.2.length + ([Xaa .u8 (v14.1)]).length ≤ maxLen) <|
 some (.go (v14.1, Xaa .i64 (v7.2.1 + 1), v14.2.1, v14.2.2.1, v14.2.2.2, (v7.2.2.2.2.2 ++ ([Xaa .u8 (v14.1)]))))) (
 some (.done (v7.2.2.2.2.2, v7.2.2.1, v7.2.2.2.1, v7.2.2.2.2.1)))
def Xnv (p0 : Xbj) (p1 : Int) : Option (ByteArray × Xbj) :=
 bnd (Xb5 p0) fun q1 =>
 bnd (loop (Xls p1) (q1.1, 0, q1.2.b_, q1.2.i_, q1.2.h_, ([] : List Int))) fun v13 =>
 some ((strOfNums v13.1), (⟨v13.2.1, v13.2.2.1, v13.2.2.2⟩ : Xbj))
def Xin (p0 : Xbj) (p1 : Int) (p2 : Int) : Option (Pic × Xbj) :=
 bnd (Xnv p0 (Xaa .i64 (p1 * p2))) fun q1 =>
 some ((⟨p1, p2, q1.1⟩ : Pic), q1.2)
def Xev (p0 : Int) (p1 : Int) (p2 : Int) : Option Int :=
 bnd (
 sel (decide (p2 < p1)) (
 some true) (
 some (decide (p0 < p1)))) fun v1 =>
 sel v1 (
 some p1) (
 sel (decide (p0 > p2)) (
 some p2) (
 some p0))
def Xep (p0 : Pic) (p1 : Int) (p2 : Int) : Option Int :=
 bnd (Xfr p0) fun q1 =>
 sel (!q1) (
 some (-1)) (
 bnd (Xev p2 0 (Xaa .i64 (p0.High - 1))) fun q2 =>
 bnd (Xev p1 0 (Xaa .i64 (p0.Wide - 1))) fun q3 =>
 req (0 ≤ (Xaa .i64 ((Xaa .i64 (q2 * p0.Wide)) + q3)) ∧ (Xaa .i64 ((Xaa .i64 (q2 * p0.Wide)) + q3)) < p0.Dots.size) <|
 some (Xaa .i64 ((Xx0 p0.Dots (Xaa .i64 ((Xaa .i64 (q2 * p0.Wide)) + q3))))))
def Xlv (p1 : Pic) (v3 : (Int × Int × (List Int) × Int × Int)) (v7 : (Int × (List Int))) : Option (Lp (Int × (List Int)) (List Int)) :=
 sel (decide (v7.1 < (p1.Dots.size : Int))) (
 req (p1.Wide ≠ 0) <|
 req (p1.Wide ≠ 0) <|
 bnd (Xep p1 (Xaa .i64 ((v7.1.tmod p1.Wide) + v3.1)) (Xaa .i64 ((Xaa .i64 (v7.1.tdiv p1.Wide)) + v3.2.1))) fun q11 =>
 req ((v7.2.length + ([Xaa .u8 (q11)]).length) * 1 ≤ 140737488355328 ∧ v7.2.length + ([Xaa .u8 (q11)]).length ≤ maxLen) <|
 some (.go (Xaa .i64 (v7.1 + 1), (v7.2 ++ ([Xaa .u8 (q11)]))))) (
 some (.done v7.2))
def Xlw (v17 : (Int × (List Int) × Int × Int × (List Int))) : Option (Lp (Int × (List Int) × Int × Int × (List Int)) ((List Int) × (List Int) × Int × Int)) :=
 bnd (Xa1 (⟨v17.2.1, v17.2.2.1, v17.2.2.2.1⟩ : Xbj) 6) fun q23 =>
 sel (decide (v17.1 < q23.1)) (
 bnd (Xa1 q23.2 (v17.2.2.2.2.length : Int)) fun q24 =>
 bnd (Xb5 q24.2) fun q25 =>
 req (0 ≤ q24.1 ∧ q24.1 < v17.2.2.2.2.length) <|
 req (q24.1.toNat < v17.2.2.2.2.length) <|
 some (.go (Xaa .i64 (v17.1 + 1), q25.2.b_, q25.2.i_, q25.2.h_, (v17.2.2.2.2.set q24.1.toNat (Xaa .u8 (q25.1)))))) (
 some (.done (v17.2.2.2.2, q23.2.b_, q23.2.i_, q23.2.h_)))
def Xnx (p0 : Xbj) (p1 : Pic) : Option (Pic × Xbj) :=
 bnd (Xa1 p0 7) fun q1 =>
 bnd (Xa1 q1.2 5) fun q2 =>
 bnd (
 bnd (Xfy q2.2 3) fun q4 =>
 sel q4.1 (
 some (0, 0, q4.2.b_, q4.2.i_, q4.2.h_)) (
 some (Xaa .i64 (q1.1 - 3), Xaa .i64 (q2.1 - 2), q4.2.b_, q4.2.i_, q4.2.h_))) fun v3 =>
 bnd (loop (Xlv p1 v3) (0, ([] : List Int))) fun v10 =>
 bnd (loop (Xlw) (0, v3.2.2.1, v3.2.2.2.1, v3.2.2.2.2, v10)) fun v22 =>
 some ((⟨p1.Wide, p1.High, (strOfNums v22.1)⟩ : Pic), (⟨v22.2.1, v22.2.2.1, v22.2.2.2⟩ : Xbj))
def Xij (q9 : (Int × Int)) (v18 : (Int × (List Int) × Int × Int × Int × Int × ByteArray × (List Pic) × (List Bool))) : Option (Lp (Int × (List Int) × Int × Int × Int × Int × ByteArray × (List Pic) × (List Bool)) ((List Pic) × (List Bool))) :=
 bnd (Xa1 (⟨v18.2.1, v18.2.2.1, v18.2.2.2.1⟩ : Xbj) 4) fun q27 =>
 sel (decide (v18.1 < (Xaa .i64 (2 + q27.1)))) (
 bnd (
 req ((v18.2.2.2.2.2.2.2.1.length + ([(⟨v18.2.2.2.2.1, v18.2.2.2.2.2.1, v18.2.2.2.2.2.2.1⟩ : Pic)]).length) * 32 ≤ 140737488355328 ∧ v18.2.2.2.2.2.2.2.1.length + ([(⟨v18.2.2.2.2.1, v18.2.2.2.2.2.1, v18.2.2.2.2.2.2.1⟩ : Pic)]).length ≤ maxLen) <|
 bnd (Xfy q27.2 4) fun q29 =>
 req ((v18.2.2.2.2.2.2.2.2.length + ([q29.1]).length) * 1 ≤ 140737488355328 ∧ v18.2.2.2.2.2.2.2.2.length + ([q29.1]).length ≤ maxLen) <|
 bnd (Xnx q29.2 (⟨v18.2.2.2.2.1, v18.2.2.2.2.2.1, v18.2.2.2.2.2.2.1⟩ : Pic)) fun q30 =>
 bnd (Xfy q30.2 4) fun q31 =>
 sel q31.1 (
 bnd (Xin q31.2 q9.1 q9.2) fun q32 =>
 some (q32.2.b_, q32.2.i_, q32.2.h_, q32.1.Wide, q32.1.High, q32.1.Dots, (v18.2.2.2.2.2.2.2.2 ++ ([q29.1])))) (
 some (q31.2.b_, q31.2.i_, q31.2.h_, q30.1.Wide, q30.1.High, q30.1.Dots, (v18.2.2.2.2.2.2.2.2 ++ ([q29.1]))))) fun v28 =>
 some (.go (Xaa .i64 (v18.1 + 1), v28.1, v28.2.1, v28.2.2.1, v28.2.2.2.1, v28.2.2.2.2.1, v28.2.2.2.2.2.1, (v18.2.2.2.2.2.2.2.1 ++ ([(⟨v18.2.2.2.2.1, v18.2.2.2.2.2.1, v18.2.2.2.2.2.2.1⟩ : Pic)])), v28.2.2.2.2.2.2))) (
 some (.done (v18.2.2.2.2.2.2.2.1, v18.2.2.2.2.2.2.2.2)))
def Xi8 (p0 : (List Int)) : Option (Xa5 × (List Pic) × (List Bool)) :=
 bnd (Xmw p0) fun q1 =>
 bnd (Xa1 q1 2) fun q2 =>
 bnd (Xa1 q2.2 2) fun q3 =>
 bnd (Xgo q3.2) fun q4 =>
 bnd (Xly q4.2) fun q5 =>
 bnd (Xa1 q5.2 5) fun q6 =>
 bnd (Xa1 q6.2 3) fun q7 =>
 bnd (Xjc (Xaa .i64 (1 + q2.1)) (Xaa .i64 (1 + q3.1)) 3 q4.1 q5.1 (Xaa .i64 (1 + q6.1)) q7.1) fun q8 =>
 bnd (Xmu q8.1.Seq) fun q9 =>
 bnd (Xin q7.2 q9.1 q9.2) fun q10 =>
 bnd (loop (Xij q9) (0, q10.2.b_, q10.2.i_, q10.2.h_, q10.1.Wide, q10.1.High, q10.1.Dots, ([] : List Pic), ([] : List Bool))) fun v26 =>
 some (q8.1, v26.1, v26.2)
def Xjt (p0 : Rate) : Option Bool :=
 bnd (
 bnd (Xaj p0.Qp 0 40) fun q2 =>
 sel q2 (
 bnd (Xaj p0.Target 1 100000) fun q3 =>
 sel q3 (
 bnd (Xaj p0.Debt (Xaa .i64 ((-8) * p0.Target)) (Xaa .i64 (8 * p0.Target))) fun q4 =>
 some q4) (
 some false)) (
 some false)) fun v1 =>
 some v1
def Xf7 (p0 : Xa5) : Option Bool :=
 bnd (
 bnd (Xdw p0.Seq) fun q2 =>
 sel (q2 != 1) (
 some true) (
 bnd (Xem p0.Par) fun q3 =>
 sel q3 (
 bnd (Xjt p0.Rate) fun q4 =>
 sel q4 (
 req (0 ≤ p0.Seq.Bits) <|
 bnd (Xaj p0.Frame 0 (Xaa .i64 ((Xaa .i64 (1 * 2 ^ min p0.Seq.Bits.toNat (IntKind.bits .i64))) - 1))) fun q5 =>
 sel q5 (
 bnd (Xaj p0.Every 1 1000) fun q6 =>
 sel q6 (
 bnd (Xaj p0.Since 0 1000) fun q7 =>
 sel q7 (
 bnd (Xaj p0.Reach 0 4) fun q8 =>
 some (!q8)) (
 some true)) (
 some true)) (
 some true)) (
 some true)) (
 some true))) fun v1 =>
 sel v1 (
 some false) (
 sel p0.Has (
 bnd (Xq9 p0.Ref p0.Seq) fun q9 =>
 some q9) (
 some (((p0.Ref.Wide == 0) && ((p0.Ref.High == 0) && (p0.Ref.Dots.toList == (⟨#[]⟩ : ByteArray).toList))) == true)))
def Xo6 (p0 : Xa5) (p1 : Bool) : Option Bool :=
 bnd (
 bnd (Xf7 p0) fun q2 =>
 sel q2 (
 sel p1 (
 some true) (
 sel p0.Has (
 some (decide (p0.Since ≥ p0.Every))) (
 some true))) (
 some false)) fun v1 =>
 some v1
def Xd9 (p0 : Xa5) : Option Xa5 :=
 bnd (Xhp p0.Seq) fun q1 =>
 some (⟨q1, p0.Par, p0.Rate, p0.Frame, p0.Since, p0.Every, p0.Reach, p0.Has, p0.Ref⟩ : Xa5)
def Xq2 (p0 : Rate) (p1 : Bool) : Option Int :=
 bnd (Xjt p0) fun q1 =>
 sel (!q1) (
 some 0) (
 sel p1 (
 some (if (Xaa .i64 (p0.Qp - 2)) > (0 : Int) then (Xaa .i64 (p0.Qp - 2)) else (0 : Int))) (
 some p0.Qp))
def Xnn (p0 : Int) : Option Int :=
 some (if (Xaa .i64 (0 - p0)) > p0 then (Xaa .i64 (0 - p0)) else p0)
def Xpd (p0 : (List Int)) (p1 : (List Int)) (v3 : (Int × Int)) : Option (Lp (Int × Int) Int) :=
 sel (decide (v3.2 < (p0.length : Int))) (
 req (0 ≤ v3.2 ∧ v3.2 < p0.length) <|
 req (0 ≤ v3.2 ∧ v3.2 < p1.length) <|
 bnd (Xnn (Xaa .i64 ((p0.getD v3.2.toNat 0) - (p1.getD v3.2.toNat 0)))) fun q7 =>
 some (.go (Xaa .i64 (v3.1 + q7), Xaa .i64 (v3.2 + 1)))) (
 some (.done v3.1))
def Xp5 (p0 : (List Int)) (p1 : (List Int)) : Option Int :=
 bnd (loop (Xpd p0 p1) (0, 0)) fun v6 =>
 some v6
def Xcy (v2 : (Int × Int)) : Option (Lp (Int × Int) Int) :=
 sel (decide (v2.1 > 0)) (
 req (0 ≤ (1 : Int)) <|
 some (.go ((v2.1 / 2 ^ min (1 : Int).toNat (IntKind.bits .i64)), Xaa .i64 (v2.2 + 1)))) (
 some (.done v2.2))
def Xm1 (p0 : Int) : Option Int :=
 bnd (loop (Xcy) (p0, 0)) fun v4 =>
 some v4
def Xk8 (v2 : (Int × Int × (List Int))) : Option (Lp (Int × Int × (List Int)) (List Int)) :=
 sel (decide (v2.2.1 ≥ 0)) (
 req (0 ≤ v2.2.1 ∧ v2.2.1 < v2.2.2.length) <|
 req (v2.2.1.toNat < v2.2.2.length) <|
 req (0 ≤ (1 : Int)) <|
 some (.go ((v2.1 / 2 ^ min (1 : Int).toNat (IntKind.bits .i64)), Xaa .i64 (v2.2.1 - 1), (v2.2.2.set v2.2.1.toNat (Xaa .u8 (Xaa .i64 (48 + (IntKind.wrap .i64 (BitVec.ofInt (IntKind.bits .i64) v2.1 &&& BitVec.ofInt (IntKind.bits .i64) 1).toNat)))))))) (
 some (.done v2.2.2))
def Xke (p0 : Int) (p1 : Int) : Option ByteArray :=
 req (0 ≤ p1 ∧ p1 ≤ p1 ∧ p1 * 1 ≤ 281474976710656) <|
 bnd (loop (Xk8) (p0, Xaa .i64 (p1 - 1), (List.replicate p1.toNat (0 : Int)))) fun v4 =>
 some (strOfNums v4)
def Xir (p0 : Int) : Option ByteArray :=
 bnd (Xm1 (Xaa .i64 (p0 + 1))) fun q1 =>
 bnd (Xke (Xaa .i64 (p0 + 1)) (Xaa .i64 ((Xaa .i64 (2 * q1)) - 1))) fun q2 =>
 some q2
def Xow (p0 : Int) : Option (ByteArray × Bool) :=
 bnd (Xaj p0 0 1000000) fun q1 =>
 sel (!q1) (
 some (⟨#[]⟩, false)) (
 bnd (Xir p0) fun q2 =>
 some (q2, true))
def Xl9 (p0 : Int) : Option Int :=
 bnd (Xow p0) fun q1 =>
 some (q1.1.size : Int)
def Xh8 (p0 : (List Int)) (p1 : Xiw) (v16 : (Int × Int × Int)) : Option (Lp (Int × Int × Int) (Int × Int)) :=
 sel (decide (v16.2.2 ≤ 3)) (
 bnd (
 bnd (Xfw v16.2.2 p1) fun q25 =>
 bnd (Xp5 p0 q25) fun q26 =>
 bnd (Xl9 v16.2.2) fun q27 =>
 bnd (
 sel (decide (v16.2.1 < 0)) (
 some true) (
 some (decide ((Xaa .i64 (q26 + q27)) < v16.2.1)))) fun v28 =>
 sel v28 (
 some (v16.2.2, Xaa .i64 (q26 + q27))) (
 some (v16.1, v16.2.1))) fun v24 =>
 some (.go (v24.1, v24.2, Xaa .i64 (v16.2.2 + 1)))) (
 some (.done (v16.1, v16.2.1)))
def Xiz (p0 : (List Int)) (p1 : Xiw) : Option (Int × Int) :=
 bnd (
 bnd (Xj3 p1) fun q2 =>
 sel q2 (
 bnd (Xbk p0 64 0 255) fun q3 =>
 some (!q3)) (
 some true)) fun v1 =>
 sel v1 (
 some (0, (-1))) (
 bnd (loop (Xh8 p0 p1) (0, (-1), 0)) fun v23 =>
 some (v23.1, v23.2))
def Xjj (p0 : (List Int)) (p1 : (List Int)) (v2 : (Int × (List Int))) : Option (Lp (Int × (List Int)) (List Int)) :=
 sel (decide (v2.1 < (p0.length : Int))) (
 req (0 ≤ v2.1 ∧ v2.1 < p0.length) <|
 req (0 ≤ v2.1 ∧ v2.1 < p1.length) <|
 req ((v2.2.length + ([Xaa .i64 ((p0.getD v2.1.toNat 0) - (p1.getD v2.1.toNat 0))]).length) * 8 ≤ 140737488355328 ∧ v2.2.length + ([Xaa .i64 ((p0.getD v2.1.toNat 0) - (p1.getD v2.1.toNat 0))]).length ≤ maxLen) <|
 some (.go (Xaa .i64 (v2.1 + 1), (v2.2 ++ ([Xaa .i64 ((p0.getD v2.1.toNat 0) - (p1.getD v2.1.toNat 0))]))))) (
 some (.done v2.2))
def Xga (p0 : (List Int)) (p1 : (List Int)) : Option (List Int) :=
 bnd (loop (Xjj p0 p1) (0, ([] : List Int))) fun v4 =>
 some v4
def Xkz (p1 : (List Int)) (q2 : (List Int)) (v4 : (Int × (List Int))) : Option (Lp (Int × (List Int)) (List Int)) :=
 sel (decide (v4.1 < (q2.length : Int))) (
 req (0 ≤ v4.1 ∧ v4.1 < q2.length) <|
 req (v4.1.toNat < q2.length) <|
 req (0 ≤ (q2.getD v4.1.toNat 0) ∧ (q2.getD v4.1.toNat 0) < p1.length) <|
 req ((v4.2.length + ([(p1.getD (q2.getD v4.1.toNat 0).toNat 0)]).length) * 8 ≤ 140737488355328 ∧ v4.2.length + ([(p1.getD (q2.getD v4.1.toNat 0).toNat 0)]).length ≤ maxLen) <|
 some (.go (Xaa .i64 (v4.1 + 1), (v4.2 ++ ([(p1.getD (q2.getD v4.1.toNat 0).toNat 0)]))))) (
 some (.done v4.2))
def Xhi (p0 : Int) (p1 : (List Int)) : Option ((List Int) × Bool) :=
 bnd (
 sel (p0 != 4) (
 sel (p0 != 8) (
 some true) (
 some ((p1.length : Int) != (Xaa .i64 (p0 * p0))))) (
 some ((p1.length : Int) != (Xaa .i64 (p0 * p0))))) fun v1 =>
 sel v1 (
 some (([] : List Int), false)) (
 bnd (Xgv p0) fun q2 =>
 bnd (loop (Xkz p1 q2) (0, ([] : List Int))) fun v6 =>
 some (v6, true))
def Xq1 (p0 : (List Int)) : Option (List Int) :=
 bnd (Xbk p0 64 (-1000) 1000) fun q1 =>
 sel (!q1) (
 some ([] : List Int)) (
 bnd (Xri p0) fun q2 =>
 some q2)
def Xph (p0 : Int) (p1 : Int) : Option Int :=
 sel (decide (p1 < 0)) (
 some (Xaa .i64 (0 - p0))) (
 some p0)
def Xhg (p0 : Int) (p1 : Int) : Option Int :=
 bnd (
 bnd (Xaj p0 (-20000) 20000) fun q2 =>
 sel q2 (
 bnd (Xaj p1 0 40) fun q3 =>
 some (!q3)) (
 some true)) fun v1 =>
 sel v1 (
 some 0) (
 bnd (Xju p1) fun q4 =>
 bnd (Xnn p0) fun q5 =>
 req ((2 : Int) ≠ 0) <|
 req (q4 ≠ 0) <|
 bnd (Xph (Xaa .i64 ((Xaa .i64 (q5 + (Xaa .i64 (q4.tdiv 2)))).tdiv q4)) p0) fun q6 =>
 some q6)
def Xl2 (p0 : Int) (p1 : Int) (p2 : Int) (p3 : Int) : Option (Int × Int × Int × Int) :=
 some (Xaa .i64 ((Xaa .i64 ((Xaa .i64 (p0 + p1)) + p2)) + p3), Xaa .i64 ((Xaa .i64 ((Xaa .i64 ((Xaa .i64 (2 * p0)) + p1)) - p2)) - (Xaa .i64 (2 * p3))), Xaa .i64 ((Xaa .i64 ((Xaa .i64 (p0 - p1)) - p2)) + p3), Xaa .i64 ((Xaa .i64 ((Xaa .i64 (p0 - (Xaa .i64 (2 * p1)))) + (Xaa .i64 (2 * p2)))) - p3))
def Xip (v4 : (Int × (List Int))) : Option (Lp (Int × (List Int)) (List Int)) :=
 sel (decide (v4.1 < 16)) (
 req (0 ≤ v4.1 ∧ v4.1 < v4.2.length) <|
 req (v4.1.toNat < v4.2.length) <|
 req (0 ≤ (Xaa .i64 (v4.1 + 1)) ∧ (Xaa .i64 (v4.1 + 1)) < v4.2.length) <|
 req ((Xaa .i64 (v4.1 + 1)).toNat < v4.2.length) <|
 req (0 ≤ (Xaa .i64 (v4.1 + 2)) ∧ (Xaa .i64 (v4.1 + 2)) < v4.2.length) <|
 req ((Xaa .i64 (v4.1 + 2)).toNat < v4.2.length) <|
 req (0 ≤ (Xaa .i64 (v4.1 + 3)) ∧ (Xaa .i64 (v4.1 + 3)) < v4.2.length) <|
 req ((Xaa .i64 (v4.1 + 3)).toNat < v4.2.length) <|
 bnd (Xl2 (v4.2.getD v4.1.toNat 0) (v4.2.getD ((Xaa .i64 (v4.1 + 1)).toNat) 0) (v4.2.getD ((Xaa .i64 (v4.1 + 2)).toNat) 0) (v4.2.getD ((Xaa .i64 (v4.1 + 3)).toNat) 0)) fun q8 =>
 req (0 ≤ v4.1 ∧ v4.1 ≤ (Xaa .i64 (v4.1 + 4)) ∧ (Xaa .i64 (v4.1 + 4)) ≤ (v4.2.length : Int)) <|
 req ((v4.1.toNat + ((Xaa .i64 (v4.1 + 4)).toNat - v4.1.toNat) ≤ v4.2.length ∧ ([q8.1, q8.2.1, q8.2.2.1, q8.2.2.2]).length ≤ ((Xaa .i64 (v4.1 + 4)).toNat - v4.1.toNat))) <|
 some (.go (Xaa .i64 (v4.1 + 4), (over v4.2 v4.1.toNat ([q8.1, q8.2.1, q8.2.2.1, q8.2.2.2]))))) (
 some (.done v4.2))
def Xht (v17 : (Int × (List Int))) (q26 : (Int × Int × Int × Int)) (v28 : (Int × (List Int))) : Option (Lp (Int × (List Int)) (List Int)) :=
 sel (decide (v28.1 < 4)) (
 req (0 ≤ v28.1 ∧ v28.1 < ([q26.1, q26.2.1, q26.2.2.1, q26.2.2.2] : List Int).length) <|
 req (0 ≤ (Xaa .i64 (v17.1 + (Xaa .i64 (4 * v28.1)))) ∧ (Xaa .i64 (v17.1 + (Xaa .i64 (4 * v28.1)))) < v28.2.length) <|
 req ((Xaa .i64 (v17.1 + (Xaa .i64 (4 * v28.1)))).toNat < v28.2.length) <|
 some (.go (Xaa .i64 (v28.1 + 1), (v28.2.set ((Xaa .i64 (v17.1 + (Xaa .i64 (4 * v28.1)))).toNat) (([q26.1, q26.2.1, q26.2.2.1, q26.2.2.2] : List Int).getD v28.1.toNat 0))))) (
 some (.done v28.2))
def Xhs (v17 : (Int × (List Int))) : Option (Lp (Int × (List Int)) (List Int)) :=
 sel (decide (v17.1 < 4)) (
 req (0 ≤ v17.1 ∧ v17.1 < v17.2.length) <|
 req (v17.1.toNat < v17.2.length) <|
 req (0 ≤ (Xaa .i64 (v17.1 + 4)) ∧ (Xaa .i64 (v17.1 + 4)) < v17.2.length) <|
 req ((Xaa .i64 (v17.1 + 4)).toNat < v17.2.length) <|
 req (0 ≤ (Xaa .i64 (v17.1 + 8)) ∧ (Xaa .i64 (v17.1 + 8)) < v17.2.length) <|
 req ((Xaa .i64 (v17.1 + 8)).toNat < v17.2.length) <|
 req (0 ≤ (Xaa .i64 (v17.1 + 12)) ∧ (Xaa .i64 (v17.1 + 12)) < v17.2.length) <|
 req ((Xaa .i64 (v17.1 + 12)).toNat < v17.2.length) <|
 bnd (Xl2 (v17.2.getD v17.1.toNat 0) (v17.2.getD ((Xaa .i64 (v17.1 + 4)).toNat) 0) (v17.2.getD ((Xaa .i64 (v17.1 + 8)).toNat) 0) (v17.2.getD ((Xaa .i64 (v17.1 + 12)).toNat) 0)) fun q26 =>
 bnd (loop (Xht v17 q26) (0, v17.2)) fun v30 =>
 some (.go (Xaa .i64 (v17.1 + 1), v30))) (
 some (.done v17.2))
def Xdq (p0 : (List Int)) : Option (List Int) :=
 bnd (Xdo p0) fun q1 =>
 bnd (loop (Xip) (0, q1)) fun v7 =>
 bnd (loop (Xhs) (0, v7)) fun v25 =>
 some v25
def Xts (p0 : (List Int)) : Option (List Int) :=
 bnd (Xbk p0 16 (-1000) 1000) fun q1 =>
 sel (!q1) (
 some ([] : List Int)) (
 bnd (Xdq p0) fun q2 =>
 some q2)
def Xnl (p0 : Int) (p1 : Int) : Option Int :=
 bnd (
 bnd (Xaj p0 0 40) fun q2 =>
 sel q2 (
 bnd (Xaj p1 0 15) fun q3 =>
 some (!q3)) (
 some true)) fun v1 =>
 sel v1 (
 some 0) (
 req ((6 : Int) ≠ 0) <|
 bnd (Xr6 p1) fun q4 =>
 req (0 ≤ (p0.tmod 6) ∧ (p0.tmod 6) < 6) <|
 req (0 ≤ q4 ∧ q4 < 3) <|
 req (((0 + (p0.tmod 6).toNat * 3) + q4.toNat * 1) < ([13107, 5243, 8066, 11916, 4660, 7490, 10082, 4194, 6554, 9362, 3647, 5825, 8192, 3355, 5243, 7282, 2893, 4559] : List Int).length) <|
 some (([13107, 5243, 8066, 11916, 4660, 7490, 10082, 4194, 6554, 9362, 3647, 5825, 8192, 3355, 5243, 7282, 2893, 4559] : List Int).getD ((0 + (p0.tmod 6).toNat * 3) + q4.toNat * 1) 0))
def Xhk (p0 : Int) (p1 : Int) (p2 : Int) : Option Int :=
 bnd (
 bnd (Xaj p0 (-20000) 20000) fun q2 =>
 sel q2 (
 bnd (Xaj p1 0 40) fun q3 =>
 sel q3 (
 bnd (Xaj p2 0 15) fun q4 =>
 some (!q4)) (
 some true)) (
 some true)) fun v1 =>
 sel v1 (
 some 0) (
 req ((6 : Int) ≠ 0) <|
 req (0 ≤ (Xaa .i64 (15 + (Xaa .i64 (p1.tdiv 6))))) <|
 bnd (Xnn p0) fun q5 =>
 bnd (Xnl p1 p2) fun q6 =>
 req ((3 : Int) ≠ 0) <|
 req ((Xaa .i64 (1 * 2 ^ min (Xaa .i64 (15 + (Xaa .i64 (p1.tdiv 6)))).toNat (IntKind.bits .i64))) ≠ 0) <|
 bnd (Xph (Xaa .i64 ((Xaa .i64 ((Xaa .i64 (q5 * q6)) + (Xaa .i64 ((Xaa .i64 (1 * 2 ^ min (Xaa .i64 (15 + (Xaa .i64 (p1.tdiv 6)))).toNat (IntKind.bits .i64))).tdiv 3)))).tdiv (Xaa .i64 (1 * 2 ^ min (Xaa .i64 (15 + (Xaa .i64 (p1.tdiv 6)))).toNat (IntKind.bits .i64))))) p0) fun q7 =>
 some q7)
def Xjh (p1 : Xe9) (q5 : (List Int)) (v8 : (Int × (List Int))) : Option (Lp (Int × (List Int)) (List Int)) :=
 sel (decide (v8.1 < (q5.length : Int))) (
 req (0 ≤ v8.1 ∧ v8.1 < v8.2.length) <|
 req (v8.1.toNat < v8.2.length) <|
 bnd (Xhg (v8.2.getD v8.1.toNat 0) p1.Qp) fun q12 =>
 req (0 ≤ v8.1 ∧ v8.1 < v8.2.length) <|
 req (v8.1.toNat < v8.2.length) <|
 some (.go (Xaa .i64 (v8.1 + 1), (v8.2.set v8.1.toNat q12)))) (
 some (.done v8.2))
def Xfg (p0 : (List Int)) (q51 : (List Int)) (v53 : (Int × (List Int))) : Option (Lp (Int × (List Int)) (List Int)) :=
 sel (decide (v53.1 < (q51.length : Int))) (
 req (0 ≤ v53.1 ∧ v53.1 < q51.length) <|
 req (v53.1.toNat < q51.length) <|
 req (0 ≤ (q51.getD v53.1.toNat 0) ∧ (q51.getD v53.1.toNat 0) < p0.length) <|
 req ((v53.2.length + ([(p0.getD (q51.getD v53.1.toNat 0).toNat 0)]).length) * 8 ≤ 140737488355328 ∧ v53.2.length + ([(p0.getD (q51.getD v53.1.toNat 0).toNat 0)]).length ≤ maxLen) <|
 some (.go (Xaa .i64 (v53.1 + 1), (v53.2 ++ ([(p0.getD (q51.getD v53.1.toNat 0).toNat 0)]))))) (
 some (.done v53.2))
def Xh9 (p1 : Xe9) (q57 : (List Int)) (v60 : (Int × (List Int))) : Option (Lp (Int × (List Int)) (List Int)) :=
 sel (decide (v60.1 < (q57.length : Int))) (
 req (0 ≤ v60.1 ∧ v60.1 < v60.2.length) <|
 req (v60.1.toNat < v60.2.length) <|
 bnd (Xhk (v60.2.getD v60.1.toNat 0) p1.Qp v60.1) fun q64 =>
 req (0 ≤ v60.1 ∧ v60.1 < v60.2.length) <|
 req (v60.1.toNat < v60.2.length) <|
 some (.go (Xaa .i64 (v60.1 + 1), (v60.2.set v60.1.toNat q64)))) (
 some (.done v60.2))
def Xl5 (p0 : (List Int)) (p1 : Xe9) (v32 : (Int × (List Int))) : Option (Lp (Int × (List Int)) (List Int)) :=
 sel (decide (v32.1 < 4)) (
 bnd (Xka v32.1) fun q51 =>
 bnd (loop (Xfg p0 q51) (0, ([] : List Int))) fun v55 =>
 bnd (Xts v55) fun q57 =>
 bnd (loop (Xh9 p1 q57) (0, q57)) fun v63 =>
 bnd (Xhi 4 v63) fun q66 =>
 req ((v32.2.length + q66.1.length) * 8 ≤ 140737488355328 ∧ v32.2.length + q66.1.length ≤ maxLen) <|
 some (.go (Xaa .i64 (v32.1 + 1), (v32.2 ++ q66.1)))) (
 some (.done v32.2))
def Xf5 (p0 : (List Int)) (p1 : Xe9) : Option ((List Int) × Bool) :=
 bnd (
 bnd (Xbk p0 64 (-255) 255) fun q2 =>
 sel q2 (
 bnd (Xd3 p1) fun q3 =>
 some (!q3)) (
 some true)) fun v1 =>
 sel v1 (
 some (([] : List Int), false)) (
 sel p1.Exact (
 bnd (Xhi 8 p0) fun q4 =>
 some (q4.1, q4.2)) (
 sel p1.Large (
 bnd (Xq1 p0) fun q5 =>
 bnd (loop (Xjh p1 q5) (0, q5)) fun v11 =>
 bnd (Xhi 8 v11) fun q14 =>
 some (q14.1, q14.2)) (
 bnd (loop (Xl5 p0 p1) (0, ([] : List Int))) fun v50 =>
 some (v50, true))))
def Xl1 (p0 : Int) : Option (Int × Bool) :=
 bnd (Xaj p0 (-500000) 500000) fun q1 =>
 sel (!q1) (
 some (0, false)) (
 sel (decide (p0 > 0)) (
 some (Xaa .i64 ((Xaa .i64 (2 * p0)) - 1), true)) (
 some (Xaa .i64 ((-2) * p0), true)))
def Xj6 (p0 : Int) : Option (ByteArray × Bool) :=
 bnd (Xl1 p0) fun q1 =>
 sel (!q1.2) (
 some (⟨#[]⟩, false)) (
 bnd (Xow q1.1) fun q2 =>
 some (q2.1, q2.2))
def Xl7 (p0 : Int) : Option Int :=
 bnd (Xj6 p0) fun q1 =>
 some (q1.1.size : Int)
def Xcw (p0 : Pic) (p1 : (List Int)) (p2 : Int) (p3 : Int) (p4 : Int) (v33 : (Int × Int × Int × Int)) (v70 : (Int × Int × Int × Int)) : Option (Lp (Int × Int × Int × Int) (Int × Int × Int)) :=
 sel (decide (v70.2.2.2 ≤ p4)) (
 bnd (
 bnd (Xi2 p0 (⟨Xaa .i64 (p2 + v70.2.2.2), Xaa .i64 (p3 + v33.2.2.2), 8, 8⟩ : Yxj)) fun q81 =>
 sel (!q81) (
 some (v70.1, v70.2.1, v70.2.2.1)) (
 bnd (Xbz p0 (Xaa .i64 (p2 + v70.2.2.2)) (Xaa .i64 (p3 + v33.2.2.2))) fun q82 =>
 bnd (Xp5 p1 q82) fun q83 =>
 bnd (Xl7 v70.2.2.2) fun q84 =>
 bnd (Xl7 v33.2.2.2) fun q85 =>
 bnd (
 sel (decide (v70.2.2.1 < 0)) (
 some true) (
 some (decide ((Xaa .i64 ((Xaa .i64 (q83 + q84)) + q85)) < v70.2.2.1)))) fun v86 =>
 sel v86 (
 some (v70.2.2.2, v33.2.2.2, Xaa .i64 ((Xaa .i64 (q83 + q84)) + q85))) (
 some (v70.1, v70.2.1, v70.2.2.1)))) fun v80 =>
 some (.go (v80.1, v80.2.1, v80.2.2, Xaa .i64 (v70.2.2.2 + 1)))) (
 some (.done (v70.1, v70.2.1, v70.2.2.1)))
def Xfd (p0 : Pic) (p1 : (List Int)) (p2 : Int) (p3 : Int) (p4 : Int) (v33 : (Int × Int × Int × Int)) : Option (Lp (Int × Int × Int × Int) (Int × Int × Int)) :=
 sel (decide (v33.2.2.2 ≤ p4)) (
 bnd (loop (Xcw p0 p1 p2 p3 p4 v33) (v33.1, v33.2.1, v33.2.2.1, Xaa .i64 (0 - p4))) fun v79 =>
 some (.go (v79.1, v79.2.1, v79.2.2, Xaa .i64 (v33.2.2.2 + 1)))) (
 some (.done (v33.1, v33.2.1, v33.2.2.1)))
def Xdl (p0 : Pic) (p1 : (List Int)) (p2 : Int) (p3 : Int) (p4 : Int) : Option (Int × Int × Int) :=
 bnd (
 bnd (Xcx p0) fun q2 =>
 sel q2 (
 bnd (Xbk p1 64 0 255) fun q3 =>
 sel q3 (
 bnd (Xaj p4 0 4) fun q4 =>
 sel q4 (
 bnd (Xb2 p0 p2 p3) fun q5 =>
 some (!q5)) (
 some true)) (
 some true)) (
 some true)) fun v1 =>
 sel v1 (
 some (0, 0, (-1))) (
 bnd (loop (Xfd p0 p1 p2 p3 p4) (0, 0, (-1), Xaa .i64 (0 - p4))) fun v61 =>
 some (v61.1, v61.2.1, v61.2.2))
def Xe0 (p0 : Pic) (p1 : Pic) (p2 : (List Int)) (p3 : Int) (p4 : Int) (p5 : Xe9) (p6 : Int) : Option (Xam × (List Int) × Bool) :=
 bnd (
 bnd (Xcx p0) fun q2 =>
 sel q2 (
 bnd (Xb2 p0 p3 p4) fun q3 =>
 sel q3 (
 bnd (Xbk p2 64 0 255) fun q4 =>
 sel q4 (
 bnd (Xd3 p5) fun q5 =>
 sel q5 (
 bnd (Xaj p6 0 4) fun q6 =>
 some (!q6)) (
 some true)) (
 some true)) (
 some true)) (
 some true)) fun v1 =>
 sel v1 (
 some ((⟨0, 0, 0, 0, []⟩ : Xam), ([] : List Int), false)) (
 bnd (
 sel p5.Key (
 some false) (
 bnd (Xcx p1) fun q8 =>
 sel q8 (
 sel (p1.Wide != p0.Wide) (
 some true) (
 some (p1.High != p0.High))) (
 some true))) fun v7 =>
 sel v7 (
 some ((⟨0, 0, 0, 0, []⟩ : Xam), ([] : List Int), false)) (
 bnd (Xj2 p0 p3 p4) fun q9 =>
 bnd (Xiz p2 q9.1) fun q10 =>
 bnd (Xfw q10.1 q9.1) fun q11 =>
 bnd (Xga p2 q11) fun q12 =>
 bnd (Xf5 q12 p5) fun q13 =>
 bnd (
 sel (!p5.Key) (
 bnd (Xbz p1 p3 p4) fun q15 =>
 bnd (Xp5 p2 q15) fun q16 =>
 sel (q16 == 0) (
 some (0, 0, 0, 0, [])) (
 bnd (Xdl p1 p2 p3 p4 p6) fun q17 =>
 sel (decide (q17.2.2 ≤ q10.2)) (
 bnd (Xbz p1 (Xaa .i64 (p3 + q17.1)) (Xaa .i64 (p4 + q17.2.1))) fun q18 =>
 bnd (Xga p2 q18) fun q19 =>
 bnd (Xf5 q19 p5) fun q20 =>
 bnd (
 sel (q17.1 == 0) (
 sel (q17.2.1 == 0) (
 bnd (Xbk q20.1 64 0 0) fun q22 =>
 some q22) (
 some false)) (
 some false)) fun v21 =>
 sel v21 (
 some (0, 0, 0, 0, [])) (
 some (1, 0, q17.1, q17.2.1, q20.1))) (
 some (2, q10.1, 0, 0, q13.1)))) (
 some (2, q10.1, 0, 0, q13.1))) fun v14 =>
 bnd (Xd7 p0 p1 0 0 p5 p3 p4 (⟨v14.1, v14.2.1, v14.2.2.1, v14.2.2.2.1, v14.2.2.2.2⟩ : Xam)) fun q23 =>
 sel (!q23.2) (
 some ((⟨0, 0, 0, 0, []⟩ : Xam), ([] : List Int), false)) (
 some ((⟨v14.1, v14.2.1, v14.2.2.1, v14.2.2.2.1, v14.2.2.2.2⟩ : Xam), q23.1, true))))
def Xeo (p0 : Pic) (p1 : Pic) (p2 : Xe9) (p3 : Int) (v25 : (Int × (List Xam) × Int × Int × ByteArray)) (v46 : (Int × (List Xam) × Int × Int × ByteArray)) : Option (Lp (Int × (List Xam) × Int × Int × ByteArray) (Ou ((List Xam) × Int × Int × ByteArray) ((List Xam) × Pic × Bool))) :=
 sel (decide (v46.1 < p0.Wide)) (
 bnd (Xbz p0 v46.1 v25.1) fun q52 =>
 bnd (Xe0 (⟨v46.2.2.1, v46.2.2.2.1, v46.2.2.2.2⟩ : Pic) p1 q52 v46.1 v25.1 p2 p3) fun q53 =>
 sel (!q53.2.2) (
 some (.done (.ret (([] : List Xam), (⟨0, 0, ⟨#[]⟩⟩ : Pic), false)))) (
 req ((v46.2.1.length + ([q53.1]).length) * 56 ≤ 140737488355328 ∧ v46.2.1.length + ([q53.1]).length ≤ maxLen) <|
 bnd (Xzn (⟨v46.2.2.1, v46.2.2.2.1, v46.2.2.2.2⟩ : Pic) v46.1 v25.1 q53.2.1) fun q54 =>
 some (.go (Xaa .i64 (v46.1 + 8), (v46.2.1 ++ ([q53.1])), q54.Wide, q54.High, q54.Dots)))) (
 some (.done (.out (v46.2.1, v46.2.2.1, v46.2.2.2.1, v46.2.2.2.2))))
def Xen (p0 : Pic) (p1 : Pic) (p2 : Xe9) (p3 : Int) (v25 : (Int × (List Xam) × Int × Int × ByteArray)) : Option (Lp (Int × (List Xam) × Int × Int × ByteArray) (Ou ((List Xam) × Int × Int × ByteArray) ((List Xam) × Pic × Bool))) :=
 sel (decide (v25.1 < p0.High)) (
 bnd (loop (Xeo p0 p1 p2 p3 v25) (0, v25.2.1, v25.2.2.1, v25.2.2.2.1, v25.2.2.2.2)) fun o55 => match o55 with
| .out v51 => (
 some (.go (Xaa .i64 (v25.1 + 8), v51.1, v51.2.1, v51.2.2.1, v51.2.2.2)))
| .ret r => some (.done (.ret r))) (
 some (.done (.out (v25.2.1, v25.2.2.1, v25.2.2.2.1, v25.2.2.2.2))))
def Xj7 (p0 : Pic) (p1 : Pic) (p2 : Xe9) (p3 : Int) : Option ((List Xam) × Pic × Bool) :=
 bnd (
 bnd (Xcx p0) fun q2 =>
 sel q2 (
 bnd (Xmf p0.Wide) fun q3 =>
 sel q3 (
 bnd (Xmf p0.High) fun q4 =>
 sel q4 (
 bnd (Xd3 p2) fun q5 =>
 sel q5 (
 bnd (Xaj p3 0 4) fun q6 =>
 some (!q6)) (
 some true)) (
 some true)) (
 some true)) (
 some true)) fun v1 =>
 sel v1 (
 some (([] : List Xam), (⟨0, 0, ⟨#[]⟩⟩ : Pic), false)) (
 bnd (
 sel p2.Key (
 some false) (
 bnd (Xcx p1) fun q8 =>
 sel q8 (
 sel (p1.Wide != p0.Wide) (
 some true) (
 some (p1.High != p0.High))) (
 some true))) fun v7 =>
 sel v7 (
 some (([] : List Xam), (⟨0, 0, ⟨#[]⟩⟩ : Pic), false)) (
 bnd (Xtt p0.Wide p0.High) fun q9 =>
 bnd (loop (Xen p0 p1 p2 p3) (0, ([] : List Xam), q9.Wide, q9.High, q9.Dots)) fun o56 => match o56 with
| .out v41 => (
 some (v41.1, (⟨v41.2.1, v41.2.2.1, v41.2.2.2⟩ : Pic), true))
| .ret r => some r))
def Xnj (p0 : Seq) (p1 : Par) (p2 : Xuq) : Option (ByteArray × Bool) :=
 bnd (Xl3 p0 p1 p2) fun q1 =>
 sel (!q1) (
 some (⟨#[]⟩, false)) (
 bnd (Xj6 (Xaa .i64 (p2.Qp - p1.Qp))) fun q2 =>
 bnd (Xir p2.Tile) fun q3 =>
 bnd (Xke p2.Frame p0.Bits) fun q4 =>
 req (q3.size + q4.size ≤ 9223372036854775807) <|
 req ((q3 ++ q4).size + q2.1.size ≤ 9223372036854775807) <|
 some (((q3 ++ q4) ++ q2.1), true))
def Xkb (p0 : (List Int)) (v3 : (Int × Int)) : Option (Lp (Int × Int) Int) :=
 sel (decide (v3.2 < (p0.length : Int))) (
 bnd (
 req (0 ≤ v3.2 ∧ v3.2 < p0.length) <|
 sel ((p0.getD v3.2.toNat 0) != 0) (
 some (Xaa .i64 (v3.1 + 1))) (
 some v3.1)) fun v7 =>
 some (.go (v7, Xaa .i64 (v3.2 + 1)))) (
 some (.done v3.1))
def Xkc (p0 : (List Int)) (v15 : (Int × Int × (List Int))) : Option (Lp (Int × Int × (List Int)) (List Int)) :=
 sel (decide (v15.2.1 < (p0.length : Int))) (
 bnd (
 req (0 ≤ v15.2.1 ∧ v15.2.1 < p0.length) <|
 sel ((p0.getD v15.2.1.toNat 0) == 0) (
 some (Xaa .i64 (v15.1 + 1), v15.2.2)) (
 bnd (Xl1 (p0.getD v15.2.1.toNat 0)) fun q23 =>
 bnd (Xir v15.1) fun q24 =>
 req ((v15.2.2.length + (Xba q24).length) * 1 ≤ 140737488355328 ∧ v15.2.2.length + (Xba q24).length ≤ maxLen) <|
 bnd (Xir q23.1) fun q25 =>
 req (((v15.2.2 ++ (Xba q24)).length + (Xba q25).length) * 1 ≤ 140737488355328 ∧ (v15.2.2 ++ (Xba q24)).length + (Xba q25).length ≤ maxLen) <|
 some (0, ((v15.2.2 ++ (Xba q24)) ++ (Xba q25))))) fun v22 =>
 some (.go (v22.1, Xaa .i64 (v15.2.1 + 1), v22.2))) (
 some (.done v15.2.2))
def Xrc (p0 : (List Int)) : Option (List Int) :=
 bnd (loop (Xkb p0) (0, 0)) fun v6 =>
 bnd (Xir v6) fun q9 =>
 req ((([] : List Int).length + (Xba q9).length) * 1 ≤ 140737488355328 ∧ ([] : List Int).length + (Xba q9).length ≤ maxLen) <|
 bnd (loop (Xkc p0) (0, 0, (([] : List Int) ++ (Xba q9)))) fun v21 =>
 some v21
def Xcz (p0 : (List Int)) (v5 : (Int × (List Int))) : Option (Lp (Int × (List Int)) (List Int)) :=
 sel (decide (v5.1 < 4)) (
 req (0 ≤ (Xaa .i64 (16 * v5.1)) ∧ (Xaa .i64 (16 * v5.1)) ≤ (Xaa .i64 ((Xaa .i64 (16 * v5.1)) + 16)) ∧ (Xaa .i64 ((Xaa .i64 (16 * v5.1)) + 16)) ≤ (p0.length : Int)) <|
 bnd (Xrc ((p0.drop (Xaa .i64 (16 * v5.1)).toNat).take ((Xaa .i64 ((Xaa .i64 (16 * v5.1)) + 16)).toNat - (Xaa .i64 (16 * v5.1)).toNat))) fun q9 =>
 req ((v5.2.length + q9.length) * 1 ≤ 140737488355328 ∧ v5.2.length + q9.length ≤ maxLen) <|
 some (.go (Xaa .i64 (v5.1 + 1), (v5.2 ++ q9)))) (
 some (.done v5.2))
def Xgu (p0 : (List Int)) (p1 : Xe9) : Option (List Int) :=
 bnd (
 sel p1.Large (
 some true) (
 some p1.Exact)) fun v1 =>
 sel v1 (
 bnd (Xrc p0) fun q2 =>
 some q2) (
 bnd (loop (Xcz p0) (0, ([] : List Int))) fun v8 =>
 some v8)
def Xi4 (p0 : Xam) (p1 : Xe9) : Option (ByteArray × Bool) :=
 bnd (
 bnd (Xf8 p0) fun q2 =>
 sel q2 (
 bnd (Xd3 p1) fun q3 =>
 sel q3 (
 bnd (Xd8 p0 p1) fun q4 =>
 some (!q4)) (
 some true)) (
 some true)) fun v1 =>
 sel v1 (
 some (⟨#[]⟩, false)) (
 bnd (
 sel (!p1.Key) (
 bnd (Xir p0.Kind) fun q6 =>
 req ((([] : List Int).length + (Xba q6).length) * 1 ≤ 140737488355328 ∧ ([] : List Int).length + (Xba q6).length ≤ maxLen) <|
 some (([] : List Int) ++ (Xba q6))) (
 some ([] : List Int))) fun v5 =>
 bnd (
 sel (p0.Kind == 1) (
 bnd (Xj6 p0.Dx) fun q8 =>
 bnd (Xj6 p0.Dy) fun q9 =>
 req ((v5.length + (Xba q8.1).length) * 1 ≤ 140737488355328 ∧ v5.length + (Xba q8.1).length ≤ maxLen) <|
 req (((v5 ++ (Xba q8.1)).length + (Xba q9.1).length) * 1 ≤ 140737488355328 ∧ (v5 ++ (Xba q8.1)).length + (Xba q9.1).length ≤ maxLen) <|
 bnd (Xgu p0.Levels p1) fun q10 =>
 req ((((v5 ++ (Xba q8.1)) ++ (Xba q9.1)).length + q10.length) * 1 ≤ 140737488355328 ∧ ((v5 ++ (Xba q8.1)) ++ (Xba q9.1)).length + q10.length ≤ maxLen) <|
 some (((v5 ++ (Xba q8.1)) ++ (Xba q9.1)) ++ q10)) (
 sel (p0.Kind == 2) (
 bnd (Xir p0.Mode) fun q11 =>
 req ((v5.length + (Xba q11).length) * 1 ≤ 140737488355328 ∧ v5.length + (Xba q11).length ≤ maxLen) <|
 bnd (Xgu p0.Levels p1) fun q12 =>
 req (((v5 ++ (Xba q11)).length + q12.length) * 1 ≤ 140737488355328 ∧ (v5 ++ (Xba q11)).length + q12.length ≤ maxLen) <|
 some ((v5 ++ (Xba q11)) ++ q12)) (
 some v5))) fun v7 =>
 some ((strOfNums v7), true))
def Xfh (p0 : (List Xam)) (p1 : Xe9) (v4 : (Int × (List Int))) : Option (Lp (Int × (List Int)) (Ou (List Int) (ByteArray × Bool))) :=
 sel (decide (v4.1 < (p0.length : Int))) (
 req (0 ≤ v4.1 ∧ v4.1 < p0.length) <|
 bnd (Xi4 (⟨(p0.getD v4.1.toNat Xwv).Kind, (p0.getD v4.1.toNat Xwv).Mode, (p0.getD v4.1.toNat Xwv).Dx, (p0.getD v4.1.toNat Xwv).Dy, (p0.getD v4.1.toNat Xwv).Levels⟩ : Xam) p1) fun q8 =>
 sel (!q8.2) (
 some (.done (.ret (⟨#[]⟩, false)))) (
 req ((v4.2.length + (Xba q8.1).length) * 1 ≤ 140737488355328 ∧ v4.2.length + (Xba q8.1).length ≤ maxLen) <|
 some (.go (Xaa .i64 (v4.1 + 1), (v4.2 ++ (Xba q8.1)))))) (
 some (.done (.out v4.2)))
def Xj8 (p0 : (List Xam)) (p1 : Xe9) : Option (ByteArray × Bool) :=
 bnd (Xaj (p0.length : Int) 1 64) fun q1 =>
 sel (!q1) (
 some (⟨#[]⟩, false)) (
 bnd (loop (Xfh p0 p1) (0, ([] : List Int))) fun o9 => match o9 with
| .out v7 => (
 some ((strOfNums v7), true))
| .ret r => some r)
def Xhj (p0 : Seq) (v14 : (ByteArray × Int)) (v29 : (ByteArray × Int)) : Option (Lp (ByteArray × Int) ByteArray) :=
 sel (decide (v29.2 < ((([p0.Cols, p0.Rows]).getD v14.2.toNat Xf3).length : Int))) (
 req (0 ≤ v29.2 ∧ v29.2 < (([p0.Cols, p0.Rows]).getD v14.2.toNat Xf3).length) <|
 bnd (Xir ((([p0.Cols, p0.Rows]).getD v14.2.toNat Xf3).getD v29.2.toNat 0)) fun q33 =>
 req (v29.1.size + q33.size ≤ 9223372036854775807) <|
 some (.go ((v29.1 ++ q33), Xaa .i64 (v29.2 + 1)))) (
 some (.done v29.1))
def Xd6 (p0 : Seq) (v14 : (ByteArray × Int)) : Option (Lp (ByteArray × Int) ByteArray) :=
 sel (decide (v14.2 < (([p0.Cols, p0.Rows]).length : Int))) (
 req (0 ≤ v14.2 ∧ v14.2 < ([p0.Cols, p0.Rows]).length) <|
 req (v14.2.toNat < ([p0.Cols, p0.Rows]).length) <|
 bnd (Xir ((([p0.Cols, p0.Rows]).getD v14.2.toNat Xf3).length : Int)) fun q26 =>
 req (v14.1.size + q26.size ≤ 9223372036854775807) <|
 bnd (loop (Xhj p0 v14) ((v14.1 ++ q26), 0)) fun v32 =>
 some (.go (v32, Xaa .i64 (v14.2 + 1)))) (
 some (.done v14.1))
def Xpa (p0 : Seq) : Option (ByteArray × Bool) :=
 bnd (Xgs p0) fun q1 =>
 sel (!q1) (
 some (⟨#[]⟩, false)) (
 bnd (Xir p0.Level) fun q2 =>
 bnd (Xke p0.Bits 4) fun q3 =>
 req (q2.size + q3.size ≤ 9223372036854775807) <|
 bnd (loop (Xd6 p0) ((q2 ++ q3), 0)) fun v25 =>
 some (v25, true))
def Xrh (p0 : Bool) : Option ByteArray :=
 sel p0 (
 some ⟨#[49]⟩) (
 some ⟨#[48]⟩)
def Xo8 (p0 : Par) : Option (ByteArray × Bool) :=
 bnd (Xem p0) fun q1 =>
 sel (!q1) (
 some (⟨#[]⟩, false)) (
 bnd (Xke p0.Qp 6) fun q2 =>
 bnd (Xrh p0.Large) fun q3 =>
 req (q2.size + q3.size ≤ 9223372036854775807) <|
 bnd (Xrh p0.Exact) fun q4 =>
 req ((q2 ++ q3).size + q4.size ≤ 9223372036854775807) <|
 bnd (Xrh p0.Confined) fun q5 =>
 req (((q2 ++ q3) ++ q4).size + q5.size ≤ 9223372036854775807) <|
 some ((((q2 ++ q3) ++ q4) ++ q5), true))
def Xgi (p0 : ByteArray) (v4 : (Int × (List Int))) : Option (Lp (Int × (List Int)) (List Int)) :=
 sel (decide (v4.1 < (p0.size : Int))) (
 bnd (
 req (0 ≤ v4.1 ∧ v4.1 < p0.size) <|
 sel ((Xx0 p0 v4.1) == 49) (
 req ((8 : Int) ≠ 0) <|
 req (0 ≤ (Xaa .i64 (v4.1.tdiv 8)) ∧ (Xaa .i64 (v4.1.tdiv 8)) < v4.2.length) <|
 req ((Xaa .i64 (v4.1.tdiv 8)).toNat < v4.2.length) <|
 req ((8 : Int) ≠ 0) <|
 req (0 ≤ (v4.1.tmod 8)) <|
 req (0 ≤ (Xaa .i64 (v4.1.tdiv 8)) ∧ (Xaa .i64 (v4.1.tdiv 8)) < v4.2.length) <|
 req ((Xaa .i64 (v4.1.tdiv 8)).toNat < v4.2.length) <|
 some (v4.2.set ((Xaa .i64 (v4.1.tdiv 8)).toNat) (IntKind.wrap .u8 (BitVec.ofInt (IntKind.bits .u8) (v4.2.getD ((Xaa .i64 (v4.1.tdiv 8)).toNat) 0) ||| BitVec.ofInt (IntKind.bits .u8) ((128 : Int) / 2 ^ min (v4.1.tmod 8).toNat (IntKind.bits .u8))).toNat))) (
 some v4.2)) fun v8 =>
 some (.go (Xaa .i64 (v4.1 + 1), v8))) (
 some (.done v4.2))
def Xkx (p0 : ByteArray) : Option (ByteArray × Bool) :=
 bnd (Xov p0) fun q1 =>
 sel (!q1) (
 some (⟨#[]⟩, false)) (
 req ((8 : Int) ≠ 0) <|
 req (0 ≤ (Xaa .i64 ((Xaa .i64 ((p0.size : Int).tdiv 8)) + 1)) ∧ (Xaa .i64 ((Xaa .i64 ((p0.size : Int).tdiv 8)) + 1)) ≤ (Xaa .i64 ((Xaa .i64 ((p0.size : Int).tdiv 8)) + 1)) ∧ (Xaa .i64 ((Xaa .i64 ((p0.size : Int).tdiv 8)) + 1)) * 1 ≤ 281474976710656) <|
 bnd (loop (Xgi p0) (0, (List.replicate (Xaa .i64 ((Xaa .i64 ((p0.size : Int).tdiv 8)) + 1)).toNat (0 : Int)))) fun v7 =>
 req ((8 : Int) ≠ 0) <|
 req (0 ≤ (Xaa .i64 ((p0.size : Int).tdiv 8)) ∧ (Xaa .i64 ((p0.size : Int).tdiv 8)) < v7.length) <|
 req ((Xaa .i64 ((p0.size : Int).tdiv 8)).toNat < v7.length) <|
 req ((8 : Int) ≠ 0) <|
 req (0 ≤ ((p0.size : Int).tmod 8)) <|
 req (0 ≤ (Xaa .i64 ((p0.size : Int).tdiv 8)) ∧ (Xaa .i64 ((p0.size : Int).tdiv 8)) < v7.length) <|
 req ((Xaa .i64 ((p0.size : Int).tdiv 8)).toNat < v7.length) <|
 some ((strOfNums (v7.set ((Xaa .i64 ((p0.size : Int).tdiv 8)).toNat) (IntKind.wrap .u8 (BitVec.ofInt (IntKind.bits .u8) (v7.getD ((Xaa .i64 ((p0.size : Int).tdiv 8)).toNat) 0) ||| BitVec.ofInt (IntKind.bits .u8) ((128 : Int) / 2 ^ min ((p0.size : Int).tmod 8).toNat (IntKind.bits .u8))).toNat))), true))
def Xjv (p0 : Int) (p1 : ByteArray) : Option (ByteArray × Bool) :=
 bnd (Xkx p1) fun q1 =>
 bnd (
 sel q1.2 (
 bnd (Xme p0) fun q3 =>
 some (!q3)) (
 some true)) fun v2 =>
 sel v2 (
 some (⟨#[]⟩, false)) (
 req ((strOfNums ([Xaa .u8 (p0)])).size + q1.1.size ≤ 9223372036854775807) <|
 some (((strOfNums ([Xaa .u8 (p0)])) ++ q1.1), true))
def Xhl (p0 : Xa5) : Option (List ByteArray) :=
 bnd (Xf7 p0) fun q1 =>
 sel (!q1) (
 some ([] : List ByteArray)) (
 bnd (Xpa p0.Seq) fun q2 =>
 bnd (Xo8 p0.Par) fun q3 =>
 bnd (Xjv 7 q2.1) fun q4 =>
 bnd (Xjv 8 q3.1) fun q5 =>
 some ([q4.1, q5.1]))
def Xkw (p0 : Rate) (p1 : Int) : Option Rate :=
 bnd (Xjt p0) fun q1 =>
 sel (!q1) (
 some p0) (
 bnd (Xcp p1 0 400000) fun q2 =>
 bnd (Xcp (Xaa .i64 ((Xaa .i64 (p0.Debt + q2)) - p0.Target)) (Xaa .i64 ((-8) * p0.Target)) (Xaa .i64 (8 * p0.Target))) fun q3 =>
 bnd (
 sel (decide (q3 > p0.Target)) (
 some (Xaa .i64 (p0.Qp + 1))) (
 sel (decide (q3 < (Xaa .i64 (0 - p0.Target)))) (
 some (Xaa .i64 (p0.Qp - 1))) (
 some p0.Qp))) fun v4 =>
 bnd (Xcp v4 0 40) fun q5 =>
 some (⟨q5, p0.Target, q3⟩ : Rate))
def Xhm (p0 : Xa5) (p1 : Pic) (p2 : Bool) : Option (Xa5 × (List ByteArray) × Bool) :=
 bnd (
 bnd (Xf7 p0) fun q2 =>
 sel q2 (
 bnd (Xq9 p1 p0.Seq) fun q3 =>
 some (!q3)) (
 some true)) fun v1 =>
 sel v1 (
 bnd (Xd9 p0) fun q4 =>
 some (q4, ([] : List ByteArray), false)) (
 bnd (Xo6 p0 p2) fun q5 =>
 bnd (
 sel q5 (
 some false) (
 some (decide (p0.Since ≥ 1000)))) fun v6 =>
 sel v6 (
 bnd (Xd9 p0) fun q7 =>
 some (q7, ([] : List ByteArray), false)) (
 bnd (Xq2 p0.Rate q5) fun q8 =>
 bnd (Xj7 p1 p0.Ref (⟨q5, q8, p0.Par.Large, p0.Par.Exact⟩ : Xe9) p0.Reach) fun q9 =>
 bnd (Xnj p0.Seq p0.Par (⟨0, p0.Frame, q8⟩ : Xuq)) fun q10 =>
 bnd (Xj8 q9.1 (⟨q5, q8, p0.Par.Large, p0.Par.Exact⟩ : Xe9)) fun q11 =>
 bnd (Xd9 p0) fun q12 =>
 bnd (
 sel q5 (
 bnd (Xhl p0) fun q14 =>
 some (5, 1, q14)) (
 some (1, Xaa .i64 (q12.Since + 1), ([] : List ByteArray)))) fun v13 =>
 req (q10.1.size + q11.1.size ≤ 9223372036854775807) <|
 bnd (Xjv v13.1 (q10.1 ++ q11.1)) fun q15 =>
 bnd (Xkw p0.Rate (Xaa .i64 ((q10.1.size : Int) + (q11.1.size : Int)))) fun q16 =>
 req (0 ≤ p0.Seq.Bits) <|
 req ((Xaa .i64 (1 * 2 ^ min p0.Seq.Bits.toNat (IntKind.bits .i64))) ≠ 0) <|
 req ((v13.2.2.length + ([q15.1]).length) * 16 ≤ 140737488355328 ∧ v13.2.2.length + ([q15.1]).length ≤ maxLen) <|
 some ((⟨q12.Seq, q12.Par, q16, ((Xaa .i64 (p0.Frame + 1)).tmod (Xaa .i64 (1 * 2 ^ min p0.Seq.Bits.toNat (IntKind.bits .i64)))), v13.2.1, q12.Every, q12.Reach, true, q9.2.1⟩ : Xa5), (v13.2.2 ++ ([q15.1])), true)))
def Xgt (p0 : Xdk) : Option Xdk :=
 bnd (Xhp p0.Seq) fun q1 =>
 some (⟨p0.Has, p0.Live, q1, p0.Par, p0.Frame, p0.Count, p0.Gone⟩ : Xdk)
def Xhe (p0 : Xdk) : Option Bool :=
 bnd (
 bnd (Xaj p0.Count 0 1000000000) fun q2 =>
 sel q2 (
 bnd (Xaj p0.Gone 0 1000000000) fun q3 =>
 some (!q3)) (
 some true)) fun v1 =>
 sel v1 (
 some false) (
 sel (!p0.Has) (
 bnd (
 sel p0.Live (
 some false) (
 bnd (Xnm p0.Seq) fun q5 =>
 sel q5 (
 sel (((p0.Par.Qp == 0) && ((p0.Par.Large == false) && ((p0.Par.Exact == false) && (p0.Par.Confined == false)))) == true) (
 some (p0.Frame == 0)) (
 some false)) (
 some false))) fun v4 =>
 some v4) (
 bnd (
 bnd (Xdw p0.Seq) fun q7 =>
 sel (q7 == 1) (
 bnd (Xem p0.Par) fun q8 =>
 sel q8 (
 req (0 ≤ p0.Seq.Bits) <|
 bnd (Xaj p0.Frame 0 (Xaa .i64 ((Xaa .i64 (1 * 2 ^ min p0.Seq.Bits.toNat (IntKind.bits .i64))) - 1))) fun q9 =>
 some q9) (
 some false)) (
 some false)) fun v6 =>
 some v6))
def Xp2 (p0 : Par) (p1 : Yaq) : Option Xe9 :=
 some (⟨p1.Key, p1.Qp, p0.Large, p0.Exact⟩ : Xe9)
def Xl6 (p0 : Par) (p1 : Yaq) (p2 : Int) : Option Bool :=
 bnd (Xp2 p0 p1) fun q1 =>
 bnd (Xia p1.Row 0 p2 q1) fun q2 =>
 bnd (
 sel q2.2 (
 bnd (Xem p0) fun q4 =>
 some q4) (
 some false)) fun v3 =>
 some v3
def Xbd (p1 : (List ByteArray)) (v4 : (Int × (List Int) × (List ByteArray))) : Option (Lp (Int × (List Int) × (List ByteArray)) (Ou ((List Int) × (List ByteArray)) (Int × Seq × Par × Xuq × Yaq))) :=
 sel (decide (v4.1 < (p1.length : Int))) (
 req (0 ≤ v4.1 ∧ v4.1 < p1.length) <|
 bnd (Xma (p1.getD v4.1.toNat Xb0)) fun q9 =>
 bnd (
 sel q9.2.2 (
 some ((v4.2.1.length : Int) == 3)) (
 some true)) fun v10 =>
 sel v10 (
 some (.done (.ret (2, (⟨0, 0, [], []⟩ : Seq), (⟨0, false, false, false⟩ : Par), (⟨0, 0, 0⟩ : Xuq), (⟨false, 0, ⟨#[]⟩⟩ : Yaq))))) (
 req ((v4.2.1.length + ([q9.1]).length) * 8 ≤ 140737488355328 ∧ v4.2.1.length + ([q9.1]).length ≤ maxLen) <|
 req ((v4.2.2.length + ([q9.2.1]).length) * 16 ≤ 140737488355328 ∧ v4.2.2.length + ([q9.2.1]).length ≤ maxLen) <|
 some (.go (Xaa .i64 (v4.1 + 1), (v4.2.1 ++ ([q9.1])), (v4.2.2 ++ ([q9.2.1])))))) (
 some (.done (.out (v4.2.1, v4.2.2))))
def Xb1 (p0 : Xdk) (p1 : (List ByteArray)) (p2 : Par) : Option (Int × Seq × Par × Xuq × Yaq) :=
 bnd (loop (Xbd p1) (0, ([] : List Int), ([] : List ByteArray))) fun o11 => match o11 with
| .out v8 => (
 Yh8 (fun (v12 : (Int × Int × (List Int) × (List Int) × Int × Bool × Bool × Bool)) =>
 req (0 ≤ (Xaa .i64 ((v8.2.length : Int) - 1)) ∧ (Xaa .i64 ((v8.2.length : Int) - 1)) < v8.2.length) <|
 req ((Xaa .i64 ((v8.2.length : Int) - 1)).toNat < v8.2.length) <|
 bnd (Xf6 (⟨v12.1, v12.2.1, v12.2.2.1, v12.2.2.2.1⟩ : Seq) (⟨v12.2.2.2.2.1, v12.2.2.2.2.2.1, v12.2.2.2.2.2.2.1, v12.2.2.2.2.2.2.2⟩ : Par) (v8.2.getD ((Xaa .i64 ((v8.2.length : Int) - 1)).toNat) Xb0)) fun q18 =>
 sel (!q18.2.2) (
 some (5, (⟨0, 0, [], []⟩ : Seq), (⟨0, false, false, false⟩ : Par), (⟨0, 0, 0⟩ : Xuq), (⟨false, 0, ⟨#[]⟩⟩ : Yaq))) (
 bnd (
 sel ((v8.1.length : Int) == 3) (
 some false) (
 some (!p0.Live))) fun v19 =>
 sel v19 (
 some (6, (⟨0, 0, [], []⟩ : Seq), (⟨0, false, false, false⟩ : Par), (⟨0, 0, 0⟩ : Xuq), (⟨false, 0, ⟨#[]⟩⟩ : Yaq))) (
 bnd (
 sel ((v8.1.length : Int) == 3) (
 some false) (
 some (q18.1.Frame != p0.Frame))) fun v20 =>
 sel v20 (
 some (7, (⟨0, 0, [], []⟩ : Seq), (⟨0, false, false, false⟩ : Par), (⟨0, 0, 0⟩ : Xuq), (⟨false, 0, ⟨#[]⟩⟩ : Yaq))) (
 req (0 ≤ q18.2.1 ∧ q18.2.1 ≤ ((v8.2.getD ((Xaa .i64 ((v8.2.length : Int) - 1)).toNat) Xb0).size : Int) ∧ ((v8.2.getD ((Xaa .i64 ((v8.2.length : Int) - 1)).toNat) Xb0).size : Int) ≤ ((v8.2.getD ((Xaa .i64 ((v8.2.length : Int) - 1)).toNat) Xb0).size : Int)) <|
 bnd (Xdv (⟨v12.1, v12.2.1, v12.2.2.1, v12.2.2.2.1⟩ : Seq)) fun q21 =>
 bnd (Xl6 (⟨v12.2.2.2.2.1, v12.2.2.2.2.2.1, v12.2.2.2.2.2.2.1, v12.2.2.2.2.2.2.2⟩ : Par) (⟨((v8.1.length : Int) == 3), q18.1.Qp, ((v8.2.getD ((Xaa .i64 ((v8.2.length : Int) - 1)).toNat) Xb0).extract q18.2.1.toNat ((v8.2.getD ((Xaa .i64 ((v8.2.length : Int) - 1)).toNat) Xb0).size : Int).toNat)⟩ : Yaq) q21) fun q22 =>
 sel (!q22) (
 some (8, (⟨0, 0, [], []⟩ : Seq), (⟨0, false, false, false⟩ : Par), (⟨0, 0, 0⟩ : Xuq), (⟨false, 0, ⟨#[]⟩⟩ : Yaq))) (
 some (0, (⟨v12.1, v12.2.1, v12.2.2.1, v12.2.2.2.1⟩ : Seq), (⟨v12.2.2.2.2.1, v12.2.2.2.2.2.1, v12.2.2.2.2.2.2.1, v12.2.2.2.2.2.2.2⟩ : Par), q18.1, (⟨((v8.1.length : Int) == 3), q18.1.Qp, ((v8.2.getD ((Xaa .i64 ((v8.2.length : Int) - 1)).toNat) Xb0).extract q18.2.1.toNat ((v8.2.getD ((Xaa .i64 ((v8.2.length : Int) - 1)).toNat) Xb0).size : Int).toNat)⟩ : Yaq))))))) fun j1 =>
 bnd (
 sel ((v8.1.length : Int) == 3) (
 req (0 ≤ (0 : Int) ∧ (0 : Int) < v8.1.length) <|
 req ((0 : Int).toNat < v8.1.length) <|
 sel ((v8.1.getD ((0 : Int).toNat) 0) != 7) (
 some true) (
 req (0 ≤ (1 : Int) ∧ (1 : Int) < v8.1.length) <|
 req ((1 : Int).toNat < v8.1.length) <|
 sel ((v8.1.getD ((1 : Int).toNat) 0) != 8) (
 some true) (
 req (0 ≤ (2 : Int) ∧ (2 : Int) < v8.1.length) <|
 req ((2 : Int).toNat < v8.1.length) <|
 sel ((v8.1.getD ((2 : Int).toNat) 0) != 5) (
 some true) (
 some false)))) (
 sel ((v8.1.length : Int) != 1) (
 some true) (
 req (0 ≤ (0 : Int) ∧ (0 : Int) < v8.1.length) <|
 req ((0 : Int).toNat < v8.1.length) <|
 some ((v8.1.getD ((0 : Int).toNat) 0) != 1)))) fun v13 =>
 sel v13 (
 some (2, (⟨0, 0, [], []⟩ : Seq), (⟨0, false, false, false⟩ : Par), (⟨0, 0, 0⟩ : Xuq), (⟨false, 0, ⟨#[]⟩⟩ : Yaq))) (
 sel ((v8.1.length : Int) == 3) (
 req (0 ≤ (0 : Int) ∧ (0 : Int) < v8.2.length) <|
 req ((0 : Int).toNat < v8.2.length) <|
 bnd (Xj5 (v8.2.getD ((0 : Int).toNat) Xb0) 0) fun q14 =>
 req (0 ≤ (1 : Int) ∧ (1 : Int) < v8.2.length) <|
 req ((1 : Int).toNat < v8.2.length) <|
 bnd (Xj4 (v8.2.getD ((1 : Int).toNat) Xb0) 0) fun q15 =>
 bnd (
 sel q14.2.2 (
 req (0 ≤ (0 : Int) ∧ (0 : Int) < v8.2.length) <|
 req ((0 : Int).toNat < v8.2.length) <|
 sel (q14.2.1 != ((v8.2.getD ((0 : Int).toNat) Xb0).size : Int)) (
 some true) (
 sel q15.2.2 (
 req (0 ≤ (1 : Int) ∧ (1 : Int) < v8.2.length) <|
 req ((1 : Int).toNat < v8.2.length) <|
 sel (q15.2.1 != ((v8.2.getD ((1 : Int).toNat) Xb0).size : Int)) (
 some true) (
 bnd (Xdw q14.1) fun q17 =>
 sel (q17 != 1) (
 some true) (
 sel q15.1.Confined (
 sel (q15.1.Large == p2.Large) (
 some (!(q15.1.Exact == p2.Exact))) (
 some true)) (
 some true)))) (
 some true))) (
 some true)) fun v16 =>
 sel v16 (
 some (3, (⟨0, 0, [], []⟩ : Seq), (⟨0, false, false, false⟩ : Par), (⟨0, 0, 0⟩ : Xuq), (⟨false, 0, ⟨#[]⟩⟩ : Yaq))) (
 j1 (q14.1.Level, q14.1.Bits, q14.1.Cols, q14.1.Rows, q15.1.Qp, q15.1.Large, q15.1.Exact, q15.1.Confined))) (
 sel (!p0.Has) (
 some (4, (⟨0, 0, [], []⟩ : Seq), (⟨0, false, false, false⟩ : Par), (⟨0, 0, 0⟩ : Xuq), (⟨false, 0, ⟨#[]⟩⟩ : Yaq))) (
 j1 (p0.Seq.Level, p0.Seq.Bits, p0.Seq.Cols, p0.Seq.Rows, p0.Par.Qp, p0.Par.Large, p0.Par.Exact, p0.Par.Confined)))))
| .ret r => some r
def Xj9 (p0 : Int) : Option Int :=
 some (if (1000000000 : Int) < (Xaa .i64 (p0 + 1)) then (1000000000 : Int) else (Xaa .i64 (p0 + 1)))
def Xiy (p0 : Xdk) : Option Xdk :=
 bnd (Xgt p0) fun q1 =>
 bnd (
 bnd (Xhe p0) fun q3 =>
 sel q3 (
 bnd (Xj9 p0.Gone) fun q4 =>
 some (false, q4)) (
 some (q1.Live, q1.Gone))) fun v2 =>
 some (⟨q1.Has, v2.1, q1.Seq, q1.Par, q1.Frame, q1.Count, v2.2⟩ : Xdk)
def Xby (p0 : Xdk) (p1 : (List ByteArray)) (p2 : Par) : Option (Xdk × Int × Yaq) :=
 bnd (Xgt p0) fun q1 =>
 bnd (
 bnd (Xhe p0) fun q3 =>
 sel q3 (
 bnd (Xem p2) fun q4 =>
 some (!q4)) (
 some true)) fun v2 =>
 sel v2 (
 some (q1, 1, (⟨false, 0, ⟨#[]⟩⟩ : Yaq))) (
 bnd (Xb1 p0 p1 p2) fun q5 =>
 sel (q5.1 != 0) (
 bnd (Xiy p0) fun q6 =>
 some (q6, q5.1, (⟨false, 0, ⟨#[]⟩⟩ : Yaq))) (
 bnd (Xhp q5.2.1) fun q7 =>
 bnd (Xox q5.2.2.2.1.Frame q5.2.1.Bits) fun q8 =>
 bnd (Xj9 p0.Count) fun q9 =>
 some ((⟨true, true, q7, q5.2.2.1, q8, q9, q1.Gone⟩ : Xdk), 0, q5.2.2.2.2)))
def Xbp (q2 : (Xa5 × (List Pic) × (List Bool))) (q3 : (List Int)) (v10 : (Bool × Int × Int × Int × Int × Bool × Bool × Bool × Int × Int × Int × Int × Int × Int × Int × Bool × Int × Int × ByteArray × Bool × Bool × Int × Int × Int × Bool × Bool × Bool × Int × Int × Int × (List Int) × (List Int) × (List Int) × (List Int))) : Option (Lp (Bool × Int × Int × Int × Int × Bool × Bool × Bool × Int × Int × Int × Int × Int × Int × Int × Bool × Int × Int × ByteArray × Bool × Bool × Int × Int × Int × Bool × Bool × Bool × Int × Int × Int × (List Int) × (List Int) × (List Int) × (List Int)) (Ou (Bool × Bool × Int × Int × Int × Bool × Bool × Bool × Int × Int × Int × (List Int) × (List Int)) Bool)) :=
 sel (decide (v10.2.1 < (q2.2.1.length : Int))) (
 Yh8 (fun (v18 : (Bool × Int × Int × Int × Bool × Bool × Bool × Int × Int × Int × Int × Int × Int × Int × Bool × Int × Int × ByteArray × Bool × Bool × Int × Int × Int × Bool × Bool × Bool × Int × Int × Int × (List Int) × (List Int) × (List Int) × (List Int))) =>
 some (.go (v18.1, Xaa .i64 (v10.2.1 + 1), v18.2.1, v18.2.2.1, v18.2.2.2.1, v18.2.2.2.2.1, v18.2.2.2.2.2.1, v18.2.2.2.2.2.2.1, v18.2.2.2.2.2.2.2.1, v18.2.2.2.2.2.2.2.2.1, v18.2.2.2.2.2.2.2.2.2.1, v18.2.2.2.2.2.2.2.2.2.2.1, v18.2.2.2.2.2.2.2.2.2.2.2.1, v18.2.2.2.2.2.2.2.2.2.2.2.2.1, v18.2.2.2.2.2.2.2.2.2.2.2.2.2.1, v18.2.2.2.2.2.2.2.2.2.2.2.2.2.2.1, v18.2.2.2.2.2.2.2.2.2.2.2.2.2.2.2.1, v18.2.2.2.2.2.2.2.2.2.2.2.2.2.2.2.2.1, v18.2.2.2.2.2.2.2.2.2.2.2.2.2.2.2.2.2.1, v18.2.2.2.2.2.2.2.2.2.2.2.2.2.2.2.2.2.2.1, v18.2.2.2.2.2.2.2.2.2.2.2.2.2.2.2.2.2.2.2.1, v18.2.2.2.2.2.2.2.2.2.2.2.2.2.2.2.2.2.2.2.2.1, v18.2.2.2.2.2.2.2.2.2.2.2.2.2.2.2.2.2.2.2.2.2.1, v18.2.2.2.2.2.2.2.2.2.2.2.2.2.2.2.2.2.2.2.2.2.2.1, v18.2.2.2.2.2.2.2.2.2.2.2.2.2.2.2.2.2.2.2.2.2.2.2.1, v18.2.2.2.2.2.2.2.2.2.2.2.2.2.2.2.2.2.2.2.2.2.2.2.2.1, v18.2.2.2.2.2.2.2.2.2.2.2.2.2.2.2.2.2.2.2.2.2.2.2.2.2.1, v18.2.2.2.2.2.2.2.2.2.2.2.2.2.2.2.2.2.2.2.2.2.2.2.2.2.2.1, v18.2.2.2.2.2.2.2.2.2.2.2.2.2.2.2.2.2.2.2.2.2.2.2.2.2.2.2.1, v18.2.2.2.2.2.2.2.2.2.2.2.2.2.2.2.2.2.2.2.2.2.2.2.2.2.2.2.2.1, v18.2.2.2.2.2.2.2.2.2.2.2.2.2.2.2.2.2.2.2.2.2.2.2.2.2.2.2.2.2.1, v18.2.2.2.2.2.2.2.2.2.2.2.2.2.2.2.2.2.2.2.2.2.2.2.2.2.2.2.2.2.2.1, v18.2.2.2.2.2.2.2.2.2.2.2.2.2.2.2.2.2.2.2.2.2.2.2.2.2.2.2.2.2.2.2.1, v18.2.2.2.2.2.2.2.2.2.2.2.2.2.2.2.2.2.2.2.2.2.2.2.2.2.2.2.2.2.2.2.2))) fun j6 =>
 req (0 ≤ v10.2.1 ∧ v10.2.1 < q2.2.1.length) <|
 req (v10.2.1.toNat < q2.2.1.length) <|
 req (0 ≤ v10.2.1 ∧ v10.2.1 < q2.2.2.length) <|
 req (v10.2.1.toNat < q2.2.2.length) <|
 bnd (Xhm (⟨(⟨v10.2.2.1, v10.2.2.2.1, v10.2.2.2.2.2.2.2.2.2.2.2.2.2.2.2.2.2.2.2.2.2.2.2.2.2.2.2.2.2.2.1, v10.2.2.2.2.2.2.2.2.2.2.2.2.2.2.2.2.2.2.2.2.2.2.2.2.2.2.2.2.2.2.2.1⟩ : Seq), (⟨v10.2.2.2.2.1, v10.2.2.2.2.2.1, v10.2.2.2.2.2.2.1, v10.2.2.2.2.2.2.2.1⟩ : Par), (⟨v10.2.2.2.2.2.2.2.2.1, v10.2.2.2.2.2.2.2.2.2.1, v10.2.2.2.2.2.2.2.2.2.2.1⟩ : Rate), v10.2.2.2.2.2.2.2.2.2.2.2.1, v10.2.2.2.2.2.2.2.2.2.2.2.2.1, v10.2.2.2.2.2.2.2.2.2.2.2.2.2.1, v10.2.2.2.2.2.2.2.2.2.2.2.2.2.2.1, v10.2.2.2.2.2.2.2.2.2.2.2.2.2.2.2.1, (⟨v10.2.2.2.2.2.2.2.2.2.2.2.2.2.2.2.2.1, v10.2.2.2.2.2.2.2.2.2.2.2.2.2.2.2.2.2.1, v10.2.2.2.2.2.2.2.2.2.2.2.2.2.2.2.2.2.2.1⟩ : Pic)⟩ : Xa5) (⟨(q2.2.1.getD v10.2.1.toNat Zbb).Wide, (q2.2.1.getD v10.2.1.toNat Zbb).High, (q2.2.1.getD v10.2.1.toNat Zbb).Dots⟩ : Pic) (q2.2.2.getD v10.2.1.toNat Yz3)) fun q19 =>
 sel (!q19.2.2) (
 some (.done (.ret false))) (
 sel (v10.2.1 == (Xaa .i64 (1 + ((q3.getD ((0 : Int).toNat) 0).tmod (Xaa .i64 ((q2.2.1.length : Int) - 1)))))) (
 j6 (false, q19.1.Seq.Level, q19.1.Seq.Bits, q19.1.Par.Qp, q19.1.Par.Large, q19.1.Par.Exact, q19.1.Par.Confined, q19.1.Rate.Qp, q19.1.Rate.Target, q19.1.Rate.Debt, q19.1.Frame, q19.1.Since, q19.1.Every, q19.1.Reach, q19.1.Has, q19.1.Ref.Wide, q19.1.Ref.High, q19.1.Ref.Dots, v10.2.2.2.2.2.2.2.2.2.2.2.2.2.2.2.2.2.2.2.1, v10.2.2.2.2.2.2.2.2.2.2.2.2.2.2.2.2.2.2.2.2.1, v10.2.2.2.2.2.2.2.2.2.2.2.2.2.2.2.2.2.2.2.2.2.1, v10.2.2.2.2.2.2.2.2.2.2.2.2.2.2.2.2.2.2.2.2.2.2.1, v10.2.2.2.2.2.2.2.2.2.2.2.2.2.2.2.2.2.2.2.2.2.2.2.1, v10.2.2.2.2.2.2.2.2.2.2.2.2.2.2.2.2.2.2.2.2.2.2.2.2.1, v10.2.2.2.2.2.2.2.2.2.2.2.2.2.2.2.2.2.2.2.2.2.2.2.2.2.1, v10.2.2.2.2.2.2.2.2.2.2.2.2.2.2.2.2.2.2.2.2.2.2.2.2.2.2.1, v10.2.2.2.2.2.2.2.2.2.2.2.2.2.2.2.2.2.2.2.2.2.2.2.2.2.2.2.1, v10.2.2.2.2.2.2.2.2.2.2.2.2.2.2.2.2.2.2.2.2.2.2.2.2.2.2.2.2.1, v10.2.2.2.2.2.2.2.2.2.2.2.2.2.2.2.2.2.2.2.2.2.2.2.2.2.2.2.2.2.1, q19.1.Seq.Cols, q19.1.Seq.Rows, v10.2.2.2.2.2.2.2.2.2.2.2.2.2.2.2.2.2.2.2.2.2.2.2.2.2.2.2.2.2.2.2.2.1, v10.2.2.2.2.2.2.2.2.2.2.2.2.2.2.2.2.2.2.2.2.2.2.2.2.2.2.2.2.2.2.2.2.2)) (
 req ((([] : List ByteArray).length + q19.2.1.length) * 16 ≤ 140737488355328 ∧ ([] : List ByteArray).length + q19.2.1.length ≤ maxLen) <|
 bnd (Xby (⟨v10.2.2.2.2.2.2.2.2.2.2.2.2.2.2.2.2.2.2.2.1, v10.2.2.2.2.2.2.2.2.2.2.2.2.2.2.2.2.2.2.2.2.1, (⟨v10.2.2.2.2.2.2.2.2.2.2.2.2.2.2.2.2.2.2.2.2.2.1, v10.2.2.2.2.2.2.2.2.2.2.2.2.2.2.2.2.2.2.2.2.2.2.1, v10.2.2.2.2.2.2.2.2.2.2.2.2.2.2.2.2.2.2.2.2.2.2.2.2.2.2.2.2.2.2.2.2.1, v10.2.2.2.2.2.2.2.2.2.2.2.2.2.2.2.2.2.2.2.2.2.2.2.2.2.2.2.2.2.2.2.2.2⟩ : Seq), (⟨v10.2.2.2.2.2.2.2.2.2.2.2.2.2.2.2.2.2.2.2.2.2.2.2.1, v10.2.2.2.2.2.2.2.2.2.2.2.2.2.2.2.2.2.2.2.2.2.2.2.2.1, v10.2.2.2.2.2.2.2.2.2.2.2.2.2.2.2.2.2.2.2.2.2.2.2.2.2.1, v10.2.2.2.2.2.2.2.2.2.2.2.2.2.2.2.2.2.2.2.2.2.2.2.2.2.2.1⟩ : Par), v10.2.2.2.2.2.2.2.2.2.2.2.2.2.2.2.2.2.2.2.2.2.2.2.2.2.2.2.1, v10.2.2.2.2.2.2.2.2.2.2.2.2.2.2.2.2.2.2.2.2.2.2.2.2.2.2.2.2.1, v10.2.2.2.2.2.2.2.2.2.2.2.2.2.2.2.2.2.2.2.2.2.2.2.2.2.2.2.2.2.1⟩ : Xdk) (([] : List ByteArray) ++ q19.2.1) q19.1.Par) fun q20 =>
 bnd (
 sel ((q19.2.1.length : Int) == 3) (
 some true) (
 some v10.1)) fun v21 =>
 bnd (
 sel ((q20.2.1 == 0) == v21) (
 sel (q20.1.Live == v21) (
 sel v21 (
 some false) (
 sel (q20.2.1 != 7) (
 some (q20.2.1 != 6)) (
 some false))) (
 some true)) (
 some true)) fun v22 =>
 sel v22 (
 some (.done (.ret false))) (
 j6 (v21, q19.1.Seq.Level, q19.1.Seq.Bits, q19.1.Par.Qp, q19.1.Par.Large, q19.1.Par.Exact, q19.1.Par.Confined, q19.1.Rate.Qp, q19.1.Rate.Target, q19.1.Rate.Debt, q19.1.Frame, q19.1.Since, q19.1.Every, q19.1.Reach, q19.1.Has, q19.1.Ref.Wide, q19.1.Ref.High, q19.1.Ref.Dots, q20.1.Has, q20.1.Live, q20.1.Seq.Level, q20.1.Seq.Bits, q20.1.Par.Qp, q20.1.Par.Large, q20.1.Par.Exact, q20.1.Par.Confined, q20.1.Frame, q20.1.Count, q20.1.Gone, q19.1.Seq.Cols, q19.1.Seq.Rows, q20.1.Seq.Cols, q20.1.Seq.Rows))))) (
 some (.done (.out (v10.2.2.2.2.2.2.2.2.2.2.2.2.2.2.2.2.2.2.2.1, v10.2.2.2.2.2.2.2.2.2.2.2.2.2.2.2.2.2.2.2.2.1, v10.2.2.2.2.2.2.2.2.2.2.2.2.2.2.2.2.2.2.2.2.2.1, v10.2.2.2.2.2.2.2.2.2.2.2.2.2.2.2.2.2.2.2.2.2.2.1, v10.2.2.2.2.2.2.2.2.2.2.2.2.2.2.2.2.2.2.2.2.2.2.2.1, v10.2.2.2.2.2.2.2.2.2.2.2.2.2.2.2.2.2.2.2.2.2.2.2.2.1, v10.2.2.2.2.2.2.2.2.2.2.2.2.2.2.2.2.2.2.2.2.2.2.2.2.2.1, v10.2.2.2.2.2.2.2.2.2.2.2.2.2.2.2.2.2.2.2.2.2.2.2.2.2.2.1, v10.2.2.2.2.2.2.2.2.2.2.2.2.2.2.2.2.2.2.2.2.2.2.2.2.2.2.2.1, v10.2.2.2.2.2.2.2.2.2.2.2.2.2.2.2.2.2.2.2.2.2.2.2.2.2.2.2.2.1, v10.2.2.2.2.2.2.2.2.2.2.2.2.2.2.2.2.2.2.2.2.2.2.2.2.2.2.2.2.2.1, v10.2.2.2.2.2.2.2.2.2.2.2.2.2.2.2.2.2.2.2.2.2.2.2.2.2.2.2.2.2.2.2.2.1, v10.2.2.2.2.2.2.2.2.2.2.2.2.2.2.2.2.2.2.2.2.2.2.2.2.2.2.2.2.2.2.2.2.2))))
def Xlb (p0 : (List Int)) : Option Bool :=
 bnd (Yfp p0) fun q1 =>
 sel q1 (
 some true) (
 bnd (Xi8 p0) fun q2 =>
 bnd (Xhy p0) fun q3 =>
 req (0 ≤ (0 : Int) ∧ (0 : Int) < q3.length) <|
 req ((0 : Int).toNat < q3.length) <|
 req ((Xaa .i64 ((q2.2.1.length : Int) - 1)) ≠ 0) <|
 bnd (loop (Xbp q2 q3) (true, 0, q2.1.Seq.Level, q2.1.Seq.Bits, q2.1.Par.Qp, q2.1.Par.Large, q2.1.Par.Exact, true, q2.1.Rate.Qp, q2.1.Rate.Target, q2.1.Rate.Debt, q2.1.Frame, q2.1.Since, q2.1.Every, q2.1.Reach, q2.1.Has, q2.1.Ref.Wide, q2.1.Ref.High, q2.1.Ref.Dots, false, false, 0, 0, 0, false, false, false, 0, 0, 0, q2.1.Seq.Cols, q2.1.Seq.Rows, [], [])) fun o23 => match o23 with
| .out v17 => (
 bnd (
 bnd (Xhe (⟨v17.1, v17.2.1, (⟨v17.2.2.1, v17.2.2.2.1, v17.2.2.2.2.2.2.2.2.2.2.2.1, v17.2.2.2.2.2.2.2.2.2.2.2.2⟩ : Seq), (⟨v17.2.2.2.2.1, v17.2.2.2.2.2.1, v17.2.2.2.2.2.2.1, v17.2.2.2.2.2.2.2.1⟩ : Par), v17.2.2.2.2.2.2.2.2.1, v17.2.2.2.2.2.2.2.2.2.1, v17.2.2.2.2.2.2.2.2.2.2.1⟩ : Xdk)) fun q25 =>
 sel q25 (
 some v17.1) (
 some false)) fun v24 =>
 some v24)
| .ret r => some r)
end
end Go.Proofs.YtnhflbeahbcklaaGreat.A
