/- What the functions that the law FnAdmits reaches compute, over numbers, texts and lists. Written by a program of this session. Conditions: none. -/
import Derived.Test.YtnhflbeahbcklaaGreatAL2
namespace Go.Proofs.YtnhflbeahbcklaaGreat.A
open Go Go.Proofs Go.Proofs.YtnhflbeahbcklaaGreatAL Go.RowKit
set_option linter.unusedVariables false
set_option linter.unusedSimpArgs false
structure Seq where
 Level : Int
 Bits : Int
 Cols : (List Int)
 Rows : (List Int)
structure Par where
 Qp : Int
 Large : Bool
 Exact : Bool
 Confined : Bool
structure Pic where
 Wide : Int
 High : Int
 Dots : ByteArray
structure Xve where
 Tile : Int
 Frame : Int
 Qp : Int
structure Rate where
 Qp : Int
 Target : Int
 Debt : Int
structure Xa3 where
 Seq : Seq
 Par : Par
 Rate : Rate
 Frame : Int
 Since : Int
 Every : Int
 Reach : Int
 Has : Bool
 Ref : Pic
structure Xea where
 Has : Bool
 Live : Bool
 Seq : Seq
 Par : Par
 Frame : Int
 Count : Int
 Gone : Int
structure Ybk where
 Key : Bool
 Qp : Int
 Row : ByteArray
structure Xyw where
 Left : Int
 Top : Int
 Wide : Int
 High : Int
structure Xer where
 Key : Bool
 Qp : Int
 Large : Bool
 Exact : Bool
structure Xnv where
 row_ : ByteArray
 at_ : Int
 bad_ : Bool
structure Xbl where
 b_ : (List Int)
 i_ : Int
 h_ : Int
structure Xam where
 Kind : Int
 Mode : Int
 Dx : Int
 Dy : Int
 Levels : (List Int)
structure Xi8 where
 Above : (List Int)
 Left : (List Int)
 Corner : Int
def Za6 : Bool := false
def Xb0 : ByteArray := ⟨#[]⟩
def Xgc : (List Int) := []
def Zad : Pic := ⟨0, 0, ⟨#[]⟩⟩
def Xme : Xam := ⟨0, 0, 0, 0, []⟩
noncomputable section
def Ygo (p0 : (List Int)) : Option Bool :=
 some (decide ((p0.length : Int) > 1048576))
def Xnq (p0 : (List Int)) (v3 : (Int × Int)) : Option (Lp (Int × Int) Int) :=
 bnd (
 sel (decide (v3.2 < (p0.length : Int))) (
 some (decide (v3.2 < 4000))) (
 some false)) fun v7 =>
 sel v7 (
 req (0 ≤ v3.2 ∧ v3.2 < p0.length) <|
 some (.go ((IntKind.wrap .i64 (BitVec.ofInt (IntKind.bits .i64) (Xaa .i64 ((Xaa .i64 ((Xaa .i64 (v3.1 * 131)) + (Xaa .i64 ((p0.getD v3.2.toNat 0))))) + 7)) &&& BitVec.ofInt (IntKind.bits .i64) 1073741823).toNat), Xaa .i64 (v3.2 + 1)))) (
 some (.done v3.1))
def Xna (p0 : (List Int)) : Option Xbl :=
 bnd (loop (Xnq p0) (Xaa .i64 (94701 + (p0.length : Int)), 0)) fun v6 =>
 some (⟨p0, 0, v6⟩ : Xbl)
def Xca (p0 : Xbl) : Option (Int × Xbl) :=
 req (0 ≤ (33 : Int)) <|
 req (0 ≤ (45 : Int)) <|
 bnd (
 sel (decide (p0.i_ < (p0.b_.length : Int))) (
 req (0 ≤ p0.i_ ∧ p0.i_ < p0.b_.length) <|
 some ((IntKind.wrap .i64 (BitVec.ofInt (IntKind.bits .i64) (Xaa .i64 ((IntKind.wrap .i64 (BitVec.ofInt (IntKind.bits .i64) (IntKind.wrap .i64 (BitVec.ofInt (IntKind.bits .i64) ((Xaa .i64 ((Xaa .i64 (p0.h_ * 6364136223846793005)) + 1442695040888963407)) / 2 ^ min (33 : Int).toNat (IntKind.bits .i64)) ^^^ BitVec.ofInt (IntKind.bits .i64) ((Xaa .i64 ((Xaa .i64 (p0.h_ * 6364136223846793005)) + 1442695040888963407)) / 2 ^ min (45 : Int).toNat (IntKind.bits .i64))).toNat) &&& BitVec.ofInt (IntKind.bits .i64) 255).toNat) + (Xaa .i64 ((p0.b_.getD p0.i_.toNat 0))))) &&& BitVec.ofInt (IntKind.bits .i64) 255).toNat), Xaa .i64 (p0.i_ + 1))) (
 some ((IntKind.wrap .i64 (BitVec.ofInt (IntKind.bits .i64) (IntKind.wrap .i64 (BitVec.ofInt (IntKind.bits .i64) ((Xaa .i64 ((Xaa .i64 (p0.h_ * 6364136223846793005)) + 1442695040888963407)) / 2 ^ min (33 : Int).toNat (IntKind.bits .i64)) ^^^ BitVec.ofInt (IntKind.bits .i64) ((Xaa .i64 ((Xaa .i64 (p0.h_ * 6364136223846793005)) + 1442695040888963407)) / 2 ^ min (45 : Int).toNat (IntKind.bits .i64))).toNat) &&& BitVec.ofInt (IntKind.bits .i64) 255).toNat), p0.i_))) fun v1 =>
 some (v1.1, (⟨p0.b_, v1.2, Xaa .i64 ((Xaa .i64 (p0.h_ * 6364136223846793005)) + 1442695040888963407)⟩ : Xbl))
def Xa1 (p0 : Xbl) (p1 : Int) : Option (Int × Xbl) :=
 sel (decide (p1 ≤ 0)) (
 some (0, p0)) (
 sel (decide (p1 ≤ 256)) (
 bnd (Xca p0) fun q1 =>
 req (p1 ≠ 0) <|
 some ((q1.1.tmod p1), q1.2)) (
 bnd (Xca p0) fun q2 =>
 bnd (Xca q2.2) fun q3 =>
 bnd (Xca q3.2) fun q4 =>
 bnd (Xca q4.2) fun q5 =>
 req (p1 ≠ 0) <|
 some (((Xaa .i64 ((Xaa .i64 ((Xaa .i64 ((Xaa .i64 (q2.1 * 16777216)) + (Xaa .i64 (q3.1 * 65536)))) + (Xaa .i64 (q4.1 * 256)))) + q5.1)).tmod p1), q5.2)))
def Xf8 (p0 : Xbl) (p1 : Int) : Option (Bool × Xbl) :=
 bnd (Xa1 p0 p1) fun q1 =>
 some ((q1.1 == 0), q1.2)
def Xgy (p0 : Xbl) : Option (Par × Xbl) :=
 bnd (Xa1 p0 41) fun q1 =>
 bnd (Xf8 q1.2 4) fun q2 =>
 bnd (
 bnd (Xa1 q2.2 3) fun q4 =>
 sel (q4.1 == 0) (
 some (true, false, q4.2.b_, q4.2.i_, q4.2.h_)) (
 sel (q4.1 == 1) (
 some (false, true, q4.2.b_, q4.2.i_, q4.2.h_)) (
 some (false, false, q4.2.b_, q4.2.i_, q4.2.h_)))) fun v3 =>
 some ((⟨q1.1, v3.1, v3.2.1, (!q2.1)⟩ : Par), (⟨v3.2.2.1, v3.2.2.2.1, v3.2.2.2.2⟩ : Xbl))
def Xan (p0 : Int) (p1 : Int) (p2 : Int) : Option Bool :=
 bnd (
 sel (decide (p0 ≥ p1)) (
 some (decide (p0 ≤ p2))) (
 some false)) fun v1 =>
 some v1
def Xhd (p0 : (List Int)) (v4 : (Int × Int)) : Option (Lp (Int × Int) (Ou Int Int)) :=
 sel (decide (v4.2 < (p0.length : Int))) (
 req (0 ≤ v4.2 ∧ v4.2 < p0.length) <|
 bnd (Xan (p0.getD v4.2.toNat 0) 1 8) fun q8 =>
 sel (!q8) (
 some (.done (.ret 0))) (
 req (0 ≤ v4.2 ∧ v4.2 < p0.length) <|
 some (.go (Xaa .i64 (v4.1 + (p0.getD v4.2.toNat 0)), Xaa .i64 (v4.2 + 1))))) (
 some (.done (.out v4.1)))
def Xii (p0 : (List Int)) : Option Int :=
 bnd (
 sel (decide ((p0.length : Int) < 1)) (
 some true) (
 some (decide ((p0.length : Int) > 4)))) fun v1 =>
 sel v1 (
 some 0) (
 bnd (loop (Xhd p0) (0, 0)) fun o9 => match o9 with
| .out v7 => (
 some v7)
| .ret r => some r)
def Xjq (p0 : Seq) : Option Int :=
 bnd (Xii p0.Cols) fun q1 =>
 bnd (Xii p0.Rows) fun q2 =>
 some (Xaa .i64 (q1 * q2))
def Xfy (p0 : Int) : Option Int :=
 sel (p0 == 1) (
 some 16) (
 sel (p0 == 2) (
 some 64) (
 sel (p0 == 3) (
 some 256) (
 some 0)))
def Xm6 (p0 : Seq) : Option Bool :=
 bnd (
 bnd (Xjq p0) fun q2 =>
 bnd (Xfy p0.Level) fun q3 =>
 bnd (Xan q2 1 q3) fun q4 =>
 sel q4 (
 bnd (Xan p0.Bits 3 8) fun q5 =>
 some q5) (
 some false)) fun v1 =>
 some v1
def Xkw (p0 : Seq) : Option Int :=
 bnd (Xm6 p0) fun q1 =>
 sel (!q1) (
 some 0) (
 some (Xaa .i64 ((p0.Cols.length : Int) * (p0.Rows.length : Int))))
def Xsc (p0 : Par) : Option Bool :=
 bnd (
 bnd (Xan p0.Qp 0 40) fun q2 =>
 sel q2 (
 sel p0.Large (
 some (!p0.Exact)) (
 some true)) (
 some false)) fun v1 =>
 some v1
def Xhk (v5 : (Int × (List Int) × Int × Int × (List Int))) : Option (Lp (Int × (List Int) × Int × Int × (List Int)) (List Int)) :=
 sel (decide (v5.1 < 12)) (
 bnd (Xa1 (⟨v5.2.1, v5.2.2.1, v5.2.2.2.1⟩ : Xbl) 10000) fun q9 =>
 req ((v5.2.2.2.2.length + ([q9.1]).length) * 8 ≤ 140737488355328 ∧ v5.2.2.2.2.length + ([q9.1]).length ≤ maxLen) <|
 some (.go (Xaa .i64 (v5.1 + 1), q9.2.b_, q9.2.i_, q9.2.h_, (v5.2.2.2.2 ++ ([q9.1]))))) (
 some (.done v5.2.2.2.2))
def Xid (p0 : (List Int)) : Option (List Int) :=
 bnd (Xna p0) fun q1 =>
 bnd (Xca q1) fun q2 =>
 bnd (loop (Xhk) (0, q2.2.b_, q2.2.i_, q2.2.h_, ([] : List Int))) fun v8 =>
 some v8
def Xdu (p0 : (List Int)) : Option (List Int) :=
 req ((([] : List Int).length + p0.length) * 8 ≤ 140737488355328 ∧ ([] : List Int).length + p0.length ≤ maxLen) <|
 some (([] : List Int) ++ p0)
def Xh4 (p0 : Seq) : Option Seq :=
 bnd (Xdu p0.Cols) fun q1 =>
 bnd (Xdu p0.Rows) fun q2 =>
 some (⟨p0.Level, p0.Bits, q1, q2⟩ : Seq)
def Xn2 (p0 : Seq) : Option Bool :=
 bnd (
 sel (p0.Level == 0) (
 sel (p0.Bits == 0) (
 sel ((p0.Cols.length : Int) == 0) (
 some ((p0.Rows.length : Int) == 0)) (
 some false)) (
 some false)) (
 some false)) fun v1 =>
 some v1
def Xak (p0 : Int) (p1 : Int) (p2 : Int) : Option Bool :=
 bnd (
 sel (decide (p0 ≥ p1)) (
 some (decide (p0 ≤ p2))) (
 some false)) fun v1 =>
 some v1
def Xdv (p0 : (List Int)) (v2 : (Int × Int)) : Option (Lp (Int × Int) Int) :=
 sel (decide (v2.2 < (p0.length : Int))) (
 req (0 ≤ v2.2 ∧ v2.2 < p0.length) <|
 some (.go (Xaa .i64 (v2.1 + (p0.getD v2.2.toNat 0)), Xaa .i64 (v2.2 + 1)))) (
 some (.done v2.1))
def Xcl (p0 : (List Int)) : Option Int :=
 bnd (loop (Xdv p0) (0, 0)) fun v4 =>
 some v4
def Xcp (p0 : Seq) (v11 : Int) (v26 : Int) : Option (Lp Int (Ou Unit Int)) :=
 sel (decide (v26 < ((([p0.Cols, p0.Rows]).getD v11.toNat Xgc).length : Int))) (
 req (0 ≤ v26 ∧ v26 < (([p0.Cols, p0.Rows]).getD v11.toNat Xgc).length) <|
 bnd (Xak ((([p0.Cols, p0.Rows]).getD v11.toNat Xgc).getD v26.toNat 0) 1 8) fun q30 =>
 sel (!q30) (
 some (.done (.ret 0))) (
 some (.go (Xaa .i64 (v26 + 1))))) (
 some (.done (.out ())))
def Xdl (p0 : Seq) (v11 : Int) : Option (Lp Int (Ou Unit Int)) :=
 sel (decide (v11 < (([p0.Cols, p0.Rows]).length : Int))) (
 req (0 ≤ v11 ∧ v11 < ([p0.Cols, p0.Rows]).length) <|
 req (v11.toNat < ([p0.Cols, p0.Rows]).length) <|
 bnd (Xak ((([p0.Cols, p0.Rows]).getD v11.toNat Xgc).length : Int) 1 4) fun q23 =>
 sel (!q23) (
 some (.done (.ret 0))) (
 bnd (loop (Xcp p0 v11) 0) fun o31 => match o31 with
| .out v29 => (
 some (.go (Xaa .i64 (v11 + 1))))
| .ret r => some (.done (.ret r)))) (
 some (.done (.out ())))
def Xd1 (p0 : Seq) : Option Int :=
 bnd (loop (Xdl p0) 0) fun o32 => match o32 with
| .out v22 => (
 bnd (Xcl p0.Cols) fun q33 =>
 bnd (Xcl p0.Rows) fun q34 =>
 some (Xaa .i64 (q33 * q34)))
| .ret r => some r
def Xfn (p0 : Int) : Option Int :=
 bnd (Xak p0 1 3) fun q1 =>
 sel (!q1) (
 some 0) (
 req (0 ≤ (Xaa .i64 (p0 - 1)) ∧ (Xaa .i64 (p0 - 1)) < ([16, 64, 256]).length) <|
 req ((Xaa .i64 (p0 - 1)).toNat < ([16, 64, 256]).length) <|
 some (([16, 64, 256]).getD ((Xaa .i64 (p0 - 1)).toNat) 0))
def Xg2 (p0 : Seq) : Option Bool :=
 bnd (
 bnd (Xd1 p0) fun q2 =>
 bnd (Xfn p0.Level) fun q3 =>
 bnd (Xak q2 1 q3) fun q4 =>
 sel q4 (
 bnd (Xak p0.Bits 3 8) fun q5 =>
 some q5) (
 some false)) fun v1 =>
 some v1
def Xd6 (p0 : Par) : Option Bool :=
 bnd (
 bnd (Xak p0.Qp 0 40) fun q2 =>
 sel q2 (
 sel p0.Large (
 some (!p0.Exact)) (
 some true)) (
 some false)) fun v1 =>
 some v1
def Xd2 (p0 : Seq) : Option Int :=
 bnd (Xg2 p0) fun q1 =>
 sel (!q1) (
 some 0) (
 some (Xaa .i64 ((p0.Cols.length : Int) * (p0.Rows.length : Int))))
def Xmo (p0 : Seq) : Option (Int × Int) :=
 bnd (Xg2 p0) fun q1 =>
 sel (!q1) (
 some (0, 0)) (
 bnd (Xcl p0.Cols) fun q2 =>
 bnd (Xcl p0.Rows) fun q3 =>
 some (Xaa .i64 (8 * q2), Xaa .i64 (8 * q3)))
def Xb2 (p0 : Pic) : Option Bool :=
 bnd (
 bnd (Xak p0.Wide 1 256) fun q2 =>
 sel q2 (
 bnd (Xak p0.High 1 256) fun q3 =>
 sel q3 (
 some ((p0.Dots.size : Int) == (Xaa .i64 (p0.Wide * p0.High)))) (
 some false)) (
 some false)) fun v1 =>
 some v1
def Xrs (p0 : Pic) (p1 : Seq) : Option Bool :=
 bnd (Xmo p1) fun q1 =>
 bnd (
 bnd (Xb2 p0) fun q3 =>
 sel q3 (
 sel (p0.Wide == q1.1) (
 some (p0.High == q1.2)) (
 some false)) (
 some false)) fun v2 =>
 some v2
def Xmu (p0 : Int) : Option Bool :=
 bnd (
 sel (p0 == 1) (
 some true) (
 sel (p0 == 5) (
 some true) (
 sel (p0 == 7) (
 some true) (
 some (p0 == 8))))) fun v1 =>
 some v1
def Xet (p0 : ByteArray) (v3 : (Int × (List Int))) : Option (Lp (Int × (List Int)) (List Int)) :=
 sel (decide (v3.1 < (Xaa .i64 (8 * (p0.size : Int))))) (
 req ((8 : Int) ≠ 0) <|
 req (0 ≤ (Xaa .i64 (v3.1.tdiv 8)) ∧ (Xaa .i64 (v3.1.tdiv 8)) < p0.size) <|
 req ((8 : Int) ≠ 0) <|
 req (0 ≤ (Xaa .i64 (7 - (v3.1.tmod 8)))) <|
 req ((v3.2.length + ([Xaa .u8 (48 + (IntKind.wrap .u8 (BitVec.ofInt (IntKind.bits .u8) ((Xwm p0 (Xaa .i64 (v3.1.tdiv 8))) / 2 ^ min (Xaa .i64 (7 - (v3.1.tmod 8))).toNat (IntKind.bits .u8)) &&& BitVec.ofInt (IntKind.bits .u8) 1).toNat))]).length) * 1 ≤ 140737488355328 ∧ v3.2.length + ([Xaa .u8 (48 + (IntKind.wrap .u8 (BitVec.ofInt (IntKind.bits .u8) ((Xwm p0 (Xaa .i64 (v3.1.tdiv 8))) / 2 ^ min (Xaa .i64 (7 - (v3.1.tmod 8))).toNat (IntKind.bits .u8)) &&& BitVec.ofInt (IntKind.bits .u8) 1).toNat))]).length ≤ maxLen) <|
 some (.go (Xaa .i64 (v3.1 + 1), (v3.2 ++ ([Xaa .u8 (48 + (IntKind.wrap .u8 (BitVec.ofInt (IntKind.bits .u8) ((Xwm p0 (Xaa .i64 (v3.1.tdiv 8))) / 2 ^ min (Xaa .i64 (7 - (v3.1.tmod 8))).toNat (IntKind.bits .u8)) &&& BitVec.ofInt (IntKind.bits .u8) 1).toNat))]))))) (
 some (.done v3.2))
def Xeu (v5 : (List Int)) (v8 : Int) : Option (Lp Int Int) :=
 req (0 ≤ (Xaa .i64 (v8 - 1)) ∧ (Xaa .i64 (v8 - 1)) < v5.length) <|
 req ((Xaa .i64 (v8 - 1)).toNat < v5.length) <|
 sel ((v5.getD ((Xaa .i64 (v8 - 1)).toNat) 0) == 48) (
 some (.go (Xaa .i64 (v8 - 1)))) (
 some (.done v8))
def Xk5 (p0 : ByteArray) : Option (ByteArray × Bool) :=
 bnd (
 sel ((Xaa .i64 (8 * (p0.size : Int))) == 0) (
 some true) (
 req (0 ≤ (Xaa .i64 ((p0.size : Int) - 1)) ∧ (Xaa .i64 ((p0.size : Int) - 1)) < p0.size) <|
 sel ((Xwm p0 (Xaa .i64 ((p0.size : Int) - 1))) == 0) (
 some true) (
 some (decide ((Xaa .i64 (8 * (p0.size : Int))) > 400008))))) fun v1 =>
 sel v1 (
 some (⟨#[]⟩, false)) (
 req (0 ≤ (0 : Int) ∧ (0 : Int) ≤ (Xaa .i64 (8 * (p0.size : Int))) ∧ (Xaa .i64 (8 * (p0.size : Int))) * 1 ≤ 281474976710656) <|
 bnd (loop (Xet p0) (0, (List.replicate (0 : Int).toNat (0 : Int)))) fun v5 =>
 bnd (loop (Xeu v5) (Xaa .i64 (8 * (p0.size : Int)))) fun v10 =>
 sel (decide ((Xaa .i64 (v10 - 1)) > 400000)) (
 some (⟨#[]⟩, false)) (
 req (0 ≤ (0 : Int) ∧ (0 : Int) ≤ (Xaa .i64 (v10 - 1)) ∧ (Xaa .i64 (v10 - 1)) ≤ (v5.length : Int)) <|
 req ((0 : Int).toNat + ((Xaa .i64 (v10 - 1)).toNat - (0 : Int).toNat) ≤ v5.length) <|
 some ((strOfNums ((v5.drop ((0 : Int).toNat)).take ((Xaa .i64 (v10 - 1)).toNat - (0 : Int).toNat))), true)))
def Xmq (p0 : ByteArray) : Option (Int × ByteArray × Bool) :=
 bnd (
 sel (p0.toList == (⟨#[]⟩ : ByteArray).toList) (
 some true) (
 req (0 ≤ (0 : Int) ∧ (0 : Int) < p0.size) <|
 bnd (Xmu (Xaa .i64 ((Xwm p0 (0 : Int))))) fun q2 =>
 some (!q2))) fun v1 =>
 sel v1 (
 some (0, ⟨#[]⟩, false)) (
 req (0 ≤ (1 : Int) ∧ (1 : Int) ≤ (p0.size : Int) ∧ (p0.size : Int) ≤ (p0.size : Int)) <|
 bnd (Xk5 (p0.extract (1 : Int).toNat (p0.size : Int).toNat)) fun q3 =>
 sel (!q3.2) (
 some (0, ⟨#[]⟩, false)) (
 req (0 ≤ (0 : Int) ∧ (0 : Int) < p0.size) <|
 some (Xaa .i64 ((Xwm p0 (0 : Int))), q3.1, true)))
def Xlb (p0 : ByteArray) (v3 : Int) : Option (Lp Int (Ou Unit Bool)) :=
 sel (decide (v3 < (p0.size : Int))) (
 bnd (
 req (0 ≤ v3 ∧ v3 < p0.size) <|
 sel ((Xwm p0 v3) != 48) (
 req (0 ≤ v3 ∧ v3 < p0.size) <|
 some ((Xwm p0 v3) != 49)) (
 some false)) fun v7 =>
 sel v7 (
 some (.done (.ret false))) (
 some (.go (Xaa .i64 (v3 + 1))))) (
 some (.done (.out ())))
def Xpd (p0 : ByteArray) : Option Bool :=
 sel (decide ((p0.size : Int) > 400000)) (
 some false) (
 bnd (loop (Xlb p0) 0) fun o8 => match o8 with
| .out v6 => (
 some true)
| .ret r => some r)
def Xh5 (p0 : ByteArray) (p1 : Int) : Option Xnv :=
 bnd (
 bnd (Xpd p0) fun q2 =>
 sel q2 (
 bnd (Xak p1 0 (p0.size : Int)) fun q3 =>
 some (!q3)) (
 some true)) fun v1 =>
 some (⟨p0, p1, v1⟩ : Xnv)
def Xgu (p0 : Xnv) (p1 : Int) (v3 : (Int × Int)) : Option (Lp (Int × Int) Int) :=
 sel (decide (v3.2 < p1)) (
 req (0 ≤ (1 : Int)) <|
 req (0 ≤ (Xaa .i64 (p0.at_ + v3.2)) ∧ (Xaa .i64 (p0.at_ + v3.2)) < p0.row_.size) <|
 some (.go ((IntKind.wrap .i64 (BitVec.ofInt (IntKind.bits .i64) (Xaa .i64 (v3.1 * 2 ^ min (1 : Int).toNat (IntKind.bits .i64))) ||| BitVec.ofInt (IntKind.bits .i64) (Xaa .i64 (Xaa .u8 ((Xwm p0.row_ (Xaa .i64 (p0.at_ + v3.2))) - 48)))).toNat), Xaa .i64 (v3.2 + 1)))) (
 some (.done v3.1))
def Xcq (p0 : Xnv) (p1 : Int) : Option (Int × Xnv) :=
 bnd (
 sel p0.bad_ (
 some true) (
 some (decide ((Xaa .i64 ((p0.row_.size : Int) - p0.at_)) < p1)))) fun v1 =>
 sel v1 (
 some (0, (⟨p0.row_, p0.at_, true⟩ : Xnv))) (
 bnd (loop (Xgu p0 p1) (0, 0)) fun v5 =>
 some (v5, (⟨p0.row_, Xaa .i64 (p0.at_ + p1), p0.bad_⟩ : Xnv)))
def Xh6 (p0 : Xnv) (v3 : Int) : Option (Lp Int Int) :=
 bnd (
 sel p0.bad_ (
 some false) (
 sel (decide ((Xaa .i64 (p0.at_ + v3)) < (p0.row_.size : Int))) (
 req (0 ≤ (Xaa .i64 (p0.at_ + v3)) ∧ (Xaa .i64 (p0.at_ + v3)) < p0.row_.size) <|
 some ((Xwm p0.row_ (Xaa .i64 (p0.at_ + v3))) == 48)) (
 some false))) fun v7 =>
 sel v7 (
 some (.go (Xaa .i64 (v3 + 1)))) (
 some (.done v3))
def Xbu (p0 : Xnv) : Option (Int × Xnv) :=
 bnd (loop (Xh6 p0) 0) fun v6 =>
 bnd (
 sel (decide (v6 > 20)) (
 some true) (
 some p0.bad_)) fun v9 =>
 bnd (Xcq (⟨p0.row_, p0.at_, v9⟩ : Xnv) (Xaa .i64 ((Xaa .i64 (2 * v6)) + 1))) fun q10 =>
 bnd (
 sel q10.2.bad_ (
 some true) (
 some (decide ((Xaa .i64 (q10.1 - 1)) > 1000000)))) fun v11 =>
 sel v11 (
 some (0, (⟨q10.2.row_, q10.2.at_, true⟩ : Xnv))) (
 some (Xaa .i64 (q10.1 - 1), q10.2))
def Xfq (q1 : (Int × Xnv)) (v6 : (Int × ByteArray × Int × Bool × (List Int))) : Option (Lp (Int × ByteArray × Int × Bool × (List Int)) ((List Int) × ByteArray × Int × Bool)) :=
 bnd (
 sel (decide (v6.1 < q1.1)) (
 some (!v6.2.2.2.1)) (
 some false)) fun v11 =>
 sel v11 (
 bnd (Xbu (⟨v6.2.1, v6.2.2.1, v6.2.2.2.1⟩ : Xnv)) fun q12 =>
 req ((v6.2.2.2.2.length + ([q12.1]).length) * 8 ≤ 140737488355328 ∧ v6.2.2.2.2.length + ([q12.1]).length ≤ maxLen) <|
 some (.go (Xaa .i64 (v6.1 + 1), q12.2.row_, q12.2.at_, q12.2.bad_, (v6.2.2.2.2 ++ ([q12.1]))))) (
 some (.done (v6.2.2.2.2, v6.2.1, v6.2.2.1, v6.2.2.2.1)))
def Xg7 (p0 : Xnv) : Option ((List Int) × Xnv) :=
 bnd (Xbu p0) fun q1 =>
 bnd (
 sel (decide (q1.1 > 4)) (
 some true) (
 some q1.2.bad_)) fun v2 =>
 bnd (loop (Xfq q1) (0, q1.2.row_, q1.2.at_, v2, ([] : List Int))) fun v10 =>
 some (v10.1, (⟨v10.2.1, v10.2.2.1, v10.2.2.2⟩ : Xnv))
def Xkj (p0 : ByteArray) (p1 : Int) : Option (Seq × Int × Bool) :=
 bnd (Xh5 p0 p1) fun q1 =>
 bnd (Xbu q1) fun q2 =>
 bnd (Xcq q2.2 4) fun q3 =>
 bnd (Xg7 q3.2) fun q4 =>
 bnd (Xg7 q4.2) fun q5 =>
 bnd (
 sel q5.2.bad_ (
 some true) (
 bnd (Xg2 (⟨q2.1, q3.1, q4.1, q5.1⟩ : Seq)) fun q7 =>
 some (!q7))) fun v6 =>
 sel v6 (
 some ((⟨0, 0, [], []⟩ : Seq), 0, false)) (
 some ((⟨q2.1, q3.1, q4.1, q5.1⟩ : Seq), q5.2.at_, true))
def Xki (p0 : ByteArray) (p1 : Int) : Option (Par × Int × Bool) :=
 bnd (Xh5 p0 p1) fun q1 =>
 bnd (Xcq q1 6) fun q2 =>
 bnd (Xcq q2.2 1) fun q3 =>
 bnd (Xcq q3.2 1) fun q4 =>
 bnd (Xcq q4.2 1) fun q5 =>
 bnd (
 sel q5.2.bad_ (
 some true) (
 bnd (Xd6 (⟨q2.1, (q3.1 == 1), (q4.1 == 1), (q5.1 == 1)⟩ : Par)) fun q7 =>
 some (!q7))) fun v6 =>
 sel v6 (
 some ((⟨0, false, false, false⟩ : Par), 0, false)) (
 some ((⟨q2.1, (q3.1 == 1), (q4.1 == 1), (q5.1 == 1)⟩ : Par), q5.2.at_, true))
def Xpp (p0 : Int) : Option (Int × Bool) :=
 bnd (Xak p0 0 1000000) fun q1 =>
 sel (!q1) (
 some (0, false)) (
 req ((2 : Int) ≠ 0) <|
 sel ((p0.tmod 2) == 1) (
 req ((2 : Int) ≠ 0) <|
 some (Xaa .i64 ((Xaa .i64 (p0 + 1)).tdiv 2), true)) (
 req ((2 : Int) ≠ 0) <|
 some (Xaa .i64 ((Xaa .i64 (0 - p0)).tdiv 2), true)))
def Xd4 (p0 : Xnv) : Option (Int × Xnv) :=
 bnd (Xbu p0) fun q1 =>
 bnd (Xpp q1.1) fun q2 =>
 bnd (
 sel q1.2.bad_ (
 some true) (
 some (!q2.2))) fun v3 =>
 some (q2.1, (⟨q1.2.row_, q1.2.at_, v3⟩ : Xnv))
def Xmh (p0 : Seq) (p1 : Par) (p2 : Xve) : Option Bool :=
 bnd (
 bnd (Xg2 p0) fun q2 =>
 sel q2 (
 bnd (Xd6 p1) fun q3 =>
 sel q3 (
 bnd (Xd2 p0) fun q4 =>
 bnd (Xak p2.Tile 0 (Xaa .i64 (q4 - 1))) fun q5 =>
 sel q5 (
 req (0 ≤ p0.Bits) <|
 bnd (Xak p2.Frame 0 (Xaa .i64 ((Xaa .i64 (1 * 2 ^ min p0.Bits.toNat (IntKind.bits .i64))) - 1))) fun q6 =>
 sel q6 (
 bnd (Xak p2.Qp 0 40) fun q7 =>
 some q7) (
 some false)) (
 some false)) (
 some false)) (
 some false)) fun v1 =>
 some v1
def Xgf (p0 : Seq) (p1 : Par) (p2 : ByteArray) : Option (Xve × Int × Bool) :=
 bnd (Xh5 p2 0) fun q1 =>
 bnd (
 bnd (Xg2 p0) fun q3 =>
 sel q3 (
 bnd (Xd6 p1) fun q4 =>
 some (!q4)) (
 some true)) fun v2 =>
 sel v2 (
 some ((⟨0, 0, 0⟩ : Xve), 0, false)) (
 bnd (Xbu q1) fun q5 =>
 bnd (Xcq q5.2 p0.Bits) fun q6 =>
 bnd (Xd4 q6.2) fun q7 =>
 bnd (
 sel q7.2.bad_ (
 some true) (
 bnd (Xmh p0 p1 (⟨q5.1, q6.1, Xaa .i64 (q7.1 + p1.Qp)⟩ : Xve)) fun q9 =>
 some (!q9))) fun v8 =>
 sel v8 (
 some ((⟨0, 0, 0⟩ : Xve), 0, false)) (
 some ((⟨q5.1, q6.1, Xaa .i64 (q7.1 + p1.Qp)⟩ : Xve), q7.2.at_, true)))
def Xlf (p0 : Seq) (p1 : Int) : Option (Xyw × Bool) :=
 bnd (Xd2 p0) fun q1 =>
 bnd (Xak p1 0 (Xaa .i64 (q1 - 1))) fun q2 =>
 sel (!q2) (
 some ((⟨0, 0, 0, 0⟩ : Xyw), false)) (
 req ((p0.Cols.length : Int) ≠ 0) <|
 req ((p0.Cols.length : Int) ≠ 0) <|
 req (0 ≤ (0 : Int) ∧ (0 : Int) ≤ (p1.tmod (p0.Cols.length : Int)) ∧ (p1.tmod (p0.Cols.length : Int)) ≤ (p0.Cols.length : Int)) <|
 bnd (Xcl ((p0.Cols.drop (0 : Int).toNat).take ((p1.tmod (p0.Cols.length : Int)).toNat - (0 : Int).toNat))) fun q3 =>
 req (0 ≤ (0 : Int) ∧ (0 : Int) ≤ (Xaa .i64 (p1.tdiv (p0.Cols.length : Int))) ∧ (Xaa .i64 (p1.tdiv (p0.Cols.length : Int))) ≤ (p0.Rows.length : Int)) <|
 bnd (Xcl ((p0.Rows.drop (0 : Int).toNat).take ((Xaa .i64 (p1.tdiv (p0.Cols.length : Int))).toNat - (0 : Int).toNat))) fun q4 =>
 req (0 ≤ (p1.tmod (p0.Cols.length : Int)) ∧ (p1.tmod (p0.Cols.length : Int)) < p0.Cols.length) <|
 req (0 ≤ (Xaa .i64 (p1.tdiv (p0.Cols.length : Int))) ∧ (Xaa .i64 (p1.tdiv (p0.Cols.length : Int))) < p0.Rows.length) <|
 some ((⟨Xaa .i64 (8 * q3), Xaa .i64 (8 * q4), Xaa .i64 (8 * (p0.Cols.getD (p1.tmod (p0.Cols.length : Int)).toNat 0)), Xaa .i64 (8 * (p0.Rows.getD (Xaa .i64 (p1.tdiv (p0.Cols.length : Int))).toNat 0))⟩ : Xyw), true))
def Xdn (p0 : Xer) : Option Bool :=
 bnd (
 bnd (Xak p0.Qp 0 40) fun q2 =>
 sel q2 (
 sel p0.Large (
 some (!p0.Exact)) (
 some true)) (
 some false)) fun v1 =>
 some v1
def Xfr (p1 : Int) (v8 : (Int × Int × ByteArray × Int × Bool × (List Int))) : Option (Lp (Int × Int × ByteArray × Int × Bool × (List Int)) ((List Int) × ByteArray × Int × Bool)) :=
 bnd (
 sel (decide (v8.2.1 > 0)) (
 some (!v8.2.2.2.2.1)) (
 some false)) fun v16 =>
 sel v16 (
 bnd (Xbu (⟨v8.2.2.1, v8.2.2.2.1, v8.2.2.2.2.1⟩ : Xnv)) fun q17 =>
 bnd (Xd4 q17.2) fun q18 =>
 bnd (
 sel (decide ((Xaa .i64 (v8.1 + q17.1)) ≥ p1)) (
 some true) (
 sel (q18.1 == 0) (
 some true) (
 bnd (Xak q18.1 (-5000) 5000) fun q20 =>
 some (!q20)))) fun v19 =>
 sel v19 (
 some (.done (v8.2.2.2.2.2, q18.2.row_, q18.2.at_, true))) (
 req (0 ≤ (Xaa .i64 (v8.1 + q17.1)) ∧ (Xaa .i64 (v8.1 + q17.1)) < v8.2.2.2.2.2.length) <|
 req ((Xaa .i64 (v8.1 + q17.1)).toNat < v8.2.2.2.2.2.length) <|
 some (.go (Xaa .i64 ((Xaa .i64 (v8.1 + q17.1)) + 1), Xaa .i64 (v8.2.1 - 1), q18.2.row_, q18.2.at_, q18.2.bad_, (v8.2.2.2.2.2.set ((Xaa .i64 (v8.1 + q17.1)).toNat) q18.1))))) (
 some (.done (v8.2.2.2.2.2, v8.2.2.1, v8.2.2.2.1, v8.2.2.2.2.1)))
def Xg8 (p0 : Xnv) (p1 : Int) : Option ((List Int) × Xnv) :=
 req (0 ≤ p1 ∧ p1 ≤ p1 ∧ p1 * 8 ≤ 281474976710656) <|
 bnd (Xbu p0) fun q1 =>
 bnd (loop (Xfr p1) (0, q1.1, q1.2.row_, q1.2.at_, q1.2.bad_, (List.replicate p1.toNat (0 : Int)))) fun v15 =>
 some (v15.1, (⟨v15.2.1, v15.2.2.1, v15.2.2.2⟩ : Xnv))
def Xcj (v5 : (Int × ByteArray × Int × Bool × (List Int))) : Option (Lp (Int × ByteArray × Int × Bool × (List Int)) ((List Int) × ByteArray × Int × Bool)) :=
 sel (decide (v5.1 < 4)) (
 bnd (Xg8 (⟨v5.2.1, v5.2.2.1, v5.2.2.2.1⟩ : Xnv) 16) fun q9 =>
 req ((v5.2.2.2.2.length + q9.1.length) * 8 ≤ 140737488355328 ∧ v5.2.2.2.2.length + q9.1.length ≤ maxLen) <|
 some (.go (Xaa .i64 (v5.1 + 1), q9.2.row_, q9.2.at_, q9.2.bad_, (v5.2.2.2.2 ++ q9.1)))) (
 some (.done (v5.2.2.2.2, v5.2.1, v5.2.2.1, v5.2.2.2.1)))
def Xcz (p0 : Xnv) (p1 : Xer) : Option ((List Int) × Xnv) :=
 bnd (
 sel p1.Large (
 some true) (
 some p1.Exact)) fun v1 =>
 sel v1 (
 bnd (Xg8 p0 64) fun q2 =>
 some (q2.1, q2.2)) (
 bnd (loop (Xcj) (0, p0.row_, p0.at_, p0.bad_, ([] : List Int))) fun v8 =>
 some (v8.1, (⟨v8.2.1, v8.2.2.1, v8.2.2.2⟩ : Xnv)))
def Xlh (p0 : (List Int)) (p2 : Int) (p3 : Int) (v3 : Int) : Option (Lp Int (Ou Unit Bool)) :=
 sel (decide (v3 < (p0.length : Int))) (
 req (0 ≤ v3 ∧ v3 < p0.length) <|
 bnd (Xak (p0.getD v3.toNat 0) p2 p3) fun q7 =>
 sel (!q7) (
 some (.done (.ret false))) (
 some (.go (Xaa .i64 (v3 + 1))))) (
 some (.done (.out ())))
def Xbm (p0 : (List Int)) (p1 : Int) (p2 : Int) (p3 : Int) : Option Bool :=
 bnd (loop (Xlh p0 p2 p3) 0) fun o8 => match o8 with
| .out v6 => (
 some ((p0.length : Int) == p1))
| .ret r => some r
def Xfb (p0 : (List Int)) : Option Bool :=
 bnd (Xbm p0 64 (-5000) 5000) fun q1 =>
 some q1
def Xgh (p0 : Xam) : Option Bool :=
 sel (p0.Kind == 0) (
 bnd (
 sel (p0.Mode == 0) (
 sel (p0.Dx == 0) (
 sel (p0.Dy == 0) (
 some ((p0.Levels.length : Int) == 0)) (
 some false)) (
 some false)) (
 some false)) fun v1 =>
 some v1) (
 sel (p0.Kind == 1) (
 bnd (
 sel (p0.Mode == 0) (
 bnd (Xak p0.Dx (-16) 16) fun q3 =>
 sel q3 (
 bnd (Xak p0.Dy (-16) 16) fun q4 =>
 sel q4 (
 bnd (Xfb p0.Levels) fun q5 =>
 some q5) (
 some false)) (
 some false)) (
 some false)) fun v2 =>
 some v2) (
 sel (p0.Kind == 2) (
 bnd (
 bnd (Xak p0.Mode 0 3) fun q7 =>
 sel q7 (
 sel (p0.Dx == 0) (
 sel (p0.Dy == 0) (
 bnd (Xfb p0.Levels) fun q8 =>
 some q8) (
 some false)) (
 some false)) (
 some false)) fun v6 =>
 some v6) (
 some false)))
def Xgv (p0 : Xnv) (p1 : Xer) : Option (Xam × Xnv) :=
 bnd (
 sel (!p1.Key) (
 bnd (Xbu p0) fun q2 =>
 some (q2.2.row_, q2.2.at_, q2.2.bad_, q2.1)) (
 some (p0.row_, p0.at_, p0.bad_, 2))) fun v1 =>
 bnd (
 sel v1.2.2.1 (
 some (v1.1, v1.2.1, v1.2.2.1, 0, 0, 0, [])) (
 sel (v1.2.2.2 == 1) (
 bnd (Xd4 (⟨v1.1, v1.2.1, v1.2.2.1⟩ : Xnv)) fun q4 =>
 bnd (Xd4 q4.2) fun q5 =>
 bnd (Xcz q5.2 p1) fun q6 =>
 some (q6.2.row_, q6.2.at_, q6.2.bad_, 0, q4.1, q5.1, q6.1)) (
 sel (v1.2.2.2 == 2) (
 bnd (Xbu (⟨v1.1, v1.2.1, v1.2.2.1⟩ : Xnv)) fun q7 =>
 bnd (Xcz q7.2 p1) fun q8 =>
 some (q8.2.row_, q8.2.at_, q8.2.bad_, q7.1, 0, 0, q8.1)) (
 some (v1.1, v1.2.1, v1.2.2.1, 0, 0, 0, []))))) fun v3 =>
 bnd (
 sel v3.2.2.1 (
 some true) (
 bnd (Xgh (⟨v1.2.2.2, v3.2.2.2.1, v3.2.2.2.2.1, v3.2.2.2.2.2.1, v3.2.2.2.2.2.2⟩ : Xam)) fun q10 =>
 some (!q10))) fun v9 =>
 some ((⟨v1.2.2.2, v3.2.2.2.1, v3.2.2.2.2.1, v3.2.2.2.2.2.1, v3.2.2.2.2.2.2⟩ : Xam), (⟨v3.1, v3.2.1, v9⟩ : Xnv))
def Xgs (p2 : Int) (p3 : Xer) (v7 : (Int × ByteArray × Int × Bool × (List Xam))) : Option (Lp (Int × ByteArray × Int × Bool × (List Xam)) (Ou (ByteArray × Int × Bool × (List Xam)) ((List Xam) × Bool))) :=
 sel (decide (v7.1 < p2)) (
 bnd (Xgv (⟨v7.2.1, v7.2.2.1, v7.2.2.2.1⟩ : Xnv) p3) fun q11 =>
 req ((v7.2.2.2.2.length + ([q11.1]).length) * 56 ≤ 140737488355328 ∧ v7.2.2.2.2.length + ([q11.1]).length ≤ maxLen) <|
 sel q11.2.bad_ (
 some (.done (.ret (([] : List Xam), false)))) (
 some (.go (Xaa .i64 (v7.1 + 1), q11.2.row_, q11.2.at_, q11.2.bad_, (v7.2.2.2.2 ++ ([q11.1])))))) (
 some (.done (.out (v7.2.1, v7.2.2.1, v7.2.2.2.1, v7.2.2.2.2))))
def Xe3 (p0 : ByteArray) (p1 : Int) (p2 : Int) (p3 : Xer) : Option ((List Xam) × Bool) :=
 bnd (Xh5 p0 p1) fun q1 =>
 bnd (
 bnd (Xak p2 1 64) fun q3 =>
 sel q3 (
 bnd (Xdn p3) fun q4 =>
 some (!q4)) (
 some true)) fun v2 =>
 sel v2 (
 some (([] : List Xam), false)) (
 bnd (loop (Xgs p2 p3) (0, q1.row_, q1.at_, q1.bad_, ([] : List Xam))) fun o12 => match o12 with
| .out v10 => (
 sel (v10.2.1 != (p0.size : Int)) (
 some (([] : List Xam), false)) (
 some (v10.2.2.2, true)))
| .ret r => some r)
def Xfc (p0 : Int) : Option Bool :=
 bnd (
 req ((8 : Int) ≠ 0) <|
 sel ((p0.tmod 8) == 0) (
 bnd (Xak p0 8 64) fun q2 =>
 some q2) (
 some false)) fun v1 =>
 some v1
def Xcc (p0 : Pic) (p1 : Xyw) : Option Bool :=
 bnd (
 bnd (Xak p1.Wide 1 p0.Wide) fun q2 =>
 sel q2 (
 bnd (Xak p1.High 1 p0.High) fun q3 =>
 sel q3 (
 bnd (Xak p1.Left 0 (Xaa .i64 (p0.Wide - p1.Wide))) fun q4 =>
 sel q4 (
 bnd (Xak p1.Top 0 (Xaa .i64 (p0.High - p1.High))) fun q5 =>
 some q5) (
 some false)) (
 some false)) (
 some false)) fun v1 =>
 some v1
def Xso (p0 : Pic) (p1 : Xyw) (v5 : (Int × (List Int))) : Option (Lp (Int × (List Int)) (List Int)) :=
 sel (decide (v5.1 < (Xaa .i64 (p1.Top + p1.High)))) (
 req (0 ≤ (Xaa .i64 ((Xaa .i64 (v5.1 * p0.Wide)) + p1.Left)) ∧ (Xaa .i64 ((Xaa .i64 (v5.1 * p0.Wide)) + p1.Left)) ≤ (Xaa .i64 ((Xaa .i64 ((Xaa .i64 (v5.1 * p0.Wide)) + p1.Left)) + p1.Wide)) ∧ (Xaa .i64 ((Xaa .i64 ((Xaa .i64 (v5.1 * p0.Wide)) + p1.Left)) + p1.Wide)) ≤ (p0.Dots.size : Int)) <|
 req ((v5.2.length + (Xa6 (p0.Dots.extract (Xaa .i64 ((Xaa .i64 (v5.1 * p0.Wide)) + p1.Left)).toNat (Xaa .i64 ((Xaa .i64 ((Xaa .i64 (v5.1 * p0.Wide)) + p1.Left)) + p1.Wide)).toNat)).length) * 1 ≤ 140737488355328 ∧ v5.2.length + (Xa6 (p0.Dots.extract (Xaa .i64 ((Xaa .i64 (v5.1 * p0.Wide)) + p1.Left)).toNat (Xaa .i64 ((Xaa .i64 ((Xaa .i64 (v5.1 * p0.Wide)) + p1.Left)) + p1.Wide)).toNat)).length ≤ maxLen) <|
 some (.go (Xaa .i64 (v5.1 + 1), (v5.2 ++ (Xa6 (p0.Dots.extract (Xaa .i64 ((Xaa .i64 (v5.1 * p0.Wide)) + p1.Left)).toNat (Xaa .i64 ((Xaa .i64 ((Xaa .i64 (v5.1 * p0.Wide)) + p1.Left)) + p1.Wide)).toNat)))))) (
 some (.done v5.2))
def Xpc (p0 : Pic) (p1 : Xyw) : Option (Pic × Bool) :=
 bnd (
 bnd (Xb2 p0) fun q2 =>
 sel q2 (
 bnd (Xcc p0 p1) fun q3 =>
 some (!q3)) (
 some true)) fun v1 =>
 sel v1 (
 some ((⟨0, 0, ⟨#[]⟩⟩ : Pic), false)) (
 req (0 ≤ (0 : Int) ∧ (0 : Int) ≤ (Xaa .i64 (p1.Wide * p1.High)) ∧ (Xaa .i64 (p1.Wide * p1.High)) * 1 ≤ 281474976710656) <|
 bnd (loop (Xso p0 p1) (p1.Top, (List.replicate (0 : Int).toNat (0 : Int)))) fun v7 =>
 some ((⟨p1.Wide, p1.High, (strOfNums v7)⟩ : Pic), true))
def Xny (p0 : Int) (p1 : Int) (v5 : (Int × (List Int))) : Option (Lp (Int × (List Int)) (List Int)) :=
 sel (decide (v5.1 < ((List.replicate (Xaa .i64 (p0 * p1)).toNat (0 : Int)).length : Int))) (
 req (0 ≤ v5.1 ∧ v5.1 < v5.2.length) <|
 req (v5.1.toNat < v5.2.length) <|
 some (.go (Xaa .i64 (v5.1 + 1), (v5.2.set v5.1.toNat 128)))) (
 some (.done v5.2))
def Xri (p0 : Int) (p1 : Int) : Option Pic :=
 bnd (
 bnd (Xak p0 1 256) fun q2 =>
 sel q2 (
 bnd (Xak p1 1 256) fun q3 =>
 some (!q3)) (
 some true)) fun v1 =>
 sel v1 (
 some (⟨0, 0, ⟨#[]⟩⟩ : Pic)) (
 req (0 ≤ (Xaa .i64 (p0 * p1)) ∧ (Xaa .i64 (p0 * p1)) ≤ (Xaa .i64 (p0 * p1)) ∧ (Xaa .i64 (p0 * p1)) * 1 ≤ 281474976710656) <|
 bnd (loop (Xny p0 p1) (0, (List.replicate (Xaa .i64 (p0 * p1)).toNat (0 : Int)))) fun v7 =>
 some (⟨p0, p1, (strOfNums v7)⟩ : Pic))
def Xb4 (p0 : Pic) (p1 : Int) (p2 : Int) : Option Bool :=
 bnd (
 req ((8 : Int) ≠ 0) <|
 sel ((p1.tmod 8) == 0) (
 req ((8 : Int) ≠ 0) <|
 sel ((p2.tmod 8) == 0) (
 bnd (Xak p1 0 (Xaa .i64 (p0.Wide - 8))) fun q2 =>
 sel q2 (
 bnd (Xak p2 0 (Xaa .i64 (p0.High - 8))) fun q3 =>
 some q3) (
 some false)) (
 some false)) (
 some false)) fun v1 =>
 some v1
def Xef (p0 : Xam) (p1 : Xer) : Option Bool :=
 bnd (
 sel p1.Key (
 some (p0.Kind == 2)) (
 some true)) fun v1 =>
 some v1
def Xcy (p0 : Int) (p1 : Int) (p2 : Int) : Option Int :=
 some (if (if p2 < p0 then p2 else p0) > p1 then (if p2 < p0 then p2 else p0) else p1)
def Xe2 (p0 : Pic) (p1 : Int) (p2 : Int) : Option Int :=
 bnd (Xcy p2 0 (Xaa .i64 (p0.High - 1))) fun q1 =>
 bnd (Xcy p1 0 (Xaa .i64 (p0.Wide - 1))) fun q2 =>
 req (0 ≤ (Xaa .i64 ((Xaa .i64 (q1 * p0.Wide)) + q2)) ∧ (Xaa .i64 ((Xaa .i64 (q1 * p0.Wide)) + q2)) < p0.Dots.size) <|
 some (Xaa .i64 ((Xwm p0.Dots (Xaa .i64 ((Xaa .i64 (q1 * p0.Wide)) + q2)))))
def Xe1 (p0 : Pic) (p1 : Int) (p2 : Int) (v10 : (Int × (List Int))) (v23 : (Int × (List Int))) : Option (Lp (Int × (List Int)) (List Int)) :=
 sel (decide (v23.1 < 8)) (
 bnd (Xe2 p0 (Xaa .i64 (p1 + v23.1)) (Xaa .i64 (p2 + v10.1))) fun q27 =>
 req ((v23.2.length + ([q27]).length) * 8 ≤ 140737488355328 ∧ v23.2.length + ([q27]).length ≤ maxLen) <|
 some (.go (Xaa .i64 (v23.1 + 1), (v23.2 ++ ([q27]))))) (
 some (.done v23.2))
def Xe0 (p0 : Pic) (p1 : Int) (p2 : Int) (v10 : (Int × (List Int))) : Option (Lp (Int × (List Int)) (List Int)) :=
 sel (decide (v10.1 < 8)) (
 bnd (loop (Xe1 p0 p1 p2 v10) (0, v10.2)) fun v26 =>
 some (.go (Xaa .i64 (v10.1 + 1), v26))) (
 some (.done v10.2))
def Xbz (p0 : Pic) (p1 : Int) (p2 : Int) : Option (List Int) :=
 req (0 ≤ (0 : Int) ∧ (0 : Int) ≤ (64 : Int) ∧ (64 : Int) * 8 ≤ 281474976710656) <|
 bnd (loop (Xe0 p0 p1 p2) (0, (List.replicate (0 : Int).toNat (0 : Int)))) fun v20 =>
 some v20
def Xlj (p0 : Int) (v16 : (Int × (List Int))) (v37 : (Int × (List Int))) : Option (Lp (Int × (List Int)) (List Int)) :=
 sel (decide (v37.1 ≤ v16.1)) (
 bnd (
 bnd (
 req ((2 : Int) ≠ 0) <|
 sel ((v16.1.tmod 2) == 0) (
 some (Xaa .i64 (v16.1 - v37.1))) (
 some v37.1)) fun v44 =>
 bnd (
 sel (decide (v44 < p0)) (
 some (decide ((Xaa .i64 (v16.1 - v44)) < p0))) (
 some false)) fun v45 =>
 sel v45 (
 req ((v37.2.length + ([Xaa .i64 ((Xaa .i64 (v44 * p0)) + (Xaa .i64 (v16.1 - v44)))]).length) * 8 ≤ 140737488355328 ∧ v37.2.length + ([Xaa .i64 ((Xaa .i64 (v44 * p0)) + (Xaa .i64 (v16.1 - v44)))]).length ≤ maxLen) <|
 some (v37.2 ++ ([Xaa .i64 ((Xaa .i64 (v44 * p0)) + (Xaa .i64 (v16.1 - v44)))]))) (
 some v37.2)) fun v43 =>
 some (.go (Xaa .i64 (v37.1 + 1), v43))) (
 some (.done v37.2))
def Xhh (p0 : Int) (v16 : (Int × (List Int))) : Option (Lp (Int × (List Int)) (List Int)) :=
 sel (decide (v16.1 ≤ (Xaa .i64 ((Xaa .i64 (2 * p0)) - 2)))) (
 bnd (loop (Xlj p0 v16) (0, v16.2)) fun v42 =>
 some (.go (Xaa .i64 (v16.1 + 1), v42))) (
 some (.done v16.2))
def Xg6 (p0 : Int) : Option (List Int) :=
 bnd (loop (Xhh p0) (0, ([] : List Int))) fun v32 =>
 some v32
def Xir (p1 : (List Int)) (q2 : (List Int)) (v4 : (Int × (List Int))) : Option (Lp (Int × (List Int)) (List Int)) :=
 sel (decide (v4.1 < (q2.length : Int))) (
 req (0 ≤ v4.1 ∧ v4.1 < q2.length) <|
 req (v4.1.toNat < q2.length) <|
 req (0 ≤ v4.1 ∧ v4.1 < p1.length) <|
 req (0 ≤ (q2.getD v4.1.toNat 0) ∧ (q2.getD v4.1.toNat 0) < v4.2.length) <|
 req ((q2.getD v4.1.toNat 0).toNat < v4.2.length) <|
 some (.go (Xaa .i64 (v4.1 + 1), (v4.2.set ((q2.getD v4.1.toNat 0).toNat) (p1.getD v4.1.toNat 0))))) (
 some (.done v4.2))
def Xfa (p0 : Int) (p1 : (List Int)) : Option ((List Int) × Bool) :=
 bnd (
 sel (p0 != 4) (
 sel (p0 != 8) (
 some true) (
 some ((p1.length : Int) != (Xaa .i64 (p0 * p0))))) (
 some ((p1.length : Int) != (Xaa .i64 (p0 * p0))))) fun v1 =>
 sel v1 (
 some (([] : List Int), false)) (
 req (0 ≤ (p1.length : Int) ∧ (p1.length : Int) ≤ (p1.length : Int) ∧ (p1.length : Int) * 8 ≤ 281474976710656) <|
 bnd (Xg6 p0) fun q2 =>
 bnd (loop (Xir p1 q2) (0, (List.replicate (p1.length : Int).toNat (0 : Int)))) fun v6 =>
 some (v6, true))
def Xj7 (p0 : Int) : Option Int :=
 bnd (Xak p0 0 40) fun q1 =>
 sel (!q1) (
 some 0) (
 req ((6 : Int) ≠ 0) <|
 req (0 ≤ (p0.tmod 6) ∧ (p0.tmod 6) < ([10, 11, 13, 14, 16, 18]).length) <|
 req ((p0.tmod 6).toNat < ([10, 11, 13, 14, 16, 18]).length) <|
 req ((6 : Int) ≠ 0) <|
 req (0 ≤ (Xaa .i64 (p0.tdiv 6))) <|
 some (Xaa .i64 ((([10, 11, 13, 14, 16, 18]).getD ((p0.tmod 6).toNat) 0) * 2 ^ min (Xaa .i64 (p0.tdiv 6)).toNat (IntKind.bits .i64))))
def Xje (p0 : Int) (p1 : Int) : Option Int :=
 bnd (Xak p0 (-5000) 5000) fun q1 =>
 sel (!q1) (
 some 0) (
 bnd (Xj7 p1) fun q2 =>
 some (Xaa .i64 (p0 * q2)))
def Xmn (p0 : Int) (p1 : Int) : Option Int :=
 bnd (
 bnd (Xak p0 0 7) fun q2 =>
 sel q2 (
 bnd (Xak p1 0 7) fun q3 =>
 some (!q3)) (
 some true)) fun v1 =>
 sel v1 (
 some 0) (
 req (0 ≤ (1 : Int)) <|
 req (0 ≤ (2 : Int)) <|
 req ((2 : Int) ≠ 0) <|
 sel (((Xaa .i64 ((Xaa .i64 ((IntKind.wrap .i64 (BitVec.ofInt (IntKind.bits .i64) (IntKind.wrap .i64 (BitVec.ofInt (IntKind.bits .i64) p0 &&& BitVec.ofInt (IntKind.bits .i64) p1).toNat) &&& BitVec.ofInt (IntKind.bits .i64) 1).toNat) + (IntKind.wrap .i64 (BitVec.ofInt (IntKind.bits .i64) ((IntKind.wrap .i64 (BitVec.ofInt (IntKind.bits .i64) p0 &&& BitVec.ofInt (IntKind.bits .i64) p1).toNat) / 2 ^ min (1 : Int).toNat (IntKind.bits .i64)) &&& BitVec.ofInt (IntKind.bits .i64) 1).toNat))) + (IntKind.wrap .i64 (BitVec.ofInt (IntKind.bits .i64) ((IntKind.wrap .i64 (BitVec.ofInt (IntKind.bits .i64) p0 &&& BitVec.ofInt (IntKind.bits .i64) p1).toNat) / 2 ^ min (2 : Int).toNat (IntKind.bits .i64)) &&& BitVec.ofInt (IntKind.bits .i64) 1).toNat))).tmod 2) == 0) (
 some 1) (
 some (-1)))
def Xlm (p0 : (List Int)) (v31 : (Int × (List Int))) (v72 : (Int × (List Int))) (v85 : (Int × (List Int))) : Option (Lp (Int × (List Int)) (List Int)) :=
 sel (decide (v85.1 < 8)) (
 req (0 ≤ (Xaa .i64 ((Xaa .i64 (8 * v31.1)) + v72.1)) ∧ (Xaa .i64 ((Xaa .i64 (8 * v31.1)) + v72.1)) < v85.2.length) <|
 req ((Xaa .i64 ((Xaa .i64 (8 * v31.1)) + v72.1)).toNat < v85.2.length) <|
 bnd (Xmn v72.1 v85.1) fun q89 =>
 req (0 ≤ (Xaa .i64 ((Xaa .i64 (8 * v31.1)) + v85.1)) ∧ (Xaa .i64 ((Xaa .i64 (8 * v31.1)) + v85.1)) < p0.length) <|
 req (0 ≤ (Xaa .i64 ((Xaa .i64 (8 * v31.1)) + v72.1)) ∧ (Xaa .i64 ((Xaa .i64 (8 * v31.1)) + v72.1)) < v85.2.length) <|
 req ((Xaa .i64 ((Xaa .i64 (8 * v31.1)) + v72.1)).toNat < v85.2.length) <|
 some (.go (Xaa .i64 (v85.1 + 1), (v85.2.set ((Xaa .i64 ((Xaa .i64 (8 * v31.1)) + v72.1)).toNat) (Xaa .i64 ((v85.2.getD ((Xaa .i64 ((Xaa .i64 (8 * v31.1)) + v72.1)).toNat) 0) + (Xaa .i64 (q89 * (p0.getD (Xaa .i64 ((Xaa .i64 (8 * v31.1)) + v85.1)).toNat 0))))))))) (
 some (.done v85.2))
def Xsv (p0 : (List Int)) (v31 : (Int × (List Int))) (v72 : (Int × (List Int))) : Option (Lp (Int × (List Int)) (List Int)) :=
 sel (decide (v72.1 < 8)) (
 bnd (loop (Xlm p0 v31 v72) (0, v72.2)) fun v88 =>
 some (.go (Xaa .i64 (v72.1 + 1), v88))) (
 some (.done v72.2))
def Xsu (p0 : (List Int)) (v31 : (Int × (List Int))) : Option (Lp (Int × (List Int)) (List Int)) :=
 sel (decide (v31.1 < 8)) (
 bnd (loop (Xsv p0 v31) (0, v31.2)) fun v82 =>
 some (.go (Xaa .i64 (v31.1 + 1), v82))) (
 some (.done v31.2))
def Xji (v62 : (List Int)) (v123 : (Int × (List Int))) (v164 : (Int × (List Int))) (v177 : (Int × (List Int))) : Option (Lp (Int × (List Int)) (List Int)) :=
 sel (decide (v177.1 < 8)) (
 req (0 ≤ (Xaa .i64 ((Xaa .i64 (8 * v123.1)) + v164.1)) ∧ (Xaa .i64 ((Xaa .i64 (8 * v123.1)) + v164.1)) < v177.2.length) <|
 req ((Xaa .i64 ((Xaa .i64 (8 * v123.1)) + v164.1)).toNat < v177.2.length) <|
 bnd (Xmn v123.1 v177.1) fun q181 =>
 req (0 ≤ (Xaa .i64 ((Xaa .i64 (8 * v177.1)) + v164.1)) ∧ (Xaa .i64 ((Xaa .i64 (8 * v177.1)) + v164.1)) < v62.length) <|
 req ((Xaa .i64 ((Xaa .i64 (8 * v177.1)) + v164.1)).toNat < v62.length) <|
 req (0 ≤ (Xaa .i64 ((Xaa .i64 (8 * v123.1)) + v164.1)) ∧ (Xaa .i64 ((Xaa .i64 (8 * v123.1)) + v164.1)) < v177.2.length) <|
 req ((Xaa .i64 ((Xaa .i64 (8 * v123.1)) + v164.1)).toNat < v177.2.length) <|
 some (.go (Xaa .i64 (v177.1 + 1), (v177.2.set ((Xaa .i64 ((Xaa .i64 (8 * v123.1)) + v164.1)).toNat) (Xaa .i64 ((v177.2.getD ((Xaa .i64 ((Xaa .i64 (8 * v123.1)) + v164.1)).toNat) 0) + (Xaa .i64 (q181 * (v62.getD ((Xaa .i64 ((Xaa .i64 (8 * v177.1)) + v164.1)).toNat) 0))))))))) (
 some (.done v177.2))
def Xq2 (v62 : (List Int)) (v123 : (Int × (List Int))) (v164 : (Int × (List Int))) : Option (Lp (Int × (List Int)) (List Int)) :=
 sel (decide (v164.1 < 8)) (
 bnd (loop (Xji v62 v123 v164) (0, v164.2)) fun v180 =>
 some (.go (Xaa .i64 (v164.1 + 1), v180))) (
 some (.done v164.2))
def Xq1 (v62 : (List Int)) (v123 : (Int × (List Int))) : Option (Lp (Int × (List Int)) (List Int)) :=
 sel (decide (v123.1 < 8)) (
 bnd (loop (Xq2 v62 v123) (0, v123.2)) fun v174 =>
 some (.go (Xaa .i64 (v123.1 + 1), v174))) (
 some (.done v123.2))
def Xr1 (p0 : (List Int)) : Option (List Int) :=
 req (0 ≤ (64 : Int) ∧ (64 : Int) ≤ (64 : Int) ∧ (64 : Int) * 8 ≤ 281474976710656) <|
 bnd (loop (Xsu p0) (0, (List.replicate (64 : Int).toNat (0 : Int)))) fun v62 =>
 req (0 ≤ (64 : Int) ∧ (64 : Int) ≤ (64 : Int) ∧ (64 : Int) * 8 ≤ 281474976710656) <|
 bnd (loop (Xq1 v62) (0, (List.replicate (64 : Int).toNat (0 : Int)))) fun v154 =>
 some v154
def Xpg (p0 : Int) (p1 : Int) : Option Int :=
 req (p1 ≠ 0) <|
 bnd (
 req (p1 ≠ 0) <|
 sel (decide ((p0.tmod p1) < 0)) (
 some (Xaa .i64 ((Xaa .i64 (p0.tdiv p1)) - 1))) (
 some (Xaa .i64 (p0.tdiv p1)))) fun v1 =>
 some v1
def Xpx (p0 : (List Int)) (v3 : (Int × (List Int))) : Option (Lp (Int × (List Int)) (List Int)) :=
 sel (decide (v3.1 < (p0.length : Int))) (
 req (0 ≤ v3.1 ∧ v3.1 < v3.2.length) <|
 req (v3.1.toNat < v3.2.length) <|
 bnd (Xpg (Xaa .i64 ((v3.2.getD v3.1.toNat 0) + 32)) 64) fun q7 =>
 req (0 ≤ v3.1 ∧ v3.1 < v3.2.length) <|
 req (v3.1.toNat < v3.2.length) <|
 some (.go (Xaa .i64 (v3.1 + 1), (v3.2.set v3.1.toNat q7)))) (
 some (.done v3.2))
def Xkr (p0 : (List Int)) : Option ((List Int) × (List Int)) :=
 bnd (loop (Xpx p0) (0, p0)) fun v6 =>
 some (v6, v6)
def Xjd (p0 : (List Int)) : Option (List Int) :=
 bnd (Xbm p0 64 (-10000000) 10000000) fun q1 =>
 sel (!q1) (
 some ([] : List Int)) (
 bnd (Xr1 p0) fun q2 =>
 bnd (Xkr q2) fun q3 =>
 some q3.2)
def Xsp (p0 : Int) : Option Int :=
 bnd (Xak p0 0 15) fun q1 =>
 sel (!q1) (
 some (-1)) (
 req ((4 : Int) ≠ 0) <|
 req ((2 : Int) ≠ 0) <|
 req ((4 : Int) ≠ 0) <|
 req ((2 : Int) ≠ 0) <|
 bnd (
 sel (((Xaa .i64 (p0.tdiv 4)).tmod 2) == 0) (
 some (((p0.tmod 4).tmod 2) == 0)) (
 some false)) fun v2 =>
 sel v2 (
 some 0) (
 bnd (
 sel (((Xaa .i64 (p0.tdiv 4)).tmod 2) == 1) (
 some (((p0.tmod 4).tmod 2) == 1)) (
 some false)) fun v3 =>
 sel v3 (
 some 1) (
 some 2)))
def Xn0 (p0 : Int) (p1 : Int) : Option Int :=
 bnd (
 bnd (Xak p0 0 40) fun q2 =>
 sel q2 (
 bnd (Xak p1 0 15) fun q3 =>
 some (!q3)) (
 some true)) fun v1 =>
 sel v1 (
 some 0) (
 req ((6 : Int) ≠ 0) <|
 bnd (Xsp p1) fun q4 =>
 req (0 ≤ (p0.tmod 6) ∧ (p0.tmod 6) < 6) <|
 req (0 ≤ q4 ∧ q4 < 3) <|
 req (((0 + (p0.tmod 6).toNat * 3) + q4.toNat * 1) < ([10, 16, 13, 11, 18, 14, 13, 20, 16, 14, 23, 18, 16, 25, 20, 18, 29, 23] : List Int).length) <|
 req ((6 : Int) ≠ 0) <|
 req (0 ≤ (Xaa .i64 (p0.tdiv 6))) <|
 some (Xaa .i64 ((([10, 16, 13, 11, 18, 14, 13, 20, 16, 14, 23, 18, 16, 25, 20, 18, 29, 23] : List Int).getD ((0 + (p0.tmod 6).toNat * 3) + q4.toNat * 1) 0) * 2 ^ min (Xaa .i64 (p0.tdiv 6)).toNat (IntKind.bits .i64))))
def Xjg (p0 : Int) (p1 : Int) (p2 : Int) : Option Int :=
 bnd (Xak p0 (-5000) 5000) fun q1 =>
 sel (!q1) (
 some 0) (
 bnd (Xn0 p1 p2) fun q2 =>
 some (Xaa .i64 (p0 * q2)))
def Xec (p0 : Int) (p1 : Int) (p2 : Int) (p3 : Int) : Option (Int × Int × Int × Int) :=
 bnd (Xpg p1 2) fun q1 =>
 bnd (Xpg p3 2) fun q2 =>
 some (Xaa .i64 ((Xaa .i64 (p0 + p2)) + (Xaa .i64 (p1 + q2))), Xaa .i64 ((Xaa .i64 (p0 - p2)) + (Xaa .i64 (q1 - p3))), Xaa .i64 ((Xaa .i64 (p0 - p2)) - (Xaa .i64 (q1 - p3))), Xaa .i64 ((Xaa .i64 (p0 + p2)) - (Xaa .i64 (p1 + q2))))
def Xf7 (v4 : (Int × (List Int))) : Option (Lp (Int × (List Int)) (List Int)) :=
 sel (decide (v4.1 < 16)) (
 req (0 ≤ v4.1 ∧ v4.1 < v4.2.length) <|
 req (v4.1.toNat < v4.2.length) <|
 req (0 ≤ (Xaa .i64 (v4.1 + 1)) ∧ (Xaa .i64 (v4.1 + 1)) < v4.2.length) <|
 req ((Xaa .i64 (v4.1 + 1)).toNat < v4.2.length) <|
 req (0 ≤ (Xaa .i64 (v4.1 + 2)) ∧ (Xaa .i64 (v4.1 + 2)) < v4.2.length) <|
 req ((Xaa .i64 (v4.1 + 2)).toNat < v4.2.length) <|
 req (0 ≤ (Xaa .i64 (v4.1 + 3)) ∧ (Xaa .i64 (v4.1 + 3)) < v4.2.length) <|
 req ((Xaa .i64 (v4.1 + 3)).toNat < v4.2.length) <|
 bnd (Xec (v4.2.getD v4.1.toNat 0) (v4.2.getD ((Xaa .i64 (v4.1 + 1)).toNat) 0) (v4.2.getD ((Xaa .i64 (v4.1 + 2)).toNat) 0) (v4.2.getD ((Xaa .i64 (v4.1 + 3)).toNat) 0)) fun q8 =>
 req (0 ≤ v4.1 ∧ v4.1 ≤ (Xaa .i64 (v4.1 + 4)) ∧ (Xaa .i64 (v4.1 + 4)) ≤ (v4.2.length : Int)) <|
 req ((v4.1.toNat + ((Xaa .i64 (v4.1 + 4)).toNat - v4.1.toNat) ≤ v4.2.length ∧ ([q8.1, q8.2.1, q8.2.2.1, q8.2.2.2]).length ≤ ((Xaa .i64 (v4.1 + 4)).toNat - v4.1.toNat))) <|
 some (.go (Xaa .i64 (v4.1 + 4), (over v4.2 v4.1.toNat ([q8.1, q8.2.1, q8.2.2.1, q8.2.2.2]))))) (
 some (.done v4.2))
def Xft (v17 : (Int × (List Int))) (q26 : (Int × Int × Int × Int)) (v28 : (Int × (List Int))) : Option (Lp (Int × (List Int)) (List Int)) :=
 sel (decide (v28.1 < 4)) (
 req (0 ≤ v28.1 ∧ v28.1 < ([q26.1, q26.2.1, q26.2.2.1, q26.2.2.2] : List Int).length) <|
 req (0 ≤ (Xaa .i64 (v17.1 + (Xaa .i64 (4 * v28.1)))) ∧ (Xaa .i64 (v17.1 + (Xaa .i64 (4 * v28.1)))) < v28.2.length) <|
 req ((Xaa .i64 (v17.1 + (Xaa .i64 (4 * v28.1)))).toNat < v28.2.length) <|
 some (.go (Xaa .i64 (v28.1 + 1), (v28.2.set ((Xaa .i64 (v17.1 + (Xaa .i64 (4 * v28.1)))).toNat) (([q26.1, q26.2.1, q26.2.2.1, q26.2.2.2] : List Int).getD v28.1.toNat 0))))) (
 some (.done v28.2))
def Xfs (v17 : (Int × (List Int))) : Option (Lp (Int × (List Int)) (List Int)) :=
 sel (decide (v17.1 < 4)) (
 req (0 ≤ v17.1 ∧ v17.1 < v17.2.length) <|
 req (v17.1.toNat < v17.2.length) <|
 req (0 ≤ (Xaa .i64 (v17.1 + 4)) ∧ (Xaa .i64 (v17.1 + 4)) < v17.2.length) <|
 req ((Xaa .i64 (v17.1 + 4)).toNat < v17.2.length) <|
 req (0 ≤ (Xaa .i64 (v17.1 + 8)) ∧ (Xaa .i64 (v17.1 + 8)) < v17.2.length) <|
 req ((Xaa .i64 (v17.1 + 8)).toNat < v17.2.length) <|
 req (0 ≤ (Xaa .i64 (v17.1 + 12)) ∧ (Xaa .i64 (v17.1 + 12)) < v17.2.length) <|
 req ((Xaa .i64 (v17.1 + 12)).toNat < v17.2.length) <|
 bnd (Xec (v17.2.getD v17.1.toNat 0) (v17.2.getD ((Xaa .i64 (v17.1 + 4)).toNat) 0) (v17.2.getD ((Xaa .i64 (v17.1 + 8)).toNat) 0) (v17.2.getD ((Xaa .i64 (v17.1 + 12)).toNat) 0)) fun q26 =>
 bnd (loop (Xft v17 q26) (0, v17.2)) fun v30 =>
 some (.go (Xaa .i64 (v17.1 + 1), v30))) (
 some (.done v17.2))
def Xcs (p0 : (List Int)) : Option (List Int) :=
 bnd (Xdu p0) fun q1 =>
 bnd (loop (Xf7) (0, q1)) fun v7 =>
 bnd (loop (Xfs) (0, v7)) fun v25 =>
 some v25
def Xk7 (p0 : (List Int)) : Option (List Int) :=
 bnd (Xbm p0 16 (-10000000) 10000000) fun q1 =>
 sel (!q1) (
 some ([] : List Int)) (
 bnd (Xcs p0) fun q2 =>
 bnd (Xkr q2) fun q3 =>
 some q3.2)
def Xor (p0 : Int) (v7 : (Int × (List Int))) (v16 : (Int × (List Int))) : Option (Lp (Int × (List Int)) (List Int)) :=
 sel (decide (v16.1 < 4)) (
 req ((2 : Int) ≠ 0) <|
 req ((2 : Int) ≠ 0) <|
 req ((v16.2.length + ([Xaa .i64 ((Xaa .i64 ((Xaa .i64 ((Xaa .i64 (v7.1 + (Xaa .i64 ((Xaa .i64 (p0.tdiv 2)) * 4)))) * 8)) + v16.1)) + (Xaa .i64 ((p0.tmod 2) * 4)))]).length) * 8 ≤ 140737488355328 ∧ v16.2.length + ([Xaa .i64 ((Xaa .i64 ((Xaa .i64 ((Xaa .i64 (v7.1 + (Xaa .i64 ((Xaa .i64 (p0.tdiv 2)) * 4)))) * 8)) + v16.1)) + (Xaa .i64 ((p0.tmod 2) * 4)))]).length ≤ maxLen) <|
 some (.go (Xaa .i64 (v16.1 + 1), (v16.2 ++ ([Xaa .i64 ((Xaa .i64 ((Xaa .i64 ((Xaa .i64 (v7.1 + (Xaa .i64 ((Xaa .i64 (p0.tdiv 2)) * 4)))) * 8)) + v16.1)) + (Xaa .i64 ((p0.tmod 2) * 4)))]))))) (
 some (.done v16.2))
def Xjx (p0 : Int) (v7 : (Int × (List Int))) : Option (Lp (Int × (List Int)) (List Int)) :=
 sel (decide (v7.1 < 4)) (
 bnd (loop (Xor p0 v7) (0, v7.2)) fun v18 =>
 some (.go (Xaa .i64 (v7.1 + 1), v18))) (
 some (.done v7.2))
def Xko (p0 : Int) : Option (List Int) :=
 bnd (loop (Xjx p0) (0, ([] : List Int))) fun v14 =>
 some v14
def Xez (p1 : Xer) (q5 : ((List Int) × Bool)) (v8 : (Int × (List Int))) : Option (Lp (Int × (List Int)) (List Int)) :=
 sel (decide (v8.1 < (q5.1.length : Int))) (
 req (0 ≤ v8.1 ∧ v8.1 < v8.2.length) <|
 req (v8.1.toNat < v8.2.length) <|
 bnd (Xje (v8.2.getD v8.1.toNat 0) p1.Qp) fun q12 =>
 req (0 ≤ v8.1 ∧ v8.1 < v8.2.length) <|
 req (v8.1.toNat < v8.2.length) <|
 some (.go (Xaa .i64 (v8.1 + 1), (v8.2.set v8.1.toNat q12)))) (
 some (.done v8.2))
def Xed (p1 : Xer) (q51 : ((List Int) × Bool)) (v54 : (Int × (List Int))) : Option (Lp (Int × (List Int)) (List Int)) :=
 sel (decide (v54.1 < (q51.1.length : Int))) (
 req (0 ≤ v54.1 ∧ v54.1 < v54.2.length) <|
 req (v54.1.toNat < v54.2.length) <|
 bnd (Xjg (v54.2.getD v54.1.toNat 0) p1.Qp v54.1) fun q58 =>
 req (0 ≤ v54.1 ∧ v54.1 < v54.2.length) <|
 req (v54.1.toNat < v54.2.length) <|
 some (.go (Xaa .i64 (v54.1 + 1), (v54.2.set v54.1.toNat q58)))) (
 some (.done v54.2))
def Xgd (q60 : (List Int)) (q61 : (List Int)) (v63 : (Int × (List Int))) : Option (Lp (Int × (List Int)) (List Int)) :=
 sel (decide (v63.1 < (q61.length : Int))) (
 req (0 ≤ v63.1 ∧ v63.1 < q61.length) <|
 req (v63.1.toNat < q61.length) <|
 req (0 ≤ v63.1 ∧ v63.1 < q60.length) <|
 req (v63.1.toNat < q60.length) <|
 req (0 ≤ (q61.getD v63.1.toNat 0) ∧ (q61.getD v63.1.toNat 0) < v63.2.length) <|
 req ((q61.getD v63.1.toNat 0).toNat < v63.2.length) <|
 some (.go (Xaa .i64 (v63.1 + 1), (v63.2.set ((q61.getD v63.1.toNat 0).toNat) (q60.getD v63.1.toNat 0))))) (
 some (.done v63.2))
def Xj5 (p0 : (List Int)) (p1 : Xer) (v32 : (Int × (List Int))) : Option (Lp (Int × (List Int)) (List Int)) :=
 sel (decide (v32.1 < 4)) (
 req (0 ≤ (Xaa .i64 (16 * v32.1)) ∧ (Xaa .i64 (16 * v32.1)) ≤ (Xaa .i64 ((Xaa .i64 (16 * v32.1)) + 16)) ∧ (Xaa .i64 ((Xaa .i64 (16 * v32.1)) + 16)) ≤ (p0.length : Int)) <|
 bnd (Xfa 4 ((p0.drop (Xaa .i64 (16 * v32.1)).toNat).take ((Xaa .i64 ((Xaa .i64 (16 * v32.1)) + 16)).toNat - (Xaa .i64 (16 * v32.1)).toNat))) fun q51 =>
 bnd (loop (Xed p1 q51) (0, q51.1)) fun v57 =>
 bnd (Xk7 v57) fun q60 =>
 bnd (Xko v32.1) fun q61 =>
 bnd (loop (Xgd q60 q61) (0, v32.2)) fun v65 =>
 some (.go (Xaa .i64 (v32.1 + 1), v65))) (
 some (.done v32.2))
def Xhv (p0 : (List Int)) (p1 : Xer) : Option ((List Int) × Bool) :=
 bnd (
 bnd (Xfb p0) fun q2 =>
 sel q2 (
 bnd (Xdn p1) fun q3 =>
 some (!q3)) (
 some true)) fun v1 =>
 sel v1 (
 some (([] : List Int), false)) (
 sel p1.Exact (
 bnd (Xfa 8 p0) fun q4 =>
 some (q4.1, q4.2)) (
 sel p1.Large (
 bnd (Xfa 8 p0) fun q5 =>
 bnd (loop (Xez p1 q5) (0, q5.1)) fun v11 =>
 bnd (Xjd v11) fun q14 =>
 some (q14, true)) (
 req (0 ≤ (64 : Int) ∧ (64 : Int) ≤ (64 : Int) ∧ (64 : Int) * 8 ≤ 281474976710656) <|
 bnd (loop (Xj5 p0 p1) (0, (List.replicate (64 : Int).toNat (0 : Int)))) fun v50 =>
 some (v50, true))))
def Xnf (p0 : (List Int)) (p1 : (List Int)) (v6 : (Int × (List Int))) : Option (Lp (Int × (List Int)) (List Int)) :=
 sel (decide (v6.1 < (p0.length : Int))) (
 req (0 ≤ v6.1 ∧ v6.1 < p0.length) <|
 req (0 ≤ v6.1 ∧ v6.1 < p1.length) <|
 bnd (Xcy (Xaa .i64 ((p0.getD v6.1.toNat 0) + (p1.getD v6.1.toNat 0))) 0 255) fun q10 =>
 req ((v6.2.length + ([q10]).length) * 8 ≤ 140737488355328 ∧ v6.2.length + ([q10]).length ≤ maxLen) <|
 some (.go (Xaa .i64 (v6.1 + 1), (v6.2 ++ ([q10]))))) (
 some (.done v6.2))
def Xmi (p0 : (List Int)) (p1 : (List Int)) : Option (List Int) :=
 bnd (
 bnd (Xbm p0 64 0 255) fun q2 =>
 sel q2 (
 bnd (Xbm p1 64 (-10000000) 10000000) fun q3 =>
 some (!q3)) (
 some true)) fun v1 =>
 sel v1 (
 some ([] : List Int)) (
 bnd (loop (Xnf p0 p1) (0, ([] : List Int))) fun v9 =>
 some v9)
def Xk6 (p0 : Pic) (p1 : Int) (p2 : Int) (v9 : (Int × (List Int) × (List Int))) : Option (Lp (Int × (List Int) × (List Int)) ((List Int) × (List Int))) :=
 sel (decide (v9.1 < 8)) (
 bnd (
 bnd (
 sel (decide (p2 > 0)) (
 bnd (Xe2 p0 (Xaa .i64 (p1 + v9.1)) (Xaa .i64 (p2 - 1))) fun q18 =>
 req ((v9.2.1.length + ([q18]).length) * 8 ≤ 140737488355328 ∧ v9.2.1.length + ([q18]).length ≤ maxLen) <|
 some (v9.2.1 ++ ([q18]))) (
 some v9.2.1)) fun v17 =>
 sel (decide (p1 > 0)) (
 bnd (Xe2 p0 (Xaa .i64 (p1 - 1)) (Xaa .i64 (p2 + v9.1))) fun q19 =>
 req ((v9.2.2.length + ([q19]).length) * 8 ≤ 140737488355328 ∧ v9.2.2.length + ([q19]).length ≤ maxLen) <|
 some (v17, (v9.2.2 ++ ([q19])))) (
 some (v17, v9.2.2))) fun v16 =>
 some (.go (Xaa .i64 (v9.1 + 1), v16.1, v16.2))) (
 some (.done (v9.2.1, v9.2.2)))
def Xkg (p0 : Pic) (p1 : Int) (p2 : Int) : Option (Xi8 × Bool) :=
 bnd (
 bnd (Xb2 p0) fun q2 =>
 sel q2 (
 bnd (Xb4 p0 p1 p2) fun q3 =>
 some (!q3)) (
 some true)) fun v1 =>
 sel v1 (
 some ((⟨[], [], 0⟩ : Xi8), false)) (
 bnd (loop (Xk6 p0 p1 p2) (0, [], [])) fun v15 =>
 bnd (
 bnd (
 sel (decide (p1 > 0)) (
 some (decide (p2 > 0))) (
 some false)) fun v22 =>
 sel v22 (
 bnd (Xe2 p0 (Xaa .i64 (p1 - 1)) (Xaa .i64 (p2 - 1))) fun q23 =>
 some q23) (
 some (-1))) fun v21 =>
 some ((⟨v15.1, v15.2, v21⟩ : Xi8), true))
def Xfm (p0 : Xi8) (v4 : Int) : Option (Lp Int (Ou Unit Bool)) :=
 sel (decide (v4 < (([p0.Above, p0.Left]).length : Int))) (
 req (0 ≤ v4 ∧ v4 < ([p0.Above, p0.Left]).length) <|
 req (v4.toNat < ([p0.Above, p0.Left]).length) <|
 bnd (
 sel (decide (((([p0.Above, p0.Left]).getD v4.toNat Xgc).length : Int) > 0)) (
 bnd (Xbm (([p0.Above, p0.Left]).getD v4.toNat Xgc) 8 0 255) fun q10 =>
 some (!q10)) (
 some false)) fun v9 =>
 sel v9 (
 some (.done (.ret false))) (
 some (.go (Xaa .i64 (v4 + 1))))) (
 some (.done (.out ())))
def Xkh (p0 : Xi8) : Option Bool :=
 bnd (loop (Xfm p0) 0) fun o11 => match o11 with
| .out v8 => (
 bnd (Xak p0.Corner (-1) 255) fun q12 =>
 some q12)
| .ret r => some r
def Xmv (p0 : (List Int)) : Option (List Int) :=
 sel ((p0.length : Int) == 0) (
 some ([128, 128, 128, 128, 128, 128, 128, 128])) (
 some p0)
def Xgr (p0 : Int) (v4 : Int) (q7 : (List Int)) (q8 : (List Int)) (v9 : Int) (v22 : (Int × (List Int))) (v39 : (Int × (List Int))) : Option (Lp (Int × (List Int)) (List Int)) :=
 sel (decide (v39.1 < 8)) (
 bnd (
 sel (p0 == 0) (
 req ((v39.2.length + ([v4]).length) * 8 ≤ 140737488355328 ∧ v39.2.length + ([v4]).length ≤ maxLen) <|
 some (v39.2 ++ ([v4]))) (
 sel (p0 == 1) (
 req (0 ≤ v39.1 ∧ v39.1 < q7.length) <|
 req ((v39.2.length + ([(q7.getD v39.1.toNat 0)]).length) * 8 ≤ 140737488355328 ∧ v39.2.length + ([(q7.getD v39.1.toNat 0)]).length ≤ maxLen) <|
 some (v39.2 ++ ([(q7.getD v39.1.toNat 0)]))) (
 sel (p0 == 2) (
 req (0 ≤ v22.1 ∧ v22.1 < q8.length) <|
 req ((v39.2.length + ([(q8.getD v22.1.toNat 0)]).length) * 8 ≤ 140737488355328 ∧ v39.2.length + ([(q8.getD v22.1.toNat 0)]).length ≤ maxLen) <|
 some (v39.2 ++ ([(q8.getD v22.1.toNat 0)]))) (
 req (0 ≤ v22.1 ∧ v22.1 < q8.length) <|
 req (0 ≤ v39.1 ∧ v39.1 < q7.length) <|
 bnd (Xcy (Xaa .i64 ((Xaa .i64 ((q8.getD v22.1.toNat 0) + (q7.getD v39.1.toNat 0))) - v9)) 0 255) fun q45 =>
 req ((v39.2.length + ([q45]).length) * 8 ≤ 140737488355328 ∧ v39.2.length + ([q45]).length ≤ maxLen) <|
 some (v39.2 ++ ([q45])))))) fun v44 =>
 some (.go (Xaa .i64 (v39.1 + 1), v44))) (
 some (.done v39.2))
def Xoj (p0 : Int) (v4 : Int) (q7 : (List Int)) (q8 : (List Int)) (v9 : Int) (v22 : (Int × (List Int))) : Option (Lp (Int × (List Int)) (List Int)) :=
 sel (decide (v22.1 < 8)) (
 bnd (loop (Xgr p0 v4 q7 q8 v9 v22) (0, v22.2)) fun v43 =>
 some (.go (Xaa .i64 (v22.1 + 1), v43))) (
 some (.done v22.2))
def Xf6 (p0 : Int) (p1 : Xi8) : Option (List Int) :=
 bnd (
 bnd (Xkh p1) fun q2 =>
 sel q2 (
 bnd (Xak p0 0 3) fun q3 =>
 some (!q3)) (
 some true)) fun v1 =>
 sel v1 (
 some ([] : List Int)) (
 bnd (
 sel (decide ((Xaa .i64 ((p1.Above.length : Int) + (p1.Left.length : Int))) > 0)) (
 bnd (Xcl p1.Above) fun q5 =>
 bnd (Xcl p1.Left) fun q6 =>
 req ((2 : Int) ≠ 0) <|
 req ((Xaa .i64 ((p1.Above.length : Int) + (p1.Left.length : Int))) ≠ 0) <|
 some (Xaa .i64 ((Xaa .i64 ((Xaa .i64 (q5 + q6)) + (Xaa .i64 ((Xaa .i64 ((p1.Above.length : Int) + (p1.Left.length : Int))).tdiv 2)))).tdiv (Xaa .i64 ((p1.Above.length : Int) + (p1.Left.length : Int)))))) (
 some 128)) fun v4 =>
 bnd (Xmv p1.Above) fun q7 =>
 bnd (Xmv p1.Left) fun q8 =>
 bnd (
 sel (decide (p1.Corner < 0)) (
 some 128) (
 some p1.Corner)) fun v9 =>
 bnd (loop (Xoj p0 v4 q7 q8 v9) (0, ([] : List Int))) fun v35 =>
 some v35)
def Xco (p0 : Pic) (p1 : Pic) (p2 : Int) (p3 : Int) (p4 : Xer) (p5 : Int) (p6 : Int) (p7 : Xam) : Option ((List Int) × Bool) :=
 bnd (
 bnd (Xb2 p0) fun q2 =>
 sel q2 (
 bnd (Xb4 p0 p5 p6) fun q3 =>
 sel q3 (
 bnd (Xak p2 0 256) fun q4 =>
 sel q4 (
 bnd (Xak p3 0 256) fun q5 =>
 sel q5 (
 bnd (Xgh p7) fun q6 =>
 sel q6 (
 bnd (Xdn p4) fun q7 =>
 sel q7 (
 bnd (Xef p7 p4) fun q8 =>
 sel q8 (
 sel (p7.Kind != 2) (
 bnd (Xb2 p1) fun q9 =>
 some (!q9)) (
 some false)) (
 some true)) (
 some true)) (
 some true)) (
 some true)) (
 some true)) (
 some true)) (
 some true)) fun v1 =>
 sel v1 (
 some (([] : List Int), false)) (
 sel (p7.Kind == 0) (
 bnd (Xbz p1 (Xaa .i64 (p2 + p5)) (Xaa .i64 (p3 + p6))) fun q10 =>
 some (q10, true)) (
 bnd (Xhv p7.Levels p4) fun q11 =>
 sel (p7.Kind == 1) (
 bnd (Xbz p1 (Xaa .i64 ((Xaa .i64 (p2 + p5)) + p7.Dx)) (Xaa .i64 ((Xaa .i64 (p3 + p6)) + p7.Dy))) fun q12 =>
 bnd (Xmi q12 q11.1) fun q13 =>
 some (q13, true)) (
 bnd (Xkg p0 p5 p6) fun q14 =>
 bnd (Xf6 p7.Mode q14.1) fun q15 =>
 bnd (Xmi q15 q11.1) fun q16 =>
 some (q16, true))))
def Yag (p0 : Pic) : Option (List Int) :=
 req (p0.Dots.size ≤ maxLen) <|
 some (Xa6 p0.Dots)
def Xst (p0 : Pic) (p1 : Int) (p2 : Int) (p3 : (List Int)) (v3 : (Int × (List Int))) : Option (Lp (Int × (List Int)) (List Int)) :=
 sel (decide (v3.1 < (p3.length : Int))) (
 req (0 ≤ v3.1 ∧ v3.1 < p3.length) <|
 req ((8 : Int) ≠ 0) <|
 req ((8 : Int) ≠ 0) <|
 req (0 ≤ (Xaa .i64 ((Xaa .i64 ((Xaa .i64 ((Xaa .i64 (p2 + (Xaa .i64 (v3.1.tdiv 8)))) * p0.Wide)) + p1)) + (v3.1.tmod 8))) ∧ (Xaa .i64 ((Xaa .i64 ((Xaa .i64 ((Xaa .i64 (p2 + (Xaa .i64 (v3.1.tdiv 8)))) * p0.Wide)) + p1)) + (v3.1.tmod 8))) < v3.2.length) <|
 req ((Xaa .i64 ((Xaa .i64 ((Xaa .i64 ((Xaa .i64 (p2 + (Xaa .i64 (v3.1.tdiv 8)))) * p0.Wide)) + p1)) + (v3.1.tmod 8))).toNat < v3.2.length) <|
 some (.go (Xaa .i64 (v3.1 + 1), (v3.2.set ((Xaa .i64 ((Xaa .i64 ((Xaa .i64 ((Xaa .i64 (p2 + (Xaa .i64 (v3.1.tdiv 8)))) * p0.Wide)) + p1)) + (v3.1.tmod 8))).toNat) (Xaa .u8 ((p3.getD v3.1.toNat 0))))))) (
 some (.done v3.2))
def Xvn (p0 : Pic) (p1 : Int) (p2 : Int) (p3 : (List Int)) : Option Pic :=
 bnd (Yag p0) fun q1 =>
 bnd (loop (Xst p0 p1 p2 p3) (0, q1)) fun v5 =>
 some (⟨p0.Wide, p0.High, (strOfNums v5)⟩ : Pic)
def Xcf (p1 : Xyw) (p2 : Xer) (p4 : (List Xam)) (v10 : (Int × Int × Int × Int × ByteArray)) (v16 : (Int × Int × Int × ByteArray)) : Option (Lp (Int × Int × Int × ByteArray) (Ou (Int × Int × ByteArray) (Pic × Bool))) :=
 sel (decide (v16.1 < (p4.length : Int))) (
 req (0 ≤ v16.1 ∧ v16.1 < p4.length) <|
 req ((8 : Int) ≠ 0) <|
 req ((Xaa .i64 (p1.Wide.tdiv 8)) ≠ 0) <|
 req ((8 : Int) ≠ 0) <|
 req ((Xaa .i64 (p1.Wide.tdiv 8)) ≠ 0) <|
 bnd (Xco (⟨v16.2.1, v16.2.2.1, v16.2.2.2⟩ : Pic) (⟨v10.2.2.1, v10.2.2.2.1, v10.2.2.2.2⟩ : Pic) v10.1 v10.2.1 p2 (Xaa .i64 ((v16.1.tmod (Xaa .i64 (p1.Wide.tdiv 8))) * 8)) (Xaa .i64 ((Xaa .i64 (v16.1.tdiv (Xaa .i64 (p1.Wide.tdiv 8)))) * 8)) (⟨(p4.getD v16.1.toNat Xme).Kind, (p4.getD v16.1.toNat Xme).Mode, (p4.getD v16.1.toNat Xme).Dx, (p4.getD v16.1.toNat Xme).Dy, (p4.getD v16.1.toNat Xme).Levels⟩ : Xam)) fun q21 =>
 sel (!q21.2) (
 some (.done (.ret ((⟨0, 0, ⟨#[]⟩⟩ : Pic), false)))) (
 bnd (Xvn (⟨v16.2.1, v16.2.2.1, v16.2.2.2⟩ : Pic) (Xaa .i64 ((v16.1.tmod (Xaa .i64 (p1.Wide.tdiv 8))) * 8)) (Xaa .i64 ((Xaa .i64 (v16.1.tdiv (Xaa .i64 (p1.Wide.tdiv 8)))) * 8)) q21.1) fun q22 =>
 some (.go (Xaa .i64 (v16.1 + 1), q22.Wide, q22.High, q22.Dots)))) (
 some (.done (.out (v16.2.1, v16.2.2.1, v16.2.2.2))))
def Xgi (p0 : Pic) (p1 : Xyw) (p2 : Xer) (p3 : Bool) (p4 : (List Xam)) : Option (Pic × Bool) :=
 bnd (
 bnd (Xfc p1.Wide) fun q2 =>
 sel q2 (
 bnd (Xfc p1.High) fun q3 =>
 sel q3 (
 bnd (Xak p1.Left 0 256) fun q4 =>
 sel q4 (
 bnd (Xak p1.Top 0 256) fun q5 =>
 sel q5 (
 bnd (Xdn p2) fun q6 =>
 sel q6 (
 req ((8 : Int) ≠ 0) <|
 req ((8 : Int) ≠ 0) <|
 some ((p4.length : Int) != (Xaa .i64 ((Xaa .i64 (p1.Wide.tdiv 8)) * (Xaa .i64 (p1.High.tdiv 8)))))) (
 some true)) (
 some true)) (
 some true)) (
 some true)) (
 some true)) fun v1 =>
 sel v1 (
 some ((⟨0, 0, ⟨#[]⟩⟩ : Pic), false)) (
 bnd (
 sel p2.Key (
 some false) (
 bnd (Xb2 p0) fun q8 =>
 sel q8 (
 bnd (Xcc p0 p1) fun q9 =>
 some (!q9)) (
 some true))) fun v7 =>
 sel v7 (
 some ((⟨0, 0, ⟨#[]⟩⟩ : Pic), false)) (
 bnd (
 sel p3 (
 sel (!p2.Key) (
 bnd (Xpc p0 p1) fun q11 =>
 some (0, 0, q11.1.Wide, q11.1.High, q11.1.Dots)) (
 some (0, 0, p0.Wide, p0.High, p0.Dots))) (
 some (p1.Left, p1.Top, p0.Wide, p0.High, p0.Dots))) fun v10 =>
 bnd (Xri p1.Wide p1.High) fun q12 =>
 bnd (loop (Xcf p1 p2 p4 v10) (0, q12.Wide, q12.High, q12.Dots)) fun o23 => match o23 with
| .out v20 => (
 some ((⟨v20.1, v20.2.1, v20.2.2⟩ : Pic), true))
| .ret r => some r))
def Xpf (p0 : Int) (p1 : Int) : Option Int :=
 req (0 ≤ p1) <|
 req ((Xaa .i64 (1 * 2 ^ min p1.toNat (IntKind.bits .i64))) ≠ 0) <|
 some ((Xaa .i64 (p0 + 1)).tmod (Xaa .i64 (1 * 2 ^ min p1.toNat (IntKind.bits .i64))))
def Xmb (p0 : Xbl) : Option (Rate × Xbl) :=
 bnd (Xa1 p0 2000) fun q1 =>
 bnd (Xa1 q1.2 41) fun q2 =>
 bnd (Xa1 q2.2 (Xaa .i64 ((Xaa .i64 (16 * (Xaa .i64 (1 + q1.1)))) + 1))) fun q3 =>
 some ((⟨q2.1, Xaa .i64 (1 + q1.1), Xaa .i64 (q3.1 - (Xaa .i64 (8 * (Xaa .i64 (1 + q1.1)))))⟩ : Rate), q3.2)
def Xj1 (p0 : (List Int)) (p1 : (List Int)) (v3 : Int) : Option (Lp Int (Ou Unit Int)) :=
 sel (decide (v3 ≤ 3)) (
 bnd (Xm6 (⟨v3, 3, p0, p1⟩ : Seq)) fun q7 =>
 sel q7 (
 some (.done (.ret v3))) (
 some (.go (Xaa .i64 (v3 + 1))))) (
 some (.done (.out ())))
def Xlw (p0 : (List Int)) (p1 : (List Int)) : Option Int :=
 bnd (loop (Xj1 p0 p1) 1) fun o8 => match o8 with
| .out v6 => (
 some 0)
| .ret r => some r
def Xp3 (p0 : Rate) : Option Bool :=
 bnd (
 bnd (Xan p0.Qp 0 40) fun q2 =>
 sel q2 (
 bnd (Xan p0.Target 1 100000) fun q3 =>
 sel q3 (
 bnd (Xan p0.Debt (Xaa .i64 ((-8) * p0.Target)) (Xaa .i64 (8 * p0.Target))) fun q4 =>
 some q4) (
 some false)) (
 some false)) fun v1 =>
 some v1
def Xm8 (p0 : Seq) : Option (Int × Int) :=
 bnd (Xm6 p0) fun q1 =>
 sel (!q1) (
 some (0, 0)) (
 bnd (Xii p0.Cols) fun q2 =>
 bnd (Xii p0.Rows) fun q3 =>
 some (Xaa .i64 (8 * q2), Xaa .i64 (8 * q3)))
def Xf0 (p0 : Pic) : Option Bool :=
 bnd (
 bnd (Xan p0.Wide 1 256) fun q2 =>
 sel q2 (
 bnd (Xan p0.High 1 256) fun q3 =>
 sel q3 (
 some ((p0.Dots.size : Int) == (Xaa .i64 (p0.Wide * p0.High)))) (
 some false)) (
 some false)) fun v1 =>
 some v1
def Xlx (p0 : Xa3) : Option Bool :=
 bnd (
 bnd (Xkw p0.Seq) fun q2 =>
 sel (q2 != 1) (
 some true) (
 bnd (Xsc p0.Par) fun q3 =>
 sel q3 (
 bnd (Xp3 p0.Rate) fun q4 =>
 sel q4 (
 sel (decide (p0.Frame < 0)) (
 some true) (
 req (0 ≤ (Xaa .u64 (p0.Seq.Bits))) <|
 some (decide (p0.Frame ≥ (Xaa .i64 (1 * 2 ^ min (Xaa .u64 (p0.Seq.Bits)).toNat (IntKind.bits .i64))))))) (
 some true)) (
 some true))) fun v1 =>
 sel v1 (
 some false) (
 bnd (
 bnd (Xan p0.Every 1 1000) fun q6 =>
 sel q6 (
 bnd (Xan p0.Since 0 1000) fun q7 =>
 sel q7 (
 bnd (Xan p0.Reach 0 4) fun q8 =>
 some (!q8)) (
 some true)) (
 some true)) fun v5 =>
 sel v5 (
 some false) (
 bnd (Xm8 p0.Seq) fun q9 =>
 sel p0.Has (
 bnd (
 bnd (Xf0 p0.Ref) fun q11 =>
 sel q11 (
 sel (p0.Ref.Wide == q9.1) (
 some (p0.Ref.High == q9.2)) (
 some false)) (
 some false)) fun v10 =>
 some v10) (
 bnd (
 sel (p0.Ref.Wide == 0) (
 sel (p0.Ref.High == 0) (
 some ((p0.Ref.Dots.size : Int) == 0)) (
 some false)) (
 some false)) fun v12 =>
 some v12)))
def Xjp (p0 : Int) (p1 : Int) (p2 : Int) (p3 : Par) (p4 : Rate) (p5 : Int) (p6 : Int) : Option (Xa3 × Bool) :=
 bnd (Xlw ([p0]) ([p1])) fun q1 =>
 bnd (Xlx (⟨(⟨q1, p2, [p0], [p1]⟩ : Seq), p3, p4, 0, 0, p5, p6, false, (⟨0, 0, ⟨#[]⟩⟩ : Pic)⟩ : Xa3)) fun q2 =>
 sel (!q2) (
 some ((⟨(⟨0, 0, [], []⟩ : Seq), (⟨0, false, false, false⟩ : Par), (⟨0, 0, 0⟩ : Rate), 0, 0, 0, 0, false, (⟨0, 0, ⟨#[]⟩⟩ : Pic)⟩ : Xa3), false)) (
 some ((⟨(⟨q1, p2, [p0], [p1]⟩ : Seq), p3, p4, 0, 0, p5, p6, false, (⟨0, 0, ⟨#[]⟩⟩ : Pic)⟩ : Xa3), true))
def Xl5 (p1 : Int) (v7 : (Int × Int × (List Int) × Int × Int × (List Int))) : Option (Lp (Int × Int × (List Int) × Int × Int × (List Int)) ((List Int) × (List Int) × Int × Int)) :=
 sel (decide (v7.2.1 < p1)) (
 bnd (
 bnd (Xa1 (⟨v7.2.2.1, v7.2.2.2.1, v7.2.2.2.2.1⟩ : Xbl) 6) fun q15 =>
 sel (q15.1 == 0) (
 bnd (Xca q15.2) fun q16 =>
 some (q16.1, q16.2.b_, q16.2.i_, q16.2.h_)) (
 sel (q15.1 == 1) (
 bnd (Xa1 q15.2 9) fun q17 =>
 some ((IntKind.wrap .i64 (BitVec.ofInt (IntKind.bits .i64) (Xaa .i64 ((Xaa .i64 (v7.1 + q17.1)) + 252)) &&& BitVec.ofInt (IntKind.bits .i64) 255).toNat), q17.2.b_, q17.2.i_, q17.2.h_)) (
 some (v7.1, q15.2.b_, q15.2.i_, q15.2.h_)))) fun v14 =>
 req ((v7.2.2.2.2.2.length + ([Xaa .u8 (v14.1)]).length) * 1 ≤ 140737488355328 ∧ v7.2.2.2.2.2.length + ([Xaa .u8 (v14.1)]).length ≤ maxLen) <|
 some (.go (v14.1, Xaa .i64 (v7.2.1 + 1), v14.2.1, v14.2.2.1, v14.2.2.2, (v7.2.2.2.2.2 ++ ([Xaa .u8 (v14.1)]))))) (
 some (.done (v7.2.2.2.2.2, v7.2.2.1, v7.2.2.2.1, v7.2.2.2.2.1)))
def Xob (p0 : Xbl) (p1 : Int) : Option (ByteArray × Xbl) :=
 bnd (Xca p0) fun q1 =>
 bnd (loop (Xl5 p1) (q1.1, 0, q1.2.b_, q1.2.i_, q1.2.h_, ([] : List Int))) fun v13 =>
 some ((strOfNums v13.1), (⟨v13.2.1, v13.2.2.1, v13.2.2.2⟩ : Xbl))
def Xi0 (p0 : Xbl) (p1 : Int) (p2 : Int) : Option (Pic × Xbl) :=
 bnd (Xob p0 (Xaa .i64 (p1 * p2))) fun q1 =>
 some ((⟨p1, p2, q1.1⟩ : Pic), q1.2)
def Xe5 (p0 : Int) (p1 : Int) (p2 : Int) : Option Int :=
 bnd (
 sel (decide (p2 < p1)) (
 some true) (
 some (decide (p0 < p1)))) fun v1 =>
 sel v1 (
 some p1) (
 sel (decide (p0 > p2)) (
 some p2) (
 some p0))
def Xey (p0 : Pic) (p1 : Int) (p2 : Int) : Option Int :=
 bnd (Xf0 p0) fun q1 =>
 sel (!q1) (
 some (-1)) (
 bnd (Xe5 p2 0 (Xaa .i64 (p0.High - 1))) fun q2 =>
 bnd (Xe5 p1 0 (Xaa .i64 (p0.Wide - 1))) fun q3 =>
 req (0 ≤ (Xaa .i64 ((Xaa .i64 (q2 * p0.Wide)) + q3)) ∧ (Xaa .i64 ((Xaa .i64 (q2 * p0.Wide)) + q3)) < p0.Dots.size) <|
 some (Xaa .i64 ((Xwm p0.Dots (Xaa .i64 ((Xaa .i64 (q2 * p0.Wide)) + q3))))))
def Xl8 (p1 : Pic) (v3 : (Int × Int × (List Int) × Int × Int)) (v7 : (Int × (List Int))) : Option (Lp (Int × (List Int)) (List Int)) :=
 sel (decide (v7.1 < (p1.Dots.size : Int))) (
 req (p1.Wide ≠ 0) <|
 req (p1.Wide ≠ 0) <|
 bnd (Xey p1 (Xaa .i64 ((v7.1.tmod p1.Wide) + v3.1)) (Xaa .i64 ((Xaa .i64 (v7.1.tdiv p1.Wide)) + v3.2.1))) fun q11 =>
 req ((v7.2.length + ([Xaa .u8 (q11)]).length) * 1 ≤ 140737488355328 ∧ v7.2.length + ([Xaa .u8 (q11)]).length ≤ maxLen) <|
 some (.go (Xaa .i64 (v7.1 + 1), (v7.2 ++ ([Xaa .u8 (q11)]))))) (
 some (.done v7.2))
def Xl9 (v17 : (Int × (List Int) × Int × Int × (List Int))) : Option (Lp (Int × (List Int) × Int × Int × (List Int)) ((List Int) × (List Int) × Int × Int)) :=
 bnd (Xa1 (⟨v17.2.1, v17.2.2.1, v17.2.2.2.1⟩ : Xbl) 6) fun q23 =>
 sel (decide (v17.1 < q23.1)) (
 bnd (Xa1 q23.2 (v17.2.2.2.2.length : Int)) fun q24 =>
 bnd (Xca q24.2) fun q25 =>
 req (0 ≤ q24.1 ∧ q24.1 < v17.2.2.2.2.length) <|
 req (q24.1.toNat < v17.2.2.2.2.length) <|
 some (.go (Xaa .i64 (v17.1 + 1), q25.2.b_, q25.2.i_, q25.2.h_, (v17.2.2.2.2.set q24.1.toNat (Xaa .u8 (q25.1)))))) (
 some (.done (v17.2.2.2.2, q23.2.b_, q23.2.i_, q23.2.h_)))
def Xod (p0 : Xbl) (p1 : Pic) : Option (Pic × Xbl) :=
 bnd (Xa1 p0 7) fun q1 =>
 bnd (Xa1 q1.2 5) fun q2 =>
 bnd (
 bnd (Xf8 q2.2 3) fun q4 =>
 sel q4.1 (
 some (0, 0, q4.2.b_, q4.2.i_, q4.2.h_)) (
 some (Xaa .i64 (q1.1 - 3), Xaa .i64 (q2.1 - 2), q4.2.b_, q4.2.i_, q4.2.h_))) fun v3 =>
 bnd (loop (Xl8 p1 v3) (0, ([] : List Int))) fun v10 =>
 bnd (loop (Xl9) (0, v3.2.2.1, v3.2.2.2.1, v3.2.2.2.2, v10)) fun v22 =>
 some ((⟨p1.Wide, p1.High, (strOfNums v22.1)⟩ : Pic), (⟨v22.2.1, v22.2.2.1, v22.2.2.2⟩ : Xbl))
def Xiw (q9 : (Int × Int)) (v18 : (Int × (List Int) × Int × Int × Int × Int × ByteArray × (List Pic) × (List Bool))) : Option (Lp (Int × (List Int) × Int × Int × Int × Int × ByteArray × (List Pic) × (List Bool)) ((List Pic) × (List Bool))) :=
 bnd (Xa1 (⟨v18.2.1, v18.2.2.1, v18.2.2.2.1⟩ : Xbl) 4) fun q27 =>
 sel (decide (v18.1 < (Xaa .i64 (2 + q27.1)))) (
 bnd (
 req ((v18.2.2.2.2.2.2.2.1.length + ([(⟨v18.2.2.2.2.1, v18.2.2.2.2.2.1, v18.2.2.2.2.2.2.1⟩ : Pic)]).length) * 32 ≤ 140737488355328 ∧ v18.2.2.2.2.2.2.2.1.length + ([(⟨v18.2.2.2.2.1, v18.2.2.2.2.2.1, v18.2.2.2.2.2.2.1⟩ : Pic)]).length ≤ maxLen) <|
 bnd (Xf8 q27.2 4) fun q29 =>
 req ((v18.2.2.2.2.2.2.2.2.length + ([q29.1]).length) * 1 ≤ 140737488355328 ∧ v18.2.2.2.2.2.2.2.2.length + ([q29.1]).length ≤ maxLen) <|
 bnd (Xod q29.2 (⟨v18.2.2.2.2.1, v18.2.2.2.2.2.1, v18.2.2.2.2.2.2.1⟩ : Pic)) fun q30 =>
 bnd (Xf8 q30.2 4) fun q31 =>
 sel q31.1 (
 bnd (Xi0 q31.2 q9.1 q9.2) fun q32 =>
 some (q32.2.b_, q32.2.i_, q32.2.h_, q32.1.Wide, q32.1.High, q32.1.Dots, (v18.2.2.2.2.2.2.2.2 ++ ([q29.1])))) (
 some (q31.2.b_, q31.2.i_, q31.2.h_, q30.1.Wide, q30.1.High, q30.1.Dots, (v18.2.2.2.2.2.2.2.2 ++ ([q29.1]))))) fun v28 =>
 some (.go (Xaa .i64 (v18.1 + 1), v28.1, v28.2.1, v28.2.2.1, v28.2.2.2.1, v28.2.2.2.2.1, v28.2.2.2.2.2.1, (v18.2.2.2.2.2.2.2.1 ++ ([(⟨v18.2.2.2.2.1, v18.2.2.2.2.2.1, v18.2.2.2.2.2.2.1⟩ : Pic)])), v28.2.2.2.2.2.2))) (
 some (.done (v18.2.2.2.2.2.2.2.1, v18.2.2.2.2.2.2.2.2)))
def Xjl (p0 : (List Int)) : Option (Xa3 × (List Pic) × (List Bool)) :=
 bnd (Xna p0) fun q1 =>
 bnd (Xa1 q1 2) fun q2 =>
 bnd (Xa1 q2.2 2) fun q3 =>
 bnd (Xgy q3.2) fun q4 =>
 bnd (Xmb q4.2) fun q5 =>
 bnd (Xa1 q5.2 5) fun q6 =>
 bnd (Xa1 q6.2 3) fun q7 =>
 bnd (Xjp (Xaa .i64 (1 + q2.1)) (Xaa .i64 (1 + q3.1)) 3 q4.1 q5.1 (Xaa .i64 (1 + q6.1)) q7.1) fun q8 =>
 bnd (Xm8 q8.1.Seq) fun q9 =>
 bnd (Xi0 q7.2 q9.1 q9.2) fun q10 =>
 bnd (loop (Xiw q9) (0, q10.2.b_, q10.2.i_, q10.2.h_, q10.1.Wide, q10.1.High, q10.1.Dots, ([] : List Pic), ([] : List Bool))) fun v26 =>
 some (q8.1, v26.1, v26.2)
def Xj6 (p0 : Rate) : Option Bool :=
 bnd (
 bnd (Xak p0.Qp 0 40) fun q2 =>
 sel q2 (
 bnd (Xak p0.Target 1 100000) fun q3 =>
 sel q3 (
 bnd (Xak p0.Debt (Xaa .i64 ((-8) * p0.Target)) (Xaa .i64 (8 * p0.Target))) fun q4 =>
 some q4) (
 some false)) (
 some false)) fun v1 =>
 some v1
def Xgg (p0 : Xa3) : Option Bool :=
 bnd (
 bnd (Xd2 p0.Seq) fun q2 =>
 sel (q2 != 1) (
 some true) (
 bnd (Xd6 p0.Par) fun q3 =>
 sel q3 (
 bnd (Xj6 p0.Rate) fun q4 =>
 sel q4 (
 req (0 ≤ p0.Seq.Bits) <|
 bnd (Xak p0.Frame 0 (Xaa .i64 ((Xaa .i64 (1 * 2 ^ min p0.Seq.Bits.toNat (IntKind.bits .i64))) - 1))) fun q5 =>
 sel q5 (
 bnd (Xak p0.Every 1 1000) fun q6 =>
 sel q6 (
 bnd (Xak p0.Since 0 1000) fun q7 =>
 sel q7 (
 bnd (Xak p0.Reach 0 4) fun q8 =>
 some (!q8)) (
 some true)) (
 some true)) (
 some true)) (
 some true)) (
 some true))) fun v1 =>
 sel v1 (
 some false) (
 sel p0.Has (
 bnd (Xrs p0.Ref p0.Seq) fun q9 =>
 some q9) (
 some (((p0.Ref.Wide == 0) && ((p0.Ref.High == 0) && (p0.Ref.Dots.toList == (⟨#[]⟩ : ByteArray).toList))) == true)))
def Xpo (p0 : Xa3) (p1 : Bool) : Option Bool :=
 bnd (
 bnd (Xgg p0) fun q2 =>
 sel q2 (
 sel p1 (
 some true) (
 sel p0.Has (
 some (decide (p0.Since ≥ p0.Every))) (
 some true))) (
 some false)) fun v1 =>
 some v1
def Xeg (p0 : Xa3) : Option Xa3 :=
 bnd (Xh4 p0.Seq) fun q1 =>
 some (⟨q1, p0.Par, p0.Rate, p0.Frame, p0.Since, p0.Every, p0.Reach, p0.Has, p0.Ref⟩ : Xa3)
def Xrj (p0 : Rate) (p1 : Bool) : Option Int :=
 bnd (Xj6 p0) fun q1 =>
 sel (!q1) (
 some 0) (
 sel p1 (
 some (if (Xaa .i64 (p0.Qp - 2)) > (0 : Int) then (Xaa .i64 (p0.Qp - 2)) else (0 : Int))) (
 some p0.Qp))
def Xn3 (p0 : Int) : Option Int :=
 some (if (Xaa .i64 (0 - p0)) > p0 then (Xaa .i64 (0 - p0)) else p0)
def Xpu (p0 : (List Int)) (p1 : (List Int)) (v3 : (Int × Int)) : Option (Lp (Int × Int) Int) :=
 sel (decide (v3.2 < (p0.length : Int))) (
 req (0 ≤ v3.2 ∧ v3.2 < p0.length) <|
 req (0 ≤ v3.2 ∧ v3.2 < p1.length) <|
 bnd (Xn3 (Xaa .i64 ((p0.getD v3.2.toNat 0) - (p1.getD v3.2.toNat 0)))) fun q7 =>
 some (.go (Xaa .i64 (v3.1 + q7), Xaa .i64 (v3.2 + 1)))) (
 some (.done v3.1))
def Xqj (p0 : (List Int)) (p1 : (List Int)) : Option Int :=
 bnd (loop (Xpu p0 p1) (0, 0)) fun v6 =>
 some v6
def Xc5 (v2 : (Int × Int)) : Option (Lp (Int × Int) Int) :=
 sel (decide (v2.1 > 0)) (
 req (0 ≤ (1 : Int)) <|
 some (.go ((v2.1 / 2 ^ min (1 : Int).toNat (IntKind.bits .i64)), Xaa .i64 (v2.2 + 1)))) (
 some (.done v2.2))
def Xnh (p0 : Int) : Option Int :=
 bnd (loop (Xc5) (p0, 0)) fun v4 =>
 some v4
def Xll (v2 : (Int × Int × (List Int))) : Option (Lp (Int × Int × (List Int)) (List Int)) :=
 sel (decide (v2.2.1 ≥ 0)) (
 req (0 ≤ v2.2.1 ∧ v2.2.1 < v2.2.2.length) <|
 req (v2.2.1.toNat < v2.2.2.length) <|
 req (0 ≤ (1 : Int)) <|
 some (.go ((v2.1 / 2 ^ min (1 : Int).toNat (IntKind.bits .i64)), Xaa .i64 (v2.2.1 - 1), (v2.2.2.set v2.2.1.toNat (Xaa .u8 (Xaa .i64 (48 + (IntKind.wrap .i64 (BitVec.ofInt (IntKind.bits .i64) v2.1 &&& BitVec.ofInt (IntKind.bits .i64) 1).toNat)))))))) (
 some (.done v2.2.2))
def Xks (p0 : Int) (p1 : Int) : Option ByteArray :=
 req (0 ≤ p1 ∧ p1 ≤ p1 ∧ p1 * 1 ≤ 281474976710656) <|
 bnd (loop (Xll) (p0, Xaa .i64 (p1 - 1), (List.replicate p1.toNat (0 : Int)))) fun v4 =>
 some (strOfNums v4)
def Xi3 (p0 : Int) : Option ByteArray :=
 bnd (Xnh (Xaa .i64 (p0 + 1))) fun q1 =>
 bnd (Xks (Xaa .i64 (p0 + 1)) (Xaa .i64 ((Xaa .i64 (2 * q1)) - 1))) fun q2 =>
 some q2
def Xpe (p0 : Int) : Option (ByteArray × Bool) :=
 bnd (Xak p0 0 1000000) fun q1 =>
 sel (!q1) (
 some (⟨#[]⟩, false)) (
 bnd (Xi3 p0) fun q2 =>
 some (q2, true))
def Xmp (p0 : Int) : Option Int :=
 bnd (Xpe p0) fun q1 =>
 some (q1.1.size : Int)
def Xin (p0 : (List Int)) (p1 : Xi8) (v16 : (Int × Int × Int)) : Option (Lp (Int × Int × Int) (Int × Int)) :=
 sel (decide (v16.2.2 ≤ 3)) (
 bnd (
 bnd (Xf6 v16.2.2 p1) fun q25 =>
 bnd (Xqj p0 q25) fun q26 =>
 bnd (Xmp v16.2.2) fun q27 =>
 bnd (
 sel (decide (v16.2.1 < 0)) (
 some true) (
 some (decide ((Xaa .i64 (q26 + q27)) < v16.2.1)))) fun v28 =>
 sel v28 (
 some (v16.2.2, Xaa .i64 (q26 + q27))) (
 some (v16.1, v16.2.1))) fun v24 =>
 some (.go (v24.1, v24.2, Xaa .i64 (v16.2.2 + 1)))) (
 some (.done (v16.1, v16.2.1)))
def Xjc (p0 : (List Int)) (p1 : Xi8) : Option (Int × Int) :=
 bnd (
 bnd (Xkh p1) fun q2 =>
 sel q2 (
 bnd (Xbm p0 64 0 255) fun q3 =>
 some (!q3)) (
 some true)) fun v1 =>
 sel v1 (
 some (0, (-1))) (
 bnd (loop (Xin p0 p1) (0, (-1), 0)) fun v23 =>
 some (v23.1, v23.2))
def Xjw (p0 : (List Int)) (p1 : (List Int)) (v2 : (Int × (List Int))) : Option (Lp (Int × (List Int)) (List Int)) :=
 sel (decide (v2.1 < (p0.length : Int))) (
 req (0 ≤ v2.1 ∧ v2.1 < p0.length) <|
 req (0 ≤ v2.1 ∧ v2.1 < p1.length) <|
 req ((v2.2.length + ([Xaa .i64 ((p0.getD v2.1.toNat 0) - (p1.getD v2.1.toNat 0))]).length) * 8 ≤ 140737488355328 ∧ v2.2.length + ([Xaa .i64 ((p0.getD v2.1.toNat 0) - (p1.getD v2.1.toNat 0))]).length ≤ maxLen) <|
 some (.go (Xaa .i64 (v2.1 + 1), (v2.2 ++ ([Xaa .i64 ((p0.getD v2.1.toNat 0) - (p1.getD v2.1.toNat 0))]))))) (
 some (.done v2.2))
def Xgk (p0 : (List Int)) (p1 : (List Int)) : Option (List Int) :=
 bnd (loop (Xjw p0 p1) (0, ([] : List Int))) fun v4 =>
 some v4
def Xlc (p1 : (List Int)) (q2 : (List Int)) (v4 : (Int × (List Int))) : Option (Lp (Int × (List Int)) (List Int)) :=
 sel (decide (v4.1 < (q2.length : Int))) (
 req (0 ≤ v4.1 ∧ v4.1 < q2.length) <|
 req (v4.1.toNat < q2.length) <|
 req (0 ≤ (q2.getD v4.1.toNat 0) ∧ (q2.getD v4.1.toNat 0) < p1.length) <|
 req ((v4.2.length + ([(p1.getD (q2.getD v4.1.toNat 0).toNat 0)]).length) * 8 ≤ 140737488355328 ∧ v4.2.length + ([(p1.getD (q2.getD v4.1.toNat 0).toNat 0)]).length ≤ maxLen) <|
 some (.go (Xaa .i64 (v4.1 + 1), (v4.2 ++ ([(p1.getD (q2.getD v4.1.toNat 0).toNat 0)]))))) (
 some (.done v4.2))
def Xhw (p0 : Int) (p1 : (List Int)) : Option ((List Int) × Bool) :=
 bnd (
 sel (p0 != 4) (
 sel (p0 != 8) (
 some true) (
 some ((p1.length : Int) != (Xaa .i64 (p0 * p0))))) (
 some ((p1.length : Int) != (Xaa .i64 (p0 * p0))))) fun v1 =>
 sel v1 (
 some (([] : List Int), false)) (
 bnd (Xg6 p0) fun q2 =>
 bnd (loop (Xlc p1 q2) (0, ([] : List Int))) fun v6 =>
 some (v6, true))
def Xrh (p0 : (List Int)) : Option (List Int) :=
 bnd (Xbm p0 64 (-1000) 1000) fun q1 =>
 sel (!q1) (
 some ([] : List Int)) (
 bnd (Xr1 p0) fun q2 =>
 some q2)
def Xpy (p0 : Int) (p1 : Int) : Option Int :=
 sel (decide (p1 < 0)) (
 some (Xaa .i64 (0 - p0))) (
 some p0)
def Xhu (p0 : Int) (p1 : Int) : Option Int :=
 bnd (
 bnd (Xak p0 (-20000) 20000) fun q2 =>
 sel q2 (
 bnd (Xak p1 0 40) fun q3 =>
 some (!q3)) (
 some true)) fun v1 =>
 sel v1 (
 some 0) (
 bnd (Xj7 p1) fun q4 =>
 bnd (Xn3 p0) fun q5 =>
 req ((2 : Int) ≠ 0) <|
 req (q4 ≠ 0) <|
 bnd (Xpy (Xaa .i64 ((Xaa .i64 (q5 + (Xaa .i64 (q4.tdiv 2)))).tdiv q4)) p0) fun q6 =>
 some q6)
def Xmg (p0 : Int) (p1 : Int) (p2 : Int) (p3 : Int) : Option (Int × Int × Int × Int) :=
 some (Xaa .i64 ((Xaa .i64 ((Xaa .i64 (p0 + p1)) + p2)) + p3), Xaa .i64 ((Xaa .i64 ((Xaa .i64 ((Xaa .i64 (2 * p0)) + p1)) - p2)) - (Xaa .i64 (2 * p3))), Xaa .i64 ((Xaa .i64 ((Xaa .i64 (p0 - p1)) - p2)) + p3), Xaa .i64 ((Xaa .i64 ((Xaa .i64 (p0 - (Xaa .i64 (2 * p1)))) + (Xaa .i64 (2 * p2)))) - p3))
def Xi2 (v4 : (Int × (List Int))) : Option (Lp (Int × (List Int)) (List Int)) :=
 sel (decide (v4.1 < 16)) (
 req (0 ≤ v4.1 ∧ v4.1 < v4.2.length) <|
 req (v4.1.toNat < v4.2.length) <|
 req (0 ≤ (Xaa .i64 (v4.1 + 1)) ∧ (Xaa .i64 (v4.1 + 1)) < v4.2.length) <|
 req ((Xaa .i64 (v4.1 + 1)).toNat < v4.2.length) <|
 req (0 ≤ (Xaa .i64 (v4.1 + 2)) ∧ (Xaa .i64 (v4.1 + 2)) < v4.2.length) <|
 req ((Xaa .i64 (v4.1 + 2)).toNat < v4.2.length) <|
 req (0 ≤ (Xaa .i64 (v4.1 + 3)) ∧ (Xaa .i64 (v4.1 + 3)) < v4.2.length) <|
 req ((Xaa .i64 (v4.1 + 3)).toNat < v4.2.length) <|
 bnd (Xmg (v4.2.getD v4.1.toNat 0) (v4.2.getD ((Xaa .i64 (v4.1 + 1)).toNat) 0) (v4.2.getD ((Xaa .i64 (v4.1 + 2)).toNat) 0) (v4.2.getD ((Xaa .i64 (v4.1 + 3)).toNat) 0)) fun q8 =>
 req (0 ≤ v4.1 ∧ v4.1 ≤ (Xaa .i64 (v4.1 + 4)) ∧ (Xaa .i64 (v4.1 + 4)) ≤ (v4.2.length : Int)) <|
 req ((v4.1.toNat + ((Xaa .i64 (v4.1 + 4)).toNat - v4.1.toNat) ≤ v4.2.length ∧ ([q8.1, q8.2.1, q8.2.2.1, q8.2.2.2]).length ≤ ((Xaa .i64 (v4.1 + 4)).toNat - v4.1.toNat))) <|
 some (.go (Xaa .i64 (v4.1 + 4), (over v4.2 v4.1.toNat ([q8.1, q8.2.1, q8.2.2.1, q8.2.2.2]))))) (
 some (.done v4.2))
def Xh8 (v17 : (Int × (List Int))) (q26 : (Int × Int × Int × Int)) (v28 : (Int × (List Int))) : Option (Lp (Int × (List Int)) (List Int)) :=
 sel (decide (v28.1 < 4)) (
 req (0 ≤ v28.1 ∧ v28.1 < ([q26.1, q26.2.1, q26.2.2.1, q26.2.2.2] : List Int).length) <|
 req (0 ≤ (Xaa .i64 (v17.1 + (Xaa .i64 (4 * v28.1)))) ∧ (Xaa .i64 (v17.1 + (Xaa .i64 (4 * v28.1)))) < v28.2.length) <|
 req ((Xaa .i64 (v17.1 + (Xaa .i64 (4 * v28.1)))).toNat < v28.2.length) <|
 some (.go (Xaa .i64 (v28.1 + 1), (v28.2.set ((Xaa .i64 (v17.1 + (Xaa .i64 (4 * v28.1)))).toNat) (([q26.1, q26.2.1, q26.2.2.1, q26.2.2.2] : List Int).getD v28.1.toNat 0))))) (
 some (.done v28.2))
def Xh7 (v17 : (Int × (List Int))) : Option (Lp (Int × (List Int)) (List Int)) :=
 sel (decide (v17.1 < 4)) (
 req (0 ≤ v17.1 ∧ v17.1 < v17.2.length) <|
 req (v17.1.toNat < v17.2.length) <|
 req (0 ≤ (Xaa .i64 (v17.1 + 4)) ∧ (Xaa .i64 (v17.1 + 4)) < v17.2.length) <|
 req ((Xaa .i64 (v17.1 + 4)).toNat < v17.2.length) <|
 req (0 ≤ (Xaa .i64 (v17.1 + 8)) ∧ (Xaa .i64 (v17.1 + 8)) < v17.2.length) <|
 req ((Xaa .i64 (v17.1 + 8)).toNat < v17.2.length) <|
 req (0 ≤ (Xaa .i64 (v17.1 + 12)) ∧ (Xaa .i64 (v17.1 + 12)) < v17.2.length) <|
 req ((Xaa .i64 (v17.1 + 12)).toNat < v17.2.length) <|
 bnd (Xmg (v17.2.getD v17.1.toNat 0) (v17.2.getD ((Xaa .i64 (v17.1 + 4)).toNat) 0) (v17.2.getD ((Xaa .i64 (v17.1 + 8)).toNat) 0) (v17.2.getD ((Xaa .i64 (v17.1 + 12)).toNat) 0)) fun q26 =>
 bnd (loop (Xh8 v17 q26) (0, v17.2)) fun v30 =>
 some (.go (Xaa .i64 (v17.1 + 1), v30))) (
 some (.done v17.2))
def Xdw (p0 : (List Int)) : Option (List Int) :=
 bnd (Xdu p0) fun q1 =>
 bnd (loop (Xi2) (0, q1)) fun v7 =>
 bnd (loop (Xh7) (0, v7)) fun v25 =>
 some v25
def Xug (p0 : (List Int)) : Option (List Int) :=
 bnd (Xbm p0 16 (-1000) 1000) fun q1 =>
 sel (!q1) (
 some ([] : List Int)) (
 bnd (Xdw p0) fun q2 =>
 some q2)
def Xn1 (p0 : Int) (p1 : Int) : Option Int :=
 bnd (
 bnd (Xak p0 0 40) fun q2 =>
 sel q2 (
 bnd (Xak p1 0 15) fun q3 =>
 some (!q3)) (
 some true)) fun v1 =>
 sel v1 (
 some 0) (
 req ((6 : Int) ≠ 0) <|
 bnd (Xsp p1) fun q4 =>
 req (0 ≤ (p0.tmod 6) ∧ (p0.tmod 6) < 6) <|
 req (0 ≤ q4 ∧ q4 < 3) <|
 req (((0 + (p0.tmod 6).toNat * 3) + q4.toNat * 1) < ([13107, 5243, 8066, 11916, 4660, 7490, 10082, 4194, 6554, 9362, 3647, 5825, 8192, 3355, 5243, 7282, 2893, 4559] : List Int).length) <|
 some (([13107, 5243, 8066, 11916, 4660, 7490, 10082, 4194, 6554, 9362, 3647, 5825, 8192, 3355, 5243, 7282, 2893, 4559] : List Int).getD ((0 + (p0.tmod 6).toNat * 3) + q4.toNat * 1) 0))
def Xhy (p0 : Int) (p1 : Int) (p2 : Int) : Option Int :=
 bnd (
 bnd (Xak p0 (-20000) 20000) fun q2 =>
 sel q2 (
 bnd (Xak p1 0 40) fun q3 =>
 sel q3 (
 bnd (Xak p2 0 15) fun q4 =>
 some (!q4)) (
 some true)) (
 some true)) fun v1 =>
 sel v1 (
 some 0) (
 req ((6 : Int) ≠ 0) <|
 req (0 ≤ (Xaa .i64 (15 + (Xaa .i64 (p1.tdiv 6))))) <|
 bnd (Xn3 p0) fun q5 =>
 bnd (Xn1 p1 p2) fun q6 =>
 req ((3 : Int) ≠ 0) <|
 req ((Xaa .i64 (1 * 2 ^ min (Xaa .i64 (15 + (Xaa .i64 (p1.tdiv 6)))).toNat (IntKind.bits .i64))) ≠ 0) <|
 bnd (Xpy (Xaa .i64 ((Xaa .i64 ((Xaa .i64 (q5 * q6)) + (Xaa .i64 ((Xaa .i64 (1 * 2 ^ min (Xaa .i64 (15 + (Xaa .i64 (p1.tdiv 6)))).toNat (IntKind.bits .i64))).tdiv 3)))).tdiv (Xaa .i64 (1 * 2 ^ min (Xaa .i64 (15 + (Xaa .i64 (p1.tdiv 6)))).toNat (IntKind.bits .i64))))) p0) fun q7 =>
 some q7)
def Xju (p1 : Xer) (q5 : (List Int)) (v8 : (Int × (List Int))) : Option (Lp (Int × (List Int)) (List Int)) :=
 sel (decide (v8.1 < (q5.length : Int))) (
 req (0 ≤ v8.1 ∧ v8.1 < v8.2.length) <|
 req (v8.1.toNat < v8.2.length) <|
 bnd (Xhu (v8.2.getD v8.1.toNat 0) p1.Qp) fun q12 =>
 req (0 ≤ v8.1 ∧ v8.1 < v8.2.length) <|
 req (v8.1.toNat < v8.2.length) <|
 some (.go (Xaa .i64 (v8.1 + 1), (v8.2.set v8.1.toNat q12)))) (
 some (.done v8.2))
def Xfo (p0 : (List Int)) (q51 : (List Int)) (v53 : (Int × (List Int))) : Option (Lp (Int × (List Int)) (List Int)) :=
 sel (decide (v53.1 < (q51.length : Int))) (
 req (0 ≤ v53.1 ∧ v53.1 < q51.length) <|
 req (v53.1.toNat < q51.length) <|
 req (0 ≤ (q51.getD v53.1.toNat 0) ∧ (q51.getD v53.1.toNat 0) < p0.length) <|
 req ((v53.2.length + ([(p0.getD (q51.getD v53.1.toNat 0).toNat 0)]).length) * 8 ≤ 140737488355328 ∧ v53.2.length + ([(p0.getD (q51.getD v53.1.toNat 0).toNat 0)]).length ≤ maxLen) <|
 some (.go (Xaa .i64 (v53.1 + 1), (v53.2 ++ ([(p0.getD (q51.getD v53.1.toNat 0).toNat 0)]))))) (
 some (.done v53.2))
def Xio (p1 : Xer) (q57 : (List Int)) (v60 : (Int × (List Int))) : Option (Lp (Int × (List Int)) (List Int)) :=
 sel (decide (v60.1 < (q57.length : Int))) (
 req (0 ≤ v60.1 ∧ v60.1 < v60.2.length) <|
 req (v60.1.toNat < v60.2.length) <|
 bnd (Xhy (v60.2.getD v60.1.toNat 0) p1.Qp v60.1) fun q64 =>
 req (0 ≤ v60.1 ∧ v60.1 < v60.2.length) <|
 req (v60.1.toNat < v60.2.length) <|
 some (.go (Xaa .i64 (v60.1 + 1), (v60.2.set v60.1.toNat q64)))) (
 some (.done v60.2))
def Xmj (p0 : (List Int)) (p1 : Xer) (v32 : (Int × (List Int))) : Option (Lp (Int × (List Int)) (List Int)) :=
 sel (decide (v32.1 < 4)) (
 bnd (Xko v32.1) fun q51 =>
 bnd (loop (Xfo p0 q51) (0, ([] : List Int))) fun v55 =>
 bnd (Xug v55) fun q57 =>
 bnd (loop (Xio p1 q57) (0, q57)) fun v63 =>
 bnd (Xhw 4 v63) fun q66 =>
 req ((v32.2.length + q66.1.length) * 8 ≤ 140737488355328 ∧ v32.2.length + q66.1.length ≤ maxLen) <|
 some (.go (Xaa .i64 (v32.1 + 1), (v32.2 ++ q66.1)))) (
 some (.done v32.2))
def Xge (p0 : (List Int)) (p1 : Xer) : Option ((List Int) × Bool) :=
 bnd (
 bnd (Xbm p0 64 (-255) 255) fun q2 =>
 sel q2 (
 bnd (Xdn p1) fun q3 =>
 some (!q3)) (
 some true)) fun v1 =>
 sel v1 (
 some (([] : List Int), false)) (
 sel p1.Exact (
 bnd (Xhw 8 p0) fun q4 =>
 some (q4.1, q4.2)) (
 sel p1.Large (
 bnd (Xrh p0) fun q5 =>
 bnd (loop (Xju p1 q5) (0, q5)) fun v11 =>
 bnd (Xhw 8 v11) fun q14 =>
 some (q14.1, q14.2)) (
 bnd (loop (Xmj p0 p1) (0, ([] : List Int))) fun v50 =>
 some (v50, true))))
def Xmf (p0 : Int) : Option (Int × Bool) :=
 bnd (Xak p0 (-500000) 500000) fun q1 =>
 sel (!q1) (
 some (0, false)) (
 sel (decide (p0 > 0)) (
 some (Xaa .i64 ((Xaa .i64 (2 * p0)) - 1), true)) (
 some (Xaa .i64 ((-2) * p0), true)))
def Xkk (p0 : Int) : Option (ByteArray × Bool) :=
 bnd (Xmf p0) fun q1 =>
 sel (!q1.2) (
 some (⟨#[]⟩, false)) (
 bnd (Xpe q1.1) fun q2 =>
 some (q2.1, q2.2))
def Xmm (p0 : Int) : Option Int :=
 bnd (Xkk p0) fun q1 =>
 some (q1.1.size : Int)
def Xc4 (p0 : Pic) (p1 : (List Int)) (p2 : Int) (p3 : Int) (p4 : Int) (v33 : (Int × Int × Int × Int)) (v70 : (Int × Int × Int × Int)) : Option (Lp (Int × Int × Int × Int) (Int × Int × Int)) :=
 sel (decide (v70.2.2.2 ≤ p4)) (
 bnd (
 bnd (Xcc p0 (⟨Xaa .i64 (p2 + v70.2.2.2), Xaa .i64 (p3 + v33.2.2.2), 8, 8⟩ : Xyw)) fun q81 =>
 sel (!q81) (
 some (v70.1, v70.2.1, v70.2.2.1)) (
 bnd (Xbz p0 (Xaa .i64 (p2 + v70.2.2.2)) (Xaa .i64 (p3 + v33.2.2.2))) fun q82 =>
 bnd (Xqj p1 q82) fun q83 =>
 bnd (Xmm v70.2.2.2) fun q84 =>
 bnd (Xmm v33.2.2.2) fun q85 =>
 bnd (
 sel (decide (v70.2.2.1 < 0)) (
 some true) (
 some (decide ((Xaa .i64 ((Xaa .i64 (q83 + q84)) + q85)) < v70.2.2.1)))) fun v86 =>
 sel v86 (
 some (v70.2.2.2, v33.2.2.2, Xaa .i64 ((Xaa .i64 (q83 + q84)) + q85))) (
 some (v70.1, v70.2.1, v70.2.2.1)))) fun v80 =>
 some (.go (v80.1, v80.2.1, v80.2.2, Xaa .i64 (v70.2.2.2 + 1)))) (
 some (.done (v70.1, v70.2.1, v70.2.2.1)))
def Xfl (p0 : Pic) (p1 : (List Int)) (p2 : Int) (p3 : Int) (p4 : Int) (v33 : (Int × Int × Int × Int)) : Option (Lp (Int × Int × Int × Int) (Int × Int × Int)) :=
 sel (decide (v33.2.2.2 ≤ p4)) (
 bnd (loop (Xc4 p0 p1 p2 p3 p4 v33) (v33.1, v33.2.1, v33.2.2.1, Xaa .i64 (0 - p4))) fun v79 =>
 some (.go (v79.1, v79.2.1, v79.2.2, Xaa .i64 (v33.2.2.2 + 1)))) (
 some (.done (v33.1, v33.2.1, v33.2.2.1)))
def Xds (p0 : Pic) (p1 : (List Int)) (p2 : Int) (p3 : Int) (p4 : Int) : Option (Int × Int × Int) :=
 bnd (
 bnd (Xb2 p0) fun q2 =>
 sel q2 (
 bnd (Xbm p1 64 0 255) fun q3 =>
 sel q3 (
 bnd (Xak p4 0 4) fun q4 =>
 sel q4 (
 bnd (Xb4 p0 p2 p3) fun q5 =>
 some (!q5)) (
 some true)) (
 some true)) (
 some true)) fun v1 =>
 sel v1 (
 some (0, 0, (-1))) (
 bnd (loop (Xfl p0 p1 p2 p3 p4) (0, 0, (-1), Xaa .i64 (0 - p4))) fun v61 =>
 some (v61.1, v61.2.1, v61.2.2))
def Xe9 (p0 : Pic) (p1 : Pic) (p2 : (List Int)) (p3 : Int) (p4 : Int) (p5 : Xer) (p6 : Int) : Option (Xam × (List Int) × Bool) :=
 bnd (
 bnd (Xb2 p0) fun q2 =>
 sel q2 (
 bnd (Xb4 p0 p3 p4) fun q3 =>
 sel q3 (
 bnd (Xbm p2 64 0 255) fun q4 =>
 sel q4 (
 bnd (Xdn p5) fun q5 =>
 sel q5 (
 bnd (Xak p6 0 4) fun q6 =>
 some (!q6)) (
 some true)) (
 some true)) (
 some true)) (
 some true)) fun v1 =>
 sel v1 (
 some ((⟨0, 0, 0, 0, []⟩ : Xam), ([] : List Int), false)) (
 bnd (
 sel p5.Key (
 some false) (
 bnd (Xb2 p1) fun q8 =>
 sel q8 (
 sel (p1.Wide != p0.Wide) (
 some true) (
 some (p1.High != p0.High))) (
 some true))) fun v7 =>
 sel v7 (
 some ((⟨0, 0, 0, 0, []⟩ : Xam), ([] : List Int), false)) (
 bnd (Xkg p0 p3 p4) fun q9 =>
 bnd (Xjc p2 q9.1) fun q10 =>
 bnd (Xf6 q10.1 q9.1) fun q11 =>
 bnd (Xgk p2 q11) fun q12 =>
 bnd (Xge q12 p5) fun q13 =>
 bnd (
 sel (!p5.Key) (
 bnd (Xbz p1 p3 p4) fun q15 =>
 bnd (Xqj p2 q15) fun q16 =>
 sel (q16 == 0) (
 some (0, 0, 0, 0, [])) (
 bnd (Xds p1 p2 p3 p4 p6) fun q17 =>
 sel (decide (q17.2.2 ≤ q10.2)) (
 bnd (Xbz p1 (Xaa .i64 (p3 + q17.1)) (Xaa .i64 (p4 + q17.2.1))) fun q18 =>
 bnd (Xgk p2 q18) fun q19 =>
 bnd (Xge q19 p5) fun q20 =>
 bnd (
 sel (q17.1 == 0) (
 sel (q17.2.1 == 0) (
 bnd (Xbm q20.1 64 0 0) fun q22 =>
 some q22) (
 some false)) (
 some false)) fun v21 =>
 sel v21 (
 some (0, 0, 0, 0, [])) (
 some (1, 0, q17.1, q17.2.1, q20.1))) (
 some (2, q10.1, 0, 0, q13.1)))) (
 some (2, q10.1, 0, 0, q13.1))) fun v14 =>
 bnd (Xco p0 p1 0 0 p5 p3 p4 (⟨v14.1, v14.2.1, v14.2.2.1, v14.2.2.2.1, v14.2.2.2.2⟩ : Xam)) fun q23 =>
 sel (!q23.2) (
 some ((⟨0, 0, 0, 0, []⟩ : Xam), ([] : List Int), false)) (
 some ((⟨v14.1, v14.2.1, v14.2.2.1, v14.2.2.2.1, v14.2.2.2.2⟩ : Xam), q23.1, true))))
def Xew (p0 : Pic) (p1 : Pic) (p2 : Xer) (p3 : Int) (v25 : (Int × (List Xam) × Int × Int × ByteArray)) (v46 : (Int × (List Xam) × Int × Int × ByteArray)) : Option (Lp (Int × (List Xam) × Int × Int × ByteArray) (Ou ((List Xam) × Int × Int × ByteArray) ((List Xam) × Pic × Bool))) :=
 sel (decide (v46.1 < p0.Wide)) (
 bnd (Xbz p0 v46.1 v25.1) fun q52 =>
 bnd (Xe9 (⟨v46.2.2.1, v46.2.2.2.1, v46.2.2.2.2⟩ : Pic) p1 q52 v46.1 v25.1 p2 p3) fun q53 =>
 sel (!q53.2.2) (
 some (.done (.ret (([] : List Xam), (⟨0, 0, ⟨#[]⟩⟩ : Pic), false)))) (
 req ((v46.2.1.length + ([q53.1]).length) * 56 ≤ 140737488355328 ∧ v46.2.1.length + ([q53.1]).length ≤ maxLen) <|
 bnd (Xvn (⟨v46.2.2.1, v46.2.2.2.1, v46.2.2.2.2⟩ : Pic) v46.1 v25.1 q53.2.1) fun q54 =>
 some (.go (Xaa .i64 (v46.1 + 8), (v46.2.1 ++ ([q53.1])), q54.Wide, q54.High, q54.Dots)))) (
 some (.done (.out (v46.2.1, v46.2.2.1, v46.2.2.2.1, v46.2.2.2.2))))
def Xev (p0 : Pic) (p1 : Pic) (p2 : Xer) (p3 : Int) (v25 : (Int × (List Xam) × Int × Int × ByteArray)) : Option (Lp (Int × (List Xam) × Int × Int × ByteArray) (Ou ((List Xam) × Int × Int × ByteArray) ((List Xam) × Pic × Bool))) :=
 sel (decide (v25.1 < p0.High)) (
 bnd (loop (Xew p0 p1 p2 p3 v25) (0, v25.2.1, v25.2.2.1, v25.2.2.2.1, v25.2.2.2.2)) fun o55 => match o55 with
| .out v51 => (
 some (.go (Xaa .i64 (v25.1 + 8), v51.1, v51.2.1, v51.2.2.1, v51.2.2.2)))
| .ret r => some (.done (.ret r))) (
 some (.done (.out (v25.2.1, v25.2.2.1, v25.2.2.2.1, v25.2.2.2.2))))
def Xkl (p0 : Pic) (p1 : Pic) (p2 : Xer) (p3 : Int) : Option ((List Xam) × Pic × Bool) :=
 bnd (
 bnd (Xb2 p0) fun q2 =>
 sel q2 (
 bnd (Xfc p0.Wide) fun q3 =>
 sel q3 (
 bnd (Xfc p0.High) fun q4 =>
 sel q4 (
 bnd (Xdn p2) fun q5 =>
 sel q5 (
 bnd (Xak p3 0 4) fun q6 =>
 some (!q6)) (
 some true)) (
 some true)) (
 some true)) (
 some true)) fun v1 =>
 sel v1 (
 some (([] : List Xam), (⟨0, 0, ⟨#[]⟩⟩ : Pic), false)) (
 bnd (
 sel p2.Key (
 some false) (
 bnd (Xb2 p1) fun q8 =>
 sel q8 (
 sel (p1.Wide != p0.Wide) (
 some true) (
 some (p1.High != p0.High))) (
 some true))) fun v7 =>
 sel v7 (
 some (([] : List Xam), (⟨0, 0, ⟨#[]⟩⟩ : Pic), false)) (
 bnd (Xri p0.Wide p0.High) fun q9 =>
 bnd (loop (Xev p0 p1 p2 p3) (0, ([] : List Xam), q9.Wide, q9.High, q9.Dots)) fun o56 => match o56 with
| .out v41 => (
 some (v41.1, (⟨v41.2.1, v41.2.2.1, v41.2.2.2⟩ : Pic), true))
| .ret r => some r))
def Xnz (p0 : Seq) (p1 : Par) (p2 : Xve) : Option (ByteArray × Bool) :=
 bnd (Xmh p0 p1 p2) fun q1 =>
 sel (!q1) (
 some (⟨#[]⟩, false)) (
 bnd (Xkk (Xaa .i64 (p2.Qp - p1.Qp))) fun q2 =>
 bnd (Xi3 p2.Tile) fun q3 =>
 bnd (Xks p2.Frame p0.Bits) fun q4 =>
 req (q3.size + q4.size ≤ 9223372036854775807) <|
 req ((q3 ++ q4).size + q2.1.size ≤ 9223372036854775807) <|
 some (((q3 ++ q4) ++ q2.1), true))
def Xkp (p0 : (List Int)) (v3 : (Int × Int)) : Option (Lp (Int × Int) Int) :=
 sel (decide (v3.2 < (p0.length : Int))) (
 bnd (
 req (0 ≤ v3.2 ∧ v3.2 < p0.length) <|
 sel ((p0.getD v3.2.toNat 0) != 0) (
 some (Xaa .i64 (v3.1 + 1))) (
 some v3.1)) fun v7 =>
 some (.go (v7, Xaa .i64 (v3.2 + 1)))) (
 some (.done v3.1))
def Xkq (p0 : (List Int)) (v15 : (Int × Int × (List Int))) : Option (Lp (Int × Int × (List Int)) (List Int)) :=
 sel (decide (v15.2.1 < (p0.length : Int))) (
 bnd (
 req (0 ≤ v15.2.1 ∧ v15.2.1 < p0.length) <|
 sel ((p0.getD v15.2.1.toNat 0) == 0) (
 some (Xaa .i64 (v15.1 + 1), v15.2.2)) (
 bnd (Xmf (p0.getD v15.2.1.toNat 0)) fun q23 =>
 bnd (Xi3 v15.1) fun q24 =>
 req ((v15.2.2.length + (Xa6 q24).length) * 1 ≤ 140737488355328 ∧ v15.2.2.length + (Xa6 q24).length ≤ maxLen) <|
 bnd (Xi3 q23.1) fun q25 =>
 req (((v15.2.2 ++ (Xa6 q24)).length + (Xa6 q25).length) * 1 ≤ 140737488355328 ∧ (v15.2.2 ++ (Xa6 q24)).length + (Xa6 q25).length ≤ maxLen) <|
 some (0, ((v15.2.2 ++ (Xa6 q24)) ++ (Xa6 q25))))) fun v22 =>
 some (.go (v22.1, Xaa .i64 (v15.2.1 + 1), v22.2))) (
 some (.done v15.2.2))
def Xrv (p0 : (List Int)) : Option (List Int) :=
 bnd (loop (Xkp p0) (0, 0)) fun v6 =>
 bnd (Xi3 v6) fun q9 =>
 req ((([] : List Int).length + (Xa6 q9).length) * 1 ≤ 140737488355328 ∧ ([] : List Int).length + (Xa6 q9).length ≤ maxLen) <|
 bnd (loop (Xkq p0) (0, 0, (([] : List Int) ++ (Xa6 q9)))) fun v21 =>
 some v21
def Xc6 (p0 : (List Int)) (v5 : (Int × (List Int))) : Option (Lp (Int × (List Int)) (List Int)) :=
 sel (decide (v5.1 < 4)) (
 req (0 ≤ (Xaa .i64 (16 * v5.1)) ∧ (Xaa .i64 (16 * v5.1)) ≤ (Xaa .i64 ((Xaa .i64 (16 * v5.1)) + 16)) ∧ (Xaa .i64 ((Xaa .i64 (16 * v5.1)) + 16)) ≤ (p0.length : Int)) <|
 bnd (Xrv ((p0.drop (Xaa .i64 (16 * v5.1)).toNat).take ((Xaa .i64 ((Xaa .i64 (16 * v5.1)) + 16)).toNat - (Xaa .i64 (16 * v5.1)).toNat))) fun q9 =>
 req ((v5.2.length + q9.length) * 1 ≤ 140737488355328 ∧ v5.2.length + q9.length ≤ maxLen) <|
 some (.go (Xaa .i64 (v5.1 + 1), (v5.2 ++ q9)))) (
 some (.done v5.2))
def Xg5 (p0 : (List Int)) (p1 : Xer) : Option (List Int) :=
 bnd (
 sel p1.Large (
 some true) (
 some p1.Exact)) fun v1 =>
 sel v1 (
 bnd (Xrv p0) fun q2 =>
 some q2) (
 bnd (loop (Xc6 p0) (0, ([] : List Int))) fun v8 =>
 some v8)
def Xjh (p0 : Xam) (p1 : Xer) : Option (ByteArray × Bool) :=
 bnd (
 bnd (Xgh p0) fun q2 =>
 sel q2 (
 bnd (Xdn p1) fun q3 =>
 sel q3 (
 bnd (Xef p0 p1) fun q4 =>
 some (!q4)) (
 some true)) (
 some true)) fun v1 =>
 sel v1 (
 some (⟨#[]⟩, false)) (
 bnd (
 sel (!p1.Key) (
 bnd (Xi3 p0.Kind) fun q6 =>
 req ((([] : List Int).length + (Xa6 q6).length) * 1 ≤ 140737488355328 ∧ ([] : List Int).length + (Xa6 q6).length ≤ maxLen) <|
 some (([] : List Int) ++ (Xa6 q6))) (
 some ([] : List Int))) fun v5 =>
 bnd (
 sel (p0.Kind == 1) (
 bnd (Xkk p0.Dx) fun q8 =>
 bnd (Xkk p0.Dy) fun q9 =>
 req ((v5.length + (Xa6 q8.1).length) * 1 ≤ 140737488355328 ∧ v5.length + (Xa6 q8.1).length ≤ maxLen) <|
 req (((v5 ++ (Xa6 q8.1)).length + (Xa6 q9.1).length) * 1 ≤ 140737488355328 ∧ (v5 ++ (Xa6 q8.1)).length + (Xa6 q9.1).length ≤ maxLen) <|
 bnd (Xg5 p0.Levels p1) fun q10 =>
 req ((((v5 ++ (Xa6 q8.1)) ++ (Xa6 q9.1)).length + q10.length) * 1 ≤ 140737488355328 ∧ ((v5 ++ (Xa6 q8.1)) ++ (Xa6 q9.1)).length + q10.length ≤ maxLen) <|
 some (((v5 ++ (Xa6 q8.1)) ++ (Xa6 q9.1)) ++ q10)) (
 sel (p0.Kind == 2) (
 bnd (Xi3 p0.Mode) fun q11 =>
 req ((v5.length + (Xa6 q11).length) * 1 ≤ 140737488355328 ∧ v5.length + (Xa6 q11).length ≤ maxLen) <|
 bnd (Xg5 p0.Levels p1) fun q12 =>
 req (((v5 ++ (Xa6 q11)).length + q12.length) * 1 ≤ 140737488355328 ∧ (v5 ++ (Xa6 q11)).length + q12.length ≤ maxLen) <|
 some ((v5 ++ (Xa6 q11)) ++ q12)) (
 some v5))) fun v7 =>
 some ((strOfNums v7), true))
def Xfp (p0 : (List Xam)) (p1 : Xer) (v4 : (Int × (List Int))) : Option (Lp (Int × (List Int)) (Ou (List Int) (ByteArray × Bool))) :=
 sel (decide (v4.1 < (p0.length : Int))) (
 req (0 ≤ v4.1 ∧ v4.1 < p0.length) <|
 bnd (Xjh (⟨(p0.getD v4.1.toNat Xme).Kind, (p0.getD v4.1.toNat Xme).Mode, (p0.getD v4.1.toNat Xme).Dx, (p0.getD v4.1.toNat Xme).Dy, (p0.getD v4.1.toNat Xme).Levels⟩ : Xam) p1) fun q8 =>
 sel (!q8.2) (
 some (.done (.ret (⟨#[]⟩, false)))) (
 req ((v4.2.length + (Xa6 q8.1).length) * 1 ≤ 140737488355328 ∧ v4.2.length + (Xa6 q8.1).length ≤ maxLen) <|
 some (.go (Xaa .i64 (v4.1 + 1), (v4.2 ++ (Xa6 q8.1)))))) (
 some (.done (.out v4.2)))
def Xkm (p0 : (List Xam)) (p1 : Xer) : Option (ByteArray × Bool) :=
 bnd (Xak (p0.length : Int) 1 64) fun q1 =>
 sel (!q1) (
 some (⟨#[]⟩, false)) (
 bnd (loop (Xfp p0 p1) (0, ([] : List Int))) fun o9 => match o9 with
| .out v7 => (
 some ((strOfNums v7), true))
| .ret r => some r)
def Xhx (p0 : Seq) (v14 : (ByteArray × Int)) (v29 : (ByteArray × Int)) : Option (Lp (ByteArray × Int) ByteArray) :=
 sel (decide (v29.2 < ((([p0.Cols, p0.Rows]).getD v14.2.toNat Xgc).length : Int))) (
 req (0 ≤ v29.2 ∧ v29.2 < (([p0.Cols, p0.Rows]).getD v14.2.toNat Xgc).length) <|
 bnd (Xi3 ((([p0.Cols, p0.Rows]).getD v14.2.toNat Xgc).getD v29.2.toNat 0)) fun q33 =>
 req (v29.1.size + q33.size ≤ 9223372036854775807) <|
 some (.go ((v29.1 ++ q33), Xaa .i64 (v29.2 + 1)))) (
 some (.done v29.1))
def Xee (p0 : Seq) (v14 : (ByteArray × Int)) : Option (Lp (ByteArray × Int) ByteArray) :=
 sel (decide (v14.2 < (([p0.Cols, p0.Rows]).length : Int))) (
 req (0 ≤ v14.2 ∧ v14.2 < ([p0.Cols, p0.Rows]).length) <|
 req (v14.2.toNat < ([p0.Cols, p0.Rows]).length) <|
 bnd (Xi3 ((([p0.Cols, p0.Rows]).getD v14.2.toNat Xgc).length : Int)) fun q26 =>
 req (v14.1.size + q26.size ≤ 9223372036854775807) <|
 bnd (loop (Xhx p0 v14) ((v14.1 ++ q26), 0)) fun v32 =>
 some (.go (v32, Xaa .i64 (v14.2 + 1)))) (
 some (.done v14.1))
def Xps (p0 : Seq) : Option (ByteArray × Bool) :=
 bnd (Xg2 p0) fun q1 =>
 sel (!q1) (
 some (⟨#[]⟩, false)) (
 bnd (Xi3 p0.Level) fun q2 =>
 bnd (Xks p0.Bits 4) fun q3 =>
 req (q2.size + q3.size ≤ 9223372036854775807) <|
 bnd (loop (Xee p0) ((q2 ++ q3), 0)) fun v25 =>
 some (v25, true))
def Xr0 (p0 : Bool) : Option ByteArray :=
 sel p0 (
 some ⟨#[49]⟩) (
 some ⟨#[48]⟩)
def Xpq (p0 : Par) : Option (ByteArray × Bool) :=
 bnd (Xd6 p0) fun q1 =>
 sel (!q1) (
 some (⟨#[]⟩, false)) (
 bnd (Xks p0.Qp 6) fun q2 =>
 bnd (Xr0 p0.Large) fun q3 =>
 req (q2.size + q3.size ≤ 9223372036854775807) <|
 bnd (Xr0 p0.Exact) fun q4 =>
 req ((q2 ++ q3).size + q4.size ≤ 9223372036854775807) <|
 bnd (Xr0 p0.Confined) fun q5 =>
 req (((q2 ++ q3) ++ q4).size + q5.size ≤ 9223372036854775807) <|
 some ((((q2 ++ q3) ++ q4) ++ q5), true))
def Xgt (p0 : ByteArray) (v4 : (Int × (List Int))) : Option (Lp (Int × (List Int)) (List Int)) :=
 sel (decide (v4.1 < (p0.size : Int))) (
 bnd (
 req (0 ≤ v4.1 ∧ v4.1 < p0.size) <|
 sel ((Xwm p0 v4.1) == 49) (
 req ((8 : Int) ≠ 0) <|
 req (0 ≤ (Xaa .i64 (v4.1.tdiv 8)) ∧ (Xaa .i64 (v4.1.tdiv 8)) < v4.2.length) <|
 req ((Xaa .i64 (v4.1.tdiv 8)).toNat < v4.2.length) <|
 req ((8 : Int) ≠ 0) <|
 req (0 ≤ (v4.1.tmod 8)) <|
 req (0 ≤ (Xaa .i64 (v4.1.tdiv 8)) ∧ (Xaa .i64 (v4.1.tdiv 8)) < v4.2.length) <|
 req ((Xaa .i64 (v4.1.tdiv 8)).toNat < v4.2.length) <|
 some (v4.2.set ((Xaa .i64 (v4.1.tdiv 8)).toNat) (IntKind.wrap .u8 (BitVec.ofInt (IntKind.bits .u8) (v4.2.getD ((Xaa .i64 (v4.1.tdiv 8)).toNat) 0) ||| BitVec.ofInt (IntKind.bits .u8) ((128 : Int) / 2 ^ min (v4.1.tmod 8).toNat (IntKind.bits .u8))).toNat))) (
 some v4.2)) fun v8 =>
 some (.go (Xaa .i64 (v4.1 + 1), v8))) (
 some (.done v4.2))
def Xla (p0 : ByteArray) : Option (ByteArray × Bool) :=
 bnd (Xpd p0) fun q1 =>
 sel (!q1) (
 some (⟨#[]⟩, false)) (
 req ((8 : Int) ≠ 0) <|
 req (0 ≤ (Xaa .i64 ((Xaa .i64 ((p0.size : Int).tdiv 8)) + 1)) ∧ (Xaa .i64 ((Xaa .i64 ((p0.size : Int).tdiv 8)) + 1)) ≤ (Xaa .i64 ((Xaa .i64 ((p0.size : Int).tdiv 8)) + 1)) ∧ (Xaa .i64 ((Xaa .i64 ((p0.size : Int).tdiv 8)) + 1)) * 1 ≤ 281474976710656) <|
 bnd (loop (Xgt p0) (0, (List.replicate (Xaa .i64 ((Xaa .i64 ((p0.size : Int).tdiv 8)) + 1)).toNat (0 : Int)))) fun v7 =>
 req ((8 : Int) ≠ 0) <|
 req (0 ≤ (Xaa .i64 ((p0.size : Int).tdiv 8)) ∧ (Xaa .i64 ((p0.size : Int).tdiv 8)) < v7.length) <|
 req ((Xaa .i64 ((p0.size : Int).tdiv 8)).toNat < v7.length) <|
 req ((8 : Int) ≠ 0) <|
 req (0 ≤ ((p0.size : Int).tmod 8)) <|
 req (0 ≤ (Xaa .i64 ((p0.size : Int).tdiv 8)) ∧ (Xaa .i64 ((p0.size : Int).tdiv 8)) < v7.length) <|
 req ((Xaa .i64 ((p0.size : Int).tdiv 8)).toNat < v7.length) <|
 some ((strOfNums (v7.set ((Xaa .i64 ((p0.size : Int).tdiv 8)).toNat) (IntKind.wrap .u8 (BitVec.ofInt (IntKind.bits .u8) (v7.getD ((Xaa .i64 ((p0.size : Int).tdiv 8)).toNat) 0) ||| BitVec.ofInt (IntKind.bits .u8) ((128 : Int) / 2 ^ min ((p0.size : Int).tmod 8).toNat (IntKind.bits .u8))).toNat))), true))
def Xj8 (p0 : Int) (p1 : ByteArray) : Option (ByteArray × Bool) :=
 bnd (Xla p1) fun q1 =>
 bnd (
 sel q1.2 (
 bnd (Xmu p0) fun q3 =>
 some (!q3)) (
 some true)) fun v2 =>
 sel v2 (
 some (⟨#[]⟩, false)) (
 req ((strOfNums ([Xaa .u8 (p0)])).size + q1.1.size ≤ 9223372036854775807) <|
 some (((strOfNums ([Xaa .u8 (p0)])) ++ q1.1), true))
def Xhz (p0 : Xa3) : Option (List ByteArray) :=
 bnd (Xgg p0) fun q1 =>
 sel (!q1) (
 some ([] : List ByteArray)) (
 bnd (Xps p0.Seq) fun q2 =>
 bnd (Xpq p0.Par) fun q3 =>
 bnd (Xj8 7 q2.1) fun q4 =>
 bnd (Xj8 8 q3.1) fun q5 =>
 some ([q4.1, q5.1]))
def Xk9 (p0 : Rate) (p1 : Int) : Option Rate :=
 bnd (Xj6 p0) fun q1 =>
 sel (!q1) (
 some p0) (
 bnd (Xcy p1 0 400000) fun q2 =>
 bnd (Xcy (Xaa .i64 ((Xaa .i64 (p0.Debt + q2)) - p0.Target)) (Xaa .i64 ((-8) * p0.Target)) (Xaa .i64 (8 * p0.Target))) fun q3 =>
 bnd (
 sel (decide (q3 > p0.Target)) (
 some (Xaa .i64 (p0.Qp + 1))) (
 sel (decide (q3 < (Xaa .i64 (0 - p0.Target)))) (
 some (Xaa .i64 (p0.Qp - 1))) (
 some p0.Qp))) fun v4 =>
 bnd (Xcy v4 0 40) fun q5 =>
 some (⟨q5, p0.Target, q3⟩ : Rate))
def Xh0 (p0 : Xa3) (p1 : Pic) (p2 : Bool) : Option (Xa3 × (List ByteArray) × Bool) :=
 bnd (
 bnd (Xgg p0) fun q2 =>
 sel q2 (
 bnd (Xrs p1 p0.Seq) fun q3 =>
 some (!q3)) (
 some true)) fun v1 =>
 sel v1 (
 bnd (Xeg p0) fun q4 =>
 some (q4, ([] : List ByteArray), false)) (
 bnd (Xpo p0 p2) fun q5 =>
 bnd (
 sel q5 (
 some false) (
 some (decide (p0.Since ≥ 1000)))) fun v6 =>
 sel v6 (
 bnd (Xeg p0) fun q7 =>
 some (q7, ([] : List ByteArray), false)) (
 bnd (Xrj p0.Rate q5) fun q8 =>
 bnd (Xkl p1 p0.Ref (⟨q5, q8, p0.Par.Large, p0.Par.Exact⟩ : Xer) p0.Reach) fun q9 =>
 bnd (Xnz p0.Seq p0.Par (⟨0, p0.Frame, q8⟩ : Xve)) fun q10 =>
 bnd (Xkm q9.1 (⟨q5, q8, p0.Par.Large, p0.Par.Exact⟩ : Xer)) fun q11 =>
 bnd (Xeg p0) fun q12 =>
 bnd (
 sel q5 (
 bnd (Xhz p0) fun q14 =>
 some (5, 1, q14)) (
 some (1, Xaa .i64 (q12.Since + 1), ([] : List ByteArray)))) fun v13 =>
 req (q10.1.size + q11.1.size ≤ 9223372036854775807) <|
 bnd (Xj8 v13.1 (q10.1 ++ q11.1)) fun q15 =>
 bnd (Xk9 p0.Rate (Xaa .i64 ((q10.1.size : Int) + (q11.1.size : Int)))) fun q16 =>
 req (0 ≤ p0.Seq.Bits) <|
 req ((Xaa .i64 (1 * 2 ^ min p0.Seq.Bits.toNat (IntKind.bits .i64))) ≠ 0) <|
 req ((v13.2.2.length + ([q15.1]).length) * 16 ≤ 140737488355328 ∧ v13.2.2.length + ([q15.1]).length ≤ maxLen) <|
 some ((⟨q12.Seq, q12.Par, q16, ((Xaa .i64 (p0.Frame + 1)).tmod (Xaa .i64 (1 * 2 ^ min p0.Seq.Bits.toNat (IntKind.bits .i64)))), v13.2.1, q12.Every, q12.Reach, true, q9.2.1⟩ : Xa3), (v13.2.2 ++ ([q15.1])), true)))
def Xg3 (p0 : Xea) : Option Xea :=
 bnd (Xh4 p0.Seq) fun q1 =>
 some (⟨p0.Has, p0.Live, q1, p0.Par, p0.Frame, p0.Count, p0.Gone⟩ : Xea)
def Xf5 (p0 : Xea) : Option Bool :=
 bnd (
 bnd (Xak p0.Count 0 1000000000) fun q2 =>
 sel q2 (
 bnd (Xak p0.Gone 0 1000000000) fun q3 =>
 some (!q3)) (
 some true)) fun v1 =>
 sel v1 (
 some false) (
 sel (!p0.Has) (
 bnd (
 sel p0.Live (
 some false) (
 bnd (Xn2 p0.Seq) fun q5 =>
 sel q5 (
 sel (((p0.Par.Qp == 0) && ((p0.Par.Large == false) && ((p0.Par.Exact == false) && (p0.Par.Confined == false)))) == true) (
 some (p0.Frame == 0)) (
 some false)) (
 some false))) fun v4 =>
 some v4) (
 bnd (
 bnd (Xd2 p0.Seq) fun q7 =>
 sel (q7 == 1) (
 bnd (Xd6 p0.Par) fun q8 =>
 sel q8 (
 req (0 ≤ p0.Seq.Bits) <|
 bnd (Xak p0.Frame 0 (Xaa .i64 ((Xaa .i64 (1 * 2 ^ min p0.Seq.Bits.toNat (IntKind.bits .i64))) - 1))) fun q9 =>
 some q9) (
 some false)) (
 some false)) fun v6 =>
 some v6))
def Xht (p0 : Par) (p1 : Ybk) : Option Xer :=
 some (⟨p1.Key, p1.Qp, p0.Large, p0.Exact⟩ : Xer)
def Xmk (p0 : Par) (p1 : Ybk) (p2 : Int) : Option Bool :=
 bnd (Xht p0 p1) fun q1 =>
 bnd (Xe3 p1.Row 0 p2 q1) fun q2 =>
 bnd (
 sel q2.2 (
 bnd (Xd6 p0) fun q4 =>
 some q4) (
 some false)) fun v3 =>
 some v3
def Xbf (p1 : (List ByteArray)) (v4 : (Int × (List Int) × (List ByteArray))) : Option (Lp (Int × (List Int) × (List ByteArray)) (Ou ((List Int) × (List ByteArray)) (Int × Seq × Par × Xve × Ybk))) :=
 sel (decide (v4.1 < (p1.length : Int))) (
 req (0 ≤ v4.1 ∧ v4.1 < p1.length) <|
 bnd (Xmq (p1.getD v4.1.toNat Xb0)) fun q9 =>
 bnd (
 sel q9.2.2 (
 some ((v4.2.1.length : Int) == 3)) (
 some true)) fun v10 =>
 sel v10 (
 some (.done (.ret (2, (⟨0, 0, [], []⟩ : Seq), (⟨0, false, false, false⟩ : Par), (⟨0, 0, 0⟩ : Xve), (⟨false, 0, ⟨#[]⟩⟩ : Ybk))))) (
 req ((v4.2.1.length + ([q9.1]).length) * 8 ≤ 140737488355328 ∧ v4.2.1.length + ([q9.1]).length ≤ maxLen) <|
 req ((v4.2.2.length + ([q9.2.1]).length) * 16 ≤ 140737488355328 ∧ v4.2.2.length + ([q9.2.1]).length ≤ maxLen) <|
 some (.go (Xaa .i64 (v4.1 + 1), (v4.2.1 ++ ([q9.1])), (v4.2.2 ++ ([q9.2.1])))))) (
 some (.done (.out (v4.2.1, v4.2.2))))
def Xb1 (p0 : Xea) (p1 : (List ByteArray)) (p2 : Par) : Option (Int × Seq × Par × Xve × Ybk) :=
 bnd (loop (Xbf p1) (0, ([] : List Int), ([] : List ByteArray))) fun o11 => match o11 with
| .out v8 => (
 Yqv (fun (v12 : (Int × Int × (List Int) × (List Int) × Int × Bool × Bool × Bool)) =>
 req (0 ≤ (Xaa .i64 ((v8.2.length : Int) - 1)) ∧ (Xaa .i64 ((v8.2.length : Int) - 1)) < v8.2.length) <|
 req ((Xaa .i64 ((v8.2.length : Int) - 1)).toNat < v8.2.length) <|
 bnd (Xgf (⟨v12.1, v12.2.1, v12.2.2.1, v12.2.2.2.1⟩ : Seq) (⟨v12.2.2.2.2.1, v12.2.2.2.2.2.1, v12.2.2.2.2.2.2.1, v12.2.2.2.2.2.2.2⟩ : Par) (v8.2.getD ((Xaa .i64 ((v8.2.length : Int) - 1)).toNat) Xb0)) fun q18 =>
 sel (!q18.2.2) (
 some (5, (⟨0, 0, [], []⟩ : Seq), (⟨0, false, false, false⟩ : Par), (⟨0, 0, 0⟩ : Xve), (⟨false, 0, ⟨#[]⟩⟩ : Ybk))) (
 bnd (
 sel ((v8.1.length : Int) == 3) (
 some false) (
 some (!p0.Live))) fun v19 =>
 sel v19 (
 some (6, (⟨0, 0, [], []⟩ : Seq), (⟨0, false, false, false⟩ : Par), (⟨0, 0, 0⟩ : Xve), (⟨false, 0, ⟨#[]⟩⟩ : Ybk))) (
 bnd (
 sel ((v8.1.length : Int) == 3) (
 some false) (
 some (q18.1.Frame != p0.Frame))) fun v20 =>
 sel v20 (
 some (7, (⟨0, 0, [], []⟩ : Seq), (⟨0, false, false, false⟩ : Par), (⟨0, 0, 0⟩ : Xve), (⟨false, 0, ⟨#[]⟩⟩ : Ybk))) (
 req (0 ≤ q18.2.1 ∧ q18.2.1 ≤ ((v8.2.getD ((Xaa .i64 ((v8.2.length : Int) - 1)).toNat) Xb0).size : Int) ∧ ((v8.2.getD ((Xaa .i64 ((v8.2.length : Int) - 1)).toNat) Xb0).size : Int) ≤ ((v8.2.getD ((Xaa .i64 ((v8.2.length : Int) - 1)).toNat) Xb0).size : Int)) <|
 bnd (Xd1 (⟨v12.1, v12.2.1, v12.2.2.1, v12.2.2.2.1⟩ : Seq)) fun q21 =>
 bnd (Xmk (⟨v12.2.2.2.2.1, v12.2.2.2.2.2.1, v12.2.2.2.2.2.2.1, v12.2.2.2.2.2.2.2⟩ : Par) (⟨((v8.1.length : Int) == 3), q18.1.Qp, ((v8.2.getD ((Xaa .i64 ((v8.2.length : Int) - 1)).toNat) Xb0).extract q18.2.1.toNat ((v8.2.getD ((Xaa .i64 ((v8.2.length : Int) - 1)).toNat) Xb0).size : Int).toNat)⟩ : Ybk) q21) fun q22 =>
 sel (!q22) (
 some (8, (⟨0, 0, [], []⟩ : Seq), (⟨0, false, false, false⟩ : Par), (⟨0, 0, 0⟩ : Xve), (⟨false, 0, ⟨#[]⟩⟩ : Ybk))) (
 some (0, (⟨v12.1, v12.2.1, v12.2.2.1, v12.2.2.2.1⟩ : Seq), (⟨v12.2.2.2.2.1, v12.2.2.2.2.2.1, v12.2.2.2.2.2.2.1, v12.2.2.2.2.2.2.2⟩ : Par), q18.1, (⟨((v8.1.length : Int) == 3), q18.1.Qp, ((v8.2.getD ((Xaa .i64 ((v8.2.length : Int) - 1)).toNat) Xb0).extract q18.2.1.toNat ((v8.2.getD ((Xaa .i64 ((v8.2.length : Int) - 1)).toNat) Xb0).size : Int).toNat)⟩ : Ybk))))))) fun j1 =>
 bnd (
 sel ((v8.1.length : Int) == 3) (
 req (0 ≤ (0 : Int) ∧ (0 : Int) < v8.1.length) <|
 req ((0 : Int).toNat < v8.1.length) <|
 sel ((v8.1.getD ((0 : Int).toNat) 0) != 7) (
 some true) (
 req (0 ≤ (1 : Int) ∧ (1 : Int) < v8.1.length) <|
 req ((1 : Int).toNat < v8.1.length) <|
 sel ((v8.1.getD ((1 : Int).toNat) 0) != 8) (
 some true) (
 req (0 ≤ (2 : Int) ∧ (2 : Int) < v8.1.length) <|
 req ((2 : Int).toNat < v8.1.length) <|
 sel ((v8.1.getD ((2 : Int).toNat) 0) != 5) (
 some true) (
 some false)))) (
 sel ((v8.1.length : Int) != 1) (
 some true) (
 req (0 ≤ (0 : Int) ∧ (0 : Int) < v8.1.length) <|
 req ((0 : Int).toNat < v8.1.length) <|
 some ((v8.1.getD ((0 : Int).toNat) 0) != 1)))) fun v13 =>
 sel v13 (
 some (2, (⟨0, 0, [], []⟩ : Seq), (⟨0, false, false, false⟩ : Par), (⟨0, 0, 0⟩ : Xve), (⟨false, 0, ⟨#[]⟩⟩ : Ybk))) (
 sel ((v8.1.length : Int) == 3) (
 req (0 ≤ (0 : Int) ∧ (0 : Int) < v8.2.length) <|
 req ((0 : Int).toNat < v8.2.length) <|
 bnd (Xkj (v8.2.getD ((0 : Int).toNat) Xb0) 0) fun q14 =>
 req (0 ≤ (1 : Int) ∧ (1 : Int) < v8.2.length) <|
 req ((1 : Int).toNat < v8.2.length) <|
 bnd (Xki (v8.2.getD ((1 : Int).toNat) Xb0) 0) fun q15 =>
 bnd (
 sel q14.2.2 (
 req (0 ≤ (0 : Int) ∧ (0 : Int) < v8.2.length) <|
 req ((0 : Int).toNat < v8.2.length) <|
 sel (q14.2.1 != ((v8.2.getD ((0 : Int).toNat) Xb0).size : Int)) (
 some true) (
 sel q15.2.2 (
 req (0 ≤ (1 : Int) ∧ (1 : Int) < v8.2.length) <|
 req ((1 : Int).toNat < v8.2.length) <|
 sel (q15.2.1 != ((v8.2.getD ((1 : Int).toNat) Xb0).size : Int)) (
 some true) (
 bnd (Xd2 q14.1) fun q17 =>
 sel (q17 != 1) (
 some true) (
 sel q15.1.Confined (
 sel (q15.1.Large == p2.Large) (
 some (!(q15.1.Exact == p2.Exact))) (
 some true)) (
 some true)))) (
 some true))) (
 some true)) fun v16 =>
 sel v16 (
 some (3, (⟨0, 0, [], []⟩ : Seq), (⟨0, false, false, false⟩ : Par), (⟨0, 0, 0⟩ : Xve), (⟨false, 0, ⟨#[]⟩⟩ : Ybk))) (
 j1 (q14.1.Level, q14.1.Bits, q14.1.Cols, q14.1.Rows, q15.1.Qp, q15.1.Large, q15.1.Exact, q15.1.Confined))) (
 sel (!p0.Has) (
 some (4, (⟨0, 0, [], []⟩ : Seq), (⟨0, false, false, false⟩ : Par), (⟨0, 0, 0⟩ : Xve), (⟨false, 0, ⟨#[]⟩⟩ : Ybk))) (
 j1 (p0.Seq.Level, p0.Seq.Bits, p0.Seq.Cols, p0.Seq.Rows, p0.Par.Qp, p0.Par.Large, p0.Par.Exact, p0.Par.Confined)))))
| .ret r => some r
def Xkn (p0 : Int) : Option Int :=
 some (if (1000000000 : Int) < (Xaa .i64 (p0 + 1)) then (1000000000 : Int) else (Xaa .i64 (p0 + 1)))
def Xjb (p0 : Xea) : Option Xea :=
 bnd (Xg3 p0) fun q1 =>
 bnd (
 bnd (Xf5 p0) fun q3 =>
 sel q3 (
 bnd (Xkn p0.Gone) fun q4 =>
 some (false, q4)) (
 some (q1.Live, q1.Gone))) fun v2 =>
 some (⟨q1.Has, v2.1, q1.Seq, q1.Par, q1.Frame, q1.Count, v2.2⟩ : Xea)
def Xby (p0 : Xea) (p1 : (List ByteArray)) (p2 : Par) : Option (Xea × Int × Ybk) :=
 bnd (Xg3 p0) fun q1 =>
 bnd (
 bnd (Xf5 p0) fun q3 =>
 sel q3 (
 bnd (Xd6 p2) fun q4 =>
 some (!q4)) (
 some true)) fun v2 =>
 sel v2 (
 some (q1, 1, (⟨false, 0, ⟨#[]⟩⟩ : Ybk))) (
 bnd (Xb1 p0 p1 p2) fun q5 =>
 sel (q5.1 != 0) (
 bnd (Xjb p0) fun q6 =>
 some (q6, q5.1, (⟨false, 0, ⟨#[]⟩⟩ : Ybk))) (
 bnd (Xh4 q5.2.1) fun q7 =>
 bnd (Xpf q5.2.2.2.1.Frame q5.2.1.Bits) fun q8 =>
 bnd (Xkn p0.Count) fun q9 =>
 some ((⟨true, true, q7, q5.2.2.1, q8, q9, q1.Gone⟩ : Xea), 0, q5.2.2.2.2)))
def Xjf (p0 : Pic) (p1 : Xyw) (p2 : Par) (p3 : Ybk) : Option (Pic × Bool) :=
 bnd (
 bnd (Xfc p1.Wide) fun q2 =>
 sel q2 (
 bnd (Xfc p1.High) fun q3 =>
 sel q3 (
 bnd (Xd6 p2) fun q4 =>
 some (!q4)) (
 some true)) (
 some true)) fun v1 =>
 sel v1 (
 some ((⟨0, 0, ⟨#[]⟩⟩ : Pic), false)) (
 bnd (Xht p2 p3) fun q5 =>
 req ((8 : Int) ≠ 0) <|
 req ((8 : Int) ≠ 0) <|
 bnd (Xe3 p3.Row 0 (Xaa .i64 ((Xaa .i64 (p1.Wide.tdiv 8)) * (Xaa .i64 (p1.High.tdiv 8)))) q5) fun q6 =>
 sel (!q6.2) (
 some ((⟨0, 0, ⟨#[]⟩⟩ : Pic), false)) (
 bnd (Xgi p0 p1 q5 p2.Confined q6.1) fun q7 =>
 some (q7.1, q7.2)))
def Xja (p0 : Xea) (p1 : Seq) (p2 : Int) : Option Bool :=
 bnd (Xlf p1 p2) fun q1 =>
 bnd (Xmo p0.Seq) fun q2 =>
 bnd (
 sel q1.2 (
 bnd (Xf5 p0) fun q4 =>
 sel q4 (
 sel p0.Has (
 sel (q2.1 == q1.1.Wide) (
 some (q2.2 == q1.1.High)) (
 some false)) (
 some false)) (
 some false)) (
 some false)) fun v3 =>
 some v3
def Xex (q2 : (Xa3 × (List Pic) × (List Bool))) (q3 : (List Int)) (v10 : (Int × Int × Int × Int × Bool × Bool × Bool × Int × Int × Int × Int × Int × Int × Int × Bool × Int × Int × ByteArray × Bool × Bool × Int × Int × Int × Bool × Bool × Bool × Int × Int × Int × Int × Int × ByteArray × (List Int) × (List Int) × (List Int) × (List Int))) : Option (Lp (Int × Int × Int × Int × Bool × Bool × Bool × Int × Int × Int × Int × Int × Int × Int × Bool × Int × Int × ByteArray × Bool × Bool × Int × Int × Int × Bool × Bool × Bool × Int × Int × Int × Int × Int × ByteArray × (List Int) × (List Int) × (List Int) × (List Int)) (Ou (Bool × Bool × Int × Int × Int × Bool × Bool × Bool × Int × Int × Int × (List Int) × (List Int)) Bool)) :=
 sel (decide (v10.1 < (q2.2.1.length : Int))) (
 req (0 ≤ v10.1 ∧ v10.1 < q2.2.1.length) <|
 req (v10.1.toNat < q2.2.1.length) <|
 req (0 ≤ v10.1 ∧ v10.1 < q2.2.2.length) <|
 req (v10.1.toNat < q2.2.2.length) <|
 bnd (Xh0 (⟨(⟨v10.2.1, v10.2.2.1, v10.2.2.2.2.2.2.2.2.2.2.2.2.2.2.2.2.2.2.2.2.2.2.2.2.2.2.2.2.2.2.2.2.1, v10.2.2.2.2.2.2.2.2.2.2.2.2.2.2.2.2.2.2.2.2.2.2.2.2.2.2.2.2.2.2.2.2.2.1⟩ : Seq), (⟨v10.2.2.2.1, v10.2.2.2.2.1, v10.2.2.2.2.2.1, v10.2.2.2.2.2.2.1⟩ : Par), (⟨v10.2.2.2.2.2.2.2.1, v10.2.2.2.2.2.2.2.2.1, v10.2.2.2.2.2.2.2.2.2.1⟩ : Rate), v10.2.2.2.2.2.2.2.2.2.2.1, v10.2.2.2.2.2.2.2.2.2.2.2.1, v10.2.2.2.2.2.2.2.2.2.2.2.2.1, v10.2.2.2.2.2.2.2.2.2.2.2.2.2.1, v10.2.2.2.2.2.2.2.2.2.2.2.2.2.2.1, (⟨v10.2.2.2.2.2.2.2.2.2.2.2.2.2.2.2.1, v10.2.2.2.2.2.2.2.2.2.2.2.2.2.2.2.2.1, v10.2.2.2.2.2.2.2.2.2.2.2.2.2.2.2.2.2.1⟩ : Pic)⟩ : Xa3) (⟨(q2.2.1.getD v10.1.toNat Zad).Wide, (q2.2.1.getD v10.1.toNat Zad).High, (q2.2.1.getD v10.1.toNat Zad).Dots⟩ : Pic) (q2.2.2.getD v10.1.toNat Za6)) fun q18 =>
 req ((([] : List ByteArray).length + q18.2.1.length) * 16 ≤ 140737488355328 ∧ ([] : List ByteArray).length + q18.2.1.length ≤ maxLen) <|
 bnd (Xby (⟨v10.2.2.2.2.2.2.2.2.2.2.2.2.2.2.2.2.2.2.1, v10.2.2.2.2.2.2.2.2.2.2.2.2.2.2.2.2.2.2.2.1, (⟨v10.2.2.2.2.2.2.2.2.2.2.2.2.2.2.2.2.2.2.2.2.1, v10.2.2.2.2.2.2.2.2.2.2.2.2.2.2.2.2.2.2.2.2.2.1, v10.2.2.2.2.2.2.2.2.2.2.2.2.2.2.2.2.2.2.2.2.2.2.2.2.2.2.2.2.2.2.2.2.2.2.1, v10.2.2.2.2.2.2.2.2.2.2.2.2.2.2.2.2.2.2.2.2.2.2.2.2.2.2.2.2.2.2.2.2.2.2.2⟩ : Seq), (⟨v10.2.2.2.2.2.2.2.2.2.2.2.2.2.2.2.2.2.2.2.2.2.2.1, v10.2.2.2.2.2.2.2.2.2.2.2.2.2.2.2.2.2.2.2.2.2.2.2.1, v10.2.2.2.2.2.2.2.2.2.2.2.2.2.2.2.2.2.2.2.2.2.2.2.2.1, v10.2.2.2.2.2.2.2.2.2.2.2.2.2.2.2.2.2.2.2.2.2.2.2.2.2.1⟩ : Par), v10.2.2.2.2.2.2.2.2.2.2.2.2.2.2.2.2.2.2.2.2.2.2.2.2.2.2.1, v10.2.2.2.2.2.2.2.2.2.2.2.2.2.2.2.2.2.2.2.2.2.2.2.2.2.2.2.1, v10.2.2.2.2.2.2.2.2.2.2.2.2.2.2.2.2.2.2.2.2.2.2.2.2.2.2.2.2.1⟩ : Xea) (([] : List ByteArray) ++ q18.2.1) (⟨((q3.getD ((0 : Int).toNat) 0).tmod 41), q2.1.Par.Large, q2.1.Par.Exact, true⟩ : Par)) fun q19 =>
 req (0 ≤ v10.1 ∧ v10.1 < q2.2.1.length) <|
 req (v10.1.toNat < q2.2.1.length) <|
 req (0 ≤ v10.1 ∧ v10.1 < q2.2.1.length) <|
 req (v10.1.toNat < q2.2.1.length) <|
 bnd (Xjf (⟨v10.2.2.2.2.2.2.2.2.2.2.2.2.2.2.2.2.2.2.2.2.2.2.2.2.2.2.2.2.2.1, v10.2.2.2.2.2.2.2.2.2.2.2.2.2.2.2.2.2.2.2.2.2.2.2.2.2.2.2.2.2.2.1, v10.2.2.2.2.2.2.2.2.2.2.2.2.2.2.2.2.2.2.2.2.2.2.2.2.2.2.2.2.2.2.2.1⟩ : Pic) (⟨0, 0, (q2.2.1.getD v10.1.toNat Zad).Wide, (q2.2.1.getD v10.1.toNat Zad).High⟩ : Xyw) (⟨((q3.getD ((0 : Int).toNat) 0).tmod 41), q2.1.Par.Large, q2.1.Par.Exact, true⟩ : Par) q19.2.2) fun q20 =>
 bnd (
 sel q18.2.2 (
 sel (q19.2.1 != 0) (
 some true) (
 sel q20.2 (
 sel (((q20.1.Wide == q18.1.Ref.Wide) && ((q20.1.High == q18.1.Ref.High) && (q20.1.Dots.toList == q18.1.Ref.Dots.toList))) == false) (
 some true) (
 sel q19.1.Live (
 sel (q19.1.Count != (Xaa .i64 (v10.1 + 1))) (
 some true) (
 sel (q19.1.Gone != 0) (
 some true) (
 sel (q19.1.Frame != q18.1.Frame) (
 some true) (
 bnd (Xja q19.1 (⟨v10.2.1, v10.2.2.1, v10.2.2.2.2.2.2.2.2.2.2.2.2.2.2.2.2.2.2.2.2.2.2.2.2.2.2.2.2.2.2.2.2.1, v10.2.2.2.2.2.2.2.2.2.2.2.2.2.2.2.2.2.2.2.2.2.2.2.2.2.2.2.2.2.2.2.2.2.1⟩ : Seq) 0) fun q22 =>
 sel q22 (
 some (!(q19.2.2.Key == ((q18.2.1.length : Int) == 3)))) (
 some true))))) (
 some true))) (
 some true))) (
 some true)) fun v21 =>
 sel v21 (
 some (.done (.ret false))) (
 some (.go (Xaa .i64 (v10.1 + 1), q18.1.Seq.Level, q18.1.Seq.Bits, q18.1.Par.Qp, q18.1.Par.Large, q18.1.Par.Exact, q18.1.Par.Confined, q18.1.Rate.Qp, q18.1.Rate.Target, q18.1.Rate.Debt, q18.1.Frame, q18.1.Since, q18.1.Every, q18.1.Reach, q18.1.Has, q18.1.Ref.Wide, q18.1.Ref.High, q18.1.Ref.Dots, q19.1.Has, q19.1.Live, q19.1.Seq.Level, q19.1.Seq.Bits, q19.1.Par.Qp, q19.1.Par.Large, q19.1.Par.Exact, q19.1.Par.Confined, q19.1.Frame, q19.1.Count, q19.1.Gone, q20.1.Wide, q20.1.High, q20.1.Dots, q18.1.Seq.Cols, q18.1.Seq.Rows, q19.1.Seq.Cols, q19.1.Seq.Rows)))) (
 some (.done (.out (v10.2.2.2.2.2.2.2.2.2.2.2.2.2.2.2.2.2.2.1, v10.2.2.2.2.2.2.2.2.2.2.2.2.2.2.2.2.2.2.2.1, v10.2.2.2.2.2.2.2.2.2.2.2.2.2.2.2.2.2.2.2.2.1, v10.2.2.2.2.2.2.2.2.2.2.2.2.2.2.2.2.2.2.2.2.2.1, v10.2.2.2.2.2.2.2.2.2.2.2.2.2.2.2.2.2.2.2.2.2.2.1, v10.2.2.2.2.2.2.2.2.2.2.2.2.2.2.2.2.2.2.2.2.2.2.2.1, v10.2.2.2.2.2.2.2.2.2.2.2.2.2.2.2.2.2.2.2.2.2.2.2.2.1, v10.2.2.2.2.2.2.2.2.2.2.2.2.2.2.2.2.2.2.2.2.2.2.2.2.2.1, v10.2.2.2.2.2.2.2.2.2.2.2.2.2.2.2.2.2.2.2.2.2.2.2.2.2.2.1, v10.2.2.2.2.2.2.2.2.2.2.2.2.2.2.2.2.2.2.2.2.2.2.2.2.2.2.2.1, v10.2.2.2.2.2.2.2.2.2.2.2.2.2.2.2.2.2.2.2.2.2.2.2.2.2.2.2.2.1, v10.2.2.2.2.2.2.2.2.2.2.2.2.2.2.2.2.2.2.2.2.2.2.2.2.2.2.2.2.2.2.2.2.2.2.1, v10.2.2.2.2.2.2.2.2.2.2.2.2.2.2.2.2.2.2.2.2.2.2.2.2.2.2.2.2.2.2.2.2.2.2.2))))
def Xo5 (p0 : (List Int)) : Option Bool :=
 bnd (Ygo p0) fun q1 =>
 sel q1 (
 some true) (
 bnd (Xjl p0) fun q2 =>
 bnd (Xid p0) fun q3 =>
 req (0 ≤ (0 : Int) ∧ (0 : Int) < q3.length) <|
 req ((0 : Int).toNat < q3.length) <|
 req ((41 : Int) ≠ 0) <|
 bnd (loop (Xex q2 q3) (0, q2.1.Seq.Level, q2.1.Seq.Bits, q2.1.Par.Qp, q2.1.Par.Large, q2.1.Par.Exact, true, q2.1.Rate.Qp, q2.1.Rate.Target, q2.1.Rate.Debt, q2.1.Frame, q2.1.Since, q2.1.Every, q2.1.Reach, q2.1.Has, q2.1.Ref.Wide, q2.1.Ref.High, q2.1.Ref.Dots, false, false, 0, 0, 0, false, false, false, 0, 0, 0, 0, 0, ⟨#[]⟩, q2.1.Seq.Cols, q2.1.Seq.Rows, [], [])) fun o23 => match o23 with
| .out v17 => (
 bnd (
 bnd (Xf5 (⟨v17.1, v17.2.1, (⟨v17.2.2.1, v17.2.2.2.1, v17.2.2.2.2.2.2.2.2.2.2.2.1, v17.2.2.2.2.2.2.2.2.2.2.2.2⟩ : Seq), (⟨v17.2.2.2.2.1, v17.2.2.2.2.2.1, v17.2.2.2.2.2.2.1, v17.2.2.2.2.2.2.2.1⟩ : Par), v17.2.2.2.2.2.2.2.2.1, v17.2.2.2.2.2.2.2.2.2.1, v17.2.2.2.2.2.2.2.2.2.2.1⟩ : Xea)) fun q25 =>
 sel q25 (
 some (v17.2.2.2.2.2.2.2.2.2.1 == (q2.2.1.length : Int))) (
 some false)) fun v24 =>
 some v24)
| .ret r => some r)
end
end Go.Proofs.YtnhflbeahbcklaaGreat.A
