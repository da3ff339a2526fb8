/- What the functions that the law FnStreams reaches compute, over numbers, texts and lists. Written by a program of this session. Conditions: none. -/
import Derived.Test.YtnhflbeahbcklabGreatAL2
namespace Go.Proofs.YtnhflbeahbcklabGreat.A
open Go Go.Proofs Go.Proofs.YtnhflbeahbcklabGreatAL Go.RowKit
set_option linter.unusedVariables false
set_option linter.unusedSimpArgs false
structure Seq where
 Level : Int
 Bits : Int
 Cols : (List Int)
 Rows : (List Int)
structure Par where
 Qp : Int
 Large : Bool
 Exact : Bool
 Confined : Bool
structure Pic where
 Wide : Int
 High : Int
 Dots : ByteArray
structure Xar where
 HasSeq : Bool
 HasPar : Bool
 HasRef : Bool
 Seq : Seq
 Par : Par
 Frame : Int
 Got : Int
 Now : Pic
 Ref : Pic
structure Xfg where
 Key : Bool
 Qp : Int
 Large : Bool
 Exact : Bool
structure Xrz where
 Tile : Int
 Frame : Int
 Qp : Int
structure Xa6 where
 b_ : (List Int)
 i_ : Int
 h_ : Int
structure Xao where
 Kind : Int
 Mode : Int
 Dx : Int
 Dy : Int
 Levels : (List Int)
structure Xph where
 Left : Int
 Top : Int
 Wide : Int
 High : Int
structure Xkf where
 row_ : ByteArray
 at_ : Int
 bad_ : Bool
structure Xnc where
 Above : (List Int)
 Left : (List Int)
 Corner : Int
def Xgr : ByteArray := ⟨#[]⟩
def Xmc : (List Int) := []
def Yzb : Pic := ⟨0, 0, ⟨#[]⟩⟩
def Xbt : Xao := ⟨0, 0, 0, 0, []⟩
noncomputable section
def Yda (p0 : (List Int)) : Option Bool :=
 some (decide ((p0.length : Int) > 1048576))
def Xmo (p0 : (List Int)) (v3 : (Int × Int)) : Option (Lp (Int × Int) Int) :=
 bnd (
 sel (decide (v3.2 < (p0.length : Int))) (
 some (decide (v3.2 < 4000))) (
 some false)) fun v7 =>
 sel v7 (
 req (0 ≤ v3.2 ∧ v3.2 < p0.length) <|
 some (.go ((IntKind.wrap .i64 (BitVec.ofInt (IntKind.bits .i64) (Xaa .i64 ((Xaa .i64 ((Xaa .i64 (v3.1 * 131)) + (Xaa .i64 ((p0.getD v3.2.toNat 0))))) + 7)) &&& BitVec.ofInt (IntKind.bits .i64) 1073741823).toNat), Xaa .i64 (v3.2 + 1)))) (
 some (.done v3.1))
def Xoo (p0 : (List Int)) : Option Xa6 :=
 bnd (loop (Xmo p0) (Xaa .i64 (94701 + (p0.length : Int)), 0)) fun v6 =>
 some (⟨p0, 0, v6⟩ : Xa6)
def Xe2 (p0 : Xa6) : Option (Int × Xa6) :=
 req (0 ≤ (33 : Int)) <|
 req (0 ≤ (45 : Int)) <|
 bnd (
 sel (decide (p0.i_ < (p0.b_.length : Int))) (
 req (0 ≤ p0.i_ ∧ p0.i_ < p0.b_.length) <|
 some ((IntKind.wrap .i64 (BitVec.ofInt (IntKind.bits .i64) (Xaa .i64 ((IntKind.wrap .i64 (BitVec.ofInt (IntKind.bits .i64) (IntKind.wrap .i64 (BitVec.ofInt (IntKind.bits .i64) ((Xaa .i64 ((Xaa .i64 (p0.h_ * 6364136223846793005)) + 1442695040888963407)) / 2 ^ min (33 : Int).toNat (IntKind.bits .i64)) ^^^ BitVec.ofInt (IntKind.bits .i64) ((Xaa .i64 ((Xaa .i64 (p0.h_ * 6364136223846793005)) + 1442695040888963407)) / 2 ^ min (45 : Int).toNat (IntKind.bits .i64))).toNat) &&& BitVec.ofInt (IntKind.bits .i64) 255).toNat) + (Xaa .i64 ((p0.b_.getD p0.i_.toNat 0))))) &&& BitVec.ofInt (IntKind.bits .i64) 255).toNat), Xaa .i64 (p0.i_ + 1))) (
 some ((IntKind.wrap .i64 (BitVec.ofInt (IntKind.bits .i64) (IntKind.wrap .i64 (BitVec.ofInt (IntKind.bits .i64) ((Xaa .i64 ((Xaa .i64 (p0.h_ * 6364136223846793005)) + 1442695040888963407)) / 2 ^ min (33 : Int).toNat (IntKind.bits .i64)) ^^^ BitVec.ofInt (IntKind.bits .i64) ((Xaa .i64 ((Xaa .i64 (p0.h_ * 6364136223846793005)) + 1442695040888963407)) / 2 ^ min (45 : Int).toNat (IntKind.bits .i64))).toNat) &&& BitVec.ofInt (IntKind.bits .i64) 255).toNat), p0.i_))) fun v1 =>
 some (v1.1, (⟨p0.b_, v1.2, Xaa .i64 ((Xaa .i64 (p0.h_ * 6364136223846793005)) + 1442695040888963407)⟩ : Xa6))
def Xa1 (p0 : Xa6) (p1 : Int) : Option (Int × Xa6) :=
 sel (decide (p1 ≤ 0)) (
 some (0, p0)) (
 sel (decide (p1 ≤ 256)) (
 bnd (Xe2 p0) fun q1 =>
 req (p1 ≠ 0) <|
 some ((q1.1.tmod p1), q1.2)) (
 bnd (Xe2 p0) fun q2 =>
 bnd (Xe2 q2.2) fun q3 =>
 bnd (Xe2 q3.2) fun q4 =>
 bnd (Xe2 q4.2) fun q5 =>
 req (p1 ≠ 0) <|
 some (((Xaa .i64 ((Xaa .i64 ((Xaa .i64 ((Xaa .i64 (q2.1 * 16777216)) + (Xaa .i64 (q3.1 * 65536)))) + (Xaa .i64 (q4.1 * 256)))) + q5.1)).tmod p1), q5.2)))
def Xbn (p0 : Xa6) (p1 : Int) : Option (Bool × Xa6) :=
 bnd (Xa1 p0 p1) fun q1 =>
 some ((q1.1 == 0), q1.2)
def Xgn (p0 : Xa6) : Option (Par × Xa6) :=
 bnd (Xa1 p0 41) fun q1 =>
 bnd (Xbn q1.2 4) fun q2 =>
 bnd (
 bnd (Xa1 q2.2 3) fun q4 =>
 sel (q4.1 == 0) (
 some (true, false, q4.2.b_, q4.2.i_, q4.2.h_)) (
 sel (q4.1 == 1) (
 some (false, true, q4.2.b_, q4.2.i_, q4.2.h_)) (
 some (false, false, q4.2.b_, q4.2.i_, q4.2.h_)))) fun v3 =>
 some ((⟨q1.1, v3.1, v3.2.1, (!q2.1)⟩ : Par), (⟨v3.2.2.1, v3.2.2.2.1, v3.2.2.2.2⟩ : Xa6))
def Xhm (p0 : Int) (p1 : Int) (v2 : (Int × (List Int))) : Option (Lp (Int × (List Int)) (List Int)) :=
 sel (decide (v2.1 < p0)) (
 req (0 ≤ v2.1 ∧ v2.1 < v2.2.length) <|
 req (v2.1.toNat < v2.2.length) <|
 some (.go (Xaa .i64 (v2.1 + 1), (v2.2.set v2.1.toNat p1)))) (
 some (.done v2.2))
def Xj5 (p0 : Int) (p1 : Int) : Option ByteArray :=
 req (0 ≤ p0 ∧ p0 ≤ p0 ∧ p0 * 1 ≤ 281474976710656) <|
 bnd (loop (Xhm p0 p1) (0, (List.replicate p0.toNat (0 : Int)))) fun v4 =>
 some (strOfNums v4)
def Xia (v2 : (Int × ByteArray)) : Option (Lp (Int × ByteArray) ByteArray) :=
 sel (decide (v2.1 > 0)) (
 req ((2 : Int) ≠ 0) <|
 req ((strOfNums ([Xaa .u8 (Xaa .i64 (48 + (v2.1.tmod 2)))])).size + v2.2.size ≤ 9223372036854775807) <|
 req ((2 : Int) ≠ 0) <|
 some (.go (Xaa .i64 (v2.1.tdiv 2), ((strOfNums ([Xaa .u8 (Xaa .i64 (48 + (v2.1.tmod 2)))])) ++ v2.2)))) (
 some (.done v2.2))
def Xdq (p0 : Int) : Option ByteArray :=
 bnd (loop (Xia) (Xaa .i64 (p0 + 1), ⟨#[]⟩)) fun v4 =>
 bnd (Xj5 (Xaa .i64 ((v4.size : Int) - 1)) 48) fun q6 =>
 req (q6.size + v4.size ≤ 9223372036854775807) <|
 some (q6 ++ v4)
def Xi2 (v2 : (Int × Int × (List Int))) : Option (Lp (Int × Int × (List Int)) (List Int)) :=
 sel (decide (v2.2.1 ≥ 0)) (
 req ((2 : Int) ≠ 0) <|
 req (0 ≤ v2.2.1 ∧ v2.2.1 < v2.2.2.length) <|
 req (v2.2.1.toNat < v2.2.2.length) <|
 req ((2 : Int) ≠ 0) <|
 some (.go (Xaa .i64 (v2.1.tdiv 2), Xaa .i64 (v2.2.1 - 1), (v2.2.2.set v2.2.1.toNat (Xaa .u8 (Xaa .i64 (48 + (v2.1.tmod 2)))))))) (
 some (.done v2.2.2))
def Xhn (p0 : Int) (p1 : Int) : Option ByteArray :=
 req (0 ≤ p1 ∧ p1 ≤ p1 ∧ p1 * 1 ≤ 281474976710656) <|
 bnd (loop (Xi2) (p0, Xaa .i64 (p1 - 1), (List.replicate p1.toNat (0 : Int)))) fun v4 =>
 some (strOfNums v4)
def Xho (p0 : (List Int)) (v4 : (ByteArray × Int)) : Option (Lp (ByteArray × Int) ByteArray) :=
 sel (decide (v4.2 < (p0.length : Int))) (
 req (0 ≤ v4.2 ∧ v4.2 < p0.length) <|
 bnd (Xdq (p0.getD v4.2.toNat 0)) fun q8 =>
 req (v4.1.size + q8.size ≤ 9223372036854775807) <|
 some (.go ((v4.1 ++ q8), Xaa .i64 (v4.2 + 1)))) (
 some (.done v4.1))
def Xj8 (p0 : (List Int)) : Option ByteArray :=
 bnd (Xdq (p0.length : Int)) fun q1 =>
 bnd (loop (Xho p0) (q1, 0)) fun v7 =>
 some v7
def Xot (p0 : Seq) : Option ByteArray :=
 bnd (Xdq p0.Level) fun q1 =>
 bnd (Xhn p0.Bits 4) fun q2 =>
 req (q1.size + q2.size ≤ 9223372036854775807) <|
 bnd (Xj8 p0.Cols) fun q3 =>
 req ((q1 ++ q2).size + q3.size ≤ 9223372036854775807) <|
 bnd (Xj8 p0.Rows) fun q4 =>
 req (((q1 ++ q2) ++ q3).size + q4.size ≤ 9223372036854775807) <|
 some (((q1 ++ q2) ++ q3) ++ q4)
def Xj9 (p0 : Int) : Option Bool :=
 bnd (
 sel (p0 == 1) (
 some true) (
 sel (p0 == 5) (
 some true) (
 sel (p0 == 7) (
 some true) (
 some (p0 == 8))))) fun v1 =>
 some v1
def Xdf (p0 : ByteArray) (v3 : Int) : Option (Lp Int (Ou Unit Bool)) :=
 sel (decide (v3 < (p0.size : Int))) (
 bnd (
 req (0 ≤ v3 ∧ v3 < p0.size) <|
 sel ((Xcd p0 v3) != 48) (
 req (0 ≤ v3 ∧ v3 < p0.size) <|
 some ((Xcd p0 v3) != 49)) (
 some false)) fun v7 =>
 sel v7 (
 some (.done (.ret false))) (
 some (.go (Xaa .i64 (v3 + 1))))) (
 some (.done (.out ())))
def Xl5 (p0 : ByteArray) : Option Bool :=
 bnd (loop (Xdf p0) 0) fun o8 => match o8 with
| .out v6 => (
 some true)
| .ret r => some r
def Xgx (p0 : ByteArray) : Option Bool :=
 bnd (
 sel (decide ((p0.size : Int) ≤ 400000)) (
 bnd (Xl5 p0) fun q2 =>
 some q2) (
 some false)) fun v1 =>
 some v1
def Xgm (v2 : (List Int)) : Option (Lp (List Int) (List Int)) :=
 req ((8 : Int) ≠ 0) <|
 sel (((v2.length : Int).tmod 8) != 0) (
 req ((v2.length + ([48]).length) * 1 ≤ 140737488355328 ∧ v2.length + ([48]).length ≤ maxLen) <|
 some (.go (v2 ++ ([48])))) (
 some (.done v2))
def Xeb (v4 : (List Int)) (v12 : (Int × (List Int))) (v21 : (Int × Int)) : Option (Lp (Int × Int) Int) :=
 sel (decide (v21.2 < 8)) (
 req (0 ≤ (Xaa .i64 (v12.1 + v21.2)) ∧ (Xaa .i64 (v12.1 + v21.2)) < v4.length) <|
 req ((Xaa .i64 (v12.1 + v21.2)).toNat < v4.length) <|
 some (.go (Xaa .i64 ((Xaa .i64 ((Xaa .i64 (2 * v21.1)) + (Xaa .i64 ((v4.getD ((Xaa .i64 (v12.1 + v21.2)).toNat) 0))))) - 48), Xaa .i64 (v21.2 + 1)))) (
 some (.done v21.1))
def Xfu (v4 : (List Int)) (v12 : (Int × (List Int))) : Option (Lp (Int × (List Int)) (List Int)) :=
 sel (decide (v12.1 < (v4.length : Int))) (
 bnd (loop (Xeb v4 v12) (0, 0)) fun v23 =>
 req ((v12.2.length + ([Xaa .u8 (v23)]).length) * 1 ≤ 140737488355328 ∧ v12.2.length + ([Xaa .u8 (v23)]).length ≤ maxLen) <|
 some (.go (Xaa .i64 (v12.1 + 8), (v12.2 ++ ([Xaa .u8 (v23)]))))) (
 some (.done v12.2))
def Xk8 (p0 : ByteArray) : Option ByteArray :=
 req (p0.size ≤ maxLen) <|
 req (((Xal p0).length + ([49]).length) * 1 ≤ 140737488355328 ∧ (Xal p0).length + ([49]).length ≤ maxLen) <|
 bnd (loop (Xgm) ((Xal p0) ++ ([49]))) fun v4 =>
 bnd (loop (Xfu v4) (0, ([] : List Int))) fun v19 =>
 some (strOfNums v19)
def Xjp (p0 : Int) (p1 : ByteArray) : Option (ByteArray × Bool) :=
 bnd (
 bnd (Xj9 p0) fun q2 =>
 sel q2 (
 bnd (Xgx p1) fun q3 =>
 some (!q3)) (
 some true)) fun v1 =>
 sel v1 (
 some (⟨#[]⟩, false)) (
 bnd (Xk8 p1) fun q4 =>
 req ((strOfNums ([Xaa .u8 (p0)])).size + q4.size ≤ 9223372036854775807) <|
 some (((strOfNums ([Xaa .u8 (p0)])) ++ q4), true))
def Xj7 (p0 : Bool) : Option ByteArray :=
 sel p0 (
 some ⟨#[49]⟩) (
 some ⟨#[48]⟩)
def Xos (p0 : Par) : Option ByteArray :=
 bnd (Xhn p0.Qp 6) fun q1 =>
 bnd (Xj7 p0.Large) fun q2 =>
 req (q1.size + q2.size ≤ 9223372036854775807) <|
 bnd (Xj7 p0.Exact) fun q3 =>
 req ((q1 ++ q2).size + q3.size ≤ 9223372036854775807) <|
 bnd (Xj7 p0.Confined) fun q4 =>
 req (((q1 ++ q2) ++ q3).size + q4.size ≤ 9223372036854775807) <|
 some (((q1 ++ q2) ++ q3) ++ q4)
def Xat (p0 : Int) (p1 : Int) (p2 : Int) : Option Bool :=
 bnd (
 sel (decide (p0 ≥ p1)) (
 some (decide (p0 ≤ p2))) (
 some false)) fun v1 =>
 some v1
def Xgy (p0 : (List Int)) (v4 : (Int × Int)) : Option (Lp (Int × Int) (Ou Int Int)) :=
 sel (decide (v4.2 < (p0.length : Int))) (
 req (0 ≤ v4.2 ∧ v4.2 < p0.length) <|
 bnd (Xat (p0.getD v4.2.toNat 0) 1 8) fun q8 =>
 sel (!q8) (
 some (.done (.ret 0))) (
 req (0 ≤ v4.2 ∧ v4.2 < p0.length) <|
 some (.go (Xaa .i64 (v4.1 + (p0.getD v4.2.toNat 0)), Xaa .i64 (v4.2 + 1))))) (
 some (.done (.out v4.1)))
def Xhp (p0 : (List Int)) : Option Int :=
 bnd (
 sel (decide ((p0.length : Int) < 1)) (
 some true) (
 some (decide ((p0.length : Int) > 4)))) fun v1 =>
 sel v1 (
 some 0) (
 bnd (loop (Xgy p0) (0, 0)) fun o9 => match o9 with
| .out v7 => (
 some v7)
| .ret r => some r)
def Xi1 (p0 : Seq) : Option Int :=
 bnd (Xhp p0.Cols) fun q1 =>
 bnd (Xhp p0.Rows) fun q2 =>
 some (Xaa .i64 (q1 * q2))
def Xfp (p0 : Int) : Option Int :=
 sel (p0 == 1) (
 some 16) (
 sel (p0 == 2) (
 some 64) (
 sel (p0 == 3) (
 some 256) (
 some 0)))
def Xh8 (p0 : Seq) : Option Bool :=
 bnd (
 bnd (Xi1 p0) fun q2 =>
 bnd (Xfp p0.Level) fun q3 =>
 bnd (Xat q2 1 q3) fun q4 =>
 sel q4 (
 bnd (Xat p0.Bits 3 8) fun q5 =>
 some q5) (
 some false)) fun v1 =>
 some v1
def Xe1 (p0 : Seq) : Option Int :=
 bnd (Xh8 p0) fun q1 =>
 sel (!q1) (
 some 0) (
 some (Xaa .i64 ((p0.Cols.length : Int) * (p0.Rows.length : Int))))
def Xj3 (p0 : Par) : Option Bool :=
 bnd (
 bnd (Xat p0.Qp 0 40) fun q2 =>
 sel q2 (
 sel p0.Large (
 some (!p0.Exact)) (
 some true)) (
 some false)) fun v1 =>
 some v1
def Xl0 (p0 : Seq) (p1 : Par) (p2 : Xrz) : Option Bool :=
 bnd (
 bnd (Xj3 p1) fun q2 =>
 sel q2 (
 sel (decide (p2.Tile ≥ 0)) (
 bnd (Xe1 p0) fun q3 =>
 sel (decide (p2.Tile < q3)) (
 sel (decide (p2.Frame ≥ 0)) (
 req (0 ≤ (Xaa .u64 (p0.Bits))) <|
 sel (decide (p2.Frame < (Xaa .i64 (1 * 2 ^ min (Xaa .u64 (p0.Bits)).toNat (IntKind.bits .i64))))) (
 bnd (Xat p2.Qp 0 40) fun q4 =>
 some q4) (
 some false)) (
 some false)) (
 some false)) (
 some false)) (
 some false)) fun v1 =>
 some v1
def Xoj (p0 : Int) : Option (Int × Bool) :=
 bnd (Xat p0 (-500000) 500000) fun q1 =>
 sel (!q1) (
 some (0, false)) (
 sel (decide (p0 > 0)) (
 some (Xaa .i64 ((Xaa .i64 (2 * p0)) - 1), true)) (
 some (Xaa .i64 ((-2) * p0), true)))
def Xj6 (p0 : Int) : Option ByteArray :=
 bnd (Xoj p0) fun q1 =>
 bnd (Xdq q1.1) fun q2 =>
 some q2
def Xm4 (p0 : Seq) (p1 : Par) (p2 : Xrz) : Option (ByteArray × Bool) :=
 bnd (Xl0 p0 p1 p2) fun q1 =>
 sel (!q1) (
 some (⟨#[]⟩, false)) (
 bnd (Xdq p2.Tile) fun q2 =>
 bnd (Xhn p2.Frame p0.Bits) fun q3 =>
 req (q2.size + q3.size ≤ 9223372036854775807) <|
 bnd (Xj6 (Xaa .i64 (p2.Qp - p1.Qp))) fun q4 =>
 req ((q2 ++ q3).size + q4.size ≤ 9223372036854775807) <|
 some (((q2 ++ q3) ++ q4), true))
def Xfy (p0 : (List Int)) (p1 : Int) (v2 : (Int × Int)) : Option (Lp (Int × Int) Int) :=
 sel (decide (v2.2 < p1)) (
 req (0 ≤ v2.2 ∧ v2.2 < p0.length) <|
 some (.go (Xaa .i64 (v2.1 + (p0.getD v2.2.toNat 0)), Xaa .i64 (v2.2 + 1)))) (
 some (.done v2.1))
def Xi3 (p0 : (List Int)) (p1 : Int) : Option Int :=
 bnd (loop (Xfy p0 p1) (0, 0)) fun v4 =>
 some v4
def Xde (p0 : Seq) (p1 : Int) : Option (Xph × Bool) :=
 bnd (
 sel (decide (p1 < 0)) (
 some true) (
 bnd (Xe1 p0) fun q2 =>
 some (decide (p1 ≥ q2)))) fun v1 =>
 sel v1 (
 some ((⟨0, 0, 0, 0⟩ : Xph), false)) (
 req ((p0.Cols.length : Int) ≠ 0) <|
 req ((p0.Cols.length : Int) ≠ 0) <|
 bnd (Xi3 p0.Cols (p1.tmod (p0.Cols.length : Int))) fun q3 =>
 bnd (Xi3 p0.Rows (Xaa .i64 (p1.tdiv (p0.Cols.length : Int)))) fun q4 =>
 req (0 ≤ (p1.tmod (p0.Cols.length : Int)) ∧ (p1.tmod (p0.Cols.length : Int)) < p0.Cols.length) <|
 req (0 ≤ (Xaa .i64 (p1.tdiv (p0.Cols.length : Int))) ∧ (Xaa .i64 (p1.tdiv (p0.Cols.length : Int))) < p0.Rows.length) <|
 some ((⟨Xaa .i64 (8 * q3), Xaa .i64 (8 * q4), Xaa .i64 (8 * (p0.Cols.getD (p1.tmod (p0.Cols.length : Int)).toNat 0)), Xaa .i64 (8 * (p0.Rows.getD (Xaa .i64 (p1.tdiv (p0.Cols.length : Int))).toNat 0))⟩ : Xph), true))
def Xcb (p0 : Seq) (p1 : Int) : Option Int :=
 bnd (Xde p0 p1) fun q1 =>
 req ((8 : Int) ≠ 0) <|
 req ((8 : Int) ≠ 0) <|
 some (Xaa .i64 ((Xaa .i64 (q1.1.Wide.tdiv 8)) * (Xaa .i64 (q1.1.High.tdiv 8))))
def Xic (p1 : Int) (v11 : (Int × (List Int) × Int × Int × (List Int))) : Option (Lp (Int × (List Int) × Int × Int × (List Int)) ((List Int) × (List Int) × Int × Int)) :=
 bnd (
 bnd (Xa1 (⟨v11.2.1, v11.2.2.1, v11.2.2.2.1⟩ : Xa6) 7) fun q24 =>
 sel (decide (v11.1 < q24.1)) (
 some ((decide (p1 > 0)), q24.2.b_, q24.2.i_, q24.2.h_)) (
 some (false, q24.2.b_, q24.2.i_, q24.2.h_))) fun v23 =>
 sel v23.1 (
 bnd (
 bnd (Xa1 (⟨v23.2.1, v23.2.2.1, v23.2.2.2⟩ : Xa6) p1) fun q26 =>
 bnd (
 bnd (Xbn q26.2 2) fun q28 =>
 sel q28.1 (
 req ((5 : Int) ≠ 0) <|
 some ((q26.1.tmod 5), q28.2.b_, q28.2.i_, q28.2.h_)) (
 some (q26.1, q28.2.b_, q28.2.i_, q28.2.h_))) fun v27 =>
 bnd (Xa1 (⟨v27.2.1, v27.2.2.1, v27.2.2.2⟩ : Xa6) 21) fun q29 =>
 req (0 ≤ v27.1 ∧ v27.1 < v11.2.2.2.2.length) <|
 req (v27.1.toNat < v11.2.2.2.2.length) <|
 bnd (Xbn q29.2 6) fun q30 =>
 sel q30.1 (
 bnd (Xa1 q30.2 10001) fun q31 =>
 req (0 ≤ v27.1 ∧ v27.1 < (v11.2.2.2.2.set v27.1.toNat (Xaa .i64 (q29.1 - 10))).length) <|
 req (v27.1.toNat < (v11.2.2.2.2.set v27.1.toNat (Xaa .i64 (q29.1 - 10))).length) <|
 some (q31.2.b_, q31.2.i_, q31.2.h_, ((v11.2.2.2.2.set v27.1.toNat (Xaa .i64 (q29.1 - 10))).set v27.1.toNat (Xaa .i64 (q31.1 - 5000))))) (
 some (q30.2.b_, q30.2.i_, q30.2.h_, (v11.2.2.2.2.set v27.1.toNat (Xaa .i64 (q29.1 - 10)))))) fun v25 =>
 some (.go (Xaa .i64 (v11.1 + 1), v25.1, v25.2.1, v25.2.2.1, v25.2.2.2))) (
 some (.done (v11.2.2.2.2, v23.2.1, v23.2.2.1, v23.2.2.2)))
def Xgz (p0 : Xa6) (p1 : Int) : Option ((List Int) × Xa6) :=
 req (0 ≤ p1 ∧ p1 ≤ p1 ∧ p1 * 8 ≤ 281474976710656) <|
 bnd (loop (Xic p1) (0, p0.b_, p0.i_, p0.h_, (List.replicate p1.toNat (0 : Int)))) fun v22 =>
 some (v22.1, (⟨v22.2.1, v22.2.2.1, v22.2.2.2⟩ : Xa6))
def Xi6 (p0 : Xa6) (p1 : Xfg) : Option (Xao × Xa6) :=
 bnd (
 sel p1.Key (
 some (false, p0.b_, p0.i_, p0.h_)) (
 bnd (Xbn p0 4) fun q2 =>
 some (q2.1, q2.2.b_, q2.2.i_, q2.2.h_))) fun v1 =>
 sel v1.1 (
 some ((⟨0, 0, 0, 0, []⟩ : Xao), (⟨v1.2.1, v1.2.2.1, v1.2.2.2⟩ : Xa6))) (
 bnd (
 sel p1.Key (
 some (false, v1.2.1, v1.2.2.1, v1.2.2.2)) (
 bnd (Xbn (⟨v1.2.1, v1.2.2.1, v1.2.2.2⟩ : Xa6) 2) fun q4 =>
 some (q4.1, q4.2.b_, q4.2.i_, q4.2.h_))) fun v3 =>
 sel v3.1 (
 bnd (Xa1 (⟨v3.2.1, v3.2.2.1, v3.2.2.2⟩ : Xa6) 7) fun q5 =>
 bnd (Xa1 q5.2 7) fun q6 =>
 bnd (Xgz q6.2 64) fun q7 =>
 bnd (
 bnd (Xbn q7.2 6) fun q9 =>
 sel q9.1 (
 bnd (Xa1 q9.2 33) fun q10 =>
 some (Xaa .i64 (q10.1 - 16), q10.2.b_, q10.2.i_, q10.2.h_)) (
 some (Xaa .i64 (q5.1 - 3), q9.2.b_, q9.2.i_, q9.2.h_))) fun v8 =>
 some ((⟨1, 0, v8.1, Xaa .i64 (q6.1 - 3), q7.1⟩ : Xao), (⟨v8.2.1, v8.2.2.1, v8.2.2.2⟩ : Xa6))) (
 bnd (Xa1 (⟨v3.2.1, v3.2.2.1, v3.2.2.2⟩ : Xa6) 4) fun q11 =>
 bnd (Xgz q11.2 64) fun q12 =>
 some ((⟨2, q11.1, 0, 0, q12.1⟩ : Xao), q12.2)))
def Xg4 (p1 : Int) (p2 : Xfg) (v3 : (Int × (List Int) × Int × Int × (List Xao))) : Option (Lp (Int × (List Int) × Int × Int × (List Xao)) ((List Xao) × (List Int) × Int × Int)) :=
 sel (decide (v3.1 < p1)) (
 bnd (Xi6 (⟨v3.2.1, v3.2.2.1, v3.2.2.2.1⟩ : Xa6) p2) fun q7 =>
 req ((v3.2.2.2.2.length + ([q7.1]).length) * 56 ≤ 140737488355328 ∧ v3.2.2.2.2.length + ([q7.1]).length ≤ maxLen) <|
 some (.go (Xaa .i64 (v3.1 + 1), q7.2.b_, q7.2.i_, q7.2.h_, (v3.2.2.2.2 ++ ([q7.1]))))) (
 some (.done (v3.2.2.2.2, v3.2.1, v3.2.2.1, v3.2.2.2.1)))
def Xhs (p0 : Xa6) (p1 : Int) (p2 : Xfg) : Option ((List Xao) × Xa6) :=
 bnd (loop (Xg4 p1 p2) (0, p0.b_, p0.i_, p0.h_, ([] : List Xao))) fun v6 =>
 some (v6.1, (⟨v6.2.1, v6.2.2.1, v6.2.2.2⟩ : Xa6))
def Xfz (p0 : (List Int)) (v5 : (Int × Int × ByteArray × Int)) : Option (Lp (Int × Int × ByteArray × Int) (Int × ByteArray)) :=
 sel (decide (v5.2.2.2 < (p0.length : Int))) (
 bnd (
 req (0 ≤ v5.2.2.2 ∧ v5.2.2.2 < p0.length) <|
 sel ((p0.getD v5.2.2.2.toNat 0) == 0) (
 some (v5.1, Xaa .i64 (v5.2.1 + 1), v5.2.2.1)) (
 bnd (Xdq v5.2.1) fun q12 =>
 req (v5.2.2.1.size + q12.size ≤ 9223372036854775807) <|
 req (0 ≤ v5.2.2.2 ∧ v5.2.2.2 < p0.length) <|
 bnd (Xj6 (p0.getD v5.2.2.2.toNat 0)) fun q13 =>
 req ((v5.2.2.1 ++ q12).size + q13.size ≤ 9223372036854775807) <|
 some (Xaa .i64 (v5.1 + 1), 0, ((v5.2.2.1 ++ q12) ++ q13)))) fun v11 =>
 some (.go (v11.1, v11.2.1, v11.2.2, Xaa .i64 (v5.2.2.2 + 1)))) (
 some (.done (v5.1, v5.2.2.1)))
def Xe3 (p0 : (List Int)) : Option ByteArray :=
 bnd (loop (Xfz p0) (0, 0, ⟨#[]⟩, 0)) fun v10 =>
 bnd (Xdq v10.1) fun q15 =>
 req (q15.size + v10.2.size ≤ 9223372036854775807) <|
 some (q15 ++ v10.2)
def Xl7 (p0 : (List Int)) (p1 : Xfg) : Option ByteArray :=
 bnd (
 sel p1.Large (
 some true) (
 some p1.Exact)) fun v1 =>
 sel v1 (
 bnd (Xe3 p0) fun q2 =>
 some q2) (
 req (0 ≤ (0 : Int) ∧ (0 : Int) ≤ (16 : Int) ∧ (16 : Int) ≤ (p0.length : Int)) <|
 bnd (Xe3 ((p0.drop (0 : Int).toNat).take ((16 : Int).toNat - (0 : Int).toNat))) fun q3 =>
 req (0 ≤ (16 : Int) ∧ (16 : Int) ≤ (32 : Int) ∧ (32 : Int) ≤ (p0.length : Int)) <|
 bnd (Xe3 ((p0.drop (16 : Int).toNat).take ((32 : Int).toNat - (16 : Int).toNat))) fun q4 =>
 req (q3.size + q4.size ≤ 9223372036854775807) <|
 req (0 ≤ (32 : Int) ∧ (32 : Int) ≤ (48 : Int) ∧ (48 : Int) ≤ (p0.length : Int)) <|
 bnd (Xe3 ((p0.drop (32 : Int).toNat).take ((48 : Int).toNat - (32 : Int).toNat))) fun q5 =>
 req ((q3 ++ q4).size + q5.size ≤ 9223372036854775807) <|
 req (0 ≤ (48 : Int) ∧ (48 : Int) ≤ (p0.length : Int) ∧ (p0.length : Int) ≤ (p0.length : Int)) <|
 bnd (Xe3 ((p0.drop (48 : Int).toNat).take ((p0.length : Int).toNat - (48 : Int).toNat))) fun q6 =>
 req (((q3 ++ q4) ++ q5).size + q6.size ≤ 9223372036854775807) <|
 some (((q3 ++ q4) ++ q5) ++ q6))
def Xow (p0 : Xao) (p1 : Xfg) : Option ByteArray :=
 bnd (
 sel (!p1.Key) (
 bnd (Xdq p0.Kind) fun q2 =>
 some q2) (
 some ⟨#[]⟩)) fun v1 =>
 sel (p0.Kind == 1) (
 bnd (Xj6 p0.Dx) fun q3 =>
 req (v1.size + q3.size ≤ 9223372036854775807) <|
 bnd (Xj6 p0.Dy) fun q4 =>
 req ((v1 ++ q3).size + q4.size ≤ 9223372036854775807) <|
 bnd (Xl7 p0.Levels p1) fun q5 =>
 req (((v1 ++ q3) ++ q4).size + q5.size ≤ 9223372036854775807) <|
 some (((v1 ++ q3) ++ q4) ++ q5)) (
 sel (p0.Kind == 2) (
 bnd (Xdq p0.Mode) fun q6 =>
 req (v1.size + q6.size ≤ 9223372036854775807) <|
 bnd (Xl7 p0.Levels p1) fun q7 =>
 req ((v1 ++ q6).size + q7.size ≤ 9223372036854775807) <|
 some ((v1 ++ q6) ++ q7)) (
 some v1))
def Xi7 (p0 : (List Xao)) (p1 : Xfg) (v3 : (Int × (List Int))) : Option (Lp (Int × (List Int)) (List Int)) :=
 sel (decide (v3.1 < (p0.length : Int))) (
 req (0 ≤ v3.1 ∧ v3.1 < p0.length) <|
 bnd (Xow (⟨(p0.getD v3.1.toNat Xbt).Kind, (p0.getD v3.1.toNat Xbt).Mode, (p0.getD v3.1.toNat Xbt).Dx, (p0.getD v3.1.toNat Xbt).Dy, (p0.getD v3.1.toNat Xbt).Levels⟩ : Xao) p1) fun q7 =>
 req ((v3.2.length + (Xal q7).length) * 1 ≤ 140737488355328 ∧ v3.2.length + (Xal q7).length ≤ maxLen) <|
 some (.go (Xaa .i64 (v3.1 + 1), (v3.2 ++ (Xal q7))))) (
 some (.done v3.2))
def Xox (p0 : (List Xao)) (p1 : Xfg) : Option ByteArray :=
 bnd (loop (Xi7 p0 p1) (0, ([] : List Int))) fun v6 =>
 some (strOfNums v6)
def Xfh (p1 : Seq) (p2 : Par) (p3 : Int) (p5 : Bool) (v13 : (Int × (List Int) × Int × Int × (List ByteArray))) : Option (Lp (Int × (List Int) × Int × Int × (List ByteArray)) ((List ByteArray) × (List Int) × Int × Int)) :=
 bnd (Xe1 p1) fun q27 =>
 sel (decide (v13.1 < q27)) (
 bnd (
 sel p5 (
 bnd (Xa1 (⟨v13.2.1, v13.2.2.1, v13.2.2.2.1⟩ : Xa6) 41) fun q29 =>
 some (q29.2.b_, q29.2.i_, q29.2.h_, true, q29.1)) (
 bnd (Xbn (⟨v13.2.1, v13.2.2.1, v13.2.2.2.1⟩ : Xa6) 4) fun q30 =>
 bnd (Xa1 q30.2 41) fun q31 =>
 some (q31.2.b_, q31.2.i_, q31.2.h_, q30.1, q31.1))) fun v28 =>
 bnd (Xm4 p1 p2 (⟨v13.1, p3, v28.2.2.2.2⟩ : Xrz)) fun q32 =>
 bnd (
 sel v28.2.2.2.1 (
 some 5) (
 some 1)) fun v33 =>
 bnd (Xcb p1 v13.1) fun q34 =>
 bnd (Xhs (⟨v28.1, v28.2.1, v28.2.2.1⟩ : Xa6) q34 (⟨v28.2.2.2.1, v28.2.2.2.2, p2.Large, p2.Exact⟩ : Xfg)) fun q35 =>
 bnd (Xox q35.1 (⟨v28.2.2.2.1, v28.2.2.2.2, p2.Large, p2.Exact⟩ : Xfg)) fun q36 =>
 req (q32.1.size + q36.size ≤ 9223372036854775807) <|
 bnd (Xjp v33 (q32.1 ++ q36)) fun q37 =>
 req ((v13.2.2.2.2.length + ([q37.1]).length) * 16 ≤ 140737488355328 ∧ v13.2.2.2.2.length + ([q37.1]).length ≤ maxLen) <|
 some (.go (Xaa .i64 (v13.1 + 1), q35.2.b_, q35.2.i_, q35.2.h_, (v13.2.2.2.2 ++ ([q37.1]))))) (
 some (.done (v13.2.2.2.2, v13.2.1, v13.2.2.1, v13.2.2.2.1)))
def Xf0 (p0 : Xa6) (p1 : Seq) (p2 : Par) (p3 : Int) (p4 : Int) (p5 : Bool) : Option ((List ByteArray) × Xa6 × Seq) :=
 bnd (loop (Xfh p1 p2 p3 p5) (p4, p0.b_, p0.i_, p0.h_, ([] : List ByteArray))) fun v26 =>
 some (v26.1, (⟨v26.2.1, v26.2.2.1, v26.2.2.2⟩ : Xa6), p1)
def Xgp (q6 : (Par × Xa6)) (v16 : (Int × Int × (List Int) × Int × Int × (List ByteArray) × (List Int) × (List Int))) : Option (Lp (Int × Int × (List Int) × Int × Int × (List ByteArray) × (List Int) × (List Int)) ((List ByteArray) × (List Int) × Int × Int)) :=
 bnd (Xa1 (⟨v16.2.2.1, v16.2.2.2.1, v16.2.2.2.2.1⟩ : Xa6) 3) fun q22 =>
 sel (decide (v16.2.1 < (Xaa .i64 (1 + q22.1)))) (
 bnd (Xf0 q22.2 (⟨3, 3, v16.2.2.2.2.2.2.1, v16.2.2.2.2.2.2.2⟩ : Seq) q6.1 v16.1 0 (v16.2.1 == 0)) fun q24 =>
 req ((v16.2.2.2.2.2.1.length + q24.1.length) * 16 ≤ 140737488355328 ∧ v16.2.2.2.2.2.1.length + q24.1.length ≤ maxLen) <|
 req ((8 : Int) ≠ 0) <|
 some (.go (((Xaa .i64 (v16.1 + 1)).tmod 8), Xaa .i64 (v16.2.1 + 1), q24.2.1.b_, q24.2.1.i_, q24.2.1.h_, (v16.2.2.2.2.2.1 ++ q24.1), q24.2.2.Cols, q24.2.2.Rows))) (
 some (.done (v16.2.2.2.2.2.1, q22.2.b_, q22.2.i_, q22.2.h_)))
def Xle (p0 : Xa6) : Option ((List ByteArray) × Xa6) :=
 bnd (
 bnd (Xbn p0 2) fun q2 =>
 sel q2.1 (
 bnd (Xa1 q2.2 2) fun q3 =>
 some (q3.2.b_, q3.2.i_, q3.2.h_, [1, Xaa .i64 (1 + q3.1)])) (
 some (q2.2.b_, q2.2.i_, q2.2.h_, [1]))) fun v1 =>
 bnd (
 bnd (Xbn (⟨v1.1, v1.2.1, v1.2.2.1⟩ : Xa6) 3) fun q5 =>
 sel q5.1 (
 some (q5.2.b_, q5.2.i_, q5.2.h_, [1, 1])) (
 some (q5.2.b_, q5.2.i_, q5.2.h_, [1]))) fun v4 =>
 bnd (Xgn (⟨v4.1, v4.2.1, v4.2.2.1⟩ : Xa6)) fun q6 =>
 bnd (Xot (⟨3, 3, v1.2.2.2, v4.2.2.2⟩ : Seq)) fun q7 =>
 bnd (Xjp 7 q7) fun q8 =>
 bnd (Xos q6.1) fun q9 =>
 bnd (Xjp 8 q9) fun q10 =>
 bnd (Xa1 q6.2 8) fun q11 =>
 bnd (loop (Xgp q6) (q11.1, 0, q11.2.b_, q11.2.i_, q11.2.h_, [q8.1, q10.1], v1.2.2.2, v4.2.2.2)) fun v21 =>
 some (v21.1, (⟨v21.2.1, v21.2.2.1, v21.2.2.2⟩ : Xa6))
def Xhk (p0 : (List Int)) : Option (List ByteArray) :=
 bnd (Xoo p0) fun q1 =>
 bnd (Xle q1) fun q2 =>
 some q2.1
def Xfj (p0 : ByteArray) (v6 : (Int × Int × (List Int))) : Option (Lp (Int × Int × (List Int)) (List Int)) :=
 sel (decide (v6.2.1 < (p0.size : Int))) (
 bnd (
 bnd (
 bnd (
 req (0 ≤ v6.2.1 ∧ v6.2.1 < p0.size) <|
 sel (decide ((Xcd p0 v6.2.1) < 4)) (
 some (decide (v6.1 ≥ 2))) (
 some false)) fun v14 =>
 sel v14 (
 req ((v6.2.2.length + ([3]).length) * 1 ≤ 140737488355328 ∧ v6.2.2.length + ([3]).length ≤ maxLen) <|
 some (0, (v6.2.2 ++ ([3])))) (
 some (v6.1, v6.2.2))) fun v13 =>
 req (0 ≤ v6.2.1 ∧ v6.2.1 < p0.size) <|
 req ((v13.2.length + ([(Xcd p0 v6.2.1)]).length) * 1 ≤ 140737488355328 ∧ v13.2.length + ([(Xcd p0 v6.2.1)]).length ≤ maxLen) <|
 req (0 ≤ v6.2.1 ∧ v6.2.1 < p0.size) <|
 sel ((Xcd p0 v6.2.1) == 0) (
 some (Xaa .i64 (v13.1 + 1), (v13.2 ++ ([(Xcd p0 v6.2.1)])))) (
 some (0, (v13.2 ++ ([(Xcd p0 v6.2.1)]))))) fun v12 =>
 some (.go (v12.1, Xaa .i64 (v6.2.1 + 1), v12.2))) (
 some (.done v6.2.2))
def Xjs (p0 : ByteArray) : Option (ByteArray × Bool) :=
 bnd (
 sel (p0.toList == (⟨#[]⟩ : ByteArray).toList) (
 some true) (
 sel (decide ((p0.size : Int) > 60000)) (
 some true) (
 req (0 ≤ (Xaa .i64 ((p0.size : Int) - 1)) ∧ (Xaa .i64 ((p0.size : Int) - 1)) < p0.size) <|
 some ((Xcd p0 (Xaa .i64 ((p0.size : Int) - 1))) == 0)))) fun v1 =>
 sel v1 (
 some (⟨#[]⟩, false)) (
 req ((2 : Int) ≠ 0) <|
 req (0 ≤ (0 : Int) ∧ (0 : Int) ≤ (Xaa .i64 ((p0.size : Int) + (Xaa .i64 ((p0.size : Int).tdiv 2)))) ∧ (Xaa .i64 ((p0.size : Int) + (Xaa .i64 ((p0.size : Int).tdiv 2)))) * 1 ≤ 281474976710656) <|
 bnd (loop (Xfj p0) (0, 0, (List.replicate (0 : Int).toNat (0 : Int)))) fun v11 =>
 some ((strOfNums v11), true))
def Xgt (p0 : (List ByteArray)) (v4 : (Int × (List Int))) : Option (Lp (Int × (List Int)) (Ou (List Int) (ByteArray × Bool))) :=
 sel (decide (v4.1 < (p0.length : Int))) (
 req (0 ≤ v4.1 ∧ v4.1 < p0.length) <|
 bnd (Xjs (p0.getD v4.1.toNat Xgr)) fun q9 =>
 bnd (
 sel q9.2 (
 some (decide ((Xaa .i64 ((Xaa .i64 ((v4.2.length : Int) + 3)) + (q9.1.size : Int))) > 60000))) (
 some true)) fun v10 =>
 sel v10 (
 some (.done (.ret (⟨#[]⟩, false)))) (
 req ((v4.2.length + ([0, 0, 1]).length) * 1 ≤ 140737488355328 ∧ v4.2.length + ([0, 0, 1]).length ≤ maxLen) <|
 req (((v4.2 ++ ([0, 0, 1])).length + (Xal q9.1).length) * 1 ≤ 140737488355328 ∧ (v4.2 ++ ([0, 0, 1])).length + (Xal q9.1).length ≤ maxLen) <|
 some (.go (Xaa .i64 (v4.1 + 1), ((v4.2 ++ ([0, 0, 1])) ++ (Xal q9.1)))))) (
 some (.done (.out v4.2)))
def Xlk (p0 : (List ByteArray)) : Option (ByteArray × Bool) :=
 sel (decide ((p0.length : Int) > 400)) (
 some (⟨#[]⟩, false)) (
 bnd (loop (Xgt p0) (0, ([] : List Int))) fun o11 => match o11 with
| .out v8 => (
 some ((strOfNums v8), true))
| .ret r => some r)
def Xlj : Option Xar :=
 some (⟨false, false, false, (⟨0, 0, [], []⟩ : Seq), (⟨0, false, false, false⟩ : Par), (-1), 0, (⟨0, 0, ⟨#[]⟩⟩ : Pic), (⟨0, 0, ⟨#[]⟩⟩ : Pic)⟩ : Xar)
def Xe8 (p0 : ByteArray) (v3 : (Int × (List Int))) : Option (Lp (Int × (List Int)) (List Int)) :=
 sel (decide ((Xaa .i64 (v3.1 + 3)) ≤ (p0.size : Int))) (
 bnd (
 req (0 ≤ v3.1 ∧ v3.1 ≤ (Xaa .i64 (v3.1 + 3)) ∧ (Xaa .i64 (v3.1 + 3)) ≤ (p0.size : Int)) <|
 sel ((p0.extract v3.1.toNat (Xaa .i64 (v3.1 + 3)).toNat).toList == (⟨#[0, 0, 1]⟩ : ByteArray).toList) (
 req ((v3.2.length + ([v3.1]).length) * 8 ≤ 140737488355328 ∧ v3.2.length + ([v3.1]).length ≤ maxLen) <|
 some (v3.2 ++ ([v3.1]))) (
 some v3.2)) fun v7 =>
 some (.go (Xaa .i64 (v3.1 + 1), v7))) (
 some (.done v3.2))
def Xod (p0 : ByteArray) : Option (List Int) :=
 bnd (loop (Xe8 p0) (0, ([] : List Int))) fun v6 =>
 some v6
def Xd8 (p0 : ByteArray) (v5 : (Int × Int × (List Int))) : Option (Lp (Int × Int × (List Int)) (List Int)) :=
 sel (decide (v5.2.1 < (p0.size : Int))) (
 bnd (
 Yn7 (fun (v12 : Int) =>
 req (0 ≤ v5.2.1 ∧ v5.2.1 < p0.size) <|
 req ((v5.2.2.length + ([(Xcd p0 v5.2.1)]).length) * 1 ≤ 140737488355328 ∧ v5.2.2.length + ([(Xcd p0 v5.2.1)]).length ≤ maxLen) <|
 some (v12, (v5.2.2 ++ ([(Xcd p0 v5.2.1)])))) fun j12 =>
 bnd (
 sel (decide (v5.1 ≥ 2)) (
 req (0 ≤ v5.2.1 ∧ v5.2.1 < p0.size) <|
 some ((Xcd p0 v5.2.1) == 3)) (
 some false)) fun v13 =>
 sel v13 (
 some (0, v5.2.2)) (
 req (0 ≤ v5.2.1 ∧ v5.2.1 < p0.size) <|
 sel ((Xcd p0 v5.2.1) == 0) (
 j12 (Xaa .i64 (v5.1 + 1))) (
 j12 0))) fun v11 =>
 some (.go (v11.1, Xaa .i64 (v5.2.1 + 1), v11.2))) (
 some (.done v5.2.2))
def Xis (p0 : ByteArray) : Option (ByteArray × Bool) :=
 req (0 ≤ (0 : Int) ∧ (0 : Int) ≤ (p0.size : Int) ∧ (p0.size : Int) * 1 ≤ 281474976710656) <|
 bnd (loop (Xd8 p0) (0, 0, (List.replicate (0 : Int).toNat (0 : Int)))) fun v10 =>
 bnd (Xjs (strOfNums v10)) fun q15 =>
 bnd (
 sel q15.2 (
 some (!(q15.1.toList == p0.toList))) (
 some true)) fun v16 =>
 sel v16 (
 some (⟨#[]⟩, false)) (
 some ((strOfNums v10), true))
def Xjd (p0 : ByteArray) (q1 : (List Int)) (v14 : (Int × (List ByteArray))) (v32 : Int) : Option (Lp Int Int) :=
 bnd (
 req (0 ≤ v14.1 ∧ v14.1 < (q1 ++ ([(p0.size : Int)])).length) <|
 req (v14.1.toNat < (q1 ++ ([(p0.size : Int)])).length) <|
 sel (decide (v32 > (Xaa .i64 (((q1 ++ ([(p0.size : Int)])).getD v14.1.toNat 0) + 3)))) (
 req (0 ≤ (Xaa .i64 (v32 - 1)) ∧ (Xaa .i64 (v32 - 1)) < p0.size) <|
 some ((Xcd p0 (Xaa .i64 (v32 - 1))) == 0)) (
 some false)) fun v36 =>
 sel v36 (
 some (.go (Xaa .i64 (v32 - 1)))) (
 some (.done v32))
def Xcy (p0 : ByteArray) (q1 : (List Int)) (v14 : (Int × (List ByteArray))) : Option (Lp (Int × (List ByteArray)) (List ByteArray)) :=
 bnd (
 sel (decide ((Xaa .i64 (v14.1 + 1)) < ((q1 ++ ([(p0.size : Int)])).length : Int))) (
 some (decide ((v14.2.length : Int) < 400))) (
 some false)) fun v28 =>
 sel v28 (
 bnd (
 req (0 ≤ (Xaa .i64 (v14.1 + 1)) ∧ (Xaa .i64 (v14.1 + 1)) < (q1 ++ ([(p0.size : Int)])).length) <|
 req ((Xaa .i64 (v14.1 + 1)).toNat < (q1 ++ ([(p0.size : Int)])).length) <|
 bnd (loop (Xjd p0 q1 v14) ((q1 ++ ([(p0.size : Int)])).getD ((Xaa .i64 (v14.1 + 1)).toNat) 0)) fun v35 =>
 req (0 ≤ v14.1 ∧ v14.1 < (q1 ++ ([(p0.size : Int)])).length) <|
 req (v14.1.toNat < (q1 ++ ([(p0.size : Int)])).length) <|
 req (0 ≤ (Xaa .i64 (((q1 ++ ([(p0.size : Int)])).getD v14.1.toNat 0) + 3)) ∧ (Xaa .i64 (((q1 ++ ([(p0.size : Int)])).getD v14.1.toNat 0) + 3)) ≤ v35 ∧ v35 ≤ (p0.size : Int)) <|
 bnd (Xis (p0.extract (Xaa .i64 (((q1 ++ ([(p0.size : Int)])).getD v14.1.toNat 0) + 3)).toNat v35.toNat)) fun q38 =>
 sel q38.2 (
 req ((v14.2.length + ([q38.1]).length) * 16 ≤ 140737488355328 ∧ v14.2.length + ([q38.1]).length ≤ maxLen) <|
 some (v14.2 ++ ([q38.1]))) (
 some v14.2)) fun v29 =>
 some (.go (Xaa .i64 (v14.1 + 1), v29))) (
 some (.done v14.2))
def Xjw (p0 : ByteArray) : Option (List ByteArray) :=
 sel (decide ((p0.size : Int) > 60000)) (
 some ([] : List ByteArray)) (
 bnd (Xod p0) fun q1 =>
 req ((q1.length + ([(p0.size : Int)]).length) * 8 ≤ 140737488355328 ∧ q1.length + ([(p0.size : Int)]).length ≤ maxLen) <|
 bnd (loop (Xcy p0 q1) (0, ([] : List ByteArray))) fun v27 =>
 some v27)
def Xey (p0 : (List Int)) : Option (List Int) :=
 req ((([] : List Int).length + p0.length) * 8 ≤ 140737488355328 ∧ ([] : List Int).length + p0.length ≤ maxLen) <|
 some (([] : List Int) ++ p0)
def Xmx (p0 : Seq) : Option Seq :=
 bnd (Xey p0.Cols) fun q1 =>
 bnd (Xey p0.Rows) fun q2 =>
 some (⟨p0.Level, p0.Bits, q1, q2⟩ : Seq)
def Xcz (p0 : Xar) : Option Xar :=
 bnd (Xmx p0.Seq) fun q1 =>
 some (⟨p0.HasSeq, p0.HasPar, p0.HasRef, q1, p0.Par, p0.Frame, p0.Got, p0.Now, p0.Ref⟩ : Xar)
def Xmy (p0 : Seq) : Option Bool :=
 bnd (
 sel (p0.Level == 0) (
 sel (p0.Bits == 0) (
 sel ((p0.Cols.length : Int) == 0) (
 some ((p0.Rows.length : Int) == 0)) (
 some false)) (
 some false)) (
 some false)) fun v1 =>
 some v1
def Xan (p0 : Int) (p1 : Int) (p2 : Int) : Option Bool :=
 bnd (
 sel (decide (p0 ≥ p1)) (
 some (decide (p0 ≤ p2))) (
 some false)) fun v1 =>
 some v1
def Xd1 (p0 : (List Int)) (v2 : (Int × Int)) : Option (Lp (Int × Int) Int) :=
 sel (decide (v2.2 < (p0.length : Int))) (
 req (0 ≤ v2.2 ∧ v2.2 < p0.length) <|
 some (.go (Xaa .i64 (v2.1 + (p0.getD v2.2.toNat 0)), Xaa .i64 (v2.2 + 1)))) (
 some (.done v2.1))
def Xcn (p0 : (List Int)) : Option Int :=
 bnd (loop (Xd1 p0) (0, 0)) fun v4 =>
 some v4
def Xcr (p0 : Seq) (v11 : Int) (v26 : Int) : Option (Lp Int (Ou Unit Int)) :=
 sel (decide (v26 < ((([p0.Cols, p0.Rows]).getD v11.toNat Xmc).length : Int))) (
 req (0 ≤ v26 ∧ v26 < (([p0.Cols, p0.Rows]).getD v11.toNat Xmc).length) <|
 bnd (Xan ((([p0.Cols, p0.Rows]).getD v11.toNat Xmc).getD v26.toNat 0) 1 8) fun q30 =>
 sel (!q30) (
 some (.done (.ret 0))) (
 some (.go (Xaa .i64 (v26 + 1))))) (
 some (.done (.out ())))
def Xdp (p0 : Seq) (v11 : Int) : Option (Lp Int (Ou Unit Int)) :=
 sel (decide (v11 < (([p0.Cols, p0.Rows]).length : Int))) (
 req (0 ≤ v11 ∧ v11 < ([p0.Cols, p0.Rows]).length) <|
 req (v11.toNat < ([p0.Cols, p0.Rows]).length) <|
 bnd (Xan ((([p0.Cols, p0.Rows]).getD v11.toNat Xmc).length : Int) 1 4) fun q23 =>
 sel (!q23) (
 some (.done (.ret 0))) (
 bnd (loop (Xcr p0 v11) 0) fun o31 => match o31 with
| .out v29 => (
 some (.go (Xaa .i64 (v11 + 1))))
| .ret r => some (.done (.ret r)))) (
 some (.done (.out ())))
def Xir (p0 : Seq) : Option Int :=
 bnd (loop (Xdp p0) 0) fun o32 => match o32 with
| .out v22 => (
 bnd (Xcn p0.Cols) fun q33 =>
 bnd (Xcn p0.Rows) fun q34 =>
 some (Xaa .i64 (q33 * q34)))
| .ret r => some r
def Xfk (p0 : Int) : Option Int :=
 bnd (Xan p0 1 3) fun q1 =>
 sel (!q1) (
 some 0) (
 req (0 ≤ (Xaa .i64 (p0 - 1)) ∧ (Xaa .i64 (p0 - 1)) < ([16, 64, 256]).length) <|
 req ((Xaa .i64 (p0 - 1)).toNat < ([16, 64, 256]).length) <|
 some (([16, 64, 256]).getD ((Xaa .i64 (p0 - 1)).toNat) 0))
def Xgv (p0 : Seq) : Option Bool :=
 bnd (
 bnd (Xir p0) fun q2 =>
 bnd (Xfk p0.Level) fun q3 =>
 bnd (Xan q2 1 q3) fun q4 =>
 sel q4 (
 bnd (Xan p0.Bits 3 8) fun q5 =>
 some q5) (
 some false)) fun v1 =>
 some v1
def Xju (p0 : Par) : Option Bool :=
 bnd (
 bnd (Xan p0.Qp 0 40) fun q2 =>
 sel q2 (
 sel p0.Large (
 some (!p0.Exact)) (
 some true)) (
 some false)) fun v1 =>
 some v1
def Xf3 (p0 : Seq) : Option Int :=
 bnd (Xgv p0) fun q1 =>
 sel (!q1) (
 some 0) (
 some (Xaa .i64 ((p0.Cols.length : Int) * (p0.Rows.length : Int))))
def Xjo (p0 : Seq) : Option (Int × Int) :=
 bnd (Xgv p0) fun q1 =>
 sel (!q1) (
 some (0, 0)) (
 bnd (Xcn p0.Cols) fun q2 =>
 bnd (Xcn p0.Rows) fun q3 =>
 some (Xaa .i64 (8 * q2), Xaa .i64 (8 * q3)))
def Xdo (p0 : Pic) : Option Bool :=
 bnd (
 bnd (Xan p0.Wide 1 256) fun q2 =>
 sel q2 (
 bnd (Xan p0.High 1 256) fun q3 =>
 sel q3 (
 some ((p0.Dots.size : Int) == (Xaa .i64 (p0.Wide * p0.High)))) (
 some false)) (
 some false)) fun v1 =>
 some v1
def Xqc (p0 : Pic) (p1 : Seq) : Option Bool :=
 bnd (Xjo p1) fun q1 =>
 bnd (
 bnd (Xdo p0) fun q3 =>
 sel q3 (
 sel (p0.Wide == q1.1) (
 some (p0.High == q1.2)) (
 some false)) (
 some false)) fun v2 =>
 some v2
def Xp3 (p0 : Xar) : Option Bool :=
 sel (!p0.HasSeq) (
 bnd (
 sel p0.HasPar (
 some false) (
 sel p0.HasRef (
 some false) (
 bnd (Xmy p0.Seq) fun q2 =>
 sel q2 (
 sel (((p0.Par.Qp == 0) && ((p0.Par.Large == false) && ((p0.Par.Exact == false) && (p0.Par.Confined == false)))) == true) (
 sel (p0.Frame == (-1)) (
 sel (p0.Got == 0) (
 sel (((p0.Now.Wide == 0) && ((p0.Now.High == 0) && (p0.Now.Dots.toList == (⟨#[]⟩ : ByteArray).toList))) == true) (
 some (((p0.Ref.Wide == 0) && ((p0.Ref.High == 0) && (p0.Ref.Dots.toList == (⟨#[]⟩ : ByteArray).toList))) == true)) (
 some false)) (
 some false)) (
 some false)) (
 some false)) (
 some false)))) fun v1 =>
 some v1) (
 bnd (
 bnd (Xgv p0.Seq) fun q4 =>
 sel q4 (
 sel p0.HasPar (
 bnd (Xju p0.Par) fun q5 =>
 sel q5 (
 some false) (
 some true)) (
 sel (((p0.Par.Qp == 0) && ((p0.Par.Large == false) && ((p0.Par.Exact == false) && (p0.Par.Confined == false)))) == false) (
 some true) (
 sel (p0.Got != 0) (
 some true) (
 some p0.HasRef)))) (
 some true)) fun v3 =>
 sel v3 (
 some false) (
 bnd (
 req (0 ≤ p0.Seq.Bits) <|
 bnd (Xan p0.Frame (-1) (Xaa .i64 ((Xaa .i64 (1 * 2 ^ min p0.Seq.Bits.toNat (IntKind.bits .i64))) - 1))) fun q7 =>
 sel q7 (
 bnd (Xf3 p0.Seq) fun q8 =>
 bnd (Xan p0.Got 0 (Xaa .i64 (q8 - 1))) fun q9 =>
 some (!q9)) (
 some true)) fun v6 =>
 sel v6 (
 some false) (
 bnd (
 sel (decide (p0.Got > 0)) (
 sel (p0.Frame == (-1)) (
 some true) (
 bnd (Xqc p0.Now p0.Seq) fun q11 =>
 sel q11 (
 sel (p0.Got == 0) (
 some (((p0.Now.Wide == 0) && ((p0.Now.High == 0) && (p0.Now.Dots.toList == (⟨#[]⟩ : ByteArray).toList))) == false)) (
 some false)) (
 some true))) (
 sel (p0.Got == 0) (
 some (((p0.Now.Wide == 0) && ((p0.Now.High == 0) && (p0.Now.Dots.toList == (⟨#[]⟩ : ByteArray).toList))) == false)) (
 some false))) fun v10 =>
 sel v10 (
 some false) (
 sel p0.HasRef (
 bnd (Xqc p0.Ref p0.Seq) fun q12 =>
 some q12) (
 some (((p0.Ref.Wide == 0) && ((p0.Ref.High == 0) && (p0.Ref.Dots.toList == (⟨#[]⟩ : ByteArray).toList))) == true))))))
def Xoc (p0 : Int) : Option Bool :=
 bnd (
 sel (p0 == 1) (
 some true) (
 sel (p0 == 5) (
 some true) (
 sel (p0 == 7) (
 some true) (
 some (p0 == 8))))) fun v1 =>
 some v1
def Xem (p0 : ByteArray) (v3 : (Int × (List Int))) : Option (Lp (Int × (List Int)) (List Int)) :=
 sel (decide (v3.1 < (Xaa .i64 (8 * (p0.size : Int))))) (
 req ((8 : Int) ≠ 0) <|
 req (0 ≤ (Xaa .i64 (v3.1.tdiv 8)) ∧ (Xaa .i64 (v3.1.tdiv 8)) < p0.size) <|
 req ((8 : Int) ≠ 0) <|
 req (0 ≤ (Xaa .i64 (7 - (v3.1.tmod 8)))) <|
 req ((v3.2.length + ([Xaa .u8 (48 + (IntKind.wrap .u8 (BitVec.ofInt (IntKind.bits .u8) ((Xcd p0 (Xaa .i64 (v3.1.tdiv 8))) / 2 ^ min (Xaa .i64 (7 - (v3.1.tmod 8))).toNat (IntKind.bits .u8)) &&& BitVec.ofInt (IntKind.bits .u8) 1).toNat))]).length) * 1 ≤ 140737488355328 ∧ v3.2.length + ([Xaa .u8 (48 + (IntKind.wrap .u8 (BitVec.ofInt (IntKind.bits .u8) ((Xcd p0 (Xaa .i64 (v3.1.tdiv 8))) / 2 ^ min (Xaa .i64 (7 - (v3.1.tmod 8))).toNat (IntKind.bits .u8)) &&& BitVec.ofInt (IntKind.bits .u8) 1).toNat))]).length ≤ maxLen) <|
 some (.go (Xaa .i64 (v3.1 + 1), (v3.2 ++ ([Xaa .u8 (48 + (IntKind.wrap .u8 (BitVec.ofInt (IntKind.bits .u8) ((Xcd p0 (Xaa .i64 (v3.1.tdiv 8))) / 2 ^ min (Xaa .i64 (7 - (v3.1.tmod 8))).toNat (IntKind.bits .u8)) &&& BitVec.ofInt (IntKind.bits .u8) 1).toNat))]))))) (
 some (.done v3.2))
def Xb9 (v5 : (List Int)) (v8 : Int) : Option (Lp Int Int) :=
 req (0 ≤ (Xaa .i64 (v8 - 1)) ∧ (Xaa .i64 (v8 - 1)) < v5.length) <|
 req ((Xaa .i64 (v8 - 1)).toNat < v5.length) <|
 sel ((v5.getD ((Xaa .i64 (v8 - 1)).toNat) 0) == 48) (
 some (.go (Xaa .i64 (v8 - 1)))) (
 some (.done v8))
def Xeq (p0 : ByteArray) : Option (ByteArray × Bool) :=
 bnd (
 sel ((Xaa .i64 (8 * (p0.size : Int))) == 0) (
 some true) (
 req (0 ≤ (Xaa .i64 ((p0.size : Int) - 1)) ∧ (Xaa .i64 ((p0.size : Int) - 1)) < p0.size) <|
 sel ((Xcd p0 (Xaa .i64 ((p0.size : Int) - 1))) == 0) (
 some true) (
 some (decide ((Xaa .i64 (8 * (p0.size : Int))) > 400008))))) fun v1 =>
 sel v1 (
 some (⟨#[]⟩, false)) (
 req (0 ≤ (0 : Int) ∧ (0 : Int) ≤ (Xaa .i64 (8 * (p0.size : Int))) ∧ (Xaa .i64 (8 * (p0.size : Int))) * 1 ≤ 281474976710656) <|
 bnd (loop (Xem p0) (0, (List.replicate (0 : Int).toNat (0 : Int)))) fun v5 =>
 bnd (loop (Xb9 v5) (Xaa .i64 (8 * (p0.size : Int)))) fun v10 =>
 sel (decide ((Xaa .i64 (v10 - 1)) > 400000)) (
 some (⟨#[]⟩, false)) (
 req (0 ≤ (0 : Int) ∧ (0 : Int) ≤ (Xaa .i64 (v10 - 1)) ∧ (Xaa .i64 (v10 - 1)) ≤ (v5.length : Int)) <|
 req ((0 : Int).toNat + ((Xaa .i64 (v10 - 1)).toNat - (0 : Int).toNat) ≤ v5.length) <|
 some ((strOfNums ((v5.drop ((0 : Int).toNat)).take ((Xaa .i64 (v10 - 1)).toNat - (0 : Int).toNat))), true)))
def Xga (p0 : ByteArray) : Option (Int × ByteArray × Bool) :=
 bnd (
 sel (p0.toList == (⟨#[]⟩ : ByteArray).toList) (
 some true) (
 req (0 ≤ (0 : Int) ∧ (0 : Int) < p0.size) <|
 bnd (Xoc (Xaa .i64 ((Xcd p0 (0 : Int))))) fun q2 =>
 some (!q2))) fun v1 =>
 sel v1 (
 some (0, ⟨#[]⟩, false)) (
 req (0 ≤ (1 : Int) ∧ (1 : Int) ≤ (p0.size : Int) ∧ (p0.size : Int) ≤ (p0.size : Int)) <|
 bnd (Xeq (p0.extract (1 : Int).toNat (p0.size : Int).toNat)) fun q3 =>
 sel (!q3.2) (
 some (0, ⟨#[]⟩, false)) (
 req (0 ≤ (0 : Int) ∧ (0 : Int) < p0.size) <|
 some (Xaa .i64 ((Xcd p0 (0 : Int))), q3.1, true)))
def Xhy (p0 : ByteArray) (v3 : Int) : Option (Lp Int (Ou Unit Bool)) :=
 sel (decide (v3 < (p0.size : Int))) (
 bnd (
 req (0 ≤ v3 ∧ v3 < p0.size) <|
 sel ((Xcd p0 v3) != 48) (
 req (0 ≤ v3 ∧ v3 < p0.size) <|
 some ((Xcd p0 v3) != 49)) (
 some false)) fun v7 =>
 sel v7 (
 some (.done (.ret false))) (
 some (.go (Xaa .i64 (v3 + 1))))) (
 some (.done (.out ())))
def Xjv (p0 : ByteArray) : Option Bool :=
 sel (decide ((p0.size : Int) > 400000)) (
 some false) (
 bnd (loop (Xhy p0) 0) fun o8 => match o8 with
| .out v6 => (
 some true)
| .ret r => some r)
def Xe7 (p0 : ByteArray) (p1 : Int) : Option Xkf :=
 bnd (
 bnd (Xjv p0) fun q2 =>
 sel q2 (
 bnd (Xan p1 0 (p0.size : Int)) fun q3 =>
 some (!q3)) (
 some true)) fun v1 =>
 some (⟨p0, p1, v1⟩ : Xkf)
def Xgh (p0 : Xkf) (p1 : Int) (v3 : (Int × Int)) : Option (Lp (Int × Int) Int) :=
 sel (decide (v3.2 < p1)) (
 req (0 ≤ (1 : Int)) <|
 req (0 ≤ (Xaa .i64 (p0.at_ + v3.2)) ∧ (Xaa .i64 (p0.at_ + v3.2)) < p0.row_.size) <|
 some (.go ((IntKind.wrap .i64 (BitVec.ofInt (IntKind.bits .i64) (Xaa .i64 (v3.1 * 2 ^ min (1 : Int).toNat (IntKind.bits .i64))) ||| BitVec.ofInt (IntKind.bits .i64) (Xaa .i64 (Xaa .u8 ((Xcd p0.row_ (Xaa .i64 (p0.at_ + v3.2))) - 48)))).toNat), Xaa .i64 (v3.2 + 1)))) (
 some (.done v3.1))
def Xa0 (p0 : Xkf) (p1 : Int) : Option (Int × Xkf) :=
 bnd (
 sel p0.bad_ (
 some true) (
 some (decide ((Xaa .i64 ((p0.row_.size : Int) - p0.at_)) < p1)))) fun v1 =>
 sel v1 (
 some (0, (⟨p0.row_, p0.at_, true⟩ : Xkf))) (
 bnd (loop (Xgh p0 p1) (0, 0)) fun v5 =>
 some (v5, (⟨p0.row_, Xaa .i64 (p0.at_ + p1), p0.bad_⟩ : Xkf)))
def Xch (p0 : Xkf) (v3 : Int) : Option (Lp Int Int) :=
 bnd (
 sel p0.bad_ (
 some false) (
 sel (decide ((Xaa .i64 (p0.at_ + v3)) < (p0.row_.size : Int))) (
 req (0 ≤ (Xaa .i64 (p0.at_ + v3)) ∧ (Xaa .i64 (p0.at_ + v3)) < p0.row_.size) <|
 some ((Xcd p0.row_ (Xaa .i64 (p0.at_ + v3))) == 48)) (
 some false))) fun v7 =>
 sel v7 (
 some (.go (Xaa .i64 (v3 + 1)))) (
 some (.done v3))
def Xbj (p0 : Xkf) : Option (Int × Xkf) :=
 bnd (loop (Xch p0) 0) fun v6 =>
 bnd (
 sel (decide (v6 > 20)) (
 some true) (
 some p0.bad_)) fun v9 =>
 bnd (Xa0 (⟨p0.row_, p0.at_, v9⟩ : Xkf) (Xaa .i64 ((Xaa .i64 (2 * v6)) + 1))) fun q10 =>
 bnd (
 sel q10.2.bad_ (
 some true) (
 some (decide ((Xaa .i64 (q10.1 - 1)) > 1000000)))) fun v11 =>
 sel v11 (
 some (0, (⟨q10.2.row_, q10.2.at_, true⟩ : Xkf))) (
 some (Xaa .i64 (q10.1 - 1), q10.2))
def Xay (q1 : (Int × Xkf)) (v6 : (Int × ByteArray × Int × Bool × (List Int))) : Option (Lp (Int × ByteArray × Int × Bool × (List Int)) ((List Int) × ByteArray × Int × Bool)) :=
 bnd (
 sel (decide (v6.1 < q1.1)) (
 some (!v6.2.2.2.1)) (
 some false)) fun v11 =>
 sel v11 (
 bnd (Xbj (⟨v6.2.1, v6.2.2.1, v6.2.2.2.1⟩ : Xkf)) fun q12 =>
 req ((v6.2.2.2.2.length + ([q12.1]).length) * 8 ≤ 140737488355328 ∧ v6.2.2.2.2.length + ([q12.1]).length ≤ maxLen) <|
 some (.go (Xaa .i64 (v6.1 + 1), q12.2.row_, q12.2.at_, q12.2.bad_, (v6.2.2.2.2 ++ ([q12.1]))))) (
 some (.done (v6.2.2.2.2, v6.2.1, v6.2.2.1, v6.2.2.2.1)))
def Xcf (p0 : Xkf) : Option ((List Int) × Xkf) :=
 bnd (Xbj p0) fun q1 =>
 bnd (
 sel (decide (q1.1 > 4)) (
 some true) (
 some q1.2.bad_)) fun v2 =>
 bnd (loop (Xay q1) (0, q1.2.row_, q1.2.at_, v2, ([] : List Int))) fun v10 =>
 some (v10.1, (⟨v10.2.1, v10.2.2.1, v10.2.2.2⟩ : Xkf))
def Xdl (p0 : ByteArray) (p1 : Int) : Option (Seq × Int × Bool) :=
 bnd (Xe7 p0 p1) fun q1 =>
 bnd (Xbj q1) fun q2 =>
 bnd (Xa0 q2.2 4) fun q3 =>
 bnd (Xcf q3.2) fun q4 =>
 bnd (Xcf q4.2) fun q5 =>
 bnd (
 sel q5.2.bad_ (
 some true) (
 bnd (Xgv (⟨q2.1, q3.1, q4.1, q5.1⟩ : Seq)) fun q7 =>
 some (!q7))) fun v6 =>
 sel v6 (
 some ((⟨0, 0, [], []⟩ : Seq), 0, false)) (
 some ((⟨q2.1, q3.1, q4.1, q5.1⟩ : Seq), q5.2.at_, true))
def Xdk (p0 : ByteArray) (p1 : Int) : Option (Par × Int × Bool) :=
 bnd (Xe7 p0 p1) fun q1 =>
 bnd (Xa0 q1 6) fun q2 =>
 bnd (Xa0 q2.2 1) fun q3 =>
 bnd (Xa0 q3.2 1) fun q4 =>
 bnd (Xa0 q4.2 1) fun q5 =>
 bnd (
 sel q5.2.bad_ (
 some true) (
 bnd (Xju (⟨q2.1, (q3.1 == 1), (q4.1 == 1), (q5.1 == 1)⟩ : Par)) fun q7 =>
 some (!q7))) fun v6 =>
 sel v6 (
 some ((⟨0, false, false, false⟩ : Par), 0, false)) (
 some ((⟨q2.1, (q3.1 == 1), (q4.1 == 1), (q5.1 == 1)⟩ : Par), q5.2.at_, true))
def Xjn (p0 : Int) : Option (Int × Bool) :=
 bnd (Xan p0 0 1000000) fun q1 =>
 sel (!q1) (
 some (0, false)) (
 req ((2 : Int) ≠ 0) <|
 sel ((p0.tmod 2) == 1) (
 req ((2 : Int) ≠ 0) <|
 some (Xaa .i64 ((Xaa .i64 (p0 + 1)).tdiv 2), true)) (
 req ((2 : Int) ≠ 0) <|
 some (Xaa .i64 ((Xaa .i64 (0 - p0)).tdiv 2), true)))
def Xbw (p0 : Xkf) : Option (Int × Xkf) :=
 bnd (Xbj p0) fun q1 =>
 bnd (Xjn q1.1) fun q2 =>
 bnd (
 sel q1.2.bad_ (
 some true) (
 some (!q2.2))) fun v3 =>
 some (q2.1, (⟨q1.2.row_, q1.2.at_, v3⟩ : Xkf))
def Xn9 (p0 : Seq) (p1 : Par) (p2 : Xrz) : Option Bool :=
 bnd (
 bnd (Xgv p0) fun q2 =>
 sel q2 (
 bnd (Xju p1) fun q3 =>
 sel q3 (
 bnd (Xf3 p0) fun q4 =>
 bnd (Xan p2.Tile 0 (Xaa .i64 (q4 - 1))) fun q5 =>
 sel q5 (
 req (0 ≤ p0.Bits) <|
 bnd (Xan p2.Frame 0 (Xaa .i64 ((Xaa .i64 (1 * 2 ^ min p0.Bits.toNat (IntKind.bits .i64))) - 1))) fun q6 =>
 sel q6 (
 bnd (Xan p2.Qp 0 40) fun q7 =>
 some q7) (
 some false)) (
 some false)) (
 some false)) (
 some false)) fun v1 =>
 some v1
def Xd0 (p0 : Seq) (p1 : Par) (p2 : ByteArray) : Option (Xrz × Int × Bool) :=
 bnd (Xe7 p2 0) fun q1 =>
 bnd (
 bnd (Xgv p0) fun q3 =>
 sel q3 (
 bnd (Xju p1) fun q4 =>
 some (!q4)) (
 some true)) fun v2 =>
 sel v2 (
 some ((⟨0, 0, 0⟩ : Xrz), 0, false)) (
 bnd (Xbj q1) fun q5 =>
 bnd (Xa0 q5.2 p0.Bits) fun q6 =>
 bnd (Xbw q6.2) fun q7 =>
 bnd (
 sel q7.2.bad_ (
 some true) (
 bnd (Xn9 p0 p1 (⟨q5.1, q6.1, Xaa .i64 (q7.1 + p1.Qp)⟩ : Xrz)) fun q9 =>
 some (!q9))) fun v8 =>
 sel v8 (
 some ((⟨0, 0, 0⟩ : Xrz), 0, false)) (
 some ((⟨q5.1, q6.1, Xaa .i64 (q7.1 + p1.Qp)⟩ : Xrz), q7.2.at_, true)))
def Xex (p0 : Seq) (p1 : Int) : Option (Xph × Bool) :=
 bnd (Xf3 p0) fun q1 =>
 bnd (Xan p1 0 (Xaa .i64 (q1 - 1))) fun q2 =>
 sel (!q2) (
 some ((⟨0, 0, 0, 0⟩ : Xph), false)) (
 req ((p0.Cols.length : Int) ≠ 0) <|
 req ((p0.Cols.length : Int) ≠ 0) <|
 req (0 ≤ (0 : Int) ∧ (0 : Int) ≤ (p1.tmod (p0.Cols.length : Int)) ∧ (p1.tmod (p0.Cols.length : Int)) ≤ (p0.Cols.length : Int)) <|
 bnd (Xcn ((p0.Cols.drop (0 : Int).toNat).take ((p1.tmod (p0.Cols.length : Int)).toNat - (0 : Int).toNat))) fun q3 =>
 req (0 ≤ (0 : Int) ∧ (0 : Int) ≤ (Xaa .i64 (p1.tdiv (p0.Cols.length : Int))) ∧ (Xaa .i64 (p1.tdiv (p0.Cols.length : Int))) ≤ (p0.Rows.length : Int)) <|
 bnd (Xcn ((p0.Rows.drop (0 : Int).toNat).take ((Xaa .i64 (p1.tdiv (p0.Cols.length : Int))).toNat - (0 : Int).toNat))) fun q4 =>
 req (0 ≤ (p1.tmod (p0.Cols.length : Int)) ∧ (p1.tmod (p0.Cols.length : Int)) < p0.Cols.length) <|
 req (0 ≤ (Xaa .i64 (p1.tdiv (p0.Cols.length : Int))) ∧ (Xaa .i64 (p1.tdiv (p0.Cols.length : Int))) < p0.Rows.length) <|
 some ((⟨Xaa .i64 (8 * q3), Xaa .i64 (8 * q4), Xaa .i64 (8 * (p0.Cols.getD (p1.tmod (p0.Cols.length : Int)).toNat 0)), Xaa .i64 (8 * (p0.Rows.getD (Xaa .i64 (p1.tdiv (p0.Cols.length : Int))).toNat 0))⟩ : Xph), true))
def Xgg (p0 : Seq) (p1 : Int) : Option Int :=
 bnd (Xex p0 p1) fun q1 =>
 req ((8 : Int) ≠ 0) <|
 req ((8 : Int) ≠ 0) <|
 some (Xaa .i64 ((Xaa .i64 (q1.1.Wide.tdiv 8)) * (Xaa .i64 (q1.1.High.tdiv 8))))
def Xg9 (p0 : Xfg) : Option Bool :=
 bnd (
 bnd (Xan p0.Qp 0 40) fun q2 =>
 sel q2 (
 sel p0.Large (
 some (!p0.Exact)) (
 some true)) (
 some false)) fun v1 =>
 some v1
def Xbe (p1 : Int) (v8 : (Int × Int × ByteArray × Int × Bool × (List Int))) : Option (Lp (Int × Int × ByteArray × Int × Bool × (List Int)) ((List Int) × ByteArray × Int × Bool)) :=
 bnd (
 sel (decide (v8.2.1 > 0)) (
 some (!v8.2.2.2.2.1)) (
 some false)) fun v16 =>
 sel v16 (
 bnd (Xbj (⟨v8.2.2.1, v8.2.2.2.1, v8.2.2.2.2.1⟩ : Xkf)) fun q17 =>
 bnd (Xbw q17.2) fun q18 =>
 bnd (
 sel (decide ((Xaa .i64 (v8.1 + q17.1)) ≥ p1)) (
 some true) (
 sel (q18.1 == 0) (
 some true) (
 bnd (Xan q18.1 (-5000) 5000) fun q20 =>
 some (!q20)))) fun v19 =>
 sel v19 (
 some (.done (v8.2.2.2.2.2, q18.2.row_, q18.2.at_, true))) (
 req (0 ≤ (Xaa .i64 (v8.1 + q17.1)) ∧ (Xaa .i64 (v8.1 + q17.1)) < v8.2.2.2.2.2.length) <|
 req ((Xaa .i64 (v8.1 + q17.1)).toNat < v8.2.2.2.2.2.length) <|
 some (.go (Xaa .i64 ((Xaa .i64 (v8.1 + q17.1)) + 1), Xaa .i64 (v8.2.1 - 1), q18.2.row_, q18.2.at_, q18.2.bad_, (v8.2.2.2.2.2.set ((Xaa .i64 (v8.1 + q17.1)).toNat) q18.1))))) (
 some (.done (v8.2.2.2.2.2, v8.2.2.1, v8.2.2.2.1, v8.2.2.2.2.1)))
def Xcg (p0 : Xkf) (p1 : Int) : Option ((List Int) × Xkf) :=
 req (0 ≤ p1 ∧ p1 ≤ p1 ∧ p1 * 8 ≤ 281474976710656) <|
 bnd (Xbj p0) fun q1 =>
 bnd (loop (Xbe p1) (0, q1.1, q1.2.row_, q1.2.at_, q1.2.bad_, (List.replicate p1.toNat (0 : Int)))) fun v15 =>
 some (v15.1, (⟨v15.2.1, v15.2.2.1, v15.2.2.2⟩ : Xkf))
def Xa3 (v5 : (Int × ByteArray × Int × Bool × (List Int))) : Option (Lp (Int × ByteArray × Int × Bool × (List Int)) ((List Int) × ByteArray × Int × Bool)) :=
 sel (decide (v5.1 < 4)) (
 bnd (Xcg (⟨v5.2.1, v5.2.2.1, v5.2.2.2.1⟩ : Xkf) 16) fun q9 =>
 req ((v5.2.2.2.2.length + q9.1.length) * 8 ≤ 140737488355328 ∧ v5.2.2.2.2.length + q9.1.length ≤ maxLen) <|
 some (.go (Xaa .i64 (v5.1 + 1), q9.2.row_, q9.2.at_, q9.2.bad_, (v5.2.2.2.2 ++ q9.1)))) (
 some (.done (v5.2.2.2.2, v5.2.1, v5.2.2.1, v5.2.2.2.1)))
def Xbh (p0 : Xkf) (p1 : Xfg) : Option ((List Int) × Xkf) :=
 bnd (
 sel p1.Large (
 some true) (
 some p1.Exact)) fun v1 =>
 sel v1 (
 bnd (Xcg p0 64) fun q2 =>
 some (q2.1, q2.2)) (
 bnd (loop (Xa3) (0, p0.row_, p0.at_, p0.bad_, ([] : List Int))) fun v8 =>
 some (v8.1, (⟨v8.2.1, v8.2.2.1, v8.2.2.2⟩ : Xkf)))
def Xkq (p0 : (List Int)) (p2 : Int) (p3 : Int) (v3 : Int) : Option (Lp Int (Ou Unit Bool)) :=
 sel (decide (v3 < (p0.length : Int))) (
 req (0 ≤ v3 ∧ v3 < p0.length) <|
 bnd (Xan (p0.getD v3.toNat 0) p2 p3) fun q7 =>
 sel (!q7) (
 some (.done (.ret false))) (
 some (.go (Xaa .i64 (v3 + 1))))) (
 some (.done (.out ())))
def Xd9 (p0 : (List Int)) (p1 : Int) (p2 : Int) (p3 : Int) : Option Bool :=
 bnd (loop (Xkq p0 p2 p3) 0) fun o8 => match o8 with
| .out v6 => (
 some ((p0.length : Int) == p1))
| .ret r => some r
def Xe6 (p0 : (List Int)) : Option Bool :=
 bnd (Xd9 p0 64 (-5000) 5000) fun q1 =>
 some q1
def Xf9 (p0 : Xao) : Option Bool :=
 sel (p0.Kind == 0) (
 bnd (
 sel (p0.Mode == 0) (
 sel (p0.Dx == 0) (
 sel (p0.Dy == 0) (
 some ((p0.Levels.length : Int) == 0)) (
 some false)) (
 some false)) (
 some false)) fun v1 =>
 some v1) (
 sel (p0.Kind == 1) (
 bnd (
 sel (p0.Mode == 0) (
 bnd (Xan p0.Dx (-16) 16) fun q3 =>
 sel q3 (
 bnd (Xan p0.Dy (-16) 16) fun q4 =>
 sel q4 (
 bnd (Xe6 p0.Levels) fun q5 =>
 some q5) (
 some false)) (
 some false)) (
 some false)) fun v2 =>
 some v2) (
 sel (p0.Kind == 2) (
 bnd (
 bnd (Xan p0.Mode 0 3) fun q7 =>
 sel q7 (
 sel (p0.Dx == 0) (
 sel (p0.Dy == 0) (
 bnd (Xe6 p0.Levels) fun q8 =>
 some q8) (
 some false)) (
 some false)) (
 some false)) fun v6 =>
 some v6) (
 some false)))
def Xca (p0 : Xkf) (p1 : Xfg) : Option (Xao × Xkf) :=
 bnd (
 sel (!p1.Key) (
 bnd (Xbj p0) fun q2 =>
 some (q2.2.row_, q2.2.at_, q2.2.bad_, q2.1)) (
 some (p0.row_, p0.at_, p0.bad_, 2))) fun v1 =>
 bnd (
 sel v1.2.2.1 (
 some (v1.1, v1.2.1, v1.2.2.1, 0, 0, 0, [])) (
 sel (v1.2.2.2 == 1) (
 bnd (Xbw (⟨v1.1, v1.2.1, v1.2.2.1⟩ : Xkf)) fun q4 =>
 bnd (Xbw q4.2) fun q5 =>
 bnd (Xbh q5.2 p1) fun q6 =>
 some (q6.2.row_, q6.2.at_, q6.2.bad_, 0, q4.1, q5.1, q6.1)) (
 sel (v1.2.2.2 == 2) (
 bnd (Xbj (⟨v1.1, v1.2.1, v1.2.2.1⟩ : Xkf)) fun q7 =>
 bnd (Xbh q7.2 p1) fun q8 =>
 some (q8.2.row_, q8.2.at_, q8.2.bad_, q7.1, 0, 0, q8.1)) (
 some (v1.1, v1.2.1, v1.2.2.1, 0, 0, 0, []))))) fun v3 =>
 bnd (
 sel v3.2.2.1 (
 some true) (
 bnd (Xf9 (⟨v1.2.2.2, v3.2.2.2.1, v3.2.2.2.2.1, v3.2.2.2.2.2.1, v3.2.2.2.2.2.2⟩ : Xao)) fun q10 =>
 some (!q10))) fun v9 =>
 some ((⟨v1.2.2.2, v3.2.2.2.1, v3.2.2.2.2.1, v3.2.2.2.2.2.1, v3.2.2.2.2.2.2⟩ : Xao), (⟨v3.1, v3.2.1, v9⟩ : Xkf))
def Xba (p2 : Int) (p3 : Xfg) (v7 : (Int × ByteArray × Int × Bool × (List Xao))) : Option (Lp (Int × ByteArray × Int × Bool × (List Xao)) (Ou (ByteArray × Int × Bool × (List Xao)) ((List Xao) × Bool))) :=
 sel (decide (v7.1 < p2)) (
 bnd (Xca (⟨v7.2.1, v7.2.2.1, v7.2.2.2.1⟩ : Xkf) p3) fun q11 =>
 req ((v7.2.2.2.2.length + ([q11.1]).length) * 56 ≤ 140737488355328 ∧ v7.2.2.2.2.length + ([q11.1]).length ≤ maxLen) <|
 sel q11.2.bad_ (
 some (.done (.ret (([] : List Xao), false)))) (
 some (.go (Xaa .i64 (v7.1 + 1), q11.2.row_, q11.2.at_, q11.2.bad_, (v7.2.2.2.2 ++ ([q11.1])))))) (
 some (.done (.out (v7.2.1, v7.2.2.1, v7.2.2.2.1, v7.2.2.2.2))))
def Xev (p0 : ByteArray) (p1 : Int) (p2 : Int) (p3 : Xfg) : Option ((List Xao) × Bool) :=
 bnd (Xe7 p0 p1) fun q1 =>
 bnd (
 bnd (Xan p2 1 64) fun q3 =>
 sel q3 (
 bnd (Xg9 p3) fun q4 =>
 some (!q4)) (
 some true)) fun v2 =>
 sel v2 (
 some (([] : List Xao), false)) (
 bnd (loop (Xba p2 p3) (0, q1.row_, q1.at_, q1.bad_, ([] : List Xao))) fun o12 => match o12 with
| .out v10 => (
 sel (v10.2.1 != (p0.size : Int)) (
 some (([] : List Xao), false)) (
 some (v10.2.2.2, true)))
| .ret r => some r)
def Xlr (p0 : Int) : Option Bool :=
 bnd (
 req ((8 : Int) ≠ 0) <|
 sel ((p0.tmod 8) == 0) (
 bnd (Xan p0 8 64) fun q2 =>
 some q2) (
 some false)) fun v1 =>
 some v1
def Xd5 (p0 : Pic) (p1 : Xph) : Option Bool :=
 bnd (
 bnd (Xan p1.Wide 1 p0.Wide) fun q2 =>
 sel q2 (
 bnd (Xan p1.High 1 p0.High) fun q3 =>
 sel q3 (
 bnd (Xan p1.Left 0 (Xaa .i64 (p0.Wide - p1.Wide))) fun q4 =>
 sel q4 (
 bnd (Xan p1.Top 0 (Xaa .i64 (p0.High - p1.High))) fun q5 =>
 some q5) (
 some false)) (
 some false)) (
 some false)) fun v1 =>
 some v1
def Xq2 (p0 : Pic) (p1 : Xph) (v5 : (Int × (List Int))) : Option (Lp (Int × (List Int)) (List Int)) :=
 sel (decide (v5.1 < (Xaa .i64 (p1.Top + p1.High)))) (
 req (0 ≤ (Xaa .i64 ((Xaa .i64 (v5.1 * p0.Wide)) + p1.Left)) ∧ (Xaa .i64 ((Xaa .i64 (v5.1 * p0.Wide)) + p1.Left)) ≤ (Xaa .i64 ((Xaa .i64 ((Xaa .i64 (v5.1 * p0.Wide)) + p1.Left)) + p1.Wide)) ∧ (Xaa .i64 ((Xaa .i64 ((Xaa .i64 (v5.1 * p0.Wide)) + p1.Left)) + p1.Wide)) ≤ (p0.Dots.size : Int)) <|
 req ((v5.2.length + (Xal (p0.Dots.extract (Xaa .i64 ((Xaa .i64 (v5.1 * p0.Wide)) + p1.Left)).toNat (Xaa .i64 ((Xaa .i64 ((Xaa .i64 (v5.1 * p0.Wide)) + p1.Left)) + p1.Wide)).toNat)).length) * 1 ≤ 140737488355328 ∧ v5.2.length + (Xal (p0.Dots.extract (Xaa .i64 ((Xaa .i64 (v5.1 * p0.Wide)) + p1.Left)).toNat (Xaa .i64 ((Xaa .i64 ((Xaa .i64 (v5.1 * p0.Wide)) + p1.Left)) + p1.Wide)).toNat)).length ≤ maxLen) <|
 some (.go (Xaa .i64 (v5.1 + 1), (v5.2 ++ (Xal (p0.Dots.extract (Xaa .i64 ((Xaa .i64 (v5.1 * p0.Wide)) + p1.Left)).toNat (Xaa .i64 ((Xaa .i64 ((Xaa .i64 (v5.1 * p0.Wide)) + p1.Left)) + p1.Wide)).toNat)))))) (
 some (.done v5.2))
def Xn5 (p0 : Pic) (p1 : Xph) : Option (Pic × Bool) :=
 bnd (
 bnd (Xdo p0) fun q2 =>
 sel q2 (
 bnd (Xd5 p0 p1) fun q3 =>
 some (!q3)) (
 some true)) fun v1 =>
 sel v1 (
 some ((⟨0, 0, ⟨#[]⟩⟩ : Pic), false)) (
 req (0 ≤ (0 : Int) ∧ (0 : Int) ≤ (Xaa .i64 (p1.Wide * p1.High)) ∧ (Xaa .i64 (p1.Wide * p1.High)) * 1 ≤ 281474976710656) <|
 bnd (loop (Xq2 p0 p1) (p1.Top, (List.replicate (0 : Int).toNat (0 : Int)))) fun v7 =>
 some ((⟨p1.Wide, p1.High, (strOfNums v7)⟩ : Pic), true))
def Xmv (p0 : Int) (p1 : Int) (v5 : (Int × (List Int))) : Option (Lp (Int × (List Int)) (List Int)) :=
 sel (decide (v5.1 < ((List.replicate (Xaa .i64 (p0 * p1)).toNat (0 : Int)).length : Int))) (
 req (0 ≤ v5.1 ∧ v5.1 < v5.2.length) <|
 req (v5.1.toNat < v5.2.length) <|
 some (.go (Xaa .i64 (v5.1 + 1), (v5.2.set v5.1.toNat 128)))) (
 some (.done v5.2))
def Xn8 (p0 : Int) (p1 : Int) : Option Pic :=
 bnd (
 bnd (Xan p0 1 256) fun q2 =>
 sel q2 (
 bnd (Xan p1 1 256) fun q3 =>
 some (!q3)) (
 some true)) fun v1 =>
 sel v1 (
 some (⟨0, 0, ⟨#[]⟩⟩ : Pic)) (
 req (0 ≤ (Xaa .i64 (p0 * p1)) ∧ (Xaa .i64 (p0 * p1)) ≤ (Xaa .i64 (p0 * p1)) ∧ (Xaa .i64 (p0 * p1)) * 1 ≤ 281474976710656) <|
 bnd (loop (Xmv p0 p1) (0, (List.replicate (Xaa .i64 (p0 * p1)).toNat (0 : Int)))) fun v7 =>
 some (⟨p0, p1, (strOfNums v7)⟩ : Pic))
def Xc4 (p0 : Pic) (p1 : Int) (p2 : Int) : Option Bool :=
 bnd (
 req ((8 : Int) ≠ 0) <|
 sel ((p1.tmod 8) == 0) (
 req ((8 : Int) ≠ 0) <|
 sel ((p2.tmod 8) == 0) (
 bnd (Xan p1 0 (Xaa .i64 (p0.Wide - 8))) fun q2 =>
 sel q2 (
 bnd (Xan p2 0 (Xaa .i64 (p0.High - 8))) fun q3 =>
 some q3) (
 some false)) (
 some false)) (
 some false)) fun v1 =>
 some v1
def Xhb (p0 : Xao) (p1 : Xfg) : Option Bool :=
 bnd (
 sel p1.Key (
 some (p0.Kind == 2)) (
 some true)) fun v1 =>
 some v1
def Xep (p0 : Int) (p1 : Int) (p2 : Int) : Option Int :=
 some (if (if p2 < p0 then p2 else p0) > p1 then (if p2 < p0 then p2 else p0) else p1)
def Xeu (p0 : Pic) (p1 : Int) (p2 : Int) : Option Int :=
 bnd (Xep p2 0 (Xaa .i64 (p0.High - 1))) fun q1 =>
 bnd (Xep p1 0 (Xaa .i64 (p0.Wide - 1))) fun q2 =>
 req (0 ≤ (Xaa .i64 ((Xaa .i64 (q1 * p0.Wide)) + q2)) ∧ (Xaa .i64 ((Xaa .i64 (q1 * p0.Wide)) + q2)) < p0.Dots.size) <|
 some (Xaa .i64 ((Xcd p0.Dots (Xaa .i64 ((Xaa .i64 (q1 * p0.Wide)) + q2)))))
def Xet (p0 : Pic) (p1 : Int) (p2 : Int) (v10 : (Int × (List Int))) (v23 : (Int × (List Int))) : Option (Lp (Int × (List Int)) (List Int)) :=
 sel (decide (v23.1 < 8)) (
 bnd (Xeu p0 (Xaa .i64 (p1 + v23.1)) (Xaa .i64 (p2 + v10.1))) fun q27 =>
 req ((v23.2.length + ([q27]).length) * 8 ≤ 140737488355328 ∧ v23.2.length + ([q27]).length ≤ maxLen) <|
 some (.go (Xaa .i64 (v23.1 + 1), (v23.2 ++ ([q27]))))) (
 some (.done v23.2))
def Xes (p0 : Pic) (p1 : Int) (p2 : Int) (v10 : (Int × (List Int))) : Option (Lp (Int × (List Int)) (List Int)) :=
 sel (decide (v10.1 < 8)) (
 bnd (loop (Xet p0 p1 p2 v10) (0, v10.2)) fun v26 =>
 some (.go (Xaa .i64 (v10.1 + 1), v26))) (
 some (.done v10.2))
def Xgu (p0 : Pic) (p1 : Int) (p2 : Int) : Option (List Int) :=
 req (0 ≤ (0 : Int) ∧ (0 : Int) ≤ (64 : Int) ∧ (64 : Int) * 8 ≤ 281474976710656) <|
 bnd (loop (Xes p0 p1 p2) (0, (List.replicate (0 : Int).toNat (0 : Int)))) fun v20 =>
 some v20
def Xkr (p0 : Int) (v16 : (Int × (List Int))) (v37 : (Int × (List Int))) : Option (Lp (Int × (List Int)) (List Int)) :=
 sel (decide (v37.1 ≤ v16.1)) (
 bnd (
 bnd (
 req ((2 : Int) ≠ 0) <|
 sel ((v16.1.tmod 2) == 0) (
 some (Xaa .i64 (v16.1 - v37.1))) (
 some v37.1)) fun v44 =>
 bnd (
 sel (decide (v44 < p0)) (
 some (decide ((Xaa .i64 (v16.1 - v44)) < p0))) (
 some false)) fun v45 =>
 sel v45 (
 req ((v37.2.length + ([Xaa .i64 ((Xaa .i64 (v44 * p0)) + (Xaa .i64 (v16.1 - v44)))]).length) * 8 ≤ 140737488355328 ∧ v37.2.length + ([Xaa .i64 ((Xaa .i64 (v44 * p0)) + (Xaa .i64 (v16.1 - v44)))]).length ≤ maxLen) <|
 some (v37.2 ++ ([Xaa .i64 ((Xaa .i64 (v44 * p0)) + (Xaa .i64 (v16.1 - v44)))]))) (
 some v37.2)) fun v43 =>
 some (.go (Xaa .i64 (v37.1 + 1), v43))) (
 some (.done v37.2))
def Xg2 (p0 : Int) (v16 : (Int × (List Int))) : Option (Lp (Int × (List Int)) (List Int)) :=
 sel (decide (v16.1 ≤ (Xaa .i64 ((Xaa .i64 (2 * p0)) - 2)))) (
 bnd (loop (Xkr p0 v16) (0, v16.2)) fun v42 =>
 some (.go (Xaa .i64 (v16.1 + 1), v42))) (
 some (.done v16.2))
def Xit (p0 : Int) : Option (List Int) :=
 bnd (loop (Xg2 p0) (0, ([] : List Int))) fun v32 =>
 some v32
def Xh0 (p1 : (List Int)) (q2 : (List Int)) (v4 : (Int × (List Int))) : Option (Lp (Int × (List Int)) (List Int)) :=
 sel (decide (v4.1 < (q2.length : Int))) (
 req (0 ≤ v4.1 ∧ v4.1 < q2.length) <|
 req (v4.1.toNat < q2.length) <|
 req (0 ≤ v4.1 ∧ v4.1 < p1.length) <|
 req (0 ≤ (q2.getD v4.1.toNat 0) ∧ (q2.getD v4.1.toNat 0) < v4.2.length) <|
 req ((q2.getD v4.1.toNat 0).toNat < v4.2.length) <|
 some (.go (Xaa .i64 (v4.1 + 1), (v4.2.set ((q2.getD v4.1.toNat 0).toNat) (p1.getD v4.1.toNat 0))))) (
 some (.done v4.2))
def Xe5 (p0 : Int) (p1 : (List Int)) : Option ((List Int) × Bool) :=
 bnd (
 sel (p0 != 4) (
 sel (p0 != 8) (
 some true) (
 some ((p1.length : Int) != (Xaa .i64 (p0 * p0))))) (
 some ((p1.length : Int) != (Xaa .i64 (p0 * p0))))) fun v1 =>
 sel v1 (
 some (([] : List Int), false)) (
 req (0 ≤ (p1.length : Int) ∧ (p1.length : Int) ≤ (p1.length : Int) ∧ (p1.length : Int) * 8 ≤ 281474976710656) <|
 bnd (Xit p0) fun q2 =>
 bnd (loop (Xh0 p1 q2) (0, (List.replicate (p1.length : Int).toNat (0 : Int)))) fun v6 =>
 some (v6, true))
def Xlo (p0 : Int) : Option Int :=
 bnd (Xan p0 0 40) fun q1 =>
 sel (!q1) (
 some 0) (
 req ((6 : Int) ≠ 0) <|
 req (0 ≤ (p0.tmod 6) ∧ (p0.tmod 6) < ([10, 11, 13, 14, 16, 18]).length) <|
 req ((p0.tmod 6).toNat < ([10, 11, 13, 14, 16, 18]).length) <|
 req ((6 : Int) ≠ 0) <|
 req (0 ≤ (Xaa .i64 (p0.tdiv 6))) <|
 some (Xaa .i64 ((([10, 11, 13, 14, 16, 18]).getD ((p0.tmod 6).toNat) 0) * 2 ^ min (Xaa .i64 (p0.tdiv 6)).toNat (IntKind.bits .i64))))
def Xip (p0 : Int) (p1 : Int) : Option Int :=
 bnd (Xan p0 (-5000) 5000) fun q1 =>
 sel (!q1) (
 some 0) (
 bnd (Xlo p1) fun q2 =>
 some (Xaa .i64 (p0 * q2)))
def Xln (p0 : Int) (p1 : Int) : Option Int :=
 bnd (
 bnd (Xan p0 0 7) fun q2 =>
 sel q2 (
 bnd (Xan p1 0 7) fun q3 =>
 some (!q3)) (
 some true)) fun v1 =>
 sel v1 (
 some 0) (
 req (0 ≤ (1 : Int)) <|
 req (0 ≤ (2 : Int)) <|
 req ((2 : Int) ≠ 0) <|
 sel (((Xaa .i64 ((Xaa .i64 ((IntKind.wrap .i64 (BitVec.ofInt (IntKind.bits .i64) (IntKind.wrap .i64 (BitVec.ofInt (IntKind.bits .i64) p0 &&& BitVec.ofInt (IntKind.bits .i64) p1).toNat) &&& BitVec.ofInt (IntKind.bits .i64) 1).toNat) + (IntKind.wrap .i64 (BitVec.ofInt (IntKind.bits .i64) ((IntKind.wrap .i64 (BitVec.ofInt (IntKind.bits .i64) p0 &&& BitVec.ofInt (IntKind.bits .i64) p1).toNat) / 2 ^ min (1 : Int).toNat (IntKind.bits .i64)) &&& BitVec.ofInt (IntKind.bits .i64) 1).toNat))) + (IntKind.wrap .i64 (BitVec.ofInt (IntKind.bits .i64) ((IntKind.wrap .i64 (BitVec.ofInt (IntKind.bits .i64) p0 &&& BitVec.ofInt (IntKind.bits .i64) p1).toNat) / 2 ^ min (2 : Int).toNat (IntKind.bits .i64)) &&& BitVec.ofInt (IntKind.bits .i64) 1).toNat))).tmod 2) == 0) (
 some 1) (
 some (-1)))
def Xkt (p0 : (List Int)) (v31 : (Int × (List Int))) (v72 : (Int × (List Int))) (v85 : (Int × (List Int))) : Option (Lp (Int × (List Int)) (List Int)) :=
 sel (decide (v85.1 < 8)) (
 req (0 ≤ (Xaa .i64 ((Xaa .i64 (8 * v31.1)) + v72.1)) ∧ (Xaa .i64 ((Xaa .i64 (8 * v31.1)) + v72.1)) < v85.2.length) <|
 req ((Xaa .i64 ((Xaa .i64 (8 * v31.1)) + v72.1)).toNat < v85.2.length) <|
 bnd (Xln v72.1 v85.1) fun q89 =>
 req (0 ≤ (Xaa .i64 ((Xaa .i64 (8 * v31.1)) + v85.1)) ∧ (Xaa .i64 ((Xaa .i64 (8 * v31.1)) + v85.1)) < p0.length) <|
 req (0 ≤ (Xaa .i64 ((Xaa .i64 (8 * v31.1)) + v72.1)) ∧ (Xaa .i64 ((Xaa .i64 (8 * v31.1)) + v72.1)) < v85.2.length) <|
 req ((Xaa .i64 ((Xaa .i64 (8 * v31.1)) + v72.1)).toNat < v85.2.length) <|
 some (.go (Xaa .i64 (v85.1 + 1), (v85.2.set ((Xaa .i64 ((Xaa .i64 (8 * v31.1)) + v72.1)).toNat) (Xaa .i64 ((v85.2.getD ((Xaa .i64 ((Xaa .i64 (8 * v31.1)) + v72.1)).toNat) 0) + (Xaa .i64 (q89 * (p0.getD (Xaa .i64 ((Xaa .i64 (8 * v31.1)) + v85.1)).toNat 0))))))))) (
 some (.done v85.2))
def Xq7 (p0 : (List Int)) (v31 : (Int × (List Int))) (v72 : (Int × (List Int))) : Option (Lp (Int × (List Int)) (List Int)) :=
 sel (decide (v72.1 < 8)) (
 bnd (loop (Xkt p0 v31 v72) (0, v72.2)) fun v88 =>
 some (.go (Xaa .i64 (v72.1 + 1), v88))) (
 some (.done v72.2))
def Xq6 (p0 : (List Int)) (v31 : (Int × (List Int))) : Option (Lp (Int × (List Int)) (List Int)) :=
 sel (decide (v31.1 < 8)) (
 bnd (loop (Xq7 p0 v31) (0, v31.2)) fun v82 =>
 some (.go (Xaa .i64 (v31.1 + 1), v82))) (
 some (.done v31.2))
def Xiu (v62 : (List Int)) (v123 : (Int × (List Int))) (v164 : (Int × (List Int))) (v177 : (Int × (List Int))) : Option (Lp (Int × (List Int)) (List Int)) :=
 sel (decide (v177.1 < 8)) (
 req (0 ≤ (Xaa .i64 ((Xaa .i64 (8 * v123.1)) + v164.1)) ∧ (Xaa .i64 ((Xaa .i64 (8 * v123.1)) + v164.1)) < v177.2.length) <|
 req ((Xaa .i64 ((Xaa .i64 (8 * v123.1)) + v164.1)).toNat < v177.2.length) <|
 bnd (Xln v123.1 v177.1) fun q181 =>
 req (0 ≤ (Xaa .i64 ((Xaa .i64 (8 * v177.1)) + v164.1)) ∧ (Xaa .i64 ((Xaa .i64 (8 * v177.1)) + v164.1)) < v62.length) <|
 req ((Xaa .i64 ((Xaa .i64 (8 * v177.1)) + v164.1)).toNat < v62.length) <|
 req (0 ≤ (Xaa .i64 ((Xaa .i64 (8 * v123.1)) + v164.1)) ∧ (Xaa .i64 ((Xaa .i64 (8 * v123.1)) + v164.1)) < v177.2.length) <|
 req ((Xaa .i64 ((Xaa .i64 (8 * v123.1)) + v164.1)).toNat < v177.2.length) <|
 some (.go (Xaa .i64 (v177.1 + 1), (v177.2.set ((Xaa .i64 ((Xaa .i64 (8 * v123.1)) + v164.1)).toNat) (Xaa .i64 ((v177.2.getD ((Xaa .i64 ((Xaa .i64 (8 * v123.1)) + v164.1)).toNat) 0) + (Xaa .i64 (q181 * (v62.getD ((Xaa .i64 ((Xaa .i64 (8 * v177.1)) + v164.1)).toNat) 0))))))))) (
 some (.done v177.2))
def Xpn (v62 : (List Int)) (v123 : (Int × (List Int))) (v164 : (Int × (List Int))) : Option (Lp (Int × (List Int)) (List Int)) :=
 sel (decide (v164.1 < 8)) (
 bnd (loop (Xiu v62 v123 v164) (0, v164.2)) fun v180 =>
 some (.go (Xaa .i64 (v164.1 + 1), v180))) (
 some (.done v164.2))
def Xpm (v62 : (List Int)) (v123 : (Int × (List Int))) : Option (Lp (Int × (List Int)) (List Int)) :=
 sel (decide (v123.1 < 8)) (
 bnd (loop (Xpn v62 v123) (0, v123.2)) fun v174 =>
 some (.go (Xaa .i64 (v123.1 + 1), v174))) (
 some (.done v123.2))
def Xsi (p0 : (List Int)) : Option (List Int) :=
 req (0 ≤ (64 : Int) ∧ (64 : Int) ≤ (64 : Int) ∧ (64 : Int) * 8 ≤ 281474976710656) <|
 bnd (loop (Xq6 p0) (0, (List.replicate (64 : Int).toNat (0 : Int)))) fun v62 =>
 req (0 ≤ (64 : Int) ∧ (64 : Int) ≤ (64 : Int) ∧ (64 : Int) * 8 ≤ 281474976710656) <|
 bnd (loop (Xpm v62) (0, (List.replicate (64 : Int).toNat (0 : Int)))) fun v154 =>
 some v154
def Xn6 (p0 : Int) (p1 : Int) : Option Int :=
 req (p1 ≠ 0) <|
 bnd (
 req (p1 ≠ 0) <|
 sel (decide ((p0.tmod p1) < 0)) (
 some (Xaa .i64 ((Xaa .i64 (p0.tdiv p1)) - 1))) (
 some (Xaa .i64 (p0.tdiv p1)))) fun v1 =>
 some v1
def Xof (p0 : (List Int)) (v3 : (Int × (List Int))) : Option (Lp (Int × (List Int)) (List Int)) :=
 sel (decide (v3.1 < (p0.length : Int))) (
 req (0 ≤ v3.1 ∧ v3.1 < v3.2.length) <|
 req (v3.1.toNat < v3.2.length) <|
 bnd (Xn6 (Xaa .i64 ((v3.2.getD v3.1.toNat 0) + 32)) 64) fun q7 =>
 req (0 ≤ v3.1 ∧ v3.1 < v3.2.length) <|
 req (v3.1.toNat < v3.2.length) <|
 some (.go (Xaa .i64 (v3.1 + 1), (v3.2.set v3.1.toNat q7)))) (
 some (.done v3.2))
def Xjx (p0 : (List Int)) : Option ((List Int) × (List Int)) :=
 bnd (loop (Xof p0) (0, p0)) fun v6 =>
 some (v6, v6)
def Xio (p0 : (List Int)) : Option (List Int) :=
 bnd (Xd9 p0 64 (-10000000) 10000000) fun q1 =>
 sel (!q1) (
 some ([] : List Int)) (
 bnd (Xsi p0) fun q2 =>
 bnd (Xjx q2) fun q3 =>
 some q3.2)
def Xvl (p0 : Int) : Option Int :=
 bnd (Xan p0 0 15) fun q1 =>
 sel (!q1) (
 some (-1)) (
 req ((4 : Int) ≠ 0) <|
 req ((2 : Int) ≠ 0) <|
 req ((4 : Int) ≠ 0) <|
 req ((2 : Int) ≠ 0) <|
 bnd (
 sel (((Xaa .i64 (p0.tdiv 4)).tmod 2) == 0) (
 some (((p0.tmod 4).tmod 2) == 0)) (
 some false)) fun v2 =>
 sel v2 (
 some 0) (
 bnd (
 sel (((Xaa .i64 (p0.tdiv 4)).tmod 2) == 1) (
 some (((p0.tmod 4).tmod 2) == 1)) (
 some false)) fun v3 =>
 sel v3 (
 some 1) (
 some 2)))
def Xmw (p0 : Int) (p1 : Int) : Option Int :=
 bnd (
 bnd (Xan p0 0 40) fun q2 =>
 sel q2 (
 bnd (Xan p1 0 15) fun q3 =>
 some (!q3)) (
 some true)) fun v1 =>
 sel v1 (
 some 0) (
 req ((6 : Int) ≠ 0) <|
 bnd (Xvl p1) fun q4 =>
 req (0 ≤ (p0.tmod 6) ∧ (p0.tmod 6) < 6) <|
 req (0 ≤ q4 ∧ q4 < 3) <|
 req (((0 + (p0.tmod 6).toNat * 3) + q4.toNat * 1) < ([10, 16, 13, 11, 18, 14, 13, 20, 16, 14, 23, 18, 16, 25, 20, 18, 29, 23] : List Int).length) <|
 req ((6 : Int) ≠ 0) <|
 req (0 ≤ (Xaa .i64 (p0.tdiv 6))) <|
 some (Xaa .i64 ((([10, 16, 13, 11, 18, 14, 13, 20, 16, 14, 23, 18, 16, 25, 20, 18, 29, 23] : List Int).getD ((0 + (p0.tmod 6).toNat * 3) + q4.toNat * 1) 0) * 2 ^ min (Xaa .i64 (p0.tdiv 6)).toNat (IntKind.bits .i64))))
def Xiq (p0 : Int) (p1 : Int) (p2 : Int) : Option Int :=
 bnd (Xan p0 (-5000) 5000) fun q1 =>
 sel (!q1) (
 some 0) (
 bnd (Xmw p1 p2) fun q2 =>
 some (Xaa .i64 (p0 * q2)))
def Xec (p0 : Int) (p1 : Int) (p2 : Int) (p3 : Int) : Option (Int × Int × Int × Int) :=
 bnd (Xn6 p1 2) fun q1 =>
 bnd (Xn6 p3 2) fun q2 =>
 some (Xaa .i64 ((Xaa .i64 (p0 + p2)) + (Xaa .i64 (p1 + q2))), Xaa .i64 ((Xaa .i64 (p0 - p2)) + (Xaa .i64 (q1 - p3))), Xaa .i64 ((Xaa .i64 (p0 - p2)) - (Xaa .i64 (q1 - p3))), Xaa .i64 ((Xaa .i64 (p0 + p2)) - (Xaa .i64 (p1 + q2))))
def Xf4 (v4 : (Int × (List Int))) : Option (Lp (Int × (List Int)) (List Int)) :=
 sel (decide (v4.1 < 16)) (
 req (0 ≤ v4.1 ∧ v4.1 < v4.2.length) <|
 req (v4.1.toNat < v4.2.length) <|
 req (0 ≤ (Xaa .i64 (v4.1 + 1)) ∧ (Xaa .i64 (v4.1 + 1)) < v4.2.length) <|
 req ((Xaa .i64 (v4.1 + 1)).toNat < v4.2.length) <|
 req (0 ≤ (Xaa .i64 (v4.1 + 2)) ∧ (Xaa .i64 (v4.1 + 2)) < v4.2.length) <|
 req ((Xaa .i64 (v4.1 + 2)).toNat < v4.2.length) <|
 req (0 ≤ (Xaa .i64 (v4.1 + 3)) ∧ (Xaa .i64 (v4.1 + 3)) < v4.2.length) <|
 req ((Xaa .i64 (v4.1 + 3)).toNat < v4.2.length) <|
 bnd (Xec (v4.2.getD v4.1.toNat 0) (v4.2.getD ((Xaa .i64 (v4.1 + 1)).toNat) 0) (v4.2.getD ((Xaa .i64 (v4.1 + 2)).toNat) 0) (v4.2.getD ((Xaa .i64 (v4.1 + 3)).toNat) 0)) fun q8 =>
 req (0 ≤ v4.1 ∧ v4.1 ≤ (Xaa .i64 (v4.1 + 4)) ∧ (Xaa .i64 (v4.1 + 4)) ≤ (v4.2.length : Int)) <|
 req ((v4.1.toNat + ((Xaa .i64 (v4.1 + 4)).toNat - v4.1.toNat) ≤ v4.2.length ∧ ([q8.1, q8.2.1, q8.2.2.1, q8.2.2.2]).length ≤ ((Xaa .i64 (v4.1 + 4)).toNat - v4.1.toNat))) <|
 some (.go (Xaa .i64 (v4.1 + 4), (over v4.2 v4.1.toNat ([q8.1, q8.2.1, q8.2.2.1, q8.2.2.2]))))) (
 some (.done v4.2))
def Xfm (v17 : (Int × (List Int))) (q26 : (Int × Int × Int × Int)) (v28 : (Int × (List Int))) : Option (Lp (Int × (List Int)) (List Int)) :=
 sel (decide (v28.1 < 4)) (
 req (0 ≤ v28.1 ∧ v28.1 < ([q26.1, q26.2.1, q26.2.2.1, q26.2.2.2] : List Int).length) <|
 req (0 ≤ (Xaa .i64 (v17.1 + (Xaa .i64 (4 * v28.1)))) ∧ (Xaa .i64 (v17.1 + (Xaa .i64 (4 * v28.1)))) < v28.2.length) <|
 req ((Xaa .i64 (v17.1 + (Xaa .i64 (4 * v28.1)))).toNat < v28.2.length) <|
 some (.go (Xaa .i64 (v28.1 + 1), (v28.2.set ((Xaa .i64 (v17.1 + (Xaa .i64 (4 * v28.1)))).toNat) (([q26.1, q26.2.1, q26.2.2.1, q26.2.2.2] : List Int).getD v28.1.toNat 0))))) (
 some (.done v28.2))
def Xfl (v17 : (Int × (List Int))) : Option (Lp (Int × (List Int)) (List Int)) :=
 sel (decide (v17.1 < 4)) (
 req (0 ≤ v17.1 ∧ v17.1 < v17.2.length) <|
 req (v17.1.toNat < v17.2.length) <|
 req (0 ≤ (Xaa .i64 (v17.1 + 4)) ∧ (Xaa .i64 (v17.1 + 4)) < v17.2.length) <|
 req ((Xaa .i64 (v17.1 + 4)).toNat < v17.2.length) <|
 req (0 ≤ (Xaa .i64 (v17.1 + 8)) ∧ (Xaa .i64 (v17.1 + 8)) < v17.2.length) <|
 req ((Xaa .i64 (v17.1 + 8)).toNat < v17.2.length) <|
 req (0 ≤ (Xaa .i64 (v17.1 + 12)) ∧ (Xaa .i64 (v17.1 + 12)) < v17.2.length) <|
 req ((Xaa .i64 (v17.1 + 12)).toNat < v17.2.length) <|
 bnd (Xec (v17.2.getD v17.1.toNat 0) (v17.2.getD ((Xaa .i64 (v17.1 + 4)).toNat) 0) (v17.2.getD ((Xaa .i64 (v17.1 + 8)).toNat) 0) (v17.2.getD ((Xaa .i64 (v17.1 + 12)).toNat) 0)) fun q26 =>
 bnd (loop (Xfm v17 q26) (0, v17.2)) fun v30 =>
 some (.go (Xaa .i64 (v17.1 + 1), v30))) (
 some (.done v17.2))
def Xct (p0 : (List Int)) : Option (List Int) :=
 bnd (Xey p0) fun q1 =>
 bnd (loop (Xf4) (0, q1)) fun v7 =>
 bnd (loop (Xfl) (0, v7)) fun v25 =>
 some v25
def Xkk (p0 : (List Int)) : Option (List Int) :=
 bnd (Xd9 p0 16 (-10000000) 10000000) fun q1 =>
 sel (!q1) (
 some ([] : List Int)) (
 bnd (Xct p0) fun q2 =>
 bnd (Xjx q2) fun q3 =>
 some q3.2)
def Xnh (p0 : Int) (v7 : (Int × (List Int))) (v16 : (Int × (List Int))) : Option (Lp (Int × (List Int)) (List Int)) :=
 sel (decide (v16.1 < 4)) (
 req ((2 : Int) ≠ 0) <|
 req ((2 : Int) ≠ 0) <|
 req ((v16.2.length + ([Xaa .i64 ((Xaa .i64 ((Xaa .i64 ((Xaa .i64 (v7.1 + (Xaa .i64 ((Xaa .i64 (p0.tdiv 2)) * 4)))) * 8)) + v16.1)) + (Xaa .i64 ((p0.tmod 2) * 4)))]).length) * 8 ≤ 140737488355328 ∧ v16.2.length + ([Xaa .i64 ((Xaa .i64 ((Xaa .i64 ((Xaa .i64 (v7.1 + (Xaa .i64 ((Xaa .i64 (p0.tdiv 2)) * 4)))) * 8)) + v16.1)) + (Xaa .i64 ((p0.tmod 2) * 4)))]).length ≤ maxLen) <|
 some (.go (Xaa .i64 (v16.1 + 1), (v16.2 ++ ([Xaa .i64 ((Xaa .i64 ((Xaa .i64 ((Xaa .i64 (v7.1 + (Xaa .i64 ((Xaa .i64 (p0.tdiv 2)) * 4)))) * 8)) + v16.1)) + (Xaa .i64 ((p0.tmod 2) * 4)))]))))) (
 some (.done v16.2))
def Xje (p0 : Int) (v7 : (Int × (List Int))) : Option (Lp (Int × (List Int)) (List Int)) :=
 sel (decide (v7.1 < 4)) (
 bnd (loop (Xnh p0 v7) (0, v7.2)) fun v18 =>
 some (.go (Xaa .i64 (v7.1 + 1), v18))) (
 some (.done v7.2))
def Xmz (p0 : Int) : Option (List Int) :=
 bnd (loop (Xje p0) (0, ([] : List Int))) fun v14 =>
 some v14
def Xer (p1 : Xfg) (q5 : ((List Int) × Bool)) (v8 : (Int × (List Int))) : Option (Lp (Int × (List Int)) (List Int)) :=
 sel (decide (v8.1 < (q5.1.length : Int))) (
 req (0 ≤ v8.1 ∧ v8.1 < v8.2.length) <|
 req (v8.1.toNat < v8.2.length) <|
 bnd (Xip (v8.2.getD v8.1.toNat 0) p1.Qp) fun q12 =>
 req (0 ≤ v8.1 ∧ v8.1 < v8.2.length) <|
 req (v8.1.toNat < v8.2.length) <|
 some (.go (Xaa .i64 (v8.1 + 1), (v8.2.set v8.1.toNat q12)))) (
 some (.done v8.2))
def Xed (p1 : Xfg) (q51 : ((List Int) × Bool)) (v54 : (Int × (List Int))) : Option (Lp (Int × (List Int)) (List Int)) :=
 sel (decide (v54.1 < (q51.1.length : Int))) (
 req (0 ≤ v54.1 ∧ v54.1 < v54.2.length) <|
 req (v54.1.toNat < v54.2.length) <|
 bnd (Xiq (v54.2.getD v54.1.toNat 0) p1.Qp v54.1) fun q58 =>
 req (0 ≤ v54.1 ∧ v54.1 < v54.2.length) <|
 req (v54.1.toNat < v54.2.length) <|
 some (.go (Xaa .i64 (v54.1 + 1), (v54.2.set v54.1.toNat q58)))) (
 some (.done v54.2))
def Xf8 (q60 : (List Int)) (q61 : (List Int)) (v63 : (Int × (List Int))) : Option (Lp (Int × (List Int)) (List Int)) :=
 sel (decide (v63.1 < (q61.length : Int))) (
 req (0 ≤ v63.1 ∧ v63.1 < q61.length) <|
 req (v63.1.toNat < q61.length) <|
 req (0 ≤ v63.1 ∧ v63.1 < q60.length) <|
 req (v63.1.toNat < q60.length) <|
 req (0 ≤ (q61.getD v63.1.toNat 0) ∧ (q61.getD v63.1.toNat 0) < v63.2.length) <|
 req ((q61.getD v63.1.toNat 0).toNat < v63.2.length) <|
 some (.go (Xaa .i64 (v63.1 + 1), (v63.2.set ((q61.getD v63.1.toNat 0).toNat) (q60.getD v63.1.toNat 0))))) (
 some (.done v63.2))
def Xjm (p0 : (List Int)) (p1 : Xfg) (v32 : (Int × (List Int))) : Option (Lp (Int × (List Int)) (List Int)) :=
 sel (decide (v32.1 < 4)) (
 req (0 ≤ (Xaa .i64 (16 * v32.1)) ∧ (Xaa .i64 (16 * v32.1)) ≤ (Xaa .i64 ((Xaa .i64 (16 * v32.1)) + 16)) ∧ (Xaa .i64 ((Xaa .i64 (16 * v32.1)) + 16)) ≤ (p0.length : Int)) <|
 bnd (Xe5 4 ((p0.drop (Xaa .i64 (16 * v32.1)).toNat).take ((Xaa .i64 ((Xaa .i64 (16 * v32.1)) + 16)).toNat - (Xaa .i64 (16 * v32.1)).toNat))) fun q51 =>
 bnd (loop (Xed p1 q51) (0, q51.1)) fun v57 =>
 bnd (Xkk v57) fun q60 =>
 bnd (Xmz v32.1) fun q61 =>
 bnd (loop (Xf8 q60 q61) (0, v32.2)) fun v65 =>
 some (.go (Xaa .i64 (v32.1 + 1), v65))) (
 some (.done v32.2))
def Xha (p0 : (List Int)) (p1 : Xfg) : Option ((List Int) × Bool) :=
 bnd (
 bnd (Xe6 p0) fun q2 =>
 sel q2 (
 bnd (Xg9 p1) fun q3 =>
 some (!q3)) (
 some true)) fun v1 =>
 sel v1 (
 some (([] : List Int), false)) (
 sel p1.Exact (
 bnd (Xe5 8 p0) fun q4 =>
 some (q4.1, q4.2)) (
 sel p1.Large (
 bnd (Xe5 8 p0) fun q5 =>
 bnd (loop (Xer p1 q5) (0, q5.1)) fun v11 =>
 bnd (Xio v11) fun q14 =>
 some (q14, true)) (
 req (0 ≤ (64 : Int) ∧ (64 : Int) ≤ (64 : Int) ∧ (64 : Int) * 8 ≤ 281474976710656) <|
 bnd (loop (Xjm p0 p1) (0, (List.replicate (64 : Int).toNat (0 : Int)))) fun v50 =>
 some (v50, true))))
def Xme (p0 : (List Int)) (p1 : (List Int)) (v6 : (Int × (List Int))) : Option (Lp (Int × (List Int)) (List Int)) :=
 sel (decide (v6.1 < (p0.length : Int))) (
 req (0 ≤ v6.1 ∧ v6.1 < p0.length) <|
 req (0 ≤ v6.1 ∧ v6.1 < p1.length) <|
 bnd (Xep (Xaa .i64 ((p0.getD v6.1.toNat 0) + (p1.getD v6.1.toNat 0))) 0 255) fun q10 =>
 req ((v6.2.length + ([q10]).length) * 8 ≤ 140737488355328 ∧ v6.2.length + ([q10]).length ≤ maxLen) <|
 some (.go (Xaa .i64 (v6.1 + 1), (v6.2 ++ ([q10]))))) (
 some (.done v6.2))
def Xll (p0 : (List Int)) (p1 : (List Int)) : Option (List Int) :=
 bnd (
 bnd (Xd9 p0 64 0 255) fun q2 =>
 sel q2 (
 bnd (Xd9 p1 64 (-10000000) 10000000) fun q3 =>
 some (!q3)) (
 some true)) fun v1 =>
 sel v1 (
 some ([] : List Int)) (
 bnd (loop (Xme p0 p1) (0, ([] : List Int))) fun v9 =>
 some v9)
def Xkj (p0 : Pic) (p1 : Int) (p2 : Int) (v9 : (Int × (List Int) × (List Int))) : Option (Lp (Int × (List Int) × (List Int)) ((List Int) × (List Int))) :=
 sel (decide (v9.1 < 8)) (
 bnd (
 bnd (
 sel (decide (p2 > 0)) (
 bnd (Xeu p0 (Xaa .i64 (p1 + v9.1)) (Xaa .i64 (p2 - 1))) fun q18 =>
 req ((v9.2.1.length + ([q18]).length) * 8 ≤ 140737488355328 ∧ v9.2.1.length + ([q18]).length ≤ maxLen) <|
 some (v9.2.1 ++ ([q18]))) (
 some v9.2.1)) fun v17 =>
 sel (decide (p1 > 0)) (
 bnd (Xeu p0 (Xaa .i64 (p1 - 1)) (Xaa .i64 (p2 + v9.1))) fun q19 =>
 req ((v9.2.2.length + ([q19]).length) * 8 ≤ 140737488355328 ∧ v9.2.2.length + ([q19]).length ≤ maxLen) <|
 some (v17, (v9.2.2 ++ ([q19])))) (
 some (v17, v9.2.2))) fun v16 =>
 some (.go (Xaa .i64 (v9.1 + 1), v16.1, v16.2))) (
 some (.done (v9.2.1, v9.2.2)))
def Xmt (p0 : Pic) (p1 : Int) (p2 : Int) : Option (Xnc × Bool) :=
 bnd (
 bnd (Xdo p0) fun q2 =>
 sel q2 (
 bnd (Xc4 p0 p1 p2) fun q3 =>
 some (!q3)) (
 some true)) fun v1 =>
 sel v1 (
 some ((⟨[], [], 0⟩ : Xnc), false)) (
 bnd (loop (Xkj p0 p1 p2) (0, [], [])) fun v15 =>
 bnd (
 bnd (
 sel (decide (p1 > 0)) (
 some (decide (p2 > 0))) (
 some false)) fun v22 =>
 sel v22 (
 bnd (Xeu p0 (Xaa .i64 (p1 - 1)) (Xaa .i64 (p2 - 1))) fun q23 =>
 some q23) (
 some (-1))) fun v21 =>
 some ((⟨v15.1, v15.2, v21⟩ : Xnc), true))
def Xfi (p0 : Xnc) (v4 : Int) : Option (Lp Int (Ou Unit Bool)) :=
 sel (decide (v4 < (([p0.Above, p0.Left]).length : Int))) (
 req (0 ≤ v4 ∧ v4 < ([p0.Above, p0.Left]).length) <|
 req (v4.toNat < ([p0.Above, p0.Left]).length) <|
 bnd (
 sel (decide (((([p0.Above, p0.Left]).getD v4.toNat Xmc).length : Int) > 0)) (
 bnd (Xd9 (([p0.Above, p0.Left]).getD v4.toNat Xmc) 8 0 255) fun q10 =>
 some (!q10)) (
 some false)) fun v9 =>
 sel v9 (
 some (.done (.ret false))) (
 some (.go (Xaa .i64 (v4 + 1))))) (
 some (.done (.out ())))
def Xmu (p0 : Xnc) : Option Bool :=
 bnd (loop (Xfi p0) 0) fun o11 => match o11 with
| .out v8 => (
 bnd (Xan p0.Corner (-1) 255) fun q12 =>
 some q12)
| .ret r => some r
def Xls (p0 : (List Int)) : Option (List Int) :=
 sel ((p0.length : Int) == 0) (
 some ([128, 128, 128, 128, 128, 128, 128, 128])) (
 some p0)
def Xgf (p0 : Int) (v4 : Int) (q7 : (List Int)) (q8 : (List Int)) (v9 : Int) (v22 : (Int × (List Int))) (v39 : (Int × (List Int))) : Option (Lp (Int × (List Int)) (List Int)) :=
 sel (decide (v39.1 < 8)) (
 bnd (
 sel (p0 == 0) (
 req ((v39.2.length + ([v4]).length) * 8 ≤ 140737488355328 ∧ v39.2.length + ([v4]).length ≤ maxLen) <|
 some (v39.2 ++ ([v4]))) (
 sel (p0 == 1) (
 req (0 ≤ v39.1 ∧ v39.1 < q7.length) <|
 req ((v39.2.length + ([(q7.getD v39.1.toNat 0)]).length) * 8 ≤ 140737488355328 ∧ v39.2.length + ([(q7.getD v39.1.toNat 0)]).length ≤ maxLen) <|
 some (v39.2 ++ ([(q7.getD v39.1.toNat 0)]))) (
 sel (p0 == 2) (
 req (0 ≤ v22.1 ∧ v22.1 < q8.length) <|
 req ((v39.2.length + ([(q8.getD v22.1.toNat 0)]).length) * 8 ≤ 140737488355328 ∧ v39.2.length + ([(q8.getD v22.1.toNat 0)]).length ≤ maxLen) <|
 some (v39.2 ++ ([(q8.getD v22.1.toNat 0)]))) (
 req (0 ≤ v22.1 ∧ v22.1 < q8.length) <|
 req (0 ≤ v39.1 ∧ v39.1 < q7.length) <|
 bnd (Xep (Xaa .i64 ((Xaa .i64 ((q8.getD v22.1.toNat 0) + (q7.getD v39.1.toNat 0))) - v9)) 0 255) fun q45 =>
 req ((v39.2.length + ([q45]).length) * 8 ≤ 140737488355328 ∧ v39.2.length + ([q45]).length ≤ maxLen) <|
 some (v39.2 ++ ([q45])))))) fun v44 =>
 some (.go (Xaa .i64 (v39.1 + 1), v44))) (
 some (.done v39.2))
def Xnf (p0 : Int) (v4 : Int) (q7 : (List Int)) (q8 : (List Int)) (v9 : Int) (v22 : (Int × (List Int))) : Option (Lp (Int × (List Int)) (List Int)) :=
 sel (decide (v22.1 < 8)) (
 bnd (loop (Xgf p0 v4 q7 q8 v9 v22) (0, v22.2)) fun v43 =>
 some (.go (Xaa .i64 (v22.1 + 1), v43))) (
 some (.done v22.2))
def Xjt (p0 : Int) (p1 : Xnc) : Option (List Int) :=
 bnd (
 bnd (Xmu p1) fun q2 =>
 sel q2 (
 bnd (Xan p0 0 3) fun q3 =>
 some (!q3)) (
 some true)) fun v1 =>
 sel v1 (
 some ([] : List Int)) (
 bnd (
 sel (decide ((Xaa .i64 ((p1.Above.length : Int) + (p1.Left.length : Int))) > 0)) (
 bnd (Xcn p1.Above) fun q5 =>
 bnd (Xcn p1.Left) fun q6 =>
 req ((2 : Int) ≠ 0) <|
 req ((Xaa .i64 ((p1.Above.length : Int) + (p1.Left.length : Int))) ≠ 0) <|
 some (Xaa .i64 ((Xaa .i64 ((Xaa .i64 (q5 + q6)) + (Xaa .i64 ((Xaa .i64 ((p1.Above.length : Int) + (p1.Left.length : Int))).tdiv 2)))).tdiv (Xaa .i64 ((p1.Above.length : Int) + (p1.Left.length : Int)))))) (
 some 128)) fun v4 =>
 bnd (Xls p1.Above) fun q7 =>
 bnd (Xls p1.Left) fun q8 =>
 bnd (
 sel (decide (p1.Corner < 0)) (
 some 128) (
 some p1.Corner)) fun v9 =>
 bnd (loop (Xnf p0 v4 q7 q8 v9) (0, ([] : List Int))) fun v35 =>
 some v35)
def Xdm (p0 : Pic) (p1 : Pic) (p2 : Int) (p3 : Int) (p4 : Xfg) (p5 : Int) (p6 : Int) (p7 : Xao) : Option ((List Int) × Bool) :=
 bnd (
 bnd (Xdo p0) fun q2 =>
 sel q2 (
 bnd (Xc4 p0 p5 p6) fun q3 =>
 sel q3 (
 bnd (Xan p2 0 256) fun q4 =>
 sel q4 (
 bnd (Xan p3 0 256) fun q5 =>
 sel q5 (
 bnd (Xf9 p7) fun q6 =>
 sel q6 (
 bnd (Xg9 p4) fun q7 =>
 sel q7 (
 bnd (Xhb p7 p4) fun q8 =>
 sel q8 (
 sel (p7.Kind != 2) (
 bnd (Xdo p1) fun q9 =>
 some (!q9)) (
 some false)) (
 some true)) (
 some true)) (
 some true)) (
 some true)) (
 some true)) (
 some true)) (
 some true)) fun v1 =>
 sel v1 (
 some (([] : List Int), false)) (
 sel (p7.Kind == 0) (
 bnd (Xgu p1 (Xaa .i64 (p2 + p5)) (Xaa .i64 (p3 + p6))) fun q10 =>
 some (q10, true)) (
 bnd (Xha p7.Levels p4) fun q11 =>
 sel (p7.Kind == 1) (
 bnd (Xgu p1 (Xaa .i64 ((Xaa .i64 (p2 + p5)) + p7.Dx)) (Xaa .i64 ((Xaa .i64 (p3 + p6)) + p7.Dy))) fun q12 =>
 bnd (Xll q12 q11.1) fun q13 =>
 some (q13, true)) (
 bnd (Xmt p0 p5 p6) fun q14 =>
 bnd (Xjt p7.Mode q14.1) fun q15 =>
 bnd (Xll q15 q11.1) fun q16 =>
 some (q16, true))))
def Xqb (p0 : Pic) : Option (List Int) :=
 req (p0.Dots.size ≤ maxLen) <|
 some (Xal p0.Dots)
def Xq5 (p0 : Pic) (p1 : Int) (p2 : Int) (p3 : (List Int)) (v3 : (Int × (List Int))) : Option (Lp (Int × (List Int)) (List Int)) :=
 sel (decide (v3.1 < (p3.length : Int))) (
 req (0 ≤ v3.1 ∧ v3.1 < p3.length) <|
 req ((8 : Int) ≠ 0) <|
 req ((8 : Int) ≠ 0) <|
 req (0 ≤ (Xaa .i64 ((Xaa .i64 ((Xaa .i64 ((Xaa .i64 (p2 + (Xaa .i64 (v3.1.tdiv 8)))) * p0.Wide)) + p1)) + (v3.1.tmod 8))) ∧ (Xaa .i64 ((Xaa .i64 ((Xaa .i64 ((Xaa .i64 (p2 + (Xaa .i64 (v3.1.tdiv 8)))) * p0.Wide)) + p1)) + (v3.1.tmod 8))) < v3.2.length) <|
 req ((Xaa .i64 ((Xaa .i64 ((Xaa .i64 ((Xaa .i64 (p2 + (Xaa .i64 (v3.1.tdiv 8)))) * p0.Wide)) + p1)) + (v3.1.tmod 8))).toNat < v3.2.length) <|
 some (.go (Xaa .i64 (v3.1 + 1), (v3.2.set ((Xaa .i64 ((Xaa .i64 ((Xaa .i64 ((Xaa .i64 (p2 + (Xaa .i64 (v3.1.tdiv 8)))) * p0.Wide)) + p1)) + (v3.1.tmod 8))).toNat) (Xaa .u8 ((p3.getD v3.1.toNat 0))))))) (
 some (.done v3.2))
def Xte (p0 : Pic) (p1 : Int) (p2 : Int) (p3 : (List Int)) : Option Pic :=
 bnd (Xqb p0) fun q1 =>
 bnd (loop (Xq5 p0 p1 p2 p3) (0, q1)) fun v5 =>
 some (⟨p0.Wide, p0.High, (strOfNums v5)⟩ : Pic)
def Xb3 (p1 : Xph) (p2 : Xfg) (p4 : (List Xao)) (v10 : (Int × Int × Int × Int × ByteArray)) (v16 : (Int × Int × Int × ByteArray)) : Option (Lp (Int × Int × Int × ByteArray) (Ou (Int × Int × ByteArray) (Pic × Bool))) :=
 sel (decide (v16.1 < (p4.length : Int))) (
 req (0 ≤ v16.1 ∧ v16.1 < p4.length) <|
 req ((8 : Int) ≠ 0) <|
 req ((Xaa .i64 (p1.Wide.tdiv 8)) ≠ 0) <|
 req ((8 : Int) ≠ 0) <|
 req ((Xaa .i64 (p1.Wide.tdiv 8)) ≠ 0) <|
 bnd (Xdm (⟨v16.2.1, v16.2.2.1, v16.2.2.2⟩ : Pic) (⟨v10.2.2.1, v10.2.2.2.1, v10.2.2.2.2⟩ : Pic) v10.1 v10.2.1 p2 (Xaa .i64 ((v16.1.tmod (Xaa .i64 (p1.Wide.tdiv 8))) * 8)) (Xaa .i64 ((Xaa .i64 (v16.1.tdiv (Xaa .i64 (p1.Wide.tdiv 8)))) * 8)) (⟨(p4.getD v16.1.toNat Xbt).Kind, (p4.getD v16.1.toNat Xbt).Mode, (p4.getD v16.1.toNat Xbt).Dx, (p4.getD v16.1.toNat Xbt).Dy, (p4.getD v16.1.toNat Xbt).Levels⟩ : Xao)) fun q21 =>
 sel (!q21.2) (
 some (.done (.ret ((⟨0, 0, ⟨#[]⟩⟩ : Pic), false)))) (
 bnd (Xte (⟨v16.2.1, v16.2.2.1, v16.2.2.2⟩ : Pic) (Xaa .i64 ((v16.1.tmod (Xaa .i64 (p1.Wide.tdiv 8))) * 8)) (Xaa .i64 ((Xaa .i64 (v16.1.tdiv (Xaa .i64 (p1.Wide.tdiv 8)))) * 8)) q21.1) fun q22 =>
 some (.go (Xaa .i64 (v16.1 + 1), q22.Wide, q22.High, q22.Dots)))) (
 some (.done (.out (v16.2.1, v16.2.2.1, v16.2.2.2))))
def Xko (p0 : Pic) (p1 : Xph) (p2 : Xfg) (p3 : Bool) (p4 : (List Xao)) : Option (Pic × Bool) :=
 bnd (
 bnd (Xlr p1.Wide) fun q2 =>
 sel q2 (
 bnd (Xlr p1.High) fun q3 =>
 sel q3 (
 bnd (Xan p1.Left 0 256) fun q4 =>
 sel q4 (
 bnd (Xan p1.Top 0 256) fun q5 =>
 sel q5 (
 bnd (Xg9 p2) fun q6 =>
 sel q6 (
 req ((8 : Int) ≠ 0) <|
 req ((8 : Int) ≠ 0) <|
 some ((p4.length : Int) != (Xaa .i64 ((Xaa .i64 (p1.Wide.tdiv 8)) * (Xaa .i64 (p1.High.tdiv 8)))))) (
 some true)) (
 some true)) (
 some true)) (
 some true)) (
 some true)) fun v1 =>
 sel v1 (
 some ((⟨0, 0, ⟨#[]⟩⟩ : Pic), false)) (
 bnd (
 sel p2.Key (
 some false) (
 bnd (Xdo p0) fun q8 =>
 sel q8 (
 bnd (Xd5 p0 p1) fun q9 =>
 some (!q9)) (
 some true))) fun v7 =>
 sel v7 (
 some ((⟨0, 0, ⟨#[]⟩⟩ : Pic), false)) (
 bnd (
 sel p3 (
 sel (!p2.Key) (
 bnd (Xn5 p0 p1) fun q11 =>
 some (0, 0, q11.1.Wide, q11.1.High, q11.1.Dots)) (
 some (0, 0, p0.Wide, p0.High, p0.Dots))) (
 some (p1.Left, p1.Top, p0.Wide, p0.High, p0.Dots))) fun v10 =>
 bnd (Xn8 p1.Wide p1.High) fun q12 =>
 bnd (loop (Xb3 p1 p2 p4 v10) (0, q12.Wide, q12.High, q12.Dots)) fun o23 => match o23 with
| .out v20 => (
 some ((⟨v20.1, v20.2.1, v20.2.2⟩ : Pic), true))
| .ret r => some r))
def Xmf (p0 : Pic) (p1 : Pic) (p2 : Int) (p3 : Int) (v7 : (Int × (List Int))) : Option (Lp (Int × (List Int)) (List Int)) :=
 sel (decide (v7.1 < p1.High)) (
 req (0 ≤ (Xaa .i64 ((Xaa .i64 ((Xaa .i64 (p3 + v7.1)) * p0.Wide)) + p2)) ∧ (Xaa .i64 ((Xaa .i64 ((Xaa .i64 (p3 + v7.1)) * p0.Wide)) + p2)) ≤ (v7.2.length : Int) ∧ (v7.2.length : Int) ≤ (v7.2.length : Int)) <|
 req (0 ≤ (Xaa .i64 (v7.1 * p1.Wide)) ∧ (Xaa .i64 (v7.1 * p1.Wide)) ≤ (Xaa .i64 ((Xaa .i64 (v7.1 + 1)) * p1.Wide)) ∧ (Xaa .i64 ((Xaa .i64 (v7.1 + 1)) * p1.Wide)) ≤ (p1.Dots.size : Int)) <|
 req (((Xaa .i64 ((Xaa .i64 ((Xaa .i64 (p3 + v7.1)) * p0.Wide)) + p2)).toNat + ((v7.2.length : Int).toNat - (Xaa .i64 ((Xaa .i64 ((Xaa .i64 (p3 + v7.1)) * p0.Wide)) + p2)).toNat) ≤ v7.2.length ∧ (Xal (p1.Dots.extract (Xaa .i64 (v7.1 * p1.Wide)).toNat (Xaa .i64 ((Xaa .i64 (v7.1 + 1)) * p1.Wide)).toNat)).length ≤ ((v7.2.length : Int).toNat - (Xaa .i64 ((Xaa .i64 ((Xaa .i64 (p3 + v7.1)) * p0.Wide)) + p2)).toNat))) <|
 some (.go (Xaa .i64 (v7.1 + 1), (over v7.2 ((Xaa .i64 ((Xaa .i64 ((Xaa .i64 (p3 + v7.1)) * p0.Wide)) + p2)).toNat) (Xal (p1.Dots.extract (Xaa .i64 (v7.1 * p1.Wide)).toNat (Xaa .i64 ((Xaa .i64 (v7.1 + 1)) * p1.Wide)).toNat)))))) (
 some (.done v7.2))
def Xoa (p0 : Pic) (p1 : Pic) (p2 : Int) (p3 : Int) : Option (Pic × Bool) :=
 bnd (
 bnd (Xdo p0) fun q2 =>
 sel q2 (
 bnd (Xdo p1) fun q3 =>
 sel q3 (
 bnd (Xd5 p0 (⟨p2, p3, p1.Wide, p1.High⟩ : Xph)) fun q4 =>
 some (!q4)) (
 some true)) (
 some true)) fun v1 =>
 sel v1 (
 some (p0, false)) (
 bnd (Xqb p0) fun q5 =>
 bnd (loop (Xmf p0 p1 p2 p3) (0, q5)) fun v9 =>
 some ((⟨p0.Wide, p0.High, (strOfNums v9)⟩ : Pic), true))
def Xtd (p0 : Int) (p1 : Int) : Option Int :=
 req (0 ≤ p1) <|
 req ((Xaa .i64 (1 * 2 ^ min p1.toNat (IntKind.bits .i64))) ≠ 0) <|
 some ((Xaa .i64 (p0 + 1)).tmod (Xaa .i64 (1 * 2 ^ min p1.toNat (IntKind.bits .i64))))
def Xdj (p0 : Xar) (p1 : Bool) (p2 : ByteArray) : Option (Xar × Int × Pic × Xar) :=
 bnd (
 sel p0.HasSeq (
 some (!p0.HasPar)) (
 some true)) fun v1 =>
 sel v1 (
 some (p0, 4, (⟨0, 0, ⟨#[]⟩⟩ : Pic), p0)) (
 bnd (Xd0 p0.Seq p0.Par p2) fun q2 =>
 sel (!q2.2.2) (
 some (p0, 5, (⟨0, 0, ⟨#[]⟩⟩ : Pic), p0)) (
 sel (q2.1.Tile != p0.Got) (
 some (p0, 6, (⟨0, 0, ⟨#[]⟩⟩ : Pic), p0)) (
 bnd (
 sel (p0.Frame != (-1)) (
 some (p0.Frame != q2.1.Frame)) (
 some false)) fun v3 =>
 sel v3 (
 some (p0, 7, (⟨0, 0, ⟨#[]⟩⟩ : Pic), p0)) (
 bnd (
 sel p1 (
 some false) (
 some (!p0.HasRef))) fun v4 =>
 sel v4 (
 some (p0, 8, (⟨0, 0, ⟨#[]⟩⟩ : Pic), p0)) (
 bnd (Xgg p0.Seq q2.1.Tile) fun q5 =>
 bnd (Xev p2 q2.2.1 q5 (⟨p1, q2.1.Qp, p0.Par.Large, p0.Par.Exact⟩ : Xfg)) fun q6 =>
 sel (!q6.2) (
 some (p0, 9, (⟨0, 0, ⟨#[]⟩⟩ : Pic), p0)) (
 bnd (Xex p0.Seq q2.1.Tile) fun q7 =>
 bnd (Xko p0.Ref q7.1 (⟨p1, q2.1.Qp, p0.Par.Large, p0.Par.Exact⟩ : Xfg) p0.Par.Confined q6.1) fun q8 =>
 bnd (
 sel (p0.Got == 0) (
 bnd (Xjo p0.Seq) fun q10 =>
 bnd (Xn8 q10.1 q10.2) fun q11 =>
 some (q11.Wide, q11.High, q11.Dots)) (
 some (p0.Now.Wide, p0.Now.High, p0.Now.Dots))) fun v9 =>
 bnd (Xoa (⟨v9.1, v9.2.1, v9.2.2⟩ : Pic) q8.1 q7.1.Left q7.1.Top) fun q12 =>
 bnd (Xf3 p0.Seq) fun q13 =>
 sel (decide ((Xaa .i64 (p0.Got + 1)) < q13)) (
 some ((⟨p0.HasSeq, p0.HasPar, p0.HasRef, p0.Seq, p0.Par, q2.1.Frame, Xaa .i64 (p0.Got + 1), q12.1, p0.Ref⟩ : Xar), 0, (⟨0, 0, ⟨#[]⟩⟩ : Pic), p0)) (
 bnd (Xtd q2.1.Frame p0.Seq.Bits) fun q14 =>
 some ((⟨p0.HasSeq, p0.HasPar, true, p0.Seq, p0.Par, q14, 0, (⟨0, 0, ⟨#[]⟩⟩ : Pic), q12.1⟩ : Xar), 0, q12.1, p0))))))))
def Xjr (p0 : Xar) (p1 : ByteArray) : Option (Xar × Int × Pic) :=
 bnd (Xcz p0) fun q1 =>
 bnd (Xp3 q1) fun q2 =>
 sel (!q2) (
 some (q1, 1, (⟨0, 0, ⟨#[]⟩⟩ : Pic))) (
 bnd (Xga p1) fun q3 =>
 sel (!q3.2.2) (
 some (q1, 2, (⟨0, 0, ⟨#[]⟩⟩ : Pic))) (
 sel (q3.1 == 7) (
 bnd (Xdl q3.2.1 0) fun q4 =>
 bnd (
 sel q4.2.2 (
 some (q4.2.1 != (q3.2.1.size : Int))) (
 some true)) fun v5 =>
 sel v5 (
 some (q1, 3, (⟨0, 0, ⟨#[]⟩⟩ : Pic))) (
 bnd (Xlj) fun q6 =>
 some ((⟨true, q6.HasPar, q6.HasRef, q4.1, q6.Par, q6.Frame, q6.Got, q6.Now, q6.Ref⟩ : Xar), 0, (⟨0, 0, ⟨#[]⟩⟩ : Pic)))) (
 sel (q3.1 == 8) (
 bnd (Xdk q3.2.1 0) fun q7 =>
 bnd (
 sel q7.2.2 (
 some (q7.2.1 != (q3.2.1.size : Int))) (
 some true)) fun v8 =>
 sel v8 (
 some (q1, 3, (⟨0, 0, ⟨#[]⟩⟩ : Pic))) (
 bnd (
 sel q1.HasSeq (
 some (decide (q1.Got > 0))) (
 some true)) fun v9 =>
 sel v9 (
 some (q1, 4, (⟨0, 0, ⟨#[]⟩⟩ : Pic))) (
 some ((⟨q1.HasSeq, true, q1.HasRef, q1.Seq, q7.1, q1.Frame, q1.Got, q1.Now, q1.Ref⟩ : Xar), 0, (⟨0, 0, ⟨#[]⟩⟩ : Pic))))) (
 bnd (Xdj q1 (q3.1 == 5) q3.2.1) fun q11 =>
 some ((⟨q11.1.HasSeq, q11.1.HasPar, q11.1.HasRef, (⟨q11.1.Seq.Level, q11.1.Seq.Bits, q11.2.2.2.Seq.Cols, q11.2.2.2.Seq.Rows⟩ : Seq), q11.1.Par, q11.1.Frame, q11.1.Got, q11.1.Now, q11.1.Ref⟩ : Xar), q11.2.1, q11.2.2.1)))))
def Xgs (p1 : (List ByteArray)) (v6 : (Int × Bool × Bool × Bool × Int × Int × Int × Bool × Bool × Bool × Int × Int × Int × Int × ByteArray × Int × Int × ByteArray × (List Pic) × (List Int) × (List Int) × (List Int))) : Option (Lp (Int × Bool × Bool × Bool × Int × Int × Int × Bool × Bool × Bool × Int × Int × Int × Int × ByteArray × Int × Int × ByteArray × (List Pic) × (List Int) × (List Int) × (List Int)) (Bool × Bool × Bool × Int × Int × Int × Bool × Bool × Bool × Int × Int × Int × Int × ByteArray × Int × Int × ByteArray × (List Pic) × (List Int) × (List Int) × (List Int))) :=
 sel (decide (v6.1 < (p1.length : Int))) (
 bnd (
 req (0 ≤ v6.1 ∧ v6.1 < p1.length) <|
 bnd (Xjr (⟨v6.2.1, v6.2.2.1, v6.2.2.2.1, (⟨v6.2.2.2.2.1, v6.2.2.2.2.2.1, v6.2.2.2.2.2.2.2.2.2.2.2.2.2.2.2.2.2.2.2.2.1, v6.2.2.2.2.2.2.2.2.2.2.2.2.2.2.2.2.2.2.2.2.2⟩ : Seq), (⟨v6.2.2.2.2.2.2.1, v6.2.2.2.2.2.2.2.1, v6.2.2.2.2.2.2.2.2.1, v6.2.2.2.2.2.2.2.2.2.1⟩ : Par), v6.2.2.2.2.2.2.2.2.2.2.1, v6.2.2.2.2.2.2.2.2.2.2.2.1, (⟨v6.2.2.2.2.2.2.2.2.2.2.2.2.1, v6.2.2.2.2.2.2.2.2.2.2.2.2.2.1, v6.2.2.2.2.2.2.2.2.2.2.2.2.2.2.1⟩ : Pic), (⟨v6.2.2.2.2.2.2.2.2.2.2.2.2.2.2.2.1, v6.2.2.2.2.2.2.2.2.2.2.2.2.2.2.2.2.1, v6.2.2.2.2.2.2.2.2.2.2.2.2.2.2.2.2.2.1⟩ : Pic)⟩ : Xar) (p1.getD v6.1.toNat Xgr)) fun q13 =>
 req ((v6.2.2.2.2.2.2.2.2.2.2.2.2.2.2.2.2.2.2.2.1.length + ([q13.2.1]).length) * 8 ≤ 140737488355328 ∧ v6.2.2.2.2.2.2.2.2.2.2.2.2.2.2.2.2.2.2.2.1.length + ([q13.2.1]).length ≤ maxLen) <|
 bnd (Xdo q13.2.2) fun q14 =>
 sel q14 (
 req ((v6.2.2.2.2.2.2.2.2.2.2.2.2.2.2.2.2.2.2.1.length + ([q13.2.2]).length) * 32 ≤ 140737488355328 ∧ v6.2.2.2.2.2.2.2.2.2.2.2.2.2.2.2.2.2.2.1.length + ([q13.2.2]).length ≤ maxLen) <|
 some (q13.1.HasSeq, q13.1.HasPar, q13.1.HasRef, q13.1.Seq.Level, q13.1.Seq.Bits, q13.1.Par.Qp, q13.1.Par.Large, q13.1.Par.Exact, q13.1.Par.Confined, q13.1.Frame, q13.1.Got, q13.1.Now.Wide, q13.1.Now.High, q13.1.Now.Dots, q13.1.Ref.Wide, q13.1.Ref.High, q13.1.Ref.Dots, (v6.2.2.2.2.2.2.2.2.2.2.2.2.2.2.2.2.2.2.1 ++ ([q13.2.2])), (v6.2.2.2.2.2.2.2.2.2.2.2.2.2.2.2.2.2.2.2.1 ++ ([q13.2.1])), q13.1.Seq.Cols, q13.1.Seq.Rows)) (
 some (q13.1.HasSeq, q13.1.HasPar, q13.1.HasRef, q13.1.Seq.Level, q13.1.Seq.Bits, q13.1.Par.Qp, q13.1.Par.Large, q13.1.Par.Exact, q13.1.Par.Confined, q13.1.Frame, q13.1.Got, q13.1.Now.Wide, q13.1.Now.High, q13.1.Now.Dots, q13.1.Ref.Wide, q13.1.Ref.High, q13.1.Ref.Dots, v6.2.2.2.2.2.2.2.2.2.2.2.2.2.2.2.2.2.2.1, (v6.2.2.2.2.2.2.2.2.2.2.2.2.2.2.2.2.2.2.2.1 ++ ([q13.2.1])), q13.1.Seq.Cols, q13.1.Seq.Rows))) fun v12 =>
 some (.go (Xaa .i64 (v6.1 + 1), v12.1, v12.2.1, v12.2.2.1, v12.2.2.2.1, v12.2.2.2.2.1, v12.2.2.2.2.2.1, v12.2.2.2.2.2.2.1, v12.2.2.2.2.2.2.2.1, v12.2.2.2.2.2.2.2.2.1, v12.2.2.2.2.2.2.2.2.2.1, v12.2.2.2.2.2.2.2.2.2.2.1, v12.2.2.2.2.2.2.2.2.2.2.2.1, v12.2.2.2.2.2.2.2.2.2.2.2.2.1, v12.2.2.2.2.2.2.2.2.2.2.2.2.2.1, v12.2.2.2.2.2.2.2.2.2.2.2.2.2.2.1, v12.2.2.2.2.2.2.2.2.2.2.2.2.2.2.2.1, v12.2.2.2.2.2.2.2.2.2.2.2.2.2.2.2.2.1, v12.2.2.2.2.2.2.2.2.2.2.2.2.2.2.2.2.2.1, v12.2.2.2.2.2.2.2.2.2.2.2.2.2.2.2.2.2.2.1, v12.2.2.2.2.2.2.2.2.2.2.2.2.2.2.2.2.2.2.2.1, v12.2.2.2.2.2.2.2.2.2.2.2.2.2.2.2.2.2.2.2.2))) (
 some (.done (v6.2.1, v6.2.2.1, v6.2.2.2.1, v6.2.2.2.2.1, v6.2.2.2.2.2.1, v6.2.2.2.2.2.2.1, v6.2.2.2.2.2.2.2.1, v6.2.2.2.2.2.2.2.2.1, v6.2.2.2.2.2.2.2.2.2.1, v6.2.2.2.2.2.2.2.2.2.2.1, v6.2.2.2.2.2.2.2.2.2.2.2.1, v6.2.2.2.2.2.2.2.2.2.2.2.2.1, v6.2.2.2.2.2.2.2.2.2.2.2.2.2.1, v6.2.2.2.2.2.2.2.2.2.2.2.2.2.2.1, v6.2.2.2.2.2.2.2.2.2.2.2.2.2.2.2.1, v6.2.2.2.2.2.2.2.2.2.2.2.2.2.2.2.2.1, v6.2.2.2.2.2.2.2.2.2.2.2.2.2.2.2.2.2.1, v6.2.2.2.2.2.2.2.2.2.2.2.2.2.2.2.2.2.2.1, v6.2.2.2.2.2.2.2.2.2.2.2.2.2.2.2.2.2.2.2.1, v6.2.2.2.2.2.2.2.2.2.2.2.2.2.2.2.2.2.2.2.2.1, v6.2.2.2.2.2.2.2.2.2.2.2.2.2.2.2.2.2.2.2.2.2)))
def Xjl (p0 : Xar) (p1 : (List ByteArray)) : Option (Xar × (List Pic) × (List Int)) :=
 bnd (Xcz p0) fun q1 =>
 sel (decide ((p1.length : Int) > 400)) (
 some (q1, ([] : List Pic), ([] : List Int))) (
 bnd (loop (Xgs p1) (0, q1.HasSeq, q1.HasPar, q1.HasRef, q1.Seq.Level, q1.Seq.Bits, q1.Par.Qp, q1.Par.Large, q1.Par.Exact, q1.Par.Confined, q1.Frame, q1.Got, q1.Now.Wide, q1.Now.High, q1.Now.Dots, q1.Ref.Wide, q1.Ref.High, q1.Ref.Dots, ([] : List Pic), ([] : List Int), q1.Seq.Cols, q1.Seq.Rows)) fun v11 =>
 some ((⟨v11.1, v11.2.1, v11.2.2.1, (⟨v11.2.2.2.1, v11.2.2.2.2.1, v11.2.2.2.2.2.2.2.2.2.2.2.2.2.2.2.2.2.2.2.1, v11.2.2.2.2.2.2.2.2.2.2.2.2.2.2.2.2.2.2.2.2⟩ : Seq), (⟨v11.2.2.2.2.2.1, v11.2.2.2.2.2.2.1, v11.2.2.2.2.2.2.2.1, v11.2.2.2.2.2.2.2.2.1⟩ : Par), v11.2.2.2.2.2.2.2.2.2.1, v11.2.2.2.2.2.2.2.2.2.2.1, (⟨v11.2.2.2.2.2.2.2.2.2.2.2.1, v11.2.2.2.2.2.2.2.2.2.2.2.2.1, v11.2.2.2.2.2.2.2.2.2.2.2.2.2.1⟩ : Pic), (⟨v11.2.2.2.2.2.2.2.2.2.2.2.2.2.2.1, v11.2.2.2.2.2.2.2.2.2.2.2.2.2.2.2.1, v11.2.2.2.2.2.2.2.2.2.2.2.2.2.2.2.2.1⟩ : Pic)⟩ : Xar), v11.2.2.2.2.2.2.2.2.2.2.2.2.2.2.2.2.2.1, v11.2.2.2.2.2.2.2.2.2.2.2.2.2.2.2.2.2.2.1))
def Xin (p0 : ByteArray) : Option ((List Pic) × (List Int)) :=
 bnd (Xlj) fun q1 =>
 bnd (Xjw p0) fun q2 =>
 bnd (Xjl q1 q2) fun q3 =>
 some (q3.2.1, q3.2.2)
def Xgj (p0 : (List Pic)) (p1 : (List Pic)) (v2 : Int) : Option (Lp Int (Ou Unit Bool)) :=
 sel (decide (v2 < (p0.length : Int))) (
 req (0 ≤ v2 ∧ v2 < p0.length) <|
 req (0 ≤ v2 ∧ v2 < p1.length) <|
 sel (((((p0.getD v2.toNat Yzb).Wide) == ((p1.getD v2.toNat Yzb).Wide)) && ((((p0.getD v2.toNat Yzb).High) == ((p1.getD v2.toNat Yzb).High)) && (((p0.getD v2.toNat Yzb).Dots).toList == ((p1.getD v2.toNat Yzb).Dots).toList))) == false) (
 some (.done (.ret false))) (
 some (.go (Xaa .i64 (v2 + 1))))) (
 some (.done (.out ())))
def Xkw (p0 : (List Pic)) (p1 : (List Pic)) : Option Bool :=
 sel ((p0.length : Int) != (p1.length : Int)) (
 some false) (
 bnd (loop (Xgj p0 p1) 0) fun o5 => match o5 with
| .out v4 => (
 some true)
| .ret r => some r)
def Xgi (p0 : (List Int)) (p1 : (List Int)) (v2 : Int) : Option (Lp Int (Ou Unit Bool)) :=
 sel (decide (v2 < (p0.length : Int))) (
 req (0 ≤ v2 ∧ v2 < p0.length) <|
 req (0 ≤ v2 ∧ v2 < p1.length) <|
 sel ((p0.getD v2.toNat 0) != (p1.getD v2.toNat 0)) (
 some (.done (.ret false))) (
 some (.go (Xaa .i64 (v2 + 1))))) (
 some (.done (.out ())))
def Xkv (p0 : (List Int)) (p1 : (List Int)) : Option Bool :=
 sel ((p0.length : Int) != (p1.length : Int)) (
 some false) (
 bnd (loop (Xgi p0 p1) 0) fun o5 => match o5 with
| .out v4 => (
 some true)
| .ret r => some r)
def Xea (q4 : ((List Pic) × (List Int))) (v11 : Int) : Option (Lp Int (Ou Unit Bool)) :=
 sel (decide (v11 < (q4.2.length : Int))) (
 req (0 ≤ v11 ∧ v11 < q4.2.length) <|
 req (v11.toNat < q4.2.length) <|
 sel ((q4.2.getD v11.toNat 0) != 0) (
 some (.done (.ret false))) (
 some (.go (Xaa .i64 (v11 + 1))))) (
 some (.done (.out ())))
def Xmh (p0 : (List Int)) : Option Bool :=
 bnd (Yda p0) fun q1 =>
 sel q1 (
 some true) (
 bnd (Xhk p0) fun q2 =>
 req ((([] : List ByteArray).length + q2.length) * 16 ≤ 140737488355328 ∧ ([] : List ByteArray).length + q2.length ≤ maxLen) <|
 bnd (Xlk (([] : List ByteArray) ++ q2)) fun q3 =>
 bnd (Xin q3.1) fun q4 =>
 bnd (Xlj) fun q5 =>
 req ((([] : List ByteArray).length + q2.length) * 16 ≤ 140737488355328 ∧ ([] : List ByteArray).length + q2.length ≤ maxLen) <|
 bnd (Xjl q5 (([] : List ByteArray) ++ q2)) fun q6 =>
 bnd (
 sel q3.2 (
 bnd (Xkw q4.1 q6.2.1) fun q8 =>
 sel q8 (
 bnd (Xkv q4.2 q6.2.2) fun q9 =>
 sel q9 (
 some ((q4.2.length : Int) != (q2.length : Int))) (
 some true)) (
 some true)) (
 some true)) fun v7 =>
 sel v7 (
 some false) (
 bnd (loop (Xea q4) 0) fun o14 => match o14 with
| .out v13 => (
 some (decide ((q4.1.length : Int) > 0)))
| .ret r => some r))
end
end Go.Proofs.YtnhflbeahbcklabGreat.A
