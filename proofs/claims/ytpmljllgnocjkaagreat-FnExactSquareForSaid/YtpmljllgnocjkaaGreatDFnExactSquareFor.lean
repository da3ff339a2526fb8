/- What the functions that the law FnExactSquareFor reaches compute, over numbers, texts and lists. Written by a program of this session. Conditions: none. -/
import Derived.Test.YtpmljllgnocjkaaGreatAL1
namespace Go.Proofs.YtpmljllgnocjkaaGreat.A
open Go Go.Proofs Go.Proofs.YtpmljllgnocjkaaGreatAL Go.RowKit
set_option linter.unusedVariables false
set_option linter.unusedSimpArgs false
structure Pic where
 Wide : Int
 High : Int
 Dots : ByteArray
structure Cond where
 Key : Bool
 Qp : Int
 Large : Bool
 Exact : Bool
structure Square where
 Kind : Int
 Mode : Int
 Dx : Int
 Dy : Int
 Levels : (List Int)
structure Rect where
 Left : Int
 Top : Int
 Wide : Int
 High : Int
structure Edges where
 Above : (List Int)
 Left : (List Int)
 Corner : Int
def dLInti64 : (List Int) := []
def okPic (x : Pic) : Prop := (Lit.int .i64 x.Wide).wf = true ∧ (Lit.int .i64 x.High).wf = true ∧ x.Dots.size ≤ maxLen
def okCond (x : Cond) : Prop := True ∧ (Lit.int .i64 x.Qp).wf = true ∧ True ∧ True
noncomputable section
def laws_szPic (p0 : Pic) (p1 : Int) : Option Int :=
sel (decide ((wrapK .i64 (p1 - (p0.Dots.size : Int))) < 0)) (
some (-1)) (
some (wrapK .i64 (p1 - (p0.Dots.size : Int))))
def laws_toPic (p0 : Pic) : Option Pic :=
some p0
def laws_toIntS_l2 (p0 : (List Int)) (v2 : (Int × (List Int))) : Option (Lp (Int × (List Int)) (List Int)) :=
sel (decide (v2.1 < (p0.length : Int))) (
req (0 ≤ v2.1 ∧ v2.1 < p0.length) <|
req (0 ≤ v2.1 ∧ v2.1 < v2.2.length) <|
req (v2.1.toNat < v2.2.length) <|
some (.go (wrapK .i64 (v2.1 + 1), (v2.2.set v2.1.toNat (p0.getD v2.1.toNat 0))))) (
some (.done v2.2))
def laws_toIntS (p0 : (List Int)) : Option (List Int) :=
req (0 ≤ (p0.length : Int) ∧ (p0.length : Int) ≤ (p0.length : Int) ∧ (p0.length : Int) * 8 ≤ 281474976710656) <|
bnd (loop (laws_toIntS_l2 p0) (0, (List.replicate (p0.length : Int).toNat (0 : Int)))) fun v4 =>
some v4
def laws_toCond (p0 : Cond) : Option Cond :=
some p0
def spec_l01In (p0 : Int) (p1 : Int) (p2 : Int) : Option Bool :=
bnd (
sel (decide (p0 ≥ p1)) (
some (decide (p0 ≤ p2))) (
some false)) fun v1 =>
some v1
def spec_PicOk (p0 : Pic) : Option Bool :=
bnd (
bnd (spec_l01In p0.Wide 1 256) fun q2 =>
sel q2 (
bnd (spec_l01In p0.High 1 256) fun q3 =>
sel q3 (
some ((p0.Dots.size : Int) == (wrapK .i64 (p0.Wide * p0.High)))) (
some false)) (
some false)) fun v1 =>
some v1
def spec_l12Within (p0 : Pic) (p1 : Int) (p2 : Int) (p3 : Int) (p4 : Int) : Option Bool :=
bnd (
bnd (spec_PicOk p0) fun q2 =>
sel q2 (
bnd (spec_l01In p3 1 p0.Wide) fun q3 =>
sel q3 (
bnd (spec_l01In p4 1 p0.High) fun q4 =>
sel q4 (
bnd (spec_l01In p1 0 (wrapK .i64 (p0.Wide - p3))) fun q5 =>
sel q5 (
bnd (spec_l01In p2 0 (wrapK .i64 (p0.High - p4))) fun q6 =>
some q6) (
some false)) (
some false)) (
some false)) (
some false)) fun v1 =>
some v1
def spec_l13Fits (p0 : Pic) (p1 : Int) (p2 : Int) : Option Bool :=
bnd (
req ((8 : Int) ≠ 0) <|
sel ((p1.tmod 8) == 0) (
req ((8 : Int) ≠ 0) <|
sel ((p2.tmod 8) == 0) (
bnd (spec_l12Within p0 p1 p2 8 8) fun q2 =>
some q2) (
some false)) (
some false)) fun v1 =>
some v1
def spec_l13Dots_l2 (p0 : (List Int)) (v3 : Int) : Option (Lp Int (Ou Unit Bool)) :=
sel (decide (v3 < 64)) (
req (0 ≤ v3 ∧ v3 < p0.length) <|
bnd (spec_l01In (p0.getD v3.toNat 0) 0 255) fun q7 =>
sel (!q7) (
some (.done (.ret false))) (
some (.go (wrapK .i64 (v3 + 1))))) (
some (.done (.out ())))
def spec_l13Dots (p0 : (List Int)) : Option Bool :=
sel ((p0.length : Int) != 64) (
some false) (
bnd (loop (spec_l13Dots_l2 p0) 0) fun o8 => match o8 with
| .out v6 => (
some true)
| .ret r => some r)
def spec_CondOk (p0 : Cond) : Option Bool :=
bnd (
bnd (spec_l01In p0.Qp 0 40) fun q2 =>
sel q2 (
sel p0.Large (
some (!p0.Exact)) (
some true)) (
some false)) fun v1 =>
some v1
def spec_l17Like (p0 : Pic) (p1 : Pic) : Option Bool :=
bnd (
bnd (spec_PicOk p0) fun q2 =>
sel q2 (
bnd (spec_PicOk p1) fun q3 =>
sel q3 (
sel (p0.Wide == p1.Wide) (
some (p0.High == p1.High)) (
some false)) (
some false)) (
some false)) fun v1 =>
some v1
def spec_Brought (p0 : Int) (p1 : Int) (p2 : Int) : Option Int :=
bnd (
sel (decide (p2 < p1)) (
some true) (
some (decide (p0 < p1)))) fun v1 =>
sel v1 (
some p1) (
sel (decide (p0 > p2)) (
some p2) (
some p0))
def spec_DotAt (p0 : Pic) (p1 : Int) (p2 : Int) : Option Int :=
bnd (spec_PicOk p0) fun q1 =>
sel (!q1) (
some (-1)) (
bnd (spec_Brought p2 0 (wrapK .i64 (p0.High - 1))) fun q2 =>
bnd (spec_Brought p1 0 (wrapK .i64 (p0.Wide - 1))) fun q3 =>
req (0 ≤ (wrapK .i64 ((wrapK .i64 (q2 * p0.Wide)) + q3)) ∧ (wrapK .i64 ((wrapK .i64 (q2 * p0.Wide)) + q3)) < p0.Dots.size) <|
some (wrapK .i64 ((btOf p0.Dots (wrapK .i64 ((wrapK .i64 (q2 * p0.Wide)) + q3))))))
def spec_BlockOf_l2 (p0 : Pic) (p1 : Int) (p2 : Int) (v7 : (Int × (List Int))) : Option (Lp (Int × (List Int)) (List Int)) :=
sel (decide (v7.1 < 64)) (
req ((8 : Int) ≠ 0) <|
req ((8 : Int) ≠ 0) <|
bnd (spec_DotAt p0 (wrapK .i64 (p1 + (v7.1.tmod 8))) (wrapK .i64 (p2 + (wrapK .i64 (v7.1.tdiv 8))))) fun q11 =>
req ((v7.2.length + ([q11]).length) * 8 ≤ 140737488355328 ∧ v7.2.length + ([q11]).length ≤ maxLen) <|
some (.go (wrapK .i64 (v7.1 + 1), (v7.2 ++ ([q11]))))) (
some (.done v7.2))
def spec_BlockOf (p0 : Pic) (p1 : Int) (p2 : Int) : Option (List Int) :=
bnd (
bnd (spec_PicOk p0) fun q2 =>
sel q2 (
bnd (spec_l01In p1 (-1000) 1000) fun q3 =>
sel q3 (
bnd (spec_l01In p2 (-1000) 1000) fun q4 =>
some (!q4)) (
some true)) (
some true)) fun v1 =>
sel v1 (
some ([] : List Int)) (
bnd (loop (spec_BlockOf_l2 p0 p1 p2) (0, ([] : List Int))) fun v10 =>
some v10)
def spec_l17Less_l2 (p0 : (List Int)) (p1 : (List Int)) (v2 : (Int × (List Int))) : Option (Lp (Int × (List Int)) (List Int)) :=
sel (decide (v2.1 < 64)) (
req (0 ≤ v2.1 ∧ v2.1 < p0.length) <|
req (0 ≤ v2.1 ∧ v2.1 < p1.length) <|
req ((v2.2.length + ([wrapK .i64 ((p0.getD v2.1.toNat 0) - (p1.getD v2.1.toNat 0))]).length) * 8 ≤ 140737488355328 ∧ v2.2.length + ([wrapK .i64 ((p0.getD v2.1.toNat 0) - (p1.getD v2.1.toNat 0))]).length ≤ maxLen) <|
some (.go (wrapK .i64 (v2.1 + 1), (v2.2 ++ ([wrapK .i64 ((p0.getD v2.1.toNat 0) - (p1.getD v2.1.toNat 0))]))))) (
some (.done v2.2))
def spec_l17Less (p0 : (List Int)) (p1 : (List Int)) : Option (List Int) :=
bnd (loop (spec_l17Less_l2 p0 p1) (0, ([] : List Int))) fun v4 =>
some v4
def spec_l17Zero_l2 (p0 : (List Int)) (v2 : Int) : Option (Lp Int (Ou Unit Bool)) :=
sel (decide (v2 < (p0.length : Int))) (
req (0 ≤ v2 ∧ v2 < p0.length) <|
sel ((p0.getD v2.toNat 0) != 0) (
some (.done (.ret false))) (
some (.go (wrapK .i64 (v2 + 1))))) (
some (.done (.out ())))
def spec_l17Zero (p0 : (List Int)) : Option Bool :=
bnd (loop (spec_l17Zero_l2 p0) 0) fun o5 => match o5 with
| .out v4 => (
some true)
| .ret r => some r
def spec_EdgesOf_l2 (p0 : Pic) (p1 : Int) (p2 : Int) (v7 : (Int × (List Int) × (List Int))) : Option (Lp (Int × (List Int) × (List Int)) ((List Int) × (List Int))) :=
sel (decide (v7.1 < 8)) (
bnd (
bnd (
sel (decide (p2 > 0)) (
bnd (spec_DotAt p0 (wrapK .i64 (p1 + v7.1)) (wrapK .i64 (p2 - 1))) fun q16 =>
req ((v7.2.1.length + ([q16]).length) * 8 ≤ 140737488355328 ∧ v7.2.1.length + ([q16]).length ≤ maxLen) <|
some (v7.2.1 ++ ([q16]))) (
some v7.2.1)) fun v15 =>
sel (decide (p1 > 0)) (
bnd (spec_DotAt p0 (wrapK .i64 (p1 - 1)) (wrapK .i64 (p2 + v7.1))) fun q17 =>
req ((v7.2.2.length + ([q17]).length) * 8 ≤ 140737488355328 ∧ v7.2.2.length + ([q17]).length ≤ maxLen) <|
some (v15, (v7.2.2 ++ ([q17])))) (
some (v15, v7.2.2))) fun v14 =>
some (.go (wrapK .i64 (v7.1 + 1), v14.1, v14.2))) (
some (.done (v7.2.1, v7.2.2)))
def spec_EdgesOf (p0 : Pic) (p1 : Int) (p2 : Int) : Option (Edges × Bool) :=
bnd (spec_l13Fits p0 p1 p2) fun q1 =>
sel (!q1) (
some ((⟨[], [], 0⟩ : Edges), false)) (
bnd (loop (spec_EdgesOf_l2 p0 p1 p2) (0, [], [])) fun v13 =>
bnd (
bnd (
sel (decide (p1 > 0)) (
some (decide (p2 > 0))) (
some false)) fun v20 =>
sel v20 (
bnd (spec_DotAt p0 (wrapK .i64 (p1 - 1)) (wrapK .i64 (p2 - 1))) fun q21 =>
some q21) (
some (-1))) fun v19 =>
some ((⟨v13.1, v13.2, v19⟩ : Edges), true))
def spec_l13Side_l2 (p0 : (List Int)) (v4 : Int) : Option (Lp Int (Ou Unit Bool)) :=
sel (decide (v4 < (p0.length : Int))) (
req (0 ≤ v4 ∧ v4 < p0.length) <|
bnd (spec_l01In (p0.getD v4.toNat 0) 0 255) fun q8 =>
sel (!q8) (
some (.done (.ret false))) (
some (.go (wrapK .i64 (v4 + 1))))) (
some (.done (.out ())))
def spec_l13Side (p0 : (List Int)) : Option Bool :=
bnd (
sel ((p0.length : Int) != 0) (
some ((p0.length : Int) != 8)) (
some false)) fun v1 =>
sel v1 (
some false) (
bnd (loop (spec_l13Side_l2 p0) 0) fun o9 => match o9 with
| .out v7 => (
some true)
| .ret r => some r)
def spec_EdgesOk (p0 : Edges) : Option Bool :=
bnd (
bnd (spec_l13Side p0.Above) fun q2 =>
sel q2 (
bnd (spec_l13Side p0.Left) fun q3 =>
sel q3 (
bnd (spec_l01In p0.Corner (-1) 255) fun q4 =>
some q4) (
some false)) (
some false)) fun v1 =>
some v1
def spec_l13Filled (p0 : (List Int)) (p1 : Int) : Option Int :=
sel ((p0.length : Int) == 0) (
some 128) (
req (0 ≤ p1 ∧ p1 < p0.length) <|
some (p0.getD p1.toNat 0))
def spec_l13Mid_l2 (p0 : Edges) (v2 : (Int × Int)) : Option (Lp (Int × Int) Int) :=
sel (decide (v2.2 < (p0.Above.length : Int))) (
req (0 ≤ v2.2 ∧ v2.2 < p0.Above.length) <|
some (.go (wrapK .i64 (v2.1 + (p0.Above.getD v2.2.toNat 0)), wrapK .i64 (v2.2 + 1)))) (
some (.done v2.1))
def spec_l13Mid_l4 (p0 : Edges) (v7 : (Int × Int)) : Option (Lp (Int × Int) Int) :=
sel (decide (v7.2 < (p0.Left.length : Int))) (
req (0 ≤ v7.2 ∧ v7.2 < p0.Left.length) <|
some (.go (wrapK .i64 (v7.1 + (p0.Left.getD v7.2.toNat 0)), wrapK .i64 (v7.2 + 1)))) (
some (.done v7.1))
def spec_l13Mid (p0 : Edges) : Option Int :=
sel ((wrapK .i64 ((p0.Above.length : Int) + (p0.Left.length : Int))) == 0) (
some 128) (
req ((2 : Int) ≠ 0) <|
bnd (loop (spec_l13Mid_l2 p0) (wrapK .i64 ((wrapK .i64 ((p0.Above.length : Int) + (p0.Left.length : Int))).tdiv 2), 0)) fun v4 =>
bnd (loop (spec_l13Mid_l4 p0) (v4, 0)) fun v9 =>
req ((wrapK .i64 ((p0.Above.length : Int) + (p0.Left.length : Int))) ≠ 0) <|
some (wrapK .i64 (v9.tdiv (wrapK .i64 ((p0.Above.length : Int) + (p0.Left.length : Int))))))
def spec_GuessOf_l2 (p0 : Int) (p1 : Edges) (v4 : Int) (v11 : (Int × (List Int))) : Option (Lp (Int × (List Int)) (List Int)) :=
sel (decide (v11.1 < 64)) (
bnd (
req ((8 : Int) ≠ 0) <|
bnd (spec_l13Filled p1.Above (v11.1.tmod 8)) fun q20 =>
req ((8 : Int) ≠ 0) <|
bnd (spec_l13Filled p1.Left (wrapK .i64 (v11.1.tdiv 8))) fun q21 =>
sel (p0 == 0) (
bnd (spec_l13Mid p1) fun q22 =>
req ((v11.2.length + ([q22]).length) * 8 ≤ 140737488355328 ∧ v11.2.length + ([q22]).length ≤ maxLen) <|
some (v11.2 ++ ([q22]))) (
sel (p0 == 1) (
req ((v11.2.length + ([q20]).length) * 8 ≤ 140737488355328 ∧ v11.2.length + ([q20]).length ≤ maxLen) <|
some (v11.2 ++ ([q20]))) (
sel (p0 == 2) (
req ((v11.2.length + ([q21]).length) * 8 ≤ 140737488355328 ∧ v11.2.length + ([q21]).length ≤ maxLen) <|
some (v11.2 ++ ([q21]))) (
bnd (spec_Brought (wrapK .i64 ((wrapK .i64 (q21 + q20)) - v4)) 0 255) fun q23 =>
req ((v11.2.length + ([q23]).length) * 8 ≤ 140737488355328 ∧ v11.2.length + ([q23]).length ≤ maxLen) <|
some (v11.2 ++ ([q23])))))) fun v19 =>
some (.go (wrapK .i64 (v11.1 + 1), v19))) (
some (.done v11.2))
def spec_GuessOf (p0 : Int) (p1 : Edges) : Option (List Int) :=
bnd (
bnd (spec_EdgesOk p1) fun q2 =>
sel q2 (
bnd (spec_l01In p0 0 3) fun q3 =>
some (!q3)) (
some true)) fun v1 =>
sel v1 (
some ([] : List Int)) (
bnd (
sel (decide (p1.Corner < 0)) (
some 128) (
some p1.Corner)) fun v4 =>
bnd (loop (spec_GuessOf_l2 p0 p1 v4) (0, ([] : List Int))) fun v18 =>
some v18)
def spec_l09All_l2 (p0 : (List Int)) (p1 : Int) (p2 : Int) (v3 : Int) : Option (Lp Int (Ou Unit Bool)) :=
sel (decide (v3 < p1)) (
req (0 ≤ v3 ∧ v3 < p0.length) <|
bnd (spec_l01In (p0.getD v3.toNat 0) (wrapK .i64 (0 - p2)) p2) fun q7 =>
sel (!q7) (
some (.done (.ret false))) (
some (.go (wrapK .i64 (v3 + 1))))) (
some (.done (.out ())))
def spec_l09All (p0 : (List Int)) (p1 : Int) (p2 : Int) : Option Bool :=
sel ((p0.length : Int) != p1) (
some false) (
bnd (loop (spec_l09All_l2 p0 p1 p2) 0) fun o8 => match o8 with
| .out v6 => (
some true)
| .ret r => some r)
def spec_l08Sized (p0 : Int) : Option Int :=
sel (decide (p0 < 0)) (
some (wrapK .i64 (0 - p0))) (
some p0)
def spec_GapOf_l2 (p0 : (List Int)) (p1 : (List Int)) (v6 : (Int × Int)) : Option (Lp (Int × Int) Int) :=
sel (decide (v6.2 < 64)) (
req (0 ≤ v6.2 ∧ v6.2 < p0.length) <|
req (0 ≤ v6.2 ∧ v6.2 < p1.length) <|
bnd (spec_l08Sized (wrapK .i64 ((p0.getD v6.2.toNat 0) - (p1.getD v6.2.toNat 0)))) fun q10 =>
some (.go (wrapK .i64 (v6.1 + q10), wrapK .i64 (v6.2 + 1)))) (
some (.done v6.1))
def spec_GapOf (p0 : (List Int)) (p1 : (List Int)) : Option Int :=
bnd (
bnd (spec_l09All p0 64 1000) fun q2 =>
sel q2 (
bnd (spec_l09All p1 64 1000) fun q3 =>
some (!q3)) (
some true)) fun v1 =>
sel v1 (
some (-1)) (
bnd (loop (spec_GapOf_l2 p0 p1) (0, 0)) fun v9 =>
some v9)
def spec_l01Long_l2 (p0 : Int) (p1 : Int) (v2 : (Int × (List Int))) : Option (Lp (Int × (List Int)) (List Int)) :=
sel (decide (v2.1 < p0)) (
req (0 ≤ v2.1 ∧ v2.1 < v2.2.length) <|
req (v2.1.toNat < v2.2.length) <|
some (.go (wrapK .i64 (v2.1 + 1), (v2.2.set v2.1.toNat p1)))) (
some (.done v2.2))
def spec_l01Long (p0 : Int) (p1 : Int) : Option ByteArray :=
req (0 ≤ p0 ∧ p0 ≤ p0 ∧ p0 * 1 ≤ 281474976710656) <|
bnd (loop (spec_l01Long_l2 p0 p1) (0, (List.replicate p0.toNat (0 : Int)))) fun v4 =>
some (strOfNums v4)
def spec_l03Ue_l2 (v2 : (Int × ByteArray)) : Option (Lp (Int × ByteArray) ByteArray) :=
sel (decide (v2.1 > 0)) (
req ((2 : Int) ≠ 0) <|
req ((strOfNums ([wrapK .u8 (wrapK .i64 (48 + (v2.1.tmod 2)))])).size + v2.2.size ≤ 9223372036854775807) <|
req ((2 : Int) ≠ 0) <|
some (.go (wrapK .i64 (v2.1.tdiv 2), ((strOfNums ([wrapK .u8 (wrapK .i64 (48 + (v2.1.tmod 2)))])) ++ v2.2)))) (
some (.done v2.2))
def spec_l03Ue (p0 : Int) : Option ByteArray :=
bnd (loop (spec_l03Ue_l2) (wrapK .i64 (p0 + 1), ⟨#[]⟩)) fun v4 =>
bnd (spec_l01Long (wrapK .i64 ((v4.size : Int) - 1)) 48) fun q6 =>
req (q6.size + v4.size ≤ 9223372036854775807) <|
some (q6 ++ v4)
def spec_UeRow (p0 : Int) : Option (ByteArray × Bool) :=
bnd (spec_l01In p0 0 1000000) fun q1 =>
sel (!q1) (
some (⟨#[]⟩, false)) (
bnd (spec_l03Ue p0) fun q2 =>
some (q2, true))
def spec_UeSize (p0 : Int) : Option Int :=
bnd (spec_UeRow p0) fun q1 =>
some (q1.1.size : Int)
def spec_BestGuess_l2 (p0 : (List Int)) (p1 : Edges) (v16 : (Int × Int × Int)) : Option (Lp (Int × Int × Int) (Int × Int)) :=
sel (decide (v16.2.2 < 4)) (
bnd (
bnd (spec_GuessOf v16.2.2 p1) fun q25 =>
bnd (spec_GapOf p0 q25) fun q26 =>
bnd (spec_UeSize v16.2.2) fun q27 =>
bnd (
sel (decide (v16.2.1 < 0)) (
some true) (
some (decide ((wrapK .i64 (q26 + q27)) < v16.2.1)))) fun v28 =>
sel v28 (
some (v16.2.2, wrapK .i64 (q26 + q27))) (
some (v16.1, v16.2.1))) fun v24 =>
some (.go (v24.1, v24.2, wrapK .i64 (v16.2.2 + 1)))) (
some (.done (v16.1, v16.2.1)))
def spec_BestGuess (p0 : (List Int)) (p1 : Edges) : Option (Int × Int) :=
bnd (
bnd (spec_EdgesOk p1) fun q2 =>
sel q2 (
bnd (spec_l13Dots p0) fun q3 =>
some (!q3)) (
some true)) fun v1 =>
sel v1 (
some (0, (-1))) (
bnd (loop (spec_BestGuess_l2 p0 p1) (0, (-1), 0)) fun v23 =>
some (v23.1, v23.2))
def spec_FoldSe (p0 : Int) : Option (Int × Bool) :=
bnd (spec_l01In p0 (-500000) 500000) fun q1 =>
sel (!q1) (
some (0, false)) (
sel (decide (p0 > 0)) (
some (wrapK .i64 ((wrapK .i64 (2 * p0)) - 1), true)) (
some (wrapK .i64 ((-2) * p0), true)))
def spec_l03Se (p0 : Int) : Option ByteArray :=
bnd (spec_FoldSe p0) fun q1 =>
bnd (spec_l03Ue q1.1) fun q2 =>
some q2
def spec_SeRow (p0 : Int) : Option (ByteArray × Bool) :=
bnd (spec_l01In p0 (-500000) 500000) fun q1 =>
sel (!q1) (
some (⟨#[]⟩, false)) (
bnd (spec_l03Se p0) fun q2 =>
some (q2, true))
def spec_SeSize (p0 : Int) : Option Int :=
bnd (spec_SeRow p0) fun q1 =>
some (q1.1.size : Int)
def spec_BestMove_l14 (p0 : Pic) (p1 : (List Int)) (p2 : Int) (p3 : Int) (p4 : Int) (v32 : (Int × Int × Int × Int)) (v69 : (Int × Int × Int × Int)) : Option (Lp (Int × Int × Int × Int) (Int × Int × Int)) :=
sel (decide (v69.2.2.2 ≤ p4)) (
bnd (
bnd (spec_l12Within p0 (wrapK .i64 (p2 + v69.2.2.2)) (wrapK .i64 (p3 + v32.2.2.2)) 8 8) fun q80 =>
sel (!q80) (
some (v69.1, v69.2.1, v69.2.2.1)) (
bnd (spec_BlockOf p0 (wrapK .i64 (p2 + v69.2.2.2)) (wrapK .i64 (p3 + v32.2.2.2))) fun q81 =>
bnd (spec_GapOf p1 q81) fun q82 =>
bnd (spec_SeSize v69.2.2.2) fun q83 =>
bnd (spec_SeSize v32.2.2.2) fun q84 =>
bnd (
sel (decide (v69.2.2.1 < 0)) (
some true) (
some (decide ((wrapK .i64 ((wrapK .i64 (q82 + q83)) + q84)) < v69.2.2.1)))) fun v85 =>
sel v85 (
some (v69.2.2.2, v32.2.2.2, wrapK .i64 ((wrapK .i64 (q82 + q83)) + q84))) (
some (v69.1, v69.2.1, v69.2.2.1)))) fun v79 =>
some (.go (v79.1, v79.2.1, v79.2.2, wrapK .i64 (v69.2.2.2 + 1)))) (
some (.done (v69.1, v69.2.1, v69.2.2.1)))
def spec_BestMove_l12 (p0 : Pic) (p1 : (List Int)) (p2 : Int) (p3 : Int) (p4 : Int) (v32 : (Int × Int × Int × Int)) : Option (Lp (Int × Int × Int × Int) (Int × Int × Int)) :=
sel (decide (v32.2.2.2 ≤ p4)) (
bnd (loop (spec_BestMove_l14 p0 p1 p2 p3 p4 v32) (v32.1, v32.2.1, v32.2.2.1, wrapK .i64 (0 - p4))) fun v78 =>
some (.go (v78.1, v78.2.1, v78.2.2, wrapK .i64 (v32.2.2.2 + 1)))) (
some (.done (v32.1, v32.2.1, v32.2.2.1)))
def spec_BestMove (p0 : Pic) (p1 : (List Int)) (p2 : Int) (p3 : Int) (p4 : Int) : Option (Int × Int × Int) :=
bnd (
bnd (spec_l13Dots p1) fun q2 =>
sel q2 (
bnd (spec_l01In p4 0 4) fun q3 =>
sel q3 (
bnd (spec_l13Fits p0 p2 p3) fun q4 =>
some (!q4)) (
some true)) (
some true)) fun v1 =>
sel v1 (
some (0, 0, (-1))) (
bnd (loop (spec_BestMove_l12 p0 p1 p2 p3 p4) (0, 0, (-1), wrapK .i64 (0 - p4))) fun v60 =>
some (v60.1, v60.2.1, v60.2.2))
def spec_ScanAt_l14 (p0 : Int) (p1 : Int) (v17 : (Int × Int)) (v38 : (Int × Int)) : Option (Lp (Int × Int) (Ou Int Int)) :=
sel (decide (v38.2 < p0)) (
joinK (fun (v44 : Int) =>
some (.go (v44, wrapK .i64 (v38.2 + 1)))) fun j36 =>
bnd (
req ((2 : Int) ≠ 0) <|
sel ((v17.2.tmod 2) == 0) (
some (wrapK .i64 ((wrapK .i64 (p0 - 1)) - v38.2))) (
some v38.2)) fun v45 =>
bnd (spec_l01In (wrapK .i64 (v17.2 - v45)) 0 (wrapK .i64 (p0 - 1))) fun q46 =>
sel (!q46) (
j36 v38.1) (
sel (v38.1 == p1) (
some (.done (.ret (wrapK .i64 ((wrapK .i64 ((wrapK .i64 (p0 * v45)) + v17.2)) - v45))))) (
j36 (wrapK .i64 (v38.1 + 1))))) (
some (.done (.out v38.1)))
def spec_ScanAt_l12 (p0 : Int) (p1 : Int) (v17 : (Int × Int)) : Option (Lp (Int × Int) (Ou Unit Int)) :=
sel (decide (v17.2 ≤ (wrapK .i64 ((wrapK .i64 (2 * p0)) - 2)))) (
bnd (loop (spec_ScanAt_l14 p0 p1 v17) (v17.1, 0)) fun o47 => match o47 with
| .out v43 => (
some (.go (v43, wrapK .i64 (v17.2 + 1))))
| .ret r => some (.done (.ret r))) (
some (.done (.out ())))
def spec_ScanAt (p0 : Int) (p1 : Int) : Option Int :=
bnd (
sel (p0 != 4) (
sel (p0 != 8) (
some true) (
sel (decide (p1 < 0)) (
some true) (
some (decide (p1 ≥ (wrapK .i64 (p0 * p0))))))) (
sel (decide (p1 < 0)) (
some true) (
some (decide (p1 ≥ (wrapK .i64 (p0 * p0))))))) fun v1 =>
sel v1 (
some (-1)) (
bnd (loop (spec_ScanAt_l12 p0 p1) (0, 0)) fun o48 => match o48 with
| .out v33 => (
some (-1))
| .ret r => some r)
def spec_Scanned_l2 (p0 : Int) (p1 : (List Int)) (v4 : (Int × (List Int))) : Option (Lp (Int × (List Int)) (List Int)) :=
sel (decide (v4.1 < (wrapK .i64 (p0 * p0)))) (
bnd (spec_ScanAt p0 v4.1) fun q8 =>
req (0 ≤ q8 ∧ q8 < p1.length) <|
req ((v4.2.length + ([(p1.getD q8.toNat 0)]).length) * 8 ≤ 140737488355328 ∧ v4.2.length + ([(p1.getD q8.toNat 0)]).length ≤ maxLen) <|
some (.go (wrapK .i64 (v4.1 + 1), (v4.2 ++ ([(p1.getD q8.toNat 0)]))))) (
some (.done v4.2))
def spec_Scanned (p0 : Int) (p1 : (List Int)) : Option ((List Int) × Bool) :=
bnd (
sel (p0 != 4) (
sel (p0 != 8) (
some true) (
some ((p1.length : Int) != (wrapK .i64 (p0 * p0))))) (
some ((p1.length : Int) != (wrapK .i64 (p0 * p0))))) fun v1 =>
sel v1 (
some (([] : List Int), false)) (
bnd (loop (spec_Scanned_l2 p0 p1) (0, ([] : List Int))) fun v7 =>
some (v7, true))
def spec_SignOf_l2 (v6 : (Int × Int)) : Option (Lp (Int × Int) Int) :=
sel (decide (v6.2 > 0)) (
bnd (
req ((2 : Int) ≠ 0) <|
sel ((v6.2.tmod 2) == 1) (
some (wrapK .i64 (0 - v6.1))) (
some v6.1)) fun v10 =>
req ((2 : Int) ≠ 0) <|
some (.go (v10, wrapK .i64 (v6.2.tdiv 2)))) (
some (.done v6.1))
def spec_SignOf (p0 : Int) (p1 : Int) : Option Int :=
bnd (
bnd (spec_l01In p0 0 7) fun q2 =>
sel q2 (
bnd (spec_l01In p1 0 7) fun q3 =>
some (!q3)) (
some true)) fun v1 =>
sel v1 (
some 0) (
bnd (loop (spec_SignOf_l2) (1, (IntKind.wrap .i64 (BitVec.ofInt (IntKind.bits .i64) p0 &&& BitVec.ofInt (IntKind.bits .i64) p1).toNat))) fun v9 =>
some v9)
def spec_l10Row_l2 (p0 : (List Int)) (p1 : Int) (p2 : Int) (v3 : (Int × Int)) : Option (Lp (Int × Int) Int) :=
sel (decide (v3.2 < 8)) (
req (0 ≤ (wrapK .i64 ((wrapK .i64 (8 * p1)) + v3.2)) ∧ (wrapK .i64 ((wrapK .i64 (8 * p1)) + v3.2)) < p0.length) <|
bnd (spec_SignOf p2 v3.2) fun q7 =>
some (.go (wrapK .i64 (v3.1 + (wrapK .i64 ((p0.getD (wrapK .i64 ((wrapK .i64 (8 * p1)) + v3.2)).toNat 0) * q7))), wrapK .i64 (v3.2 + 1)))) (
some (.done v3.1))
def spec_l10Row (p0 : (List Int)) (p1 : Int) (p2 : Int) : Option Int :=
bnd (loop (spec_l10Row_l2 p0 p1 p2) (0, 0)) fun v6 =>
some v6
def spec_l10Sums_l14 (p0 : (List Int)) (v10 : (Int × (List Int))) (v23 : (Int × (List Int))) : Option (Lp (Int × (List Int)) (List Int)) :=
sel (decide (v23.1 < 8)) (
bnd (spec_l10Row p0 v10.1 v23.1) fun q27 =>
req ((v23.2.length + ([q27]).length) * 8 ≤ 140737488355328 ∧ v23.2.length + ([q27]).length ≤ maxLen) <|
some (.go (wrapK .i64 (v23.1 + 1), (v23.2 ++ ([q27]))))) (
some (.done v23.2))
def spec_l10Sums_l12 (p0 : (List Int)) (v10 : (Int × (List Int))) : Option (Lp (Int × (List Int)) (List Int)) :=
sel (decide (v10.1 < 8)) (
bnd (loop (spec_l10Sums_l14 p0 v10) (0, v10.2)) fun v26 =>
some (.go (wrapK .i64 (v10.1 + 1), v26))) (
some (.done v10.2))
def spec_l10Sums_l172 (v20 : (List Int)) (v60 : (Int × (List Int))) (v101 : (Int × (List Int))) (v114 : (Int × Int)) : Option (Lp (Int × Int) Int) :=
sel (decide (v114.2 < 8)) (
bnd (spec_SignOf v60.1 v114.2) fun q118 =>
req (0 ≤ (wrapK .i64 ((wrapK .i64 (8 * v114.2)) + v101.1)) ∧ (wrapK .i64 ((wrapK .i64 (8 * v114.2)) + v101.1)) < v20.length) <|
req ((wrapK .i64 ((wrapK .i64 (8 * v114.2)) + v101.1)).toNat < v20.length) <|
some (.go (wrapK .i64 (v114.1 + (wrapK .i64 (q118 * (v20.getD ((wrapK .i64 ((wrapK .i64 (8 * v114.2)) + v101.1)).toNat) 0)))), wrapK .i64 (v114.2 + 1)))) (
some (.done v114.1))
def spec_l10Sums_l168 (v20 : (List Int)) (v60 : (Int × (List Int))) (v101 : (Int × (List Int))) : Option (Lp (Int × (List Int)) (List Int)) :=
sel (decide (v101.1 < 8)) (
bnd (loop (spec_l10Sums_l172 v20 v60 v101) (0, 0)) fun v117 =>
req ((v101.2.length + ([v117]).length) * 8 ≤ 140737488355328 ∧ v101.2.length + ([v117]).length ≤ maxLen) <|
some (.go (wrapK .i64 (v101.1 + 1), (v101.2 ++ ([v117]))))) (
some (.done v101.2))
def spec_l10Sums_l146 (v20 : (List Int)) (v60 : (Int × (List Int))) : Option (Lp (Int × (List Int)) (List Int)) :=
sel (decide (v60.1 < 8)) (
bnd (loop (spec_l10Sums_l168 v20 v60) (0, v60.2)) fun v111 =>
some (.go (wrapK .i64 (v60.1 + 1), v111))) (
some (.done v60.2))
def spec_l10Sums (p0 : (List Int)) : Option (List Int) :=
bnd (loop (spec_l10Sums_l12 p0) (0, ([] : List Int))) fun v20 =>
bnd (loop (spec_l10Sums_l146 v20) (0, ([] : List Int))) fun v91 =>
some v91
def spec_Eight (p0 : (List Int)) : Option (List Int) :=
bnd (spec_l09All p0 64 1000) fun q1 =>
sel (!q1) (
some ([] : List Int)) (
bnd (spec_l10Sums p0) fun q2 =>
some q2)
def spec_StepOf_l2 (p0 : Int) (v4 : (Int × Int)) : Option (Lp (Int × Int) Int) :=
req ((6 : Int) ≠ 0) <|
sel (decide (v4.2 < (wrapK .i64 (p0.tdiv 6)))) (
some (.go (wrapK .i64 (2 * v4.1), wrapK .i64 (v4.2 + 1)))) (
some (.done v4.1))
def spec_StepOf (p0 : Int) : Option Int :=
bnd (spec_l01In p0 0 40) fun q1 =>
sel (!q1) (
some 0) (
bnd (
req ((6 : Int) ≠ 0) <|
sel ((p0.tmod 6) == 0) (
some 10) (
sel ((p0.tmod 6) == 1) (
some 11) (
sel ((p0.tmod 6) == 2) (
some 13) (
sel ((p0.tmod 6) == 3) (
some 14) (
sel ((p0.tmod 6) == 4) (
some 16) (
some 18)))))) fun v2 =>
bnd (loop (spec_StepOf_l2 p0) (v2, 0)) fun v6 =>
some v6)
def spec_l08Signed (p0 : Int) (p1 : Int) : Option Int :=
sel (decide (p0 < 0)) (
some (wrapK .i64 (0 - p1))) (
some p1)
def spec_LargeLevel (p0 : Int) (p1 : Int) : Option Int :=
bnd (
bnd (spec_l01In p0 (-20000) 20000) fun q2 =>
sel q2 (
bnd (spec_l01In p1 0 40) fun q3 =>
some (!q3)) (
some true)) fun v1 =>
sel v1 (
some 0) (
bnd (spec_StepOf p1) fun q4 =>
bnd (spec_l08Sized p0) fun q5 =>
req ((2 : Int) ≠ 0) <|
req (q4 ≠ 0) <|
bnd (spec_l08Signed p0 (wrapK .i64 ((wrapK .i64 (q5 + (wrapK .i64 (q4.tdiv 2)))).tdiv q4))) fun q6 =>
some q6)
def spec_l14Quarter_l2 (p0 : (List Int)) (p1 : Int) (v2 : (Int × (List Int))) : Option (Lp (Int × (List Int)) (List Int)) :=
sel (decide (v2.1 < 16)) (
req ((2 : Int) ≠ 0) <|
req ((4 : Int) ≠ 0) <|
req ((2 : Int) ≠ 0) <|
req ((4 : Int) ≠ 0) <|
req (0 ≤ (wrapK .i64 ((wrapK .i64 ((wrapK .i64 (8 * (wrapK .i64 ((wrapK .i64 ((wrapK .i64 (p1.tdiv 2)) * 4)) + (wrapK .i64 (v2.1.tdiv 4)))))) + (wrapK .i64 ((p1.tmod 2) * 4)))) + (v2.1.tmod 4))) ∧ (wrapK .i64 ((wrapK .i64 ((wrapK .i64 (8 * (wrapK .i64 ((wrapK .i64 ((wrapK .i64 (p1.tdiv 2)) * 4)) + (wrapK .i64 (v2.1.tdiv 4)))))) + (wrapK .i64 ((p1.tmod 2) * 4)))) + (v2.1.tmod 4))) < p0.length) <|
req ((v2.2.length + ([(p0.getD (wrapK .i64 ((wrapK .i64 ((wrapK .i64 (8 * (wrapK .i64 ((wrapK .i64 ((wrapK .i64 (p1.tdiv 2)) * 4)) + (wrapK .i64 (v2.1.tdiv 4)))))) + (wrapK .i64 ((p1.tmod 2) * 4)))) + (v2.1.tmod 4))).toNat 0)]).length) * 8 ≤ 140737488355328 ∧ v2.2.length + ([(p0.getD (wrapK .i64 ((wrapK .i64 ((wrapK .i64 (8 * (wrapK .i64 ((wrapK .i64 ((wrapK .i64 (p1.tdiv 2)) * 4)) + (wrapK .i64 (v2.1.tdiv 4)))))) + (wrapK .i64 ((p1.tmod 2) * 4)))) + (v2.1.tmod 4))).toNat 0)]).length ≤ maxLen) <|
some (.go (wrapK .i64 (v2.1 + 1), (v2.2 ++ ([(p0.getD (wrapK .i64 ((wrapK .i64 ((wrapK .i64 (8 * (wrapK .i64 ((wrapK .i64 ((wrapK .i64 (p1.tdiv 2)) * 4)) + (wrapK .i64 (v2.1.tdiv 4)))))) + (wrapK .i64 ((p1.tmod 2) * 4)))) + (v2.1.tmod 4))).toNat 0)]))))) (
some (.done v2.2))
def spec_l14Quarter (p0 : (List Int)) (p1 : Int) : Option (List Int) :=
bnd (loop (spec_l14Quarter_l2 p0 p1) (0, ([] : List Int))) fun v4 =>
some v4
def spec_l09Rows_l2 (p0 : (List Int)) (v2 : (Int × (List Int))) : Option (Lp (Int × (List Int)) (List Int)) :=
sel (decide (v2.1 < 4)) (
req (0 ≤ (wrapK .i64 (4 * v2.1)) ∧ (wrapK .i64 (4 * v2.1)) < p0.length) <|
req (0 ≤ (wrapK .i64 ((wrapK .i64 (4 * v2.1)) + 1)) ∧ (wrapK .i64 ((wrapK .i64 (4 * v2.1)) + 1)) < p0.length) <|
req (0 ≤ (wrapK .i64 ((wrapK .i64 (4 * v2.1)) + 2)) ∧ (wrapK .i64 ((wrapK .i64 (4 * v2.1)) + 2)) < p0.length) <|
req (0 ≤ (wrapK .i64 ((wrapK .i64 (4 * v2.1)) + 3)) ∧ (wrapK .i64 ((wrapK .i64 (4 * v2.1)) + 3)) < p0.length) <|
req ((v2.2.length + ([wrapK .i64 ((wrapK .i64 ((wrapK .i64 ((p0.getD (wrapK .i64 (4 * v2.1)).toNat 0) + (p0.getD (wrapK .i64 ((wrapK .i64 (4 * v2.1)) + 1)).toNat 0))) + (p0.getD (wrapK .i64 ((wrapK .i64 (4 * v2.1)) + 2)).toNat 0))) + (p0.getD (wrapK .i64 ((wrapK .i64 (4 * v2.1)) + 3)).toNat 0)), wrapK .i64 ((wrapK .i64 ((wrapK .i64 ((wrapK .i64 (2 * (p0.getD (wrapK .i64 (4 * v2.1)).toNat 0))) + (p0.getD (wrapK .i64 ((wrapK .i64 (4 * v2.1)) + 1)).toNat 0))) - (p0.getD (wrapK .i64 ((wrapK .i64 (4 * v2.1)) + 2)).toNat 0))) - (wrapK .i64 (2 * (p0.getD (wrapK .i64 ((wrapK .i64 (4 * v2.1)) + 3)).toNat 0)))), wrapK .i64 ((wrapK .i64 ((wrapK .i64 ((p0.getD (wrapK .i64 (4 * v2.1)).toNat 0) - (p0.getD (wrapK .i64 ((wrapK .i64 (4 * v2.1)) + 1)).toNat 0))) - (p0.getD (wrapK .i64 ((wrapK .i64 (4 * v2.1)) + 2)).toNat 0))) + (p0.getD (wrapK .i64 ((wrapK .i64 (4 * v2.1)) + 3)).toNat 0)), wrapK .i64 ((wrapK .i64 ((wrapK .i64 ((p0.getD (wrapK .i64 (4 * v2.1)).toNat 0) - (wrapK .i64 (2 * (p0.getD (wrapK .i64 ((wrapK .i64 (4 * v2.1)) + 1)).toNat 0))))) + (wrapK .i64 (2 * (p0.getD (wrapK .i64 ((wrapK .i64 (4 * v2.1)) + 2)).toNat 0))))) - (p0.getD (wrapK .i64 ((wrapK .i64 (4 * v2.1)) + 3)).toNat 0))]).length) * 8 ≤ 140737488355328 ∧ v2.2.length + ([wrapK .i64 ((wrapK .i64 ((wrapK .i64 ((p0.getD (wrapK .i64 (4 * v2.1)).toNat 0) + (p0.getD (wrapK .i64 ((wrapK .i64 (4 * v2.1)) + 1)).toNat 0))) + (p0.getD (wrapK .i64 ((wrapK .i64 (4 * v2.1)) + 2)).toNat 0))) + (p0.getD (wrapK .i64 ((wrapK .i64 (4 * v2.1)) + 3)).toNat 0)), wrapK .i64 ((wrapK .i64 ((wrapK .i64 ((wrapK .i64 (2 * (p0.getD (wrapK .i64 (4 * v2.1)).toNat 0))) + (p0.getD (wrapK .i64 ((wrapK .i64 (4 * v2.1)) + 1)).toNat 0))) - (p0.getD (wrapK .i64 ((wrapK .i64 (4 * v2.1)) + 2)).toNat 0))) - (wrapK .i64 (2 * (p0.getD (wrapK .i64 ((wrapK .i64 (4 * v2.1)) + 3)).toNat 0)))), wrapK .i64 ((wrapK .i64 ((wrapK .i64 ((p0.getD (wrapK .i64 (4 * v2.1)).toNat 0) - (p0.getD (wrapK .i64 ((wrapK .i64 (4 * v2.1)) + 1)).toNat 0))) - (p0.getD (wrapK .i64 ((wrapK .i64 (4 * v2.1)) + 2)).toNat 0))) + (p0.getD (wrapK .i64 ((wrapK .i64 (4 * v2.1)) + 3)).toNat 0)), wrapK .i64 ((wrapK .i64 ((wrapK .i64 ((p0.getD (wrapK .i64 (4 * v2.1)).toNat 0) - (wrapK .i64 (2 * (p0.getD (wrapK .i64 ((wrapK .i64 (4 * v2.1)) + 1)).toNat 0))))) + (wrapK .i64 (2 * (p0.getD (wrapK .i64 ((wrapK .i64 (4 * v2.1)) + 2)).toNat 0))))) - (p0.getD (wrapK .i64 ((wrapK .i64 (4 * v2.1)) + 3)).toNat 0))]).length ≤ maxLen) <|
some (.go (wrapK .i64 (v2.1 + 1), (v2.2 ++ ([wrapK .i64 ((wrapK .i64 ((wrapK .i64 ((p0.getD (wrapK .i64 (4 * v2.1)).toNat 0) + (p0.getD (wrapK .i64 ((wrapK .i64 (4 * v2.1)) + 1)).toNat 0))) + (p0.getD (wrapK .i64 ((wrapK .i64 (4 * v2.1)) + 2)).toNat 0))) + (p0.getD (wrapK .i64 ((wrapK .i64 (4 * v2.1)) + 3)).toNat 0)), wrapK .i64 ((wrapK .i64 ((wrapK .i64 ((wrapK .i64 (2 * (p0.getD (wrapK .i64 (4 * v2.1)).toNat 0))) + (p0.getD (wrapK .i64 ((wrapK .i64 (4 * v2.1)) + 1)).toNat 0))) - (p0.getD (wrapK .i64 ((wrapK .i64 (4 * v2.1)) + 2)).toNat 0))) - (wrapK .i64 (2 * (p0.getD (wrapK .i64 ((wrapK .i64 (4 * v2.1)) + 3)).toNat 0)))), wrapK .i64 ((wrapK .i64 ((wrapK .i64 ((p0.getD (wrapK .i64 (4 * v2.1)).toNat 0) - (p0.getD (wrapK .i64 ((wrapK .i64 (4 * v2.1)) + 1)).toNat 0))) - (p0.getD (wrapK .i64 ((wrapK .i64 (4 * v2.1)) + 2)).toNat 0))) + (p0.getD (wrapK .i64 ((wrapK .i64 (4 * v2.1)) + 3)).toNat 0)), wrapK .i64 ((wrapK .i64 ((wrapK .i64 ((p0.getD (wrapK .i64 (4 * v2.1)).toNat 0) - (wrapK .i64 (2 * (p0.getD (wrapK .i64 ((wrapK .i64 (4 * v2.1)) + 1)).toNat 0))))) + (wrapK .i64 (2 * (p0.getD (wrapK .i64 ((wrapK .i64 (4 * v2.1)) + 2)).toNat 0))))) - (p0.getD (wrapK .i64 ((wrapK .i64 (4 * v2.1)) + 3)).toNat 0))]))))) (
some (.done v2.2))
def spec_l09Rows (p0 : (List Int)) : Option (List Int) :=
bnd (loop (spec_l09Rows_l2 p0) (0, ([] : List Int))) fun v4 =>
some v4
def spec_l09Flip_l2 (p0 : (List Int)) (v2 : (Int × (List Int))) : Option (Lp (Int × (List Int)) (List Int)) :=
sel (decide (v2.1 < 16)) (
req ((4 : Int) ≠ 0) <|
req ((4 : Int) ≠ 0) <|
req (0 ≤ v2.1 ∧ v2.1 < p0.length) <|
req (0 ≤ (wrapK .i64 ((wrapK .i64 ((v2.1.tmod 4) * 4)) + (wrapK .i64 (v2.1.tdiv 4)))) ∧ (wrapK .i64 ((wrapK .i64 ((v2.1.tmod 4) * 4)) + (wrapK .i64 (v2.1.tdiv 4)))) < v2.2.length) <|
req ((wrapK .i64 ((wrapK .i64 ((v2.1.tmod 4) * 4)) + (wrapK .i64 (v2.1.tdiv 4)))).toNat < v2.2.length) <|
some (.go (wrapK .i64 (v2.1 + 1), (v2.2.set ((wrapK .i64 ((wrapK .i64 ((v2.1.tmod 4) * 4)) + (wrapK .i64 (v2.1.tdiv 4)))).toNat) (p0.getD v2.1.toNat 0))))) (
some (.done v2.2))
def spec_l09Flip (p0 : (List Int)) : Option (List Int) :=
req (0 ≤ (16 : Int) ∧ (16 : Int) ≤ (16 : Int) ∧ (16 : Int) * 8 ≤ 281474976710656) <|
bnd (loop (spec_l09Flip_l2 p0) (0, (List.replicate (16 : Int).toNat (0 : Int)))) fun v4 =>
some v4
def spec_Four (p0 : (List Int)) : Option (List Int) :=
bnd (spec_l09All p0 16 1000) fun q1 =>
sel (!q1) (
some ([] : List Int)) (
bnd (spec_l09Rows p0) fun q2 =>
bnd (spec_l09Flip q2) fun q3 =>
bnd (spec_l09Rows q3) fun q4 =>
bnd (spec_l09Flip q4) fun q5 =>
some q5)
def spec_KindOf (p0 : Int) : Option Int :=
bnd (spec_l01In p0 0 15) fun q1 =>
sel (!q1) (
some (-1)) (
req ((4 : Int) ≠ 0) <|
req ((2 : Int) ≠ 0) <|
req ((4 : Int) ≠ 0) <|
req ((2 : Int) ≠ 0) <|
bnd (
sel (((wrapK .i64 (p0.tdiv 4)).tmod 2) == 0) (
some (((p0.tmod 4).tmod 2) == 0)) (
some false)) fun v2 =>
sel v2 (
some 0) (
bnd (
sel (((wrapK .i64 (p0.tdiv 4)).tmod 2) == 1) (
some (((p0.tmod 4).tmod 2) == 1)) (
some false)) fun v3 =>
sel v3 (
some 1) (
some 2)))
def spec_l08Pick (p0 : Int) (p1 : Int) (p2 : Int) (p3 : Int) : Option Int :=
sel (p0 == 0) (
some p1) (
sel (p0 == 1) (
some p2) (
some p3))
def spec_ShareOf (p0 : Int) (p1 : Int) : Option Int :=
bnd (spec_KindOf p1) fun q1 =>
bnd (
bnd (spec_l01In p0 0 40) fun q3 =>
sel q3 (
some (decide (q1 < 0))) (
some true)) fun v2 =>
sel v2 (
some 0) (
req ((6 : Int) ≠ 0) <|
sel ((p0.tmod 6) == 0) (
bnd (spec_l08Pick q1 13107 5243 8066) fun q4 =>
some q4) (
sel ((p0.tmod 6) == 1) (
bnd (spec_l08Pick q1 11916 4660 7490) fun q5 =>
some q5) (
sel ((p0.tmod 6) == 2) (
bnd (spec_l08Pick q1 10082 4194 6554) fun q6 =>
some q6) (
sel ((p0.tmod 6) == 3) (
bnd (spec_l08Pick q1 9362 3647 5825) fun q7 =>
some q7) (
sel ((p0.tmod 6) == 4) (
bnd (spec_l08Pick q1 8192 3355 5243) fun q8 =>
some q8) (
bnd (spec_l08Pick q1 7282 2893 4559) fun q9 =>
some q9))))))
def spec_SmallLevel (p0 : Int) (p1 : Int) (p2 : Int) : Option Int :=
bnd (
bnd (spec_l01In p0 (-20000) 20000) fun q2 =>
sel q2 (
bnd (spec_l01In p1 0 40) fun q3 =>
sel q3 (
bnd (spec_l01In p2 0 15) fun q4 =>
some (!q4)) (
some true)) (
some true)) fun v1 =>
sel v1 (
some 0) (
req ((6 : Int) ≠ 0) <|
req (0 ≤ (wrapK .u64 (wrapK .i64 (15 + (wrapK .i64 (p1.tdiv 6)))))) <|
bnd (spec_l08Sized p0) fun q5 =>
bnd (spec_ShareOf p1 p2) fun q6 =>
req ((3 : Int) ≠ 0) <|
req ((wrapK .i64 (1 * 2 ^ min (wrapK .u64 (wrapK .i64 (15 + (wrapK .i64 (p1.tdiv 6))))).toNat (IntKind.bits .i64))) ≠ 0) <|
bnd (spec_l08Signed p0 (wrapK .i64 ((wrapK .i64 ((wrapK .i64 (q5 * q6)) + (wrapK .i64 ((wrapK .i64 (1 * 2 ^ min (wrapK .u64 (wrapK .i64 (15 + (wrapK .i64 (p1.tdiv 6))))).toNat (IntKind.bits .i64))).tdiv 3)))).tdiv (wrapK .i64 (1 * 2 ^ min (wrapK .u64 (wrapK .i64 (15 + (wrapK .i64 (p1.tdiv 6))))).toNat (IntKind.bits .i64)))))) fun q7 =>
some q7)
def spec_LevelsOf_l4 (p1 : Cond) (v8 : (Int × (List Int))) : Option (Lp (Int × (List Int)) (List Int)) :=
sel (decide (v8.1 < 64)) (
req (0 ≤ v8.1 ∧ v8.1 < v8.2.length) <|
req (v8.1.toNat < v8.2.length) <|
bnd (spec_LargeLevel (v8.2.getD v8.1.toNat 0) p1.Qp) fun q12 =>
req (0 ≤ v8.1 ∧ v8.1 < v8.2.length) <|
req (v8.1.toNat < v8.2.length) <|
some (.go (wrapK .i64 (v8.1 + 1), (v8.2.set v8.1.toNat q12)))) (
some (.done v8.2))
def spec_LevelsOf_l30 (p1 : Cond) (v45 : (Int × (List Int))) : Option (Lp (Int × (List Int)) (List Int)) :=
sel (decide (v45.1 < 16)) (
req (0 ≤ v45.1 ∧ v45.1 < v45.2.length) <|
req (v45.1.toNat < v45.2.length) <|
bnd (spec_SmallLevel (v45.2.getD v45.1.toNat 0) p1.Qp v45.1) fun q49 =>
req (0 ≤ v45.1 ∧ v45.1 < v45.2.length) <|
req (v45.1.toNat < v45.2.length) <|
some (.go (wrapK .i64 (v45.1 + 1), (v45.2.set v45.1.toNat q49)))) (
some (.done v45.2))
def spec_LevelsOf_l26 (p0 : (List Int)) (p1 : Cond) (v27 : (Int × (List Int))) : Option (Lp (Int × (List Int)) (List Int)) :=
sel (decide (v27.1 < 4)) (
bnd (spec_l14Quarter p0 v27.1) fun q41 =>
bnd (spec_Four q41) fun q42 =>
bnd (loop (spec_LevelsOf_l30 p1) (0, q42)) fun v48 =>
bnd (spec_Scanned 4 v48) fun q51 =>
req ((v27.2.length + q51.1.length) * 8 ≤ 140737488355328 ∧ v27.2.length + q51.1.length ≤ maxLen) <|
some (.go (wrapK .i64 (v27.1 + 1), (v27.2 ++ q51.1)))) (
some (.done v27.2))
def spec_LevelsOf (p0 : (List Int)) (p1 : Cond) : Option ((List Int) × Bool) :=
bnd (
bnd (spec_CondOk p1) fun q2 =>
sel q2 (
bnd (spec_l09All p0 64 255) fun q3 =>
some (!q3)) (
some true)) fun v1 =>
sel v1 (
some (([] : List Int), false)) (
sel p1.Exact (
bnd (spec_Scanned 8 p0) fun q4 =>
some (q4.1, q4.2)) (
sel p1.Large (
bnd (spec_Eight p0) fun q5 =>
bnd (loop (spec_LevelsOf_l4 p1) (0, q5)) fun v11 =>
bnd (spec_Scanned 8 v11) fun q14 =>
some (q14.1, q14.2)) (
bnd (loop (spec_LevelsOf_l26 p0 p1) (0, ([] : List Int))) fun v40 =>
some (v40, true))))
def spec_l17Square (p0 : Pic) (p1 : Pic) (p2 : (List Int)) (p3 : Int) (p4 : Int) (p5 : Cond) (p6 : Int) : Option Square :=
bnd (
sel p5.Key (
some false) (
bnd (spec_BlockOf p1 p3 p4) fun q2 =>
bnd (spec_l17Less p2 q2) fun q3 =>
bnd (spec_l17Zero q3) fun q4 =>
some q4)) fun v1 =>
sel v1 (
some (⟨0, 0, 0, 0, []⟩ : Square)) (
bnd (spec_EdgesOf p0 p3 p4) fun q5 =>
bnd (spec_BestGuess p2 q5.1) fun q6 =>
joinK (fun (v7 : Unit) =>
bnd (spec_GuessOf q6.1 q5.1) fun q14 =>
bnd (spec_l17Less p2 q14) fun q15 =>
bnd (spec_LevelsOf q15 p5) fun q16 =>
some (⟨2, q6.1, 0, 0, q16.1⟩ : Square)) fun j1 =>
sel (!p5.Key) (
bnd (spec_BestMove p1 p2 p3 p4 p6) fun q8 =>
sel (decide (q8.2.2 ≤ q6.2)) (
bnd (spec_BlockOf p1 (wrapK .i64 (p3 + q8.1)) (wrapK .i64 (p4 + q8.2.1))) fun q9 =>
bnd (spec_l17Less p2 q9) fun q10 =>
bnd (spec_LevelsOf q10 p5) fun q11 =>
bnd (
sel (q8.1 == 0) (
sel (q8.2.1 == 0) (
bnd (spec_l17Zero q11.1) fun q13 =>
some q13) (
some false)) (
some false)) fun v12 =>
sel v12 (
some (⟨0, 0, 0, 0, []⟩ : Square)) (
some (⟨1, 0, q8.1, q8.2.1, q11.1⟩ : Square))) (
j1 ())) (
j1 ()))
def spec_SquareOk (p0 : Square) : Option Bool :=
sel (p0.Kind == 0) (
bnd (
sel (p0.Mode == 0) (
sel (p0.Dx == 0) (
sel (p0.Dy == 0) (
some ((p0.Levels.length : Int) == 0)) (
some false)) (
some false)) (
some false)) fun v1 =>
some v1) (
sel (p0.Kind == 1) (
bnd (
sel (p0.Mode == 0) (
bnd (spec_l01In p0.Dx (-16) 16) fun q3 =>
sel q3 (
bnd (spec_l01In p0.Dy (-16) 16) fun q4 =>
sel q4 (
bnd (spec_l09All p0.Levels 64 5000) fun q5 =>
some q5) (
some false)) (
some false)) (
some false)) fun v2 =>
some v2) (
sel (p0.Kind == 2) (
bnd (
bnd (spec_l01In p0.Mode 0 3) fun q7 =>
sel q7 (
sel (p0.Dx == 0) (
sel (p0.Dy == 0) (
bnd (spec_l09All p0.Levels 64 5000) fun q8 =>
some q8) (
some false)) (
some false)) (
some false)) fun v6 =>
some v6) (
some false)))
def spec_Unscanned_l2 (p0 : Int) (p1 : (List Int)) (v4 : (Int × (List Int))) : Option (Lp (Int × (List Int)) (List Int)) :=
sel (decide (v4.1 < (wrapK .i64 (p0 * p0)))) (
bnd (spec_ScanAt p0 v4.1) fun q8 =>
req (0 ≤ v4.1 ∧ v4.1 < p1.length) <|
req (0 ≤ q8 ∧ q8 < v4.2.length) <|
req (q8.toNat < v4.2.length) <|
some (.go (wrapK .i64 (v4.1 + 1), (v4.2.set q8.toNat (p1.getD v4.1.toNat 0))))) (
some (.done v4.2))
def spec_Unscanned (p0 : Int) (p1 : (List Int)) : Option ((List Int) × Bool) :=
bnd (
sel (p0 != 4) (
sel (p0 != 8) (
some true) (
some ((p1.length : Int) != (wrapK .i64 (p0 * p0))))) (
some ((p1.length : Int) != (wrapK .i64 (p0 * p0))))) fun v1 =>
sel v1 (
some (([] : List Int), false)) (
req (0 ≤ (p1.length : Int) ∧ (p1.length : Int) ≤ (p1.length : Int) ∧ (p1.length : Int) * 8 ≤ 281474976710656) <|
bnd (loop (spec_Unscanned_l2 p0 p1) (0, (List.replicate (p1.length : Int).toNat (0 : Int)))) fun v7 =>
some (v7, true))
def spec_LargeBack (p0 : Int) (p1 : Int) : Option Int :=
bnd (spec_l01In p0 (-5000) 5000) fun q1 =>
sel (!q1) (
some 0) (
bnd (spec_StepOf p1) fun q2 =>
some (wrapK .i64 (p0 * q2)))
def spec_l09Down (p0 : Int) (p1 : Int) : Option Int :=
req (p1 ≠ 0) <|
bnd (
req (p1 ≠ 0) <|
sel (decide ((p0.tmod p1) < 0)) (
some (wrapK .i64 ((wrapK .i64 (p0.tdiv p1)) - 1))) (
some (wrapK .i64 (p0.tdiv p1)))) fun v1 =>
some v1
def spec_EightBack_l2 (v5 : (Int × (List Int))) : Option (Lp (Int × (List Int)) (List Int)) :=
sel (decide (v5.1 < 64)) (
req (0 ≤ v5.1 ∧ v5.1 < v5.2.length) <|
req (v5.1.toNat < v5.2.length) <|
bnd (spec_l09Down (wrapK .i64 ((v5.2.getD v5.1.toNat 0) + 32)) 64) fun q9 =>
req (0 ≤ v5.1 ∧ v5.1 < v5.2.length) <|
req (v5.1.toNat < v5.2.length) <|
some (.go (wrapK .i64 (v5.1 + 1), (v5.2.set v5.1.toNat q9)))) (
some (.done v5.2))
def spec_EightBack (p0 : (List Int)) : Option (List Int) :=
bnd (spec_l09All p0 64 10000000) fun q1 =>
sel (!q1) (
some ([] : List Int)) (
bnd (spec_l10Sums p0) fun q2 =>
bnd (loop (spec_EightBack_l2) (0, q2)) fun v8 =>
some v8)
def spec_ScaleOf_l2 (p0 : Int) (v12 : (Int × Int)) : Option (Lp (Int × Int) Int) :=
req ((6 : Int) ≠ 0) <|
sel (decide (v12.2 < (wrapK .i64 (p0.tdiv 6)))) (
some (.go (wrapK .i64 (2 * v12.1), wrapK .i64 (v12.2 + 1)))) (
some (.done v12.1))
def spec_ScaleOf (p0 : Int) (p1 : Int) : Option Int :=
bnd (spec_KindOf p1) fun q1 =>
bnd (
bnd (spec_l01In p0 0 40) fun q3 =>
sel q3 (
some (decide (q1 < 0))) (
some true)) fun v2 =>
sel v2 (
some 0) (
bnd (
req ((6 : Int) ≠ 0) <|
sel ((p0.tmod 6) == 0) (
bnd (spec_l08Pick q1 10 16 13) fun q5 =>
some q5) (
sel ((p0.tmod 6) == 1) (
bnd (spec_l08Pick q1 11 18 14) fun q6 =>
some q6) (
sel ((p0.tmod 6) == 2) (
bnd (spec_l08Pick q1 13 20 16) fun q7 =>
some q7) (
sel ((p0.tmod 6) == 3) (
bnd (spec_l08Pick q1 14 23 18) fun q8 =>
some q8) (
sel ((p0.tmod 6) == 4) (
bnd (spec_l08Pick q1 16 25 20) fun q9 =>
some q9) (
sel ((p0.tmod 6) == 5) (
bnd (spec_l08Pick q1 18 29 23) fun q10 =>
some q10) (
some 0))))))) fun v4 =>
bnd (loop (spec_ScaleOf_l2 p0) (v4, 0)) fun v14 =>
some v14)
def spec_SmallBack (p0 : Int) (p1 : Int) (p2 : Int) : Option Int :=
bnd (spec_l01In p0 (-5000) 5000) fun q1 =>
sel (!q1) (
some 0) (
bnd (spec_ScaleOf p1 p2) fun q2 =>
some (wrapK .i64 (p0 * q2)))
def spec_l09Backs_l2 (p0 : (List Int)) (v4 : (Int × (List Int))) : Option (Lp (Int × (List Int)) (List Int)) :=
sel (decide (v4.1 < 4)) (
req (0 ≤ (wrapK .i64 (4 * v4.1)) ∧ (wrapK .i64 (4 * v4.1)) < p0.length) <|
req (0 ≤ (wrapK .i64 ((wrapK .i64 (4 * v4.1)) + 1)) ∧ (wrapK .i64 ((wrapK .i64 (4 * v4.1)) + 1)) < p0.length) <|
req (0 ≤ (wrapK .i64 ((wrapK .i64 (4 * v4.1)) + 2)) ∧ (wrapK .i64 ((wrapK .i64 (4 * v4.1)) + 2)) < p0.length) <|
req (0 ≤ (wrapK .i64 ((wrapK .i64 (4 * v4.1)) + 3)) ∧ (wrapK .i64 ((wrapK .i64 (4 * v4.1)) + 3)) < p0.length) <|
bnd (spec_l09Down (p0.getD (wrapK .i64 ((wrapK .i64 (4 * v4.1)) + 1)).toNat 0) 2) fun q9 =>
bnd (spec_l09Down (p0.getD (wrapK .i64 ((wrapK .i64 (4 * v4.1)) + 3)).toNat 0) 2) fun q10 =>
req ((v4.2.length + ([wrapK .i64 ((wrapK .i64 ((p0.getD (wrapK .i64 (4 * v4.1)).toNat 0) + (p0.getD (wrapK .i64 ((wrapK .i64 (4 * v4.1)) + 2)).toNat 0))) + (wrapK .i64 ((p0.getD (wrapK .i64 ((wrapK .i64 (4 * v4.1)) + 1)).toNat 0) + q10))), wrapK .i64 ((wrapK .i64 ((p0.getD (wrapK .i64 (4 * v4.1)).toNat 0) - (p0.getD (wrapK .i64 ((wrapK .i64 (4 * v4.1)) + 2)).toNat 0))) + (wrapK .i64 (q9 - (p0.getD (wrapK .i64 ((wrapK .i64 (4 * v4.1)) + 3)).toNat 0)))), wrapK .i64 ((wrapK .i64 ((p0.getD (wrapK .i64 (4 * v4.1)).toNat 0) - (p0.getD (wrapK .i64 ((wrapK .i64 (4 * v4.1)) + 2)).toNat 0))) - (wrapK .i64 (q9 - (p0.getD (wrapK .i64 ((wrapK .i64 (4 * v4.1)) + 3)).toNat 0)))), wrapK .i64 ((wrapK .i64 ((p0.getD (wrapK .i64 (4 * v4.1)).toNat 0) + (p0.getD (wrapK .i64 ((wrapK .i64 (4 * v4.1)) + 2)).toNat 0))) - (wrapK .i64 ((p0.getD (wrapK .i64 ((wrapK .i64 (4 * v4.1)) + 1)).toNat 0) + q10)))]).length) * 8 ≤ 140737488355328 ∧ v4.2.length + ([wrapK .i64 ((wrapK .i64 ((p0.getD (wrapK .i64 (4 * v4.1)).toNat 0) + (p0.getD (wrapK .i64 ((wrapK .i64 (4 * v4.1)) + 2)).toNat 0))) + (wrapK .i64 ((p0.getD (wrapK .i64 ((wrapK .i64 (4 * v4.1)) + 1)).toNat 0) + q10))), wrapK .i64 ((wrapK .i64 ((p0.getD (wrapK .i64 (4 * v4.1)).toNat 0) - (p0.getD (wrapK .i64 ((wrapK .i64 (4 * v4.1)) + 2)).toNat 0))) + (wrapK .i64 (q9 - (p0.getD (wrapK .i64 ((wrapK .i64 (4 * v4.1)) + 3)).toNat 0)))), wrapK .i64 ((wrapK .i64 ((p0.getD (wrapK .i64 (4 * v4.1)).toNat 0) - (p0.getD (wrapK .i64 ((wrapK .i64 (4 * v4.1)) + 2)).toNat 0))) - (wrapK .i64 (q9 - (p0.getD (wrapK .i64 ((wrapK .i64 (4 * v4.1)) + 3)).toNat 0)))), wrapK .i64 ((wrapK .i64 ((p0.getD (wrapK .i64 (4 * v4.1)).toNat 0) + (p0.getD (wrapK .i64 ((wrapK .i64 (4 * v4.1)) + 2)).toNat 0))) - (wrapK .i64 ((p0.getD (wrapK .i64 ((wrapK .i64 (4 * v4.1)) + 1)).toNat 0) + q10)))]).length ≤ maxLen) <|
some (.go (wrapK .i64 (v4.1 + 1), (v4.2 ++ ([wrapK .i64 ((wrapK .i64 ((p0.getD (wrapK .i64 (4 * v4.1)).toNat 0) + (p0.getD (wrapK .i64 ((wrapK .i64 (4 * v4.1)) + 2)).toNat 0))) + (wrapK .i64 ((p0.getD (wrapK .i64 ((wrapK .i64 (4 * v4.1)) + 1)).toNat 0) + q10))), wrapK .i64 ((wrapK .i64 ((p0.getD (wrapK .i64 (4 * v4.1)).toNat 0) - (p0.getD (wrapK .i64 ((wrapK .i64 (4 * v4.1)) + 2)).toNat 0))) + (wrapK .i64 (q9 - (p0.getD (wrapK .i64 ((wrapK .i64 (4 * v4.1)) + 3)).toNat 0)))), wrapK .i64 ((wrapK .i64 ((p0.getD (wrapK .i64 (4 * v4.1)).toNat 0) - (p0.getD (wrapK .i64 ((wrapK .i64 (4 * v4.1)) + 2)).toNat 0))) - (wrapK .i64 (q9 - (p0.getD (wrapK .i64 ((wrapK .i64 (4 * v4.1)) + 3)).toNat 0)))), wrapK .i64 ((wrapK .i64 ((p0.getD (wrapK .i64 (4 * v4.1)).toNat 0) + (p0.getD (wrapK .i64 ((wrapK .i64 (4 * v4.1)) + 2)).toNat 0))) - (wrapK .i64 ((p0.getD (wrapK .i64 ((wrapK .i64 (4 * v4.1)) + 1)).toNat 0) + q10)))]))))) (
some (.done v4.2))
def spec_l09Backs (p0 : (List Int)) : Option (List Int) :=
bnd (loop (spec_l09Backs_l2 p0) (0, ([] : List Int))) fun v8 =>
some v8
def spec_FourBack_l2 (v8 : (Int × (List Int))) : Option (Lp (Int × (List Int)) (List Int)) :=
sel (decide (v8.1 < 16)) (
req (0 ≤ v8.1 ∧ v8.1 < v8.2.length) <|
req (v8.1.toNat < v8.2.length) <|
bnd (spec_l09Down (wrapK .i64 ((v8.2.getD v8.1.toNat 0) + 32)) 64) fun q12 =>
req (0 ≤ v8.1 ∧ v8.1 < v8.2.length) <|
req (v8.1.toNat < v8.2.length) <|
some (.go (wrapK .i64 (v8.1 + 1), (v8.2.set v8.1.toNat q12)))) (
some (.done v8.2))
def spec_FourBack (p0 : (List Int)) : Option (List Int) :=
bnd (spec_l09All p0 16 10000000) fun q1 =>
sel (!q1) (
some ([] : List Int)) (
bnd (spec_l09Backs p0) fun q2 =>
bnd (spec_l09Flip q2) fun q3 =>
bnd (spec_l09Backs q3) fun q4 =>
bnd (spec_l09Flip q4) fun q5 =>
bnd (loop (spec_FourBack_l2) (0, q5)) fun v11 =>
some v11)
def spec_LevelsBack_l4 (p1 : Cond) (v8 : (Int × (List Int))) : Option (Lp (Int × (List Int)) (List Int)) :=
sel (decide (v8.1 < 64)) (
req (0 ≤ v8.1 ∧ v8.1 < v8.2.length) <|
req (v8.1.toNat < v8.2.length) <|
bnd (spec_LargeBack (v8.2.getD v8.1.toNat 0) p1.Qp) fun q12 =>
req (0 ≤ v8.1 ∧ v8.1 < v8.2.length) <|
req (v8.1.toNat < v8.2.length) <|
some (.go (wrapK .i64 (v8.1 + 1), (v8.2.set v8.1.toNat q12)))) (
some (.done v8.2))
def spec_LevelsBack_l41 (p1 : Cond) (v52 : (Int × (List Int))) : Option (Lp (Int × (List Int)) (List Int)) :=
sel (decide (v52.1 < 16)) (
req (0 ≤ v52.1 ∧ v52.1 < v52.2.length) <|
req (v52.1.toNat < v52.2.length) <|
bnd (spec_SmallBack (v52.2.getD v52.1.toNat 0) p1.Qp v52.1) fun q56 =>
req (0 ≤ v52.1 ∧ v52.1 < v52.2.length) <|
req (v52.1.toNat < v52.2.length) <|
some (.go (wrapK .i64 (v52.1 + 1), (v52.2.set v52.1.toNat q56)))) (
some (.done v52.2))
def spec_LevelsBack_l42 (v31 : (Int × (List Int))) (q58 : (List Int)) (v60 : (Int × (List Int))) : Option (Lp (Int × (List Int)) (List Int)) :=
sel (decide (v60.1 < 16)) (
req ((2 : Int) ≠ 0) <|
req ((4 : Int) ≠ 0) <|
req ((2 : Int) ≠ 0) <|
req ((4 : Int) ≠ 0) <|
req (0 ≤ v60.1 ∧ v60.1 < q58.length) <|
req (v60.1.toNat < q58.length) <|
req (0 ≤ (wrapK .i64 ((wrapK .i64 ((wrapK .i64 (8 * (wrapK .i64 ((wrapK .i64 ((wrapK .i64 (v31.1.tdiv 2)) * 4)) + (wrapK .i64 (v60.1.tdiv 4)))))) + (wrapK .i64 ((v31.1.tmod 2) * 4)))) + (v60.1.tmod 4))) ∧ (wrapK .i64 ((wrapK .i64 ((wrapK .i64 (8 * (wrapK .i64 ((wrapK .i64 ((wrapK .i64 (v31.1.tdiv 2)) * 4)) + (wrapK .i64 (v60.1.tdiv 4)))))) + (wrapK .i64 ((v31.1.tmod 2) * 4)))) + (v60.1.tmod 4))) < v60.2.length) <|
req ((wrapK .i64 ((wrapK .i64 ((wrapK .i64 (8 * (wrapK .i64 ((wrapK .i64 ((wrapK .i64 (v31.1.tdiv 2)) * 4)) + (wrapK .i64 (v60.1.tdiv 4)))))) + (wrapK .i64 ((v31.1.tmod 2) * 4)))) + (v60.1.tmod 4))).toNat < v60.2.length) <|
some (.go (wrapK .i64 (v60.1 + 1), (v60.2.set ((wrapK .i64 ((wrapK .i64 ((wrapK .i64 (8 * (wrapK .i64 ((wrapK .i64 ((wrapK .i64 (v31.1.tdiv 2)) * 4)) + (wrapK .i64 (v60.1.tdiv 4)))))) + (wrapK .i64 ((v31.1.tmod 2) * 4)))) + (v60.1.tmod 4))).toNat) (q58.getD v60.1.toNat 0))))) (
some (.done v60.2))
def spec_LevelsBack_l36 (p0 : (List Int)) (p1 : Cond) (v31 : (Int × (List Int))) : Option (Lp (Int × (List Int)) (List Int)) :=
sel (decide (v31.1 < 4)) (
req (0 ≤ (wrapK .i64 (16 * v31.1)) ∧ (wrapK .i64 (16 * v31.1)) ≤ (wrapK .i64 ((wrapK .i64 (16 * v31.1)) + 16)) ∧ (wrapK .i64 ((wrapK .i64 (16 * v31.1)) + 16)) ≤ (p0.length : Int)) <|
bnd (spec_Unscanned 4 ((p0.drop (wrapK .i64 (16 * v31.1)).toNat).take ((wrapK .i64 ((wrapK .i64 (16 * v31.1)) + 16)).toNat - (wrapK .i64 (16 * v31.1)).toNat))) fun q49 =>
bnd (loop (spec_LevelsBack_l41 p1) (0, q49.1)) fun v55 =>
bnd (spec_FourBack v55) fun q58 =>
bnd (loop (spec_LevelsBack_l42 v31 q58) (0, v31.2)) fun v62 =>
some (.go (wrapK .i64 (v31.1 + 1), v62))) (
some (.done v31.2))
def spec_LevelsBack (p0 : (List Int)) (p1 : Cond) : Option ((List Int) × Bool) :=
bnd (
bnd (spec_CondOk p1) fun q2 =>
sel q2 (
bnd (spec_l09All p0 64 5000) fun q3 =>
some (!q3)) (
some true)) fun v1 =>
sel v1 (
some (([] : List Int), false)) (
sel p1.Exact (
bnd (spec_Unscanned 8 p0) fun q4 =>
some (q4.1, q4.2)) (
sel p1.Large (
bnd (spec_Unscanned 8 p0) fun q5 =>
bnd (loop (spec_LevelsBack_l4 p1) (0, q5.1)) fun v11 =>
bnd (spec_EightBack v11) fun q14 =>
some (q14, true)) (
req (0 ≤ (64 : Int) ∧ (64 : Int) ≤ (64 : Int) ∧ (64 : Int) * 8 ≤ 281474976710656) <|
bnd (loop (spec_LevelsBack_l36 p0 p1) (0, (List.replicate (64 : Int).toNat (0 : Int)))) fun v48 =>
some (v48, true))))
def spec_Joined_l2 (p0 : (List Int)) (p1 : (List Int)) (v6 : (Int × (List Int))) : Option (Lp (Int × (List Int)) (List Int)) :=
sel (decide (v6.1 < 64)) (
req (0 ≤ v6.1 ∧ v6.1 < p0.length) <|
req (0 ≤ v6.1 ∧ v6.1 < p1.length) <|
bnd (spec_Brought (wrapK .i64 ((p0.getD v6.1.toNat 0) + (p1.getD v6.1.toNat 0))) 0 255) fun q10 =>
req ((v6.2.length + ([q10]).length) * 8 ≤ 140737488355328 ∧ v6.2.length + ([q10]).length ≤ maxLen) <|
some (.go (wrapK .i64 (v6.1 + 1), (v6.2 ++ ([q10]))))) (
some (.done v6.2))
def spec_Joined (p0 : (List Int)) (p1 : (List Int)) : Option (List Int) :=
bnd (
bnd (spec_l13Dots p0) fun q2 =>
sel q2 (
bnd (spec_l09All p1 64 10000000) fun q3 =>
some (!q3)) (
some true)) fun v1 =>
sel v1 (
some ([] : List Int)) (
bnd (loop (spec_Joined_l2 p0 p1) (0, ([] : List Int))) fun v9 =>
some v9)
def spec_SquareDots (p0 : Pic) (p1 : Pic) (p2 : Int) (p3 : Int) (p4 : Cond) (p5 : Int) (p6 : Int) (p7 : Square) : Option ((List Int) × Bool) :=
bnd (
bnd (spec_l13Fits p0 p5 p6) fun q2 =>
sel q2 (
bnd (spec_l01In p2 0 256) fun q3 =>
sel q3 (
bnd (spec_l01In p3 0 256) fun q4 =>
sel q4 (
bnd (spec_SquareOk p7) fun q5 =>
sel q5 (
bnd (spec_CondOk p4) fun q6 =>
some (!q6)) (
some true)) (
some true)) (
some true)) (
some true)) fun v1 =>
sel v1 (
some (([] : List Int), false)) (
sel (p7.Kind == 2) (
bnd (spec_EdgesOf p0 p5 p6) fun q7 =>
bnd (spec_LevelsBack p7.Levels p4) fun q8 =>
bnd (spec_GuessOf p7.Mode q7.1) fun q9 =>
bnd (spec_Joined q9 q8.1) fun q10 =>
some (q10, true)) (
bnd (
sel p4.Key (
some true) (
bnd (spec_PicOk p1) fun q12 =>
some (!q12))) fun v11 =>
sel v11 (
some (([] : List Int), false)) (
bnd (spec_BlockOf p1 (wrapK .i64 ((wrapK .i64 (p2 + p5)) + p7.Dx)) (wrapK .i64 ((wrapK .i64 (p3 + p6)) + p7.Dy))) fun q13 =>
sel (p7.Kind == 0) (
some (q13, true)) (
bnd (spec_LevelsBack p7.Levels p4) fun q14 =>
bnd (spec_Joined q13 q14.1) fun q15 =>
some (q15, true)))))
def spec_SquareFor (p0 : Pic) (p1 : Pic) (p2 : (List Int)) (p3 : Int) (p4 : Int) (p5 : Cond) (p6 : Int) : Option (Square × (List Int) × Bool) :=
bnd (
bnd (spec_l13Fits p0 p3 p4) fun q2 =>
sel q2 (
bnd (spec_l13Dots p2) fun q3 =>
sel q3 (
bnd (spec_CondOk p5) fun q4 =>
sel q4 (
bnd (spec_l01In p6 0 4) fun q5 =>
sel q5 (
sel p5.Key (
some false) (
bnd (spec_l17Like p0 p1) fun q6 =>
some (!q6))) (
some true)) (
some true)) (
some true)) (
some true)) fun v1 =>
sel v1 (
some ((⟨0, 0, 0, 0, []⟩ : Square), ([] : List Int), false)) (
bnd (spec_l17Square p0 p1 p2 p3 p4 p5 p6) fun q7 =>
bnd (spec_SquareDots p0 p1 0 0 p5 p3 p4 q7) fun q8 =>
some (q7, q8.1, true))
def impl_within (p0 : Int) (p1 : Int) (p2 : Int) : Option Bool :=
bnd (
sel (decide (p0 ≥ p1)) (
some (decide (p0 ≤ p2))) (
some false)) fun v1 =>
some v1
def impl_PicOk (p0 : Pic) : Option Bool :=
bnd (
bnd (impl_within p0.Wide 1 256) fun q2 =>
sel q2 (
bnd (impl_within p0.High 1 256) fun q3 =>
sel q3 (
some ((p0.Dots.size : Int) == (wrapK .i64 (p0.Wide * p0.High)))) (
some false)) (
some false)) fun v1 =>
some v1
def impl_Pic_isSquare (p0 : Pic) (p1 : Int) (p2 : Int) : Option Bool :=
bnd (
req ((8 : Int) ≠ 0) <|
sel ((p1.tmod 8) == 0) (
req ((8 : Int) ≠ 0) <|
sel ((p2.tmod 8) == 0) (
bnd (impl_within p1 0 (wrapK .i64 (p0.Wide - 8))) fun q2 =>
sel q2 (
bnd (impl_within p2 0 (wrapK .i64 (p0.High - 8))) fun q3 =>
some q3) (
some false)) (
some false)) (
some false)) fun v1 =>
some v1
def impl_areIn_l2 (p0 : (List Int)) (p2 : Int) (p3 : Int) (v3 : Int) : Option (Lp Int (Ou Unit Bool)) :=
sel (decide (v3 < (p0.length : Int))) (
req (0 ≤ v3 ∧ v3 < p0.length) <|
bnd (impl_within (p0.getD v3.toNat 0) p2 p3) fun q7 =>
sel (!q7) (
some (.done (.ret false))) (
some (.go (wrapK .i64 (v3 + 1))))) (
some (.done (.out ())))
def impl_areIn (p0 : (List Int)) (p1 : Int) (p2 : Int) (p3 : Int) : Option Bool :=
bnd (loop (impl_areIn_l2 p0 p2 p3) 0) fun o8 => match o8 with
| .out v6 => (
some ((p0.length : Int) == p1))
| .ret r => some r
def impl_CondOk (p0 : Cond) : Option Bool :=
bnd (
bnd (impl_within p0.Qp 0 40) fun q2 =>
sel q2 (
sel p0.Large (
some (!p0.Exact)) (
some true)) (
some false)) fun v1 =>
some v1
def impl_Brought (p0 : Int) (p1 : Int) (p2 : Int) : Option Int :=
some (if (if p2 < p0 then p2 else p0) > p1 then (if p2 < p0 then p2 else p0) else p1)
def impl_Pic_dot (p0 : Pic) (p1 : Int) (p2 : Int) : Option Int :=
bnd (impl_Brought p2 0 (wrapK .i64 (p0.High - 1))) fun q1 =>
bnd (impl_Brought p1 0 (wrapK .i64 (p0.Wide - 1))) fun q2 =>
req (0 ≤ (wrapK .i64 ((wrapK .i64 (q1 * p0.Wide)) + q2)) ∧ (wrapK .i64 ((wrapK .i64 (q1 * p0.Wide)) + q2)) < p0.Dots.size) <|
some (wrapK .i64 ((btOf p0.Dots (wrapK .i64 ((wrapK .i64 (q1 * p0.Wide)) + q2)))))
def impl_EdgesOf_l2 (p0 : Pic) (p1 : Int) (p2 : Int) (v9 : (Int × (List Int) × (List Int))) : Option (Lp (Int × (List Int) × (List Int)) ((List Int) × (List Int))) :=
sel (decide (v9.1 < 8)) (
bnd (
bnd (
sel (decide (p2 > 0)) (
bnd (impl_Pic_dot p0 (wrapK .i64 (p1 + v9.1)) (wrapK .i64 (p2 - 1))) fun q18 =>
req ((v9.2.1.length + ([q18]).length) * 8 ≤ 140737488355328 ∧ v9.2.1.length + ([q18]).length ≤ maxLen) <|
some (v9.2.1 ++ ([q18]))) (
some v9.2.1)) fun v17 =>
sel (decide (p1 > 0)) (
bnd (impl_Pic_dot p0 (wrapK .i64 (p1 - 1)) (wrapK .i64 (p2 + v9.1))) fun q19 =>
req ((v9.2.2.length + ([q19]).length) * 8 ≤ 140737488355328 ∧ v9.2.2.length + ([q19]).length ≤ maxLen) <|
some (v17, (v9.2.2 ++ ([q19])))) (
some (v17, v9.2.2))) fun v16 =>
some (.go (wrapK .i64 (v9.1 + 1), v16.1, v16.2))) (
some (.done (v9.2.1, v9.2.2)))
def impl_EdgesOf (p0 : Pic) (p1 : Int) (p2 : Int) : Option (Edges × Bool) :=
bnd (
bnd (impl_PicOk p0) fun q2 =>
sel q2 (
bnd (impl_Pic_isSquare p0 p1 p2) fun q3 =>
some (!q3)) (
some true)) fun v1 =>
sel v1 (
some ((⟨[], [], 0⟩ : Edges), false)) (
bnd (loop (impl_EdgesOf_l2 p0 p1 p2) (0, [], [])) fun v15 =>
bnd (
bnd (
sel (decide (p1 > 0)) (
some (decide (p2 > 0))) (
some false)) fun v22 =>
sel v22 (
bnd (impl_Pic_dot p0 (wrapK .i64 (p1 - 1)) (wrapK .i64 (p2 - 1))) fun q23 =>
some q23) (
some (-1))) fun v21 =>
some ((⟨v15.1, v15.2, v21⟩ : Edges), true))
def impl_EdgesOk_l2 (p0 : Edges) (v4 : Int) : Option (Lp Int (Ou Unit Bool)) :=
sel (decide (v4 < (([p0.Above, p0.Left]).length : Int))) (
req (0 ≤ v4 ∧ v4 < ([p0.Above, p0.Left]).length) <|
req (v4.toNat < ([p0.Above, p0.Left]).length) <|
bnd (
sel (decide (((([p0.Above, p0.Left]).getD v4.toNat dLInti64).length : Int) > 0)) (
bnd (impl_areIn (([p0.Above, p0.Left]).getD v4.toNat dLInti64) 8 0 255) fun q10 =>
some (!q10)) (
some false)) fun v9 =>
sel v9 (
some (.done (.ret false))) (
some (.go (wrapK .i64 (v4 + 1))))) (
some (.done (.out ())))
def impl_EdgesOk (p0 : Edges) : Option Bool :=
bnd (loop (impl_EdgesOk_l2 p0) 0) fun o11 => match o11 with
| .out v8 => (
bnd (impl_within p0.Corner (-1) 255) fun q12 =>
some q12)
| .ret r => some r
def impl_sumOf_l2 (p0 : (List Int)) (v2 : (Int × Int)) : Option (Lp (Int × Int) Int) :=
sel (decide (v2.2 < (p0.length : Int))) (
req (0 ≤ v2.2 ∧ v2.2 < p0.length) <|
some (.go (wrapK .i64 (v2.1 + (p0.getD v2.2.toNat 0)), wrapK .i64 (v2.2 + 1)))) (
some (.done v2.1))
def impl_sumOf (p0 : (List Int)) : Option Int :=
bnd (loop (impl_sumOf_l2 p0) (0, 0)) fun v4 =>
some v4
def impl_orGrey (p0 : (List Int)) : Option (List Int) :=
sel ((p0.length : Int) == 0) (
some ([128, 128, 128, 128, 128, 128, 128, 128])) (
some p0)
def impl_GuessOf_l14 (p0 : Int) (v4 : Int) (q7 : (List Int)) (q8 : (List Int)) (v9 : Int) (v22 : (Int × (List Int))) (v39 : (Int × (List Int))) : Option (Lp (Int × (List Int)) (List Int)) :=
sel (decide (v39.1 < 8)) (
bnd (
sel (p0 == 0) (
req ((v39.2.length + ([v4]).length) * 8 ≤ 140737488355328 ∧ v39.2.length + ([v4]).length ≤ maxLen) <|
some (v39.2 ++ ([v4]))) (
sel (p0 == 1) (
req (0 ≤ v39.1 ∧ v39.1 < q7.length) <|
req ((v39.2.length + ([(q7.getD v39.1.toNat 0)]).length) * 8 ≤ 140737488355328 ∧ v39.2.length + ([(q7.getD v39.1.toNat 0)]).length ≤ maxLen) <|
some (v39.2 ++ ([(q7.getD v39.1.toNat 0)]))) (
sel (p0 == 2) (
req (0 ≤ v22.1 ∧ v22.1 < q8.length) <|
req ((v39.2.length + ([(q8.getD v22.1.toNat 0)]).length) * 8 ≤ 140737488355328 ∧ v39.2.length + ([(q8.getD v22.1.toNat 0)]).length ≤ maxLen) <|
some (v39.2 ++ ([(q8.getD v22.1.toNat 0)]))) (
req (0 ≤ v22.1 ∧ v22.1 < q8.length) <|
req (0 ≤ v39.1 ∧ v39.1 < q7.length) <|
bnd (impl_Brought (wrapK .i64 ((wrapK .i64 ((q8.getD v22.1.toNat 0) + (q7.getD v39.1.toNat 0))) - v9)) 0 255) fun q45 =>
req ((v39.2.length + ([q45]).length) * 8 ≤ 140737488355328 ∧ v39.2.length + ([q45]).length ≤ maxLen) <|
some (v39.2 ++ ([q45])))))) fun v44 =>
some (.go (wrapK .i64 (v39.1 + 1), v44))) (
some (.done v39.2))
def impl_GuessOf_l12 (p0 : Int) (v4 : Int) (q7 : (List Int)) (q8 : (List Int)) (v9 : Int) (v22 : (Int × (List Int))) : Option (Lp (Int × (List Int)) (List Int)) :=
sel (decide (v22.1 < 8)) (
bnd (loop (impl_GuessOf_l14 p0 v4 q7 q8 v9 v22) (0, v22.2)) fun v43 =>
some (.go (wrapK .i64 (v22.1 + 1), v43))) (
some (.done v22.2))
def impl_GuessOf (p0 : Int) (p1 : Edges) : Option (List Int) :=
bnd (
bnd (impl_EdgesOk p1) fun q2 =>
sel q2 (
bnd (impl_within p0 0 3) fun q3 =>
some (!q3)) (
some true)) fun v1 =>
sel v1 (
some ([] : List Int)) (
bnd (
sel (decide ((wrapK .i64 ((p1.Above.length : Int) + (p1.Left.length : Int))) > 0)) (
bnd (impl_sumOf p1.Above) fun q5 =>
bnd (impl_sumOf p1.Left) fun q6 =>
req ((2 : Int) ≠ 0) <|
req ((wrapK .i64 ((p1.Above.length : Int) + (p1.Left.length : Int))) ≠ 0) <|
some (wrapK .i64 ((wrapK .i64 ((wrapK .i64 (q5 + q6)) + (wrapK .i64 ((wrapK .i64 ((p1.Above.length : Int) + (p1.Left.length : Int))).tdiv 2)))).tdiv (wrapK .i64 ((p1.Above.length : Int) + (p1.Left.length : Int)))))) (
some 128)) fun v4 =>
bnd (impl_orGrey p1.Above) fun q7 =>
bnd (impl_orGrey p1.Left) fun q8 =>
bnd (
sel (decide (p1.Corner < 0)) (
some 128) (
some p1.Corner)) fun v9 =>
bnd (loop (impl_GuessOf_l12 p0 v4 q7 q8 v9) (0, ([] : List Int))) fun v35 =>
some v35)
def impl_size (p0 : Int) : Option Int :=
some (if (wrapK .i64 (0 - p0)) > p0 then (wrapK .i64 (0 - p0)) else p0)
def impl_gap_l2 (p0 : (List Int)) (p1 : (List Int)) (v3 : (Int × Int)) : Option (Lp (Int × Int) Int) :=
sel (decide (v3.2 < (p0.length : Int))) (
req (0 ≤ v3.2 ∧ v3.2 < p0.length) <|
req (0 ≤ v3.2 ∧ v3.2 < p1.length) <|
bnd (impl_size (wrapK .i64 ((p0.getD v3.2.toNat 0) - (p1.getD v3.2.toNat 0)))) fun q7 =>
some (.go (wrapK .i64 (v3.1 + q7), wrapK .i64 (v3.2 + 1)))) (
some (.done v3.1))
def impl_gap (p0 : (List Int)) (p1 : (List Int)) : Option Int :=
bnd (loop (impl_gap_l2 p0 p1) (0, 0)) fun v6 =>
some v6
def impl_figuresOf_l2 (v2 : (Int × Int)) : Option (Lp (Int × Int) Int) :=
sel (decide (v2.1 > 0)) (
req (0 ≤ (1 : Int)) <|
some (.go ((v2.1 / 2 ^ min (1 : Int).toNat (IntKind.bits .i64)), wrapK .i64 (v2.2 + 1)))) (
some (.done v2.2))
def impl_figuresOf (p0 : Int) : Option Int :=
bnd (loop (impl_figuresOf_l2) (p0, 0)) fun v4 =>
some v4
def impl_signs_l2 (v2 : (Int × Int × (List Int))) : Option (Lp (Int × Int × (List Int)) (List Int)) :=
sel (decide (v2.2.1 ≥ 0)) (
req (0 ≤ v2.2.1 ∧ v2.2.1 < v2.2.2.length) <|
req (v2.2.1.toNat < v2.2.2.length) <|
req (0 ≤ (1 : Int)) <|
some (.go ((v2.1 / 2 ^ min (1 : Int).toNat (IntKind.bits .i64)), wrapK .i64 (v2.2.1 - 1), (v2.2.2.set v2.2.1.toNat (wrapK .u8 (wrapK .i64 (48 + (IntKind.wrap .i64 (BitVec.ofInt (IntKind.bits .i64) v2.1 &&& BitVec.ofInt (IntKind.bits .i64) 1).toNat)))))))) (
some (.done v2.2.2))
def impl_signs (p0 : Int) (p1 : Int) : Option ByteArray :=
req (0 ≤ p1 ∧ p1 ≤ p1 ∧ p1 * 1 ≤ 281474976710656) <|
bnd (loop (impl_signs_l2) (p0, wrapK .i64 (p1 - 1), (List.replicate p1.toNat (0 : Int)))) fun v4 =>
some (strOfNums v4)
def impl_ue (p0 : Int) : Option ByteArray :=
bnd (impl_figuresOf (wrapK .i64 (p0 + 1))) fun q1 =>
bnd (impl_signs (wrapK .i64 (p0 + 1)) (wrapK .i64 ((wrapK .i64 (2 * q1)) - 1))) fun q2 =>
some q2
def impl_UeRow (p0 : Int) : Option (ByteArray × Bool) :=
bnd (impl_within p0 0 1000000) fun q1 =>
sel (!q1) (
some (⟨#[]⟩, false)) (
bnd (impl_ue p0) fun q2 =>
some (q2, true))
def impl_UeSize (p0 : Int) : Option Int :=
bnd (impl_UeRow p0) fun q1 =>
some (q1.1.size : Int)
def impl_BestGuess_l2 (p0 : (List Int)) (p1 : Edges) (v16 : (Int × Int × Int)) : Option (Lp (Int × Int × Int) (Int × Int)) :=
sel (decide (v16.2.2 ≤ 3)) (
bnd (
bnd (impl_GuessOf v16.2.2 p1) fun q25 =>
bnd (impl_gap p0 q25) fun q26 =>
bnd (impl_UeSize v16.2.2) fun q27 =>
bnd (
sel (decide (v16.2.1 < 0)) (
some true) (
some (decide ((wrapK .i64 (q26 + q27)) < v16.2.1)))) fun v28 =>
sel v28 (
some (v16.2.2, wrapK .i64 (q26 + q27))) (
some (v16.1, v16.2.1))) fun v24 =>
some (.go (v24.1, v24.2, wrapK .i64 (v16.2.2 + 1)))) (
some (.done (v16.1, v16.2.1)))
def impl_BestGuess (p0 : (List Int)) (p1 : Edges) : Option (Int × Int) :=
bnd (
bnd (impl_EdgesOk p1) fun q2 =>
sel q2 (
bnd (impl_areIn p0 64 0 255) fun q3 =>
some (!q3)) (
some true)) fun v1 =>
sel v1 (
some (0, (-1))) (
bnd (loop (impl_BestGuess_l2 p0 p1) (0, (-1), 0)) fun v23 =>
some (v23.1, v23.2))
def impl_lessened_l2 (p0 : (List Int)) (p1 : (List Int)) (v2 : (Int × (List Int))) : Option (Lp (Int × (List Int)) (List Int)) :=
sel (decide (v2.1 < (p0.length : Int))) (
req (0 ≤ v2.1 ∧ v2.1 < p0.length) <|
req (0 ≤ v2.1 ∧ v2.1 < p1.length) <|
req ((v2.2.length + ([wrapK .i64 ((p0.getD v2.1.toNat 0) - (p1.getD v2.1.toNat 0))]).length) * 8 ≤ 140737488355328 ∧ v2.2.length + ([wrapK .i64 ((p0.getD v2.1.toNat 0) - (p1.getD v2.1.toNat 0))]).length ≤ maxLen) <|
some (.go (wrapK .i64 (v2.1 + 1), (v2.2 ++ ([wrapK .i64 ((p0.getD v2.1.toNat 0) - (p1.getD v2.1.toNat 0))]))))) (
some (.done v2.2))
def impl_lessened (p0 : (List Int)) (p1 : (List Int)) : Option (List Int) :=
bnd (loop (impl_lessened_l2 p0 p1) (0, ([] : List Int))) fun v4 =>
some v4
def impl_scanOrder_l14 (p0 : Int) (v16 : (Int × (List Int))) (v37 : (Int × (List Int))) : Option (Lp (Int × (List Int)) (List Int)) :=
sel (decide (v37.1 ≤ v16.1)) (
bnd (
bnd (
req ((2 : Int) ≠ 0) <|
sel ((v16.1.tmod 2) == 0) (
some (wrapK .i64 (v16.1 - v37.1))) (
some v37.1)) fun v44 =>
bnd (
sel (decide (v44 < p0)) (
some (decide ((wrapK .i64 (v16.1 - v44)) < p0))) (
some false)) fun v45 =>
sel v45 (
req ((v37.2.length + ([wrapK .i64 ((wrapK .i64 (v44 * p0)) + (wrapK .i64 (v16.1 - v44)))]).length) * 8 ≤ 140737488355328 ∧ v37.2.length + ([wrapK .i64 ((wrapK .i64 (v44 * p0)) + (wrapK .i64 (v16.1 - v44)))]).length ≤ maxLen) <|
some (v37.2 ++ ([wrapK .i64 ((wrapK .i64 (v44 * p0)) + (wrapK .i64 (v16.1 - v44)))]))) (
some v37.2)) fun v43 =>
some (.go (wrapK .i64 (v37.1 + 1), v43))) (
some (.done v37.2))
def impl_scanOrder_l12 (p0 : Int) (v16 : (Int × (List Int))) : Option (Lp (Int × (List Int)) (List Int)) :=
sel (decide (v16.1 ≤ (wrapK .i64 ((wrapK .i64 (2 * p0)) - 2)))) (
bnd (loop (impl_scanOrder_l14 p0 v16) (0, v16.2)) fun v42 =>
some (.go (wrapK .i64 (v16.1 + 1), v42))) (
some (.done v16.2))
def impl_scanOrder (p0 : Int) : Option (List Int) :=
bnd (loop (impl_scanOrder_l12 p0) (0, ([] : List Int))) fun v32 =>
some v32
def impl_Scanned_l2 (p1 : (List Int)) (q2 : (List Int)) (v4 : (Int × (List Int))) : Option (Lp (Int × (List Int)) (List Int)) :=
sel (decide (v4.1 < (q2.length : Int))) (
req (0 ≤ v4.1 ∧ v4.1 < q2.length) <|
req (v4.1.toNat < q2.length) <|
req (0 ≤ (q2.getD v4.1.toNat 0) ∧ (q2.getD v4.1.toNat 0) < p1.length) <|
req ((v4.2.length + ([(p1.getD (q2.getD v4.1.toNat 0).toNat 0)]).length) * 8 ≤ 140737488355328 ∧ v4.2.length + ([(p1.getD (q2.getD v4.1.toNat 0).toNat 0)]).length ≤ maxLen) <|
some (.go (wrapK .i64 (v4.1 + 1), (v4.2 ++ ([(p1.getD (q2.getD v4.1.toNat 0).toNat 0)]))))) (
some (.done v4.2))
def impl_Scanned (p0 : Int) (p1 : (List Int)) : Option ((List Int) × Bool) :=
bnd (
sel (p0 != 4) (
sel (p0 != 8) (
some true) (
some ((p1.length : Int) != (wrapK .i64 (p0 * p0))))) (
some ((p1.length : Int) != (wrapK .i64 (p0 * p0))))) fun v1 =>
sel v1 (
some (([] : List Int), false)) (
bnd (impl_scanOrder p0) fun q2 =>
bnd (loop (impl_Scanned_l2 p1 q2) (0, ([] : List Int))) fun v6 =>
some (v6, true))
def impl_SignOf (p0 : Int) (p1 : Int) : Option Int :=
bnd (
bnd (impl_within p0 0 7) fun q2 =>
sel q2 (
bnd (impl_within p1 0 7) fun q3 =>
some (!q3)) (
some true)) fun v1 =>
sel v1 (
some 0) (
req (0 ≤ (1 : Int)) <|
req (0 ≤ (2 : Int)) <|
req ((2 : Int) ≠ 0) <|
sel (((wrapK .i64 ((wrapK .i64 ((IntKind.wrap .i64 (BitVec.ofInt (IntKind.bits .i64) (IntKind.wrap .i64 (BitVec.ofInt (IntKind.bits .i64) p0 &&& BitVec.ofInt (IntKind.bits .i64) p1).toNat) &&& BitVec.ofInt (IntKind.bits .i64) 1).toNat) + (IntKind.wrap .i64 (BitVec.ofInt (IntKind.bits .i64) ((IntKind.wrap .i64 (BitVec.ofInt (IntKind.bits .i64) p0 &&& BitVec.ofInt (IntKind.bits .i64) p1).toNat) / 2 ^ min (1 : Int).toNat (IntKind.bits .i64)) &&& BitVec.ofInt (IntKind.bits .i64) 1).toNat))) + (IntKind.wrap .i64 (BitVec.ofInt (IntKind.bits .i64) ((IntKind.wrap .i64 (BitVec.ofInt (IntKind.bits .i64) p0 &&& BitVec.ofInt (IntKind.bits .i64) p1).toNat) / 2 ^ min (2 : Int).toNat (IntKind.bits .i64)) &&& BitVec.ofInt (IntKind.bits .i64) 1).toNat))).tmod 2) == 0) (
some 1) (
some (-1)))
def impl_sums_l86 (p0 : (List Int)) (v31 : (Int × (List Int))) (v72 : (Int × (List Int))) (v85 : (Int × (List Int))) : Option (Lp (Int × (List Int)) (List Int)) :=
sel (decide (v85.1 < 8)) (
req (0 ≤ (wrapK .i64 ((wrapK .i64 (8 * v31.1)) + v72.1)) ∧ (wrapK .i64 ((wrapK .i64 (8 * v31.1)) + v72.1)) < v85.2.length) <|
req ((wrapK .i64 ((wrapK .i64 (8 * v31.1)) + v72.1)).toNat < v85.2.length) <|
bnd (impl_SignOf v72.1 v85.1) fun q89 =>
req (0 ≤ (wrapK .i64 ((wrapK .i64 (8 * v31.1)) + v85.1)) ∧ (wrapK .i64 ((wrapK .i64 (8 * v31.1)) + v85.1)) < p0.length) <|
req (0 ≤ (wrapK .i64 ((wrapK .i64 (8 * v31.1)) + v72.1)) ∧ (wrapK .i64 ((wrapK .i64 (8 * v31.1)) + v72.1)) < v85.2.length) <|
req ((wrapK .i64 ((wrapK .i64 (8 * v31.1)) + v72.1)).toNat < v85.2.length) <|
some (.go (wrapK .i64 (v85.1 + 1), (v85.2.set ((wrapK .i64 ((wrapK .i64 (8 * v31.1)) + v72.1)).toNat) (wrapK .i64 ((v85.2.getD ((wrapK .i64 ((wrapK .i64 (8 * v31.1)) + v72.1)).toNat) 0) + (wrapK .i64 (q89 * (p0.getD (wrapK .i64 ((wrapK .i64 (8 * v31.1)) + v85.1)).toNat 0))))))))) (
some (.done v85.2))
def impl_sums_l84 (p0 : (List Int)) (v31 : (Int × (List Int))) (v72 : (Int × (List Int))) : Option (Lp (Int × (List Int)) (List Int)) :=
sel (decide (v72.1 < 8)) (
bnd (loop (impl_sums_l86 p0 v31 v72) (0, v72.2)) fun v88 =>
some (.go (wrapK .i64 (v72.1 + 1), v88))) (
some (.done v72.2))
def impl_sums_l72 (p0 : (List Int)) (v31 : (Int × (List Int))) : Option (Lp (Int × (List Int)) (List Int)) :=
sel (decide (v31.1 < 8)) (
bnd (loop (impl_sums_l84 p0 v31) (0, v31.2)) fun v82 =>
some (.go (wrapK .i64 (v31.1 + 1), v82))) (
some (.done v31.2))
def impl_sums_l172 (v62 : (List Int)) (v123 : (Int × (List Int))) (v164 : (Int × (List Int))) (v177 : (Int × (List Int))) : Option (Lp (Int × (List Int)) (List Int)) :=
sel (decide (v177.1 < 8)) (
req (0 ≤ (wrapK .i64 ((wrapK .i64 (8 * v123.1)) + v164.1)) ∧ (wrapK .i64 ((wrapK .i64 (8 * v123.1)) + v164.1)) < v177.2.length) <|
req ((wrapK .i64 ((wrapK .i64 (8 * v123.1)) + v164.1)).toNat < v177.2.length) <|
bnd (impl_SignOf v123.1 v177.1) fun q181 =>
req (0 ≤ (wrapK .i64 ((wrapK .i64 (8 * v177.1)) + v164.1)) ∧ (wrapK .i64 ((wrapK .i64 (8 * v177.1)) + v164.1)) < v62.length) <|
req ((wrapK .i64 ((wrapK .i64 (8 * v177.1)) + v164.1)).toNat < v62.length) <|
req (0 ≤ (wrapK .i64 ((wrapK .i64 (8 * v123.1)) + v164.1)) ∧ (wrapK .i64 ((wrapK .i64 (8 * v123.1)) + v164.1)) < v177.2.length) <|
req ((wrapK .i64 ((wrapK .i64 (8 * v123.1)) + v164.1)).toNat < v177.2.length) <|
some (.go (wrapK .i64 (v177.1 + 1), (v177.2.set ((wrapK .i64 ((wrapK .i64 (8 * v123.1)) + v164.1)).toNat) (wrapK .i64 ((v177.2.getD ((wrapK .i64 ((wrapK .i64 (8 * v123.1)) + v164.1)).toNat) 0) + (wrapK .i64 (q181 * (v62.getD ((wrapK .i64 ((wrapK .i64 (8 * v177.1)) + v164.1)).toNat) 0))))))))) (
some (.done v177.2))
def impl_sums_l170 (v62 : (List Int)) (v123 : (Int × (List Int))) (v164 : (Int × (List Int))) : Option (Lp (Int × (List Int)) (List Int)) :=
sel (decide (v164.1 < 8)) (
bnd (loop (impl_sums_l172 v62 v123 v164) (0, v164.2)) fun v180 =>
some (.go (wrapK .i64 (v164.1 + 1), v180))) (
some (.done v164.2))
def impl_sums_l158 (v62 : (List Int)) (v123 : (Int × (List Int))) : Option (Lp (Int × (List Int)) (List Int)) :=
sel (decide (v123.1 < 8)) (
bnd (loop (impl_sums_l170 v62 v123) (0, v123.2)) fun v174 =>
some (.go (wrapK .i64 (v123.1 + 1), v174))) (
some (.done v123.2))
def impl_sums (p0 : (List Int)) : Option (List Int) :=
req (0 ≤ (64 : Int) ∧ (64 : Int) ≤ (64 : Int) ∧ (64 : Int) * 8 ≤ 281474976710656) <|
bnd (loop (impl_sums_l72 p0) (0, (List.replicate (64 : Int).toNat (0 : Int)))) fun v62 =>
req (0 ≤ (64 : Int) ∧ (64 : Int) ≤ (64 : Int) ∧ (64 : Int) * 8 ≤ 281474976710656) <|
bnd (loop (impl_sums_l158 v62) (0, (List.replicate (64 : Int).toNat (0 : Int)))) fun v154 =>
some v154
def impl_Eight (p0 : (List Int)) : Option (List Int) :=
bnd (impl_areIn p0 64 (-1000) 1000) fun q1 =>
sel (!q1) (
some ([] : List Int)) (
bnd (impl_sums p0) fun q2 =>
some q2)
def impl_StepOf (p0 : Int) : Option Int :=
bnd (impl_within p0 0 40) fun q1 =>
sel (!q1) (
some 0) (
req ((6 : Int) ≠ 0) <|
req (0 ≤ (p0.tmod 6) ∧ (p0.tmod 6) < ([10, 11, 13, 14, 16, 18]).length) <|
req ((p0.tmod 6).toNat < ([10, 11, 13, 14, 16, 18]).length) <|
req ((6 : Int) ≠ 0) <|
req (0 ≤ (wrapK .i64 (p0.tdiv 6))) <|
some (wrapK .i64 ((([10, 11, 13, 14, 16, 18]).getD ((p0.tmod 6).toNat) 0) * 2 ^ min (wrapK .i64 (p0.tdiv 6)).toNat (IntKind.bits .i64))))
def impl_signed (p0 : Int) (p1 : Int) : Option Int :=
sel (decide (p1 < 0)) (
some (wrapK .i64 (0 - p0))) (
some p0)
def impl_LargeLevel (p0 : Int) (p1 : Int) : Option Int :=
bnd (
bnd (impl_within p0 (-20000) 20000) fun q2 =>
sel q2 (
bnd (impl_within p1 0 40) fun q3 =>
some (!q3)) (
some true)) fun v1 =>
sel v1 (
some 0) (
bnd (impl_StepOf p1) fun q4 =>
bnd (impl_size p0) fun q5 =>
req ((2 : Int) ≠ 0) <|
req (q4 ≠ 0) <|
bnd (impl_signed (wrapK .i64 ((wrapK .i64 (q5 + (wrapK .i64 (q4.tdiv 2)))).tdiv q4)) p0) fun q6 =>
some q6)
def impl_quarter_l14 (p0 : Int) (v7 : (Int × (List Int))) (v16 : (Int × (List Int))) : Option (Lp (Int × (List Int)) (List Int)) :=
sel (decide (v16.1 < 4)) (
req ((2 : Int) ≠ 0) <|
req ((2 : Int) ≠ 0) <|
req ((v16.2.length + ([wrapK .i64 ((wrapK .i64 ((wrapK .i64 ((wrapK .i64 (v7.1 + (wrapK .i64 ((wrapK .i64 (p0.tdiv 2)) * 4)))) * 8)) + v16.1)) + (wrapK .i64 ((p0.tmod 2) * 4)))]).length) * 8 ≤ 140737488355328 ∧ v16.2.length + ([wrapK .i64 ((wrapK .i64 ((wrapK .i64 ((wrapK .i64 (v7.1 + (wrapK .i64 ((wrapK .i64 (p0.tdiv 2)) * 4)))) * 8)) + v16.1)) + (wrapK .i64 ((p0.tmod 2) * 4)))]).length ≤ maxLen) <|
some (.go (wrapK .i64 (v16.1 + 1), (v16.2 ++ ([wrapK .i64 ((wrapK .i64 ((wrapK .i64 ((wrapK .i64 (v7.1 + (wrapK .i64 ((wrapK .i64 (p0.tdiv 2)) * 4)))) * 8)) + v16.1)) + (wrapK .i64 ((p0.tmod 2) * 4)))]))))) (
some (.done v16.2))
def impl_quarter_l12 (p0 : Int) (v7 : (Int × (List Int))) : Option (Lp (Int × (List Int)) (List Int)) :=
sel (decide (v7.1 < 4)) (
bnd (loop (impl_quarter_l14 p0 v7) (0, v7.2)) fun v18 =>
some (.go (wrapK .i64 (v7.1 + 1), v18))) (
some (.done v7.2))
def impl_quarter (p0 : Int) : Option (List Int) :=
bnd (loop (impl_quarter_l12 p0) (0, ([] : List Int))) fun v14 =>
some v14
def impl_copyInts (p0 : (List Int)) : Option (List Int) :=
req ((([] : List Int).length + p0.length) * 8 ≤ 140737488355328 ∧ ([] : List Int).length + p0.length ≤ maxLen) <|
some (([] : List Int) ++ p0)
def impl_Four_1 (p0 : Int) (p1 : Int) (p2 : Int) (p3 : Int) : Option (Int × Int × Int × Int) :=
some (wrapK .i64 ((wrapK .i64 ((wrapK .i64 (p0 + p1)) + p2)) + p3), wrapK .i64 ((wrapK .i64 ((wrapK .i64 ((wrapK .i64 (2 * p0)) + p1)) - p2)) - (wrapK .i64 (2 * p3))), wrapK .i64 ((wrapK .i64 ((wrapK .i64 (p0 - p1)) - p2)) + p3), wrapK .i64 ((wrapK .i64 ((wrapK .i64 (p0 - (wrapK .i64 (2 * p1)))) + (wrapK .i64 (2 * p2)))) - p3))
def impl_turned_impl_Four_1_l2 (v4 : (Int × (List Int))) : Option (Lp (Int × (List Int)) (List Int)) :=
sel (decide (v4.1 < 16)) (
req (0 ≤ v4.1 ∧ v4.1 < v4.2.length) <|
req (v4.1.toNat < v4.2.length) <|
req (0 ≤ (wrapK .i64 (v4.1 + 1)) ∧ (wrapK .i64 (v4.1 + 1)) < v4.2.length) <|
req ((wrapK .i64 (v4.1 + 1)).toNat < v4.2.length) <|
req (0 ≤ (wrapK .i64 (v4.1 + 2)) ∧ (wrapK .i64 (v4.1 + 2)) < v4.2.length) <|
req ((wrapK .i64 (v4.1 + 2)).toNat < v4.2.length) <|
req (0 ≤ (wrapK .i64 (v4.1 + 3)) ∧ (wrapK .i64 (v4.1 + 3)) < v4.2.length) <|
req ((wrapK .i64 (v4.1 + 3)).toNat < v4.2.length) <|
bnd (impl_Four_1 (v4.2.getD v4.1.toNat 0) (v4.2.getD ((wrapK .i64 (v4.1 + 1)).toNat) 0) (v4.2.getD ((wrapK .i64 (v4.1 + 2)).toNat) 0) (v4.2.getD ((wrapK .i64 (v4.1 + 3)).toNat) 0)) fun q8 =>
req (0 ≤ v4.1 ∧ v4.1 ≤ (wrapK .i64 (v4.1 + 4)) ∧ (wrapK .i64 (v4.1 + 4)) ≤ (v4.2.length : Int)) <|
req ((v4.1.toNat + ((wrapK .i64 (v4.1 + 4)).toNat - v4.1.toNat) ≤ v4.2.length ∧ ([q8.1, q8.2.1, q8.2.2.1, q8.2.2.2]).length ≤ ((wrapK .i64 (v4.1 + 4)).toNat - v4.1.toNat))) <|
some (.go (wrapK .i64 (v4.1 + 4), (over v4.2 v4.1.toNat ([q8.1, q8.2.1, q8.2.2.1, q8.2.2.2]))))) (
some (.done v4.2))
def impl_turned_impl_Four_1_l16 (v17 : (Int × (List Int))) (q26 : (Int × Int × Int × Int)) (v28 : (Int × (List Int))) : Option (Lp (Int × (List Int)) (List Int)) :=
sel (decide (v28.1 < 4)) (
req (0 ≤ v28.1 ∧ v28.1 < ([q26.1, q26.2.1, q26.2.2.1, q26.2.2.2] : List Int).length) <|
req (0 ≤ (wrapK .i64 (v17.1 + (wrapK .i64 (4 * v28.1)))) ∧ (wrapK .i64 (v17.1 + (wrapK .i64 (4 * v28.1)))) < v28.2.length) <|
req ((wrapK .i64 (v17.1 + (wrapK .i64 (4 * v28.1)))).toNat < v28.2.length) <|
some (.go (wrapK .i64 (v28.1 + 1), (v28.2.set ((wrapK .i64 (v17.1 + (wrapK .i64 (4 * v28.1)))).toNat) (([q26.1, q26.2.1, q26.2.2.1, q26.2.2.2] : List Int).getD v28.1.toNat 0))))) (
some (.done v28.2))
def impl_turned_impl_Four_1_l14 (v17 : (Int × (List Int))) : Option (Lp (Int × (List Int)) (List Int)) :=
sel (decide (v17.1 < 4)) (
req (0 ≤ v17.1 ∧ v17.1 < v17.2.length) <|
req (v17.1.toNat < v17.2.length) <|
req (0 ≤ (wrapK .i64 (v17.1 + 4)) ∧ (wrapK .i64 (v17.1 + 4)) < v17.2.length) <|
req ((wrapK .i64 (v17.1 + 4)).toNat < v17.2.length) <|
req (0 ≤ (wrapK .i64 (v17.1 + 8)) ∧ (wrapK .i64 (v17.1 + 8)) < v17.2.length) <|
req ((wrapK .i64 (v17.1 + 8)).toNat < v17.2.length) <|
req (0 ≤ (wrapK .i64 (v17.1 + 12)) ∧ (wrapK .i64 (v17.1 + 12)) < v17.2.length) <|
req ((wrapK .i64 (v17.1 + 12)).toNat < v17.2.length) <|
bnd (impl_Four_1 (v17.2.getD v17.1.toNat 0) (v17.2.getD ((wrapK .i64 (v17.1 + 4)).toNat) 0) (v17.2.getD ((wrapK .i64 (v17.1 + 8)).toNat) 0) (v17.2.getD ((wrapK .i64 (v17.1 + 12)).toNat) 0)) fun q26 =>
bnd (loop (impl_turned_impl_Four_1_l16 v17 q26) (0, v17.2)) fun v30 =>
some (.go (wrapK .i64 (v17.1 + 1), v30))) (
some (.done v17.2))
def impl_turned_impl_Four_1 (p0 : (List Int)) : Option (List Int) :=
bnd (impl_copyInts p0) fun q1 =>
bnd (loop (impl_turned_impl_Four_1_l2) (0, q1)) fun v7 =>
bnd (loop (impl_turned_impl_Four_1_l14) (0, v7)) fun v25 =>
some v25
def impl_Four (p0 : (List Int)) : Option (List Int) :=
bnd (impl_areIn p0 16 (-1000) 1000) fun q1 =>
sel (!q1) (
some ([] : List Int)) (
bnd (impl_turned_impl_Four_1 p0) fun q2 =>
some q2)
def impl_KindOf (p0 : Int) : Option Int :=
bnd (impl_within p0 0 15) fun q1 =>
sel (!q1) (
some (-1)) (
req ((4 : Int) ≠ 0) <|
req ((2 : Int) ≠ 0) <|
req ((4 : Int) ≠ 0) <|
req ((2 : Int) ≠ 0) <|
bnd (
sel (((wrapK .i64 (p0.tdiv 4)).tmod 2) == 0) (
some (((p0.tmod 4).tmod 2) == 0)) (
some false)) fun v2 =>
sel v2 (
some 0) (
bnd (
sel (((wrapK .i64 (p0.tdiv 4)).tmod 2) == 1) (
some (((p0.tmod 4).tmod 2) == 1)) (
some false)) fun v3 =>
sel v3 (
some 1) (
some 2)))
def impl_ShareOf (p0 : Int) (p1 : Int) : Option Int :=
bnd (
bnd (impl_within p0 0 40) fun q2 =>
sel q2 (
bnd (impl_within p1 0 15) fun q3 =>
some (!q3)) (
some true)) fun v1 =>
sel v1 (
some 0) (
req ((6 : Int) ≠ 0) <|
bnd (impl_KindOf p1) fun q4 =>
req (0 ≤ (p0.tmod 6) ∧ (p0.tmod 6) < 6) <|
req (0 ≤ q4 ∧ q4 < 3) <|
req (((0 + (p0.tmod 6).toNat * 3) + q4.toNat * 1) < ([13107, 5243, 8066, 11916, 4660, 7490, 10082, 4194, 6554, 9362, 3647, 5825, 8192, 3355, 5243, 7282, 2893, 4559] : List Int).length) <|
some (([13107, 5243, 8066, 11916, 4660, 7490, 10082, 4194, 6554, 9362, 3647, 5825, 8192, 3355, 5243, 7282, 2893, 4559] : List Int).getD ((0 + (p0.tmod 6).toNat * 3) + q4.toNat * 1) 0))
def impl_SmallLevel (p0 : Int) (p1 : Int) (p2 : Int) : Option Int :=
bnd (
bnd (impl_within p0 (-20000) 20000) fun q2 =>
sel q2 (
bnd (impl_within p1 0 40) fun q3 =>
sel q3 (
bnd (impl_within p2 0 15) fun q4 =>
some (!q4)) (
some true)) (
some true)) fun v1 =>
sel v1 (
some 0) (
req ((6 : Int) ≠ 0) <|
req (0 ≤ (wrapK .i64 (15 + (wrapK .i64 (p1.tdiv 6))))) <|
bnd (impl_size p0) fun q5 =>
bnd (impl_ShareOf p1 p2) fun q6 =>
req ((3 : Int) ≠ 0) <|
req ((wrapK .i64 (1 * 2 ^ min (wrapK .i64 (15 + (wrapK .i64 (p1.tdiv 6)))).toNat (IntKind.bits .i64))) ≠ 0) <|
bnd (impl_signed (wrapK .i64 ((wrapK .i64 ((wrapK .i64 (q5 * q6)) + (wrapK .i64 ((wrapK .i64 (1 * 2 ^ min (wrapK .i64 (15 + (wrapK .i64 (p1.tdiv 6)))).toNat (IntKind.bits .i64))).tdiv 3)))).tdiv (wrapK .i64 (1 * 2 ^ min (wrapK .i64 (15 + (wrapK .i64 (p1.tdiv 6)))).toNat (IntKind.bits .i64))))) p0) fun q7 =>
some q7)
def impl_LevelsOf_l4 (p1 : Cond) (q5 : (List Int)) (v8 : (Int × (List Int))) : Option (Lp (Int × (List Int)) (List Int)) :=
sel (decide (v8.1 < (q5.length : Int))) (
req (0 ≤ v8.1 ∧ v8.1 < v8.2.length) <|
req (v8.1.toNat < v8.2.length) <|
bnd (impl_LargeLevel (v8.2.getD v8.1.toNat 0) p1.Qp) fun q12 =>
req (0 ≤ v8.1 ∧ v8.1 < v8.2.length) <|
req (v8.1.toNat < v8.2.length) <|
some (.go (wrapK .i64 (v8.1 + 1), (v8.2.set v8.1.toNat q12)))) (
some (.done v8.2))
def impl_LevelsOf_l52 (p0 : (List Int)) (q51 : (List Int)) (v53 : (Int × (List Int))) : Option (Lp (Int × (List Int)) (List Int)) :=
sel (decide (v53.1 < (q51.length : Int))) (
req (0 ≤ v53.1 ∧ v53.1 < q51.length) <|
req (v53.1.toNat < q51.length) <|
req (0 ≤ (q51.getD v53.1.toNat 0) ∧ (q51.getD v53.1.toNat 0) < p0.length) <|
req ((v53.2.length + ([(p0.getD (q51.getD v53.1.toNat 0).toNat 0)]).length) * 8 ≤ 140737488355328 ∧ v53.2.length + ([(p0.getD (q51.getD v53.1.toNat 0).toNat 0)]).length ≤ maxLen) <|
some (.go (wrapK .i64 (v53.1 + 1), (v53.2 ++ ([(p0.getD (q51.getD v53.1.toNat 0).toNat 0)]))))) (
some (.done v53.2))
def impl_LevelsOf_l54 (p1 : Cond) (q57 : (List Int)) (v60 : (Int × (List Int))) : Option (Lp (Int × (List Int)) (List Int)) :=
sel (decide (v60.1 < (q57.length : Int))) (
req (0 ≤ v60.1 ∧ v60.1 < v60.2.length) <|
req (v60.1.toNat < v60.2.length) <|
bnd (impl_SmallLevel (v60.2.getD v60.1.toNat 0) p1.Qp v60.1) fun q64 =>
req (0 ≤ v60.1 ∧ v60.1 < v60.2.length) <|
req (v60.1.toNat < v60.2.length) <|
some (.go (wrapK .i64 (v60.1 + 1), (v60.2.set v60.1.toNat q64)))) (
some (.done v60.2))
def impl_LevelsOf_l46 (p0 : (List Int)) (p1 : Cond) (v32 : (Int × (List Int))) : Option (Lp (Int × (List Int)) (List Int)) :=
sel (decide (v32.1 < 4)) (
bnd (impl_quarter v32.1) fun q51 =>
bnd (loop (impl_LevelsOf_l52 p0 q51) (0, ([] : List Int))) fun v55 =>
bnd (impl_Four v55) fun q57 =>
bnd (loop (impl_LevelsOf_l54 p1 q57) (0, q57)) fun v63 =>
bnd (impl_Scanned 4 v63) fun q66 =>
req ((v32.2.length + q66.1.length) * 8 ≤ 140737488355328 ∧ v32.2.length + q66.1.length ≤ maxLen) <|
some (.go (wrapK .i64 (v32.1 + 1), (v32.2 ++ q66.1)))) (
some (.done v32.2))
def impl_LevelsOf (p0 : (List Int)) (p1 : Cond) : Option ((List Int) × Bool) :=
bnd (
bnd (impl_areIn p0 64 (-255) 255) fun q2 =>
sel q2 (
bnd (impl_CondOk p1) fun q3 =>
some (!q3)) (
some true)) fun v1 =>
sel v1 (
some (([] : List Int), false)) (
sel p1.Exact (
bnd (impl_Scanned 8 p0) fun q4 =>
some (q4.1, q4.2)) (
sel p1.Large (
bnd (impl_Eight p0) fun q5 =>
bnd (loop (impl_LevelsOf_l4 p1 q5) (0, q5)) fun v11 =>
bnd (impl_Scanned 8 v11) fun q14 =>
some (q14.1, q14.2)) (
bnd (loop (impl_LevelsOf_l46 p0 p1) (0, ([] : List Int))) fun v50 =>
some (v50, true))))
def impl_Pic_block_l14 (p0 : Pic) (p1 : Int) (p2 : Int) (v10 : (Int × (List Int))) (v23 : (Int × (List Int))) : Option (Lp (Int × (List Int)) (List Int)) :=
sel (decide (v23.1 < 8)) (
bnd (impl_Pic_dot p0 (wrapK .i64 (p1 + v23.1)) (wrapK .i64 (p2 + v10.1))) fun q27 =>
req ((v23.2.length + ([q27]).length) * 8 ≤ 140737488355328 ∧ v23.2.length + ([q27]).length ≤ maxLen) <|
some (.go (wrapK .i64 (v23.1 + 1), (v23.2 ++ ([q27]))))) (
some (.done v23.2))
def impl_Pic_block_l12 (p0 : Pic) (p1 : Int) (p2 : Int) (v10 : (Int × (List Int))) : Option (Lp (Int × (List Int)) (List Int)) :=
sel (decide (v10.1 < 8)) (
bnd (loop (impl_Pic_block_l14 p0 p1 p2 v10) (0, v10.2)) fun v26 =>
some (.go (wrapK .i64 (v10.1 + 1), v26))) (
some (.done v10.2))
def impl_Pic_block (p0 : Pic) (p1 : Int) (p2 : Int) : Option (List Int) :=
req (0 ≤ (0 : Int) ∧ (0 : Int) ≤ (64 : Int) ∧ (64 : Int) * 8 ≤ 281474976710656) <|
bnd (loop (impl_Pic_block_l12 p0 p1 p2) (0, (List.replicate (0 : Int).toNat (0 : Int)))) fun v20 =>
some v20
def impl_Pic_holds (p0 : Pic) (p1 : Rect) : Option Bool :=
bnd (
bnd (impl_within p1.Wide 1 p0.Wide) fun q2 =>
sel q2 (
bnd (impl_within p1.High 1 p0.High) fun q3 =>
sel q3 (
bnd (impl_within p1.Left 0 (wrapK .i64 (p0.Wide - p1.Wide))) fun q4 =>
sel q4 (
bnd (impl_within p1.Top 0 (wrapK .i64 (p0.High - p1.High))) fun q5 =>
some q5) (
some false)) (
some false)) (
some false)) fun v1 =>
some v1
def impl_FoldSe (p0 : Int) : Option (Int × Bool) :=
bnd (impl_within p0 (-500000) 500000) fun q1 =>
sel (!q1) (
some (0, false)) (
sel (decide (p0 > 0)) (
some (wrapK .i64 ((wrapK .i64 (2 * p0)) - 1), true)) (
some (wrapK .i64 ((-2) * p0), true)))
def impl_SeRow (p0 : Int) : Option (ByteArray × Bool) :=
bnd (impl_FoldSe p0) fun q1 =>
sel (!q1.2) (
some (⟨#[]⟩, false)) (
bnd (impl_UeRow q1.1) fun q2 =>
some (q2.1, q2.2))
def impl_SeSize (p0 : Int) : Option Int :=
bnd (impl_SeRow p0) fun q1 =>
some (q1.1.size : Int)
def impl_BestMove_l14 (p0 : Pic) (p1 : (List Int)) (p2 : Int) (p3 : Int) (p4 : Int) (v33 : (Int × Int × Int × Int)) (v70 : (Int × Int × Int × Int)) : Option (Lp (Int × Int × Int × Int) (Int × Int × Int)) :=
sel (decide (v70.2.2.2 ≤ p4)) (
bnd (
bnd (impl_Pic_holds p0 (⟨wrapK .i64 (p2 + v70.2.2.2), wrapK .i64 (p3 + v33.2.2.2), 8, 8⟩ : Rect)) fun q81 =>
sel (!q81) (
some (v70.1, v70.2.1, v70.2.2.1)) (
bnd (impl_Pic_block p0 (wrapK .i64 (p2 + v70.2.2.2)) (wrapK .i64 (p3 + v33.2.2.2))) fun q82 =>
bnd (impl_gap p1 q82) fun q83 =>
bnd (impl_SeSize v70.2.2.2) fun q84 =>
bnd (impl_SeSize v33.2.2.2) fun q85 =>
bnd (
sel (decide (v70.2.2.1 < 0)) (
some true) (
some (decide ((wrapK .i64 ((wrapK .i64 (q83 + q84)) + q85)) < v70.2.2.1)))) fun v86 =>
sel v86 (
some (v70.2.2.2, v33.2.2.2, wrapK .i64 ((wrapK .i64 (q83 + q84)) + q85))) (
some (v70.1, v70.2.1, v70.2.2.1)))) fun v80 =>
some (.go (v80.1, v80.2.1, v80.2.2, wrapK .i64 (v70.2.2.2 + 1)))) (
some (.done (v70.1, v70.2.1, v70.2.2.1)))
def impl_BestMove_l12 (p0 : Pic) (p1 : (List Int)) (p2 : Int) (p3 : Int) (p4 : Int) (v33 : (Int × Int × Int × Int)) : Option (Lp (Int × Int × Int × Int) (Int × Int × Int)) :=
sel (decide (v33.2.2.2 ≤ p4)) (
bnd (loop (impl_BestMove_l14 p0 p1 p2 p3 p4 v33) (v33.1, v33.2.1, v33.2.2.1, wrapK .i64 (0 - p4))) fun v79 =>
some (.go (v79.1, v79.2.1, v79.2.2, wrapK .i64 (v33.2.2.2 + 1)))) (
some (.done (v33.1, v33.2.1, v33.2.2.1)))
def impl_BestMove (p0 : Pic) (p1 : (List Int)) (p2 : Int) (p3 : Int) (p4 : Int) : Option (Int × Int × Int) :=
bnd (
bnd (impl_PicOk p0) fun q2 =>
sel q2 (
bnd (impl_areIn p1 64 0 255) fun q3 =>
sel q3 (
bnd (impl_within p4 0 4) fun q4 =>
sel q4 (
bnd (impl_Pic_isSquare p0 p2 p3) fun q5 =>
some (!q5)) (
some true)) (
some true)) (
some true)) fun v1 =>
sel v1 (
some (0, 0, (-1))) (
bnd (loop (impl_BestMove_l12 p0 p1 p2 p3 p4) (0, 0, (-1), wrapK .i64 (0 - p4))) fun v61 =>
some (v61.1, v61.2.1, v61.2.2))
def impl_areLevels (p0 : (List Int)) : Option Bool :=
bnd (impl_areIn p0 64 (-5000) 5000) fun q1 =>
some q1
def impl_SquareOk (p0 : Square) : Option Bool :=
sel (p0.Kind == 0) (
bnd (
sel (p0.Mode == 0) (
sel (p0.Dx == 0) (
sel (p0.Dy == 0) (
some ((p0.Levels.length : Int) == 0)) (
some false)) (
some false)) (
some false)) fun v1 =>
some v1) (
sel (p0.Kind == 1) (
bnd (
sel (p0.Mode == 0) (
bnd (impl_within p0.Dx (-16) 16) fun q3 =>
sel q3 (
bnd (impl_within p0.Dy (-16) 16) fun q4 =>
sel q4 (
bnd (impl_areLevels p0.Levels) fun q5 =>
some q5) (
some false)) (
some false)) (
some false)) fun v2 =>
some v2) (
sel (p0.Kind == 2) (
bnd (
bnd (impl_within p0.Mode 0 3) fun q7 =>
sel q7 (
sel (p0.Dx == 0) (
sel (p0.Dy == 0) (
bnd (impl_areLevels p0.Levels) fun q8 =>
some q8) (
some false)) (
some false)) (
some false)) fun v6 =>
some v6) (
some false)))
def impl_Square_let (p0 : Square) (p1 : Cond) : Option Bool :=
bnd (
sel p1.Key (
some (p0.Kind == 2)) (
some true)) fun v1 =>
some v1
def impl_Unscanned_l2 (p1 : (List Int)) (q2 : (List Int)) (v4 : (Int × (List Int))) : Option (Lp (Int × (List Int)) (List Int)) :=
sel (decide (v4.1 < (q2.length : Int))) (
req (0 ≤ v4.1 ∧ v4.1 < q2.length) <|
req (v4.1.toNat < q2.length) <|
req (0 ≤ v4.1 ∧ v4.1 < p1.length) <|
req (0 ≤ (q2.getD v4.1.toNat 0) ∧ (q2.getD v4.1.toNat 0) < v4.2.length) <|
req ((q2.getD v4.1.toNat 0).toNat < v4.2.length) <|
some (.go (wrapK .i64 (v4.1 + 1), (v4.2.set ((q2.getD v4.1.toNat 0).toNat) (p1.getD v4.1.toNat 0))))) (
some (.done v4.2))
def impl_Unscanned (p0 : Int) (p1 : (List Int)) : Option ((List Int) × Bool) :=
bnd (
sel (p0 != 4) (
sel (p0 != 8) (
some true) (
some ((p1.length : Int) != (wrapK .i64 (p0 * p0))))) (
some ((p1.length : Int) != (wrapK .i64 (p0 * p0))))) fun v1 =>
sel v1 (
some (([] : List Int), false)) (
req (0 ≤ (p1.length : Int) ∧ (p1.length : Int) ≤ (p1.length : Int) ∧ (p1.length : Int) * 8 ≤ 281474976710656) <|
bnd (impl_scanOrder p0) fun q2 =>
bnd (loop (impl_Unscanned_l2 p1 q2) (0, (List.replicate (p1.length : Int).toNat (0 : Int)))) fun v6 =>
some (v6, true))
def impl_LargeBack (p0 : Int) (p1 : Int) : Option Int :=
bnd (impl_within p0 (-5000) 5000) fun q1 =>
sel (!q1) (
some 0) (
bnd (impl_StepOf p1) fun q2 =>
some (wrapK .i64 (p0 * q2)))
def impl_floor (p0 : Int) (p1 : Int) : Option Int :=
req (p1 ≠ 0) <|
bnd (
req (p1 ≠ 0) <|
sel (decide ((p0.tmod p1) < 0)) (
some (wrapK .i64 ((wrapK .i64 (p0.tdiv p1)) - 1))) (
some (wrapK .i64 (p0.tdiv p1)))) fun v1 =>
some v1
def impl_settled_l2 (p0 : (List Int)) (v3 : (Int × (List Int))) : Option (Lp (Int × (List Int)) (List Int)) :=
sel (decide (v3.1 < (p0.length : Int))) (
req (0 ≤ v3.1 ∧ v3.1 < v3.2.length) <|
req (v3.1.toNat < v3.2.length) <|
bnd (impl_floor (wrapK .i64 ((v3.2.getD v3.1.toNat 0) + 32)) 64) fun q7 =>
req (0 ≤ v3.1 ∧ v3.1 < v3.2.length) <|
req (v3.1.toNat < v3.2.length) <|
some (.go (wrapK .i64 (v3.1 + 1), (v3.2.set v3.1.toNat q7)))) (
some (.done v3.2))
def impl_settled (p0 : (List Int)) : Option ((List Int) × (List Int)) :=
bnd (loop (impl_settled_l2 p0) (0, p0)) fun v6 =>
some (v6, v6)
def impl_EightBack (p0 : (List Int)) : Option (List Int) :=
bnd (impl_areIn p0 64 (-10000000) 10000000) fun q1 =>
sel (!q1) (
some ([] : List Int)) (
bnd (impl_sums p0) fun q2 =>
bnd (impl_settled q2) fun q3 =>
some q3.2)
def impl_ScaleOf (p0 : Int) (p1 : Int) : Option Int :=
bnd (
bnd (impl_within p0 0 40) fun q2 =>
sel q2 (
bnd (impl_within p1 0 15) fun q3 =>
some (!q3)) (
some true)) fun v1 =>
sel v1 (
some 0) (
req ((6 : Int) ≠ 0) <|
bnd (impl_KindOf p1) fun q4 =>
req (0 ≤ (p0.tmod 6) ∧ (p0.tmod 6) < 6) <|
req (0 ≤ q4 ∧ q4 < 3) <|
req (((0 + (p0.tmod 6).toNat * 3) + q4.toNat * 1) < ([10, 16, 13, 11, 18, 14, 13, 20, 16, 14, 23, 18, 16, 25, 20, 18, 29, 23] : List Int).length) <|
req ((6 : Int) ≠ 0) <|
req (0 ≤ (wrapK .i64 (p0.tdiv 6))) <|
some (wrapK .i64 ((([10, 16, 13, 11, 18, 14, 13, 20, 16, 14, 23, 18, 16, 25, 20, 18, 29, 23] : List Int).getD ((0 + (p0.tmod 6).toNat * 3) + q4.toNat * 1) 0) * 2 ^ min (wrapK .i64 (p0.tdiv 6)).toNat (IntKind.bits .i64))))
def impl_SmallBack (p0 : Int) (p1 : Int) (p2 : Int) : Option Int :=
bnd (impl_within p0 (-5000) 5000) fun q1 =>
sel (!q1) (
some 0) (
bnd (impl_ScaleOf p1 p2) fun q2 =>
some (wrapK .i64 (p0 * q2)))
def impl_FourBack_1 (p0 : Int) (p1 : Int) (p2 : Int) (p3 : Int) : Option (Int × Int × Int × Int) :=
bnd (impl_floor p1 2) fun q1 =>
bnd (impl_floor p3 2) fun q2 =>
some (wrapK .i64 ((wrapK .i64 (p0 + p2)) + (wrapK .i64 (p1 + q2))), wrapK .i64 ((wrapK .i64 (p0 - p2)) + (wrapK .i64 (q1 - p3))), wrapK .i64 ((wrapK .i64 (p0 - p2)) - (wrapK .i64 (q1 - p3))), wrapK .i64 ((wrapK .i64 (p0 + p2)) - (wrapK .i64 (p1 + q2))))
def impl_turned_impl_FourBack_1_l2 (v4 : (Int × (List Int))) : Option (Lp (Int × (List Int)) (List Int)) :=
sel (decide (v4.1 < 16)) (
req (0 ≤ v4.1 ∧ v4.1 < v4.2.length) <|
req (v4.1.toNat < v4.2.length) <|
req (0 ≤ (wrapK .i64 (v4.1 + 1)) ∧ (wrapK .i64 (v4.1 + 1)) < v4.2.length) <|
req ((wrapK .i64 (v4.1 + 1)).toNat < v4.2.length) <|
req (0 ≤ (wrapK .i64 (v4.1 + 2)) ∧ (wrapK .i64 (v4.1 + 2)) < v4.2.length) <|
req ((wrapK .i64 (v4.1 + 2)).toNat < v4.2.length) <|
req (0 ≤ (wrapK .i64 (v4.1 + 3)) ∧ (wrapK .i64 (v4.1 + 3)) < v4.2.length) <|
req ((wrapK .i64 (v4.1 + 3)).toNat < v4.2.length) <|
bnd (impl_FourBack_1 (v4.2.getD v4.1.toNat 0) (v4.2.getD ((wrapK .i64 (v4.1 + 1)).toNat) 0) (v4.2.getD ((wrapK .i64 (v4.1 + 2)).toNat) 0) (v4.2.getD ((wrapK .i64 (v4.1 + 3)).toNat) 0)) fun q8 =>
req (0 ≤ v4.1 ∧ v4.1 ≤ (wrapK .i64 (v4.1 + 4)) ∧ (wrapK .i64 (v4.1 + 4)) ≤ (v4.2.length : Int)) <|
req ((v4.1.toNat + ((wrapK .i64 (v4.1 + 4)).toNat - v4.1.toNat) ≤ v4.2.length ∧ ([q8.1, q8.2.1, q8.2.2.1, q8.2.2.2]).length ≤ ((wrapK .i64 (v4.1 + 4)).toNat - v4.1.toNat))) <|
some (.go (wrapK .i64 (v4.1 + 4), (over v4.2 v4.1.toNat ([q8.1, q8.2.1, q8.2.2.1, q8.2.2.2]))))) (
some (.done v4.2))
def impl_turned_impl_FourBack_1_l16 (v17 : (Int × (List Int))) (q26 : (Int × Int × Int × Int)) (v28 : (Int × (List Int))) : Option (Lp (Int × (List Int)) (List Int)) :=
sel (decide (v28.1 < 4)) (
req (0 ≤ v28.1 ∧ v28.1 < ([q26.1, q26.2.1, q26.2.2.1, q26.2.2.2] : List Int).length) <|
req (0 ≤ (wrapK .i64 (v17.1 + (wrapK .i64 (4 * v28.1)))) ∧ (wrapK .i64 (v17.1 + (wrapK .i64 (4 * v28.1)))) < v28.2.length) <|
req ((wrapK .i64 (v17.1 + (wrapK .i64 (4 * v28.1)))).toNat < v28.2.length) <|
some (.go (wrapK .i64 (v28.1 + 1), (v28.2.set ((wrapK .i64 (v17.1 + (wrapK .i64 (4 * v28.1)))).toNat) (([q26.1, q26.2.1, q26.2.2.1, q26.2.2.2] : List Int).getD v28.1.toNat 0))))) (
some (.done v28.2))
def impl_turned_impl_FourBack_1_l14 (v17 : (Int × (List Int))) : Option (Lp (Int × (List Int)) (List Int)) :=
sel (decide (v17.1 < 4)) (
req (0 ≤ v17.1 ∧ v17.1 < v17.2.length) <|
req (v17.1.toNat < v17.2.length) <|
req (0 ≤ (wrapK .i64 (v17.1 + 4)) ∧ (wrapK .i64 (v17.1 + 4)) < v17.2.length) <|
req ((wrapK .i64 (v17.1 + 4)).toNat < v17.2.length) <|
req (0 ≤ (wrapK .i64 (v17.1 + 8)) ∧ (wrapK .i64 (v17.1 + 8)) < v17.2.length) <|
req ((wrapK .i64 (v17.1 + 8)).toNat < v17.2.length) <|
req (0 ≤ (wrapK .i64 (v17.1 + 12)) ∧ (wrapK .i64 (v17.1 + 12)) < v17.2.length) <|
req ((wrapK .i64 (v17.1 + 12)).toNat < v17.2.length) <|
bnd (impl_FourBack_1 (v17.2.getD v17.1.toNat 0) (v17.2.getD ((wrapK .i64 (v17.1 + 4)).toNat) 0) (v17.2.getD ((wrapK .i64 (v17.1 + 8)).toNat) 0) (v17.2.getD ((wrapK .i64 (v17.1 + 12)).toNat) 0)) fun q26 =>
bnd (loop (impl_turned_impl_FourBack_1_l16 v17 q26) (0, v17.2)) fun v30 =>
some (.go (wrapK .i64 (v17.1 + 1), v30))) (
some (.done v17.2))
def impl_turned_impl_FourBack_1 (p0 : (List Int)) : Option (List Int) :=
bnd (impl_copyInts p0) fun q1 =>
bnd (loop (impl_turned_impl_FourBack_1_l2) (0, q1)) fun v7 =>
bnd (loop (impl_turned_impl_FourBack_1_l14) (0, v7)) fun v25 =>
some v25
def impl_FourBack (p0 : (List Int)) : Option (List Int) :=
bnd (impl_areIn p0 16 (-10000000) 10000000) fun q1 =>
sel (!q1) (
some ([] : List Int)) (
bnd (impl_turned_impl_FourBack_1 p0) fun q2 =>
bnd (impl_settled q2) fun q3 =>
some q3.2)
def impl_LevelsBack_l4 (p1 : Cond) (q5 : ((List Int) × Bool)) (v8 : (Int × (List Int))) : Option (Lp (Int × (List Int)) (List Int)) :=
sel (decide (v8.1 < (q5.1.length : Int))) (
req (0 ≤ v8.1 ∧ v8.1 < v8.2.length) <|
req (v8.1.toNat < v8.2.length) <|
bnd (impl_LargeBack (v8.2.getD v8.1.toNat 0) p1.Qp) fun q12 =>
req (0 ≤ v8.1 ∧ v8.1 < v8.2.length) <|
req (v8.1.toNat < v8.2.length) <|
some (.go (wrapK .i64 (v8.1 + 1), (v8.2.set v8.1.toNat q12)))) (
some (.done v8.2))
def impl_LevelsBack_l41 (p1 : Cond) (q51 : ((List Int) × Bool)) (v54 : (Int × (List Int))) : Option (Lp (Int × (List Int)) (List Int)) :=
sel (decide (v54.1 < (q51.1.length : Int))) (
req (0 ≤ v54.1 ∧ v54.1 < v54.2.length) <|
req (v54.1.toNat < v54.2.length) <|
bnd (impl_SmallBack (v54.2.getD v54.1.toNat 0) p1.Qp v54.1) fun q58 =>
req (0 ≤ v54.1 ∧ v54.1 < v54.2.length) <|
req (v54.1.toNat < v54.2.length) <|
some (.go (wrapK .i64 (v54.1 + 1), (v54.2.set v54.1.toNat q58)))) (
some (.done v54.2))
def impl_LevelsBack_l42 (q60 : (List Int)) (q61 : (List Int)) (v63 : (Int × (List Int))) : Option (Lp (Int × (List Int)) (List Int)) :=
sel (decide (v63.1 < (q61.length : Int))) (
req (0 ≤ v63.1 ∧ v63.1 < q61.length) <|
req (v63.1.toNat < q61.length) <|
req (0 ≤ v63.1 ∧ v63.1 < q60.length) <|
req (v63.1.toNat < q60.length) <|
req (0 ≤ (q61.getD v63.1.toNat 0) ∧ (q61.getD v63.1.toNat 0) < v63.2.length) <|
req ((q61.getD v63.1.toNat 0).toNat < v63.2.length) <|
some (.go (wrapK .i64 (v63.1 + 1), (v63.2.set ((q61.getD v63.1.toNat 0).toNat) (q60.getD v63.1.toNat 0))))) (
some (.done v63.2))
def impl_LevelsBack_l36 (p0 : (List Int)) (p1 : Cond) (v32 : (Int × (List Int))) : Option (Lp (Int × (List Int)) (List Int)) :=
sel (decide (v32.1 < 4)) (
req (0 ≤ (wrapK .i64 (16 * v32.1)) ∧ (wrapK .i64 (16 * v32.1)) ≤ (wrapK .i64 ((wrapK .i64 (16 * v32.1)) + 16)) ∧ (wrapK .i64 ((wrapK .i64 (16 * v32.1)) + 16)) ≤ (p0.length : Int)) <|
bnd (impl_Unscanned 4 ((p0.drop (wrapK .i64 (16 * v32.1)).toNat).take ((wrapK .i64 ((wrapK .i64 (16 * v32.1)) + 16)).toNat - (wrapK .i64 (16 * v32.1)).toNat))) fun q51 =>
bnd (loop (impl_LevelsBack_l41 p1 q51) (0, q51.1)) fun v57 =>
bnd (impl_FourBack v57) fun q60 =>
bnd (impl_quarter v32.1) fun q61 =>
bnd (loop (impl_LevelsBack_l42 q60 q61) (0, v32.2)) fun v65 =>
some (.go (wrapK .i64 (v32.1 + 1), v65))) (
some (.done v32.2))
def impl_LevelsBack (p0 : (List Int)) (p1 : Cond) : Option ((List Int) × Bool) :=
bnd (
bnd (impl_areLevels p0) fun q2 =>
sel q2 (
bnd (impl_CondOk p1) fun q3 =>
some (!q3)) (
some true)) fun v1 =>
sel v1 (
some (([] : List Int), false)) (
sel p1.Exact (
bnd (impl_Unscanned 8 p0) fun q4 =>
some (q4.1, q4.2)) (
sel p1.Large (
bnd (impl_Unscanned 8 p0) fun q5 =>
bnd (loop (impl_LevelsBack_l4 p1 q5) (0, q5.1)) fun v11 =>
bnd (impl_EightBack v11) fun q14 =>
some (q14, true)) (
req (0 ≤ (64 : Int) ∧ (64 : Int) ≤ (64 : Int) ∧ (64 : Int) * 8 ≤ 281474976710656) <|
bnd (loop (impl_LevelsBack_l36 p0 p1) (0, (List.replicate (64 : Int).toNat (0 : Int)))) fun v50 =>
some (v50, true))))
def impl_Joined_l2 (p0 : (List Int)) (p1 : (List Int)) (v6 : (Int × (List Int))) : Option (Lp (Int × (List Int)) (List Int)) :=
sel (decide (v6.1 < (p0.length : Int))) (
req (0 ≤ v6.1 ∧ v6.1 < p0.length) <|
req (0 ≤ v6.1 ∧ v6.1 < p1.length) <|
bnd (impl_Brought (wrapK .i64 ((p0.getD v6.1.toNat 0) + (p1.getD v6.1.toNat 0))) 0 255) fun q10 =>
req ((v6.2.length + ([q10]).length) * 8 ≤ 140737488355328 ∧ v6.2.length + ([q10]).length ≤ maxLen) <|
some (.go (wrapK .i64 (v6.1 + 1), (v6.2 ++ ([q10]))))) (
some (.done v6.2))
def impl_Joined (p0 : (List Int)) (p1 : (List Int)) : Option (List Int) :=
bnd (
bnd (impl_areIn p0 64 0 255) fun q2 =>
sel q2 (
bnd (impl_areIn p1 64 (-10000000) 10000000) fun q3 =>
some (!q3)) (
some true)) fun v1 =>
sel v1 (
some ([] : List Int)) (
bnd (loop (impl_Joined_l2 p0 p1) (0, ([] : List Int))) fun v9 =>
some v9)
def impl_SquareDots (p0 : Pic) (p1 : Pic) (p2 : Int) (p3 : Int) (p4 : Cond) (p5 : Int) (p6 : Int) (p7 : Square) : Option ((List Int) × Bool) :=
bnd (
bnd (impl_PicOk p0) fun q2 =>
sel q2 (
bnd (impl_Pic_isSquare p0 p5 p6) fun q3 =>
sel q3 (
bnd (impl_within p2 0 256) fun q4 =>
sel q4 (
bnd (impl_within p3 0 256) fun q5 =>
sel q5 (
bnd (impl_SquareOk p7) fun q6 =>
sel q6 (
bnd (impl_CondOk p4) fun q7 =>
sel q7 (
bnd (impl_Square_let p7 p4) fun q8 =>
sel q8 (
sel (p7.Kind != 2) (
bnd (impl_PicOk p1) fun q9 =>
some (!q9)) (
some false)) (
some true)) (
some true)) (
some true)) (
some true)) (
some true)) (
some true)) (
some true)) fun v1 =>
sel v1 (
some (([] : List Int), false)) (
sel (p7.Kind == 0) (
bnd (impl_Pic_block p1 (wrapK .i64 (p2 + p5)) (wrapK .i64 (p3 + p6))) fun q10 =>
some (q10, true)) (
bnd (impl_LevelsBack p7.Levels p4) fun q11 =>
sel (p7.Kind == 1) (
bnd (impl_Pic_block p1 (wrapK .i64 ((wrapK .i64 (p2 + p5)) + p7.Dx)) (wrapK .i64 ((wrapK .i64 (p3 + p6)) + p7.Dy))) fun q12 =>
bnd (impl_Joined q12 q11.1) fun q13 =>
some (q13, true)) (
bnd (impl_EdgesOf p0 p5 p6) fun q14 =>
bnd (impl_GuessOf p7.Mode q14.1) fun q15 =>
bnd (impl_Joined q15 q11.1) fun q16 =>
some (q16, true))))
def impl_SquareFor (p0 : Pic) (p1 : Pic) (p2 : (List Int)) (p3 : Int) (p4 : Int) (p5 : Cond) (p6 : Int) : Option (Square × (List Int) × Bool) :=
bnd (
bnd (impl_PicOk p0) fun q2 =>
sel q2 (
bnd (impl_Pic_isSquare p0 p3 p4) fun q3 =>
sel q3 (
bnd (impl_areIn p2 64 0 255) fun q4 =>
sel q4 (
bnd (impl_CondOk p5) fun q5 =>
sel q5 (
bnd (impl_within p6 0 4) fun q6 =>
some (!q6)) (
some true)) (
some true)) (
some true)) (
some true)) fun v1 =>
sel v1 (
some ((⟨0, 0, 0, 0, []⟩ : Square), ([] : List Int), false)) (
bnd (
sel p5.Key (
some false) (
bnd (impl_PicOk p1) fun q8 =>
sel q8 (
sel (p1.Wide != p0.Wide) (
some true) (
some (p1.High != p0.High))) (
some true))) fun v7 =>
sel v7 (
some ((⟨0, 0, 0, 0, []⟩ : Square), ([] : List Int), false)) (
bnd (impl_EdgesOf p0 p3 p4) fun q9 =>
bnd (impl_BestGuess p2 q9.1) fun q10 =>
bnd (impl_GuessOf q10.1 q9.1) fun q11 =>
bnd (impl_lessened p2 q11) fun q12 =>
bnd (impl_LevelsOf q12 p5) fun q13 =>
bnd (
sel (!p5.Key) (
bnd (impl_Pic_block p1 p3 p4) fun q15 =>
bnd (impl_gap p2 q15) fun q16 =>
sel (q16 == 0) (
some (0, 0, 0, 0, [])) (
bnd (impl_BestMove p1 p2 p3 p4 p6) fun q17 =>
sel (decide (q17.2.2 ≤ q10.2)) (
bnd (impl_Pic_block p1 (wrapK .i64 (p3 + q17.1)) (wrapK .i64 (p4 + q17.2.1))) fun q18 =>
bnd (impl_lessened p2 q18) fun q19 =>
bnd (impl_LevelsOf q19 p5) fun q20 =>
bnd (
sel (q17.1 == 0) (
sel (q17.2.1 == 0) (
bnd (impl_areIn q20.1 64 0 0) fun q22 =>
some q22) (
some false)) (
some false)) fun v21 =>
sel v21 (
some (0, 0, 0, 0, [])) (
some (1, 0, q17.1, q17.2.1, q20.1))) (
some (2, q10.1, 0, 0, q13.1)))) (
some (2, q10.1, 0, 0, q13.1))) fun v14 =>
bnd (impl_SquareDots p0 p1 0 0 p5 p3 p4 (⟨v14.1, v14.2.1, v14.2.2.1, v14.2.2.2.1, v14.2.2.2.2⟩ : Square)) fun q23 =>
sel (!q23.2) (
some ((⟨0, 0, 0, 0, []⟩ : Square), ([] : List Int), false)) (
some ((⟨v14.1, v14.2.1, v14.2.2.1, v14.2.2.2.1, v14.2.2.2.2⟩ : Square), q23.1, true))))
def laws_eqIntS_l2 (p0 : (List Int)) (p1 : (List Int)) (v2 : Int) : Option (Lp Int (Ou Unit Bool)) :=
sel (decide (v2 < (p0.length : Int))) (
req (0 ≤ v2 ∧ v2 < p0.length) <|
req (0 ≤ v2 ∧ v2 < p1.length) <|
sel ((p0.getD v2.toNat 0) != (p1.getD v2.toNat 0)) (
some (.done (.ret false))) (
some (.go (wrapK .i64 (v2 + 1))))) (
some (.done (.out ())))
def laws_eqIntS (p0 : (List Int)) (p1 : (List Int)) : Option Bool :=
sel ((p0.length : Int) != (p1.length : Int)) (
some false) (
bnd (loop (laws_eqIntS_l2 p0 p1) 0) fun o5 => match o5 with
| .out v4 => (
some true)
| .ret r => some r)
def laws_eqSquare (p0 : Square) (p1 : Square) : Option Bool :=
sel (p0.Kind != p1.Kind) (
some false) (
sel (p0.Mode != p1.Mode) (
some false) (
sel (p0.Dx != p1.Dx) (
some false) (
sel (p0.Dy != p1.Dy) (
some false) (
bnd (laws_eqIntS p0.Levels p1.Levels) fun q1 =>
sel (!q1) (
some false) (
some true)))))
def laws_markIntS_l2 (v2 : (Int × Int × (List Int))) : Option (Lp (Int × Int × (List Int)) (Int × (List Int))) :=
sel (decide (v2.2.1 < (v2.2.2.length : Int))) (
req (0 ≤ v2.2.1 ∧ v2.2.1 < v2.2.2.length) <|
req (v2.2.1.toNat < v2.2.2.length) <|
some (.go (wrapK .i64 (v2.1 + 1), wrapK .i64 (v2.2.1 + 1), (v2.2.2.set v2.2.1.toNat v2.1)))) (
some (.done (v2.1, v2.2.2)))
def laws_markIntS (p0 : (List Int)) (p1 : Int) : Option (Int × (List Int)) :=
bnd (loop (laws_markIntS_l2) (p1, 0, p0)) fun v4 =>
some (v4.1, v4.2)
def laws_markSquare (p0 : Square) (p1 : Int) : Option (Int × Square) :=
bnd (laws_markIntS p0.Levels p1) fun q1 =>
some (q1.1, (⟨p0.Kind, p0.Mode, p0.Dx, p0.Dy, q1.2⟩ : Square))
def laws_heldIntS_l2 (p0 : (List Int)) (v2 : (Int × Int)) : Option (Lp (Int × Int) (Ou Int Int)) :=
sel (decide (v2.2 < (p0.length : Int))) (
req (0 ≤ v2.2 ∧ v2.2 < p0.length) <|
sel ((p0.getD v2.2.toNat 0) != v2.1) (
some (.done (.ret (-1)))) (
some (.go (wrapK .i64 (v2.1 + 1), wrapK .i64 (v2.2 + 1))))) (
some (.done (.out v2.1)))
def laws_heldIntS (p0 : (List Int)) (p1 : Int) : Option Int :=
bnd (loop (laws_heldIntS_l2 p0) (p1, 0)) fun o5 => match o5 with
| .out v4 => (
some v4)
| .ret r => some r
def laws_heldSquare (p0 : Square) (p1 : Int) : Option Int :=
bnd (laws_heldIntS p0.Levels p1) fun q1 =>
sel (decide (q1 < 0)) (
some (-1)) (
some q1)
def laws_FnExactSquareFor (p0 : Pic) (p1 : Pic) (p2 : (List Int)) (p3 : Int) (p4 : Int) (p5 : Cond) (p6 : Int) : Option Bool :=
sel (decide ((p2.length : Int) > 1048576)) (
some true) (
bnd (laws_szPic p0 1048576) fun q1 =>
sel (decide (q1 < 0)) (
some true) (
bnd (laws_szPic p1 q1) fun q2 =>
sel (decide (q2 < 0)) (
some true) (
bnd (laws_toPic p0) fun q3 =>
bnd (laws_toPic p1) fun q4 =>
bnd (laws_toIntS p2) fun q5 =>
bnd (laws_toCond p5) fun q6 =>
bnd (spec_SquareFor q3 q4 q5 p3 p4 q6 p6) fun q7 =>
bnd (laws_toIntS p2) fun q8 =>
bnd (laws_toPic p0) fun q9 =>
bnd (laws_toPic p1) fun q10 =>
bnd (laws_toCond p5) fun q11 =>
bnd (impl_SquareFor q9 q10 q8 p3 p4 q11 p6) fun q12 =>
bnd (
bnd (laws_eqSquare q12.1 q7.1) fun q14 =>
sel q14 (
bnd (laws_eqIntS q12.2.1 q7.2.1) fun q15 =>
sel q15 (
some (!(q12.2.2 == q7.2.2))) (
some true)) (
some true)) fun v13 =>
sel v13 (
some false) (
bnd (laws_toIntS p2) fun q16 =>
bnd (laws_eqIntS q8 q16) fun q17 =>
sel (!q17) (
some false) (
bnd (laws_markIntS q8 1) fun q18 =>
bnd (
sel (decide (q18.1 < 0)) (
some true) (
bnd (laws_eqSquare q12.1 q7.1) fun q20 =>
sel q20 (
bnd (laws_eqIntS q12.2.1 q7.2.1) fun q21 =>
sel q21 (
some (!(q12.2.2 == q7.2.2))) (
some true)) (
some true))) fun v19 =>
sel v19 (
some false) (
bnd (laws_markSquare q12.1 1) fun q22 =>
bnd (laws_markIntS q12.2.1 q22.1) fun q23 =>
bnd (laws_heldSquare (⟨q12.1.Kind, q12.1.Mode, q12.1.Dx, q12.1.Dy, q22.2.Levels⟩ : Square) 1) fun q24 =>
sel (decide (q24 < 0)) (
some false) (
bnd (laws_heldIntS q23.2 q24) fun q25 =>
sel (decide (q25 < 0)) (
some false) (
sel (q25 != q23.1) (
some false) (
bnd (laws_toPic p0) fun q26 =>
bnd (laws_toPic p1) fun q27 =>
bnd (laws_toIntS p2) fun q28 =>
bnd (laws_toCond p5) fun q29 =>
bnd (impl_SquareFor q26 q27 q28 p3 p4 q29 p6) fun q30 =>
bnd (
bnd (laws_eqSquare q30.1 q7.1) fun q32 =>
sel q32 (
bnd (laws_eqIntS q30.2.1 q7.2.1) fun q33 =>
sel q33 (
some (!(q30.2.2 == q7.2.2))) (
some true)) (
some true)) fun v31 =>
sel v31 (
some false) (
bnd (laws_heldSquare (⟨q12.1.Kind, q12.1.Mode, q12.1.Dx, q12.1.Dy, q22.2.Levels⟩ : Square) 1) fun q34 =>
sel (decide (q34 < 0)) (
some false) (
bnd (laws_heldIntS q23.2 q34) fun q35 =>
sel (decide (q35 < 0)) (
some false) (
sel (q35 != q23.1) (
some false) (
some true)))))))))))))
end
end Go.Proofs.YtpmljllgnocjkaaGreat.A
