/- What the functions that the law FnExactPartShows reaches compute, over numbers, texts and lists. Written by a program of this session. Conditions: none. -/
import Derived.Test.YtpmljllgnocjkaaGreatAL1
namespace Go.Proofs.YtpmljllgnocjkaaGreat.A
open Go Go.Proofs Go.Proofs.YtpmljllgnocjkaaGreatAL Go.RowKit
set_option linter.unusedVariables false
set_option linter.unusedSimpArgs false
structure Pic where
 Wide : Int
 High : Int
 Dots : ByteArray
structure Square where
 Kind : Int
 Mode : Int
 Dx : Int
 Dy : Int
 Levels : (List Int)
structure Cond where
 Key : Bool
 Qp : Int
 Large : Bool
 Exact : Bool
structure Rect where
 Left : Int
 Top : Int
 Wide : Int
 High : Int
structure Par where
 Qp : Int
 Large : Bool
 Exact : Bool
 Confined : Bool
structure Part where
 Key : Bool
 Qp : Int
 Row : ByteArray
structure Edges where
 Above : (List Int)
 Left : (List Int)
 Corner : Int
structure Scan where
 row_ : ByteArray
 at_ : Int
 bad_ : Bool
def dLInti64 : (List Int) := []
def dSquare : Square := ⟨0, 0, 0, 0, []⟩
def okPic (x : Pic) : Prop := (Lit.int .i64 x.Wide).wf = true ∧ (Lit.int .i64 x.High).wf = true ∧ x.Dots.size ≤ maxLen
def okRect (x : Rect) : Prop := (Lit.int .i64 x.Left).wf = true ∧ (Lit.int .i64 x.Top).wf = true ∧ (Lit.int .i64 x.Wide).wf = true ∧ (Lit.int .i64 x.High).wf = true
def okPar (x : Par) : Prop := (Lit.int .i64 x.Qp).wf = true ∧ True ∧ True ∧ True
def okPart (x : Part) : Prop := True ∧ (Lit.int .i64 x.Qp).wf = true ∧ x.Row.size ≤ maxLen
noncomputable section
def laws_szPic (p0 : Pic) (p1 : Int) : Option Int :=
sel (decide ((wrapK .i64 (p1 - (p0.Dots.size : Int))) < 0)) (
some (-1)) (
some (wrapK .i64 (p1 - (p0.Dots.size : Int))))
def laws_toPic (p0 : Pic) : Option Pic :=
some p0
def spec_l01In (p0 : Int) (p1 : Int) (p2 : Int) : Option Bool :=
bnd (
sel (decide (p0 ≥ p1)) (
some (decide (p0 ≤ p2))) (
some false)) fun v1 =>
some v1
def spec_PicOk (p0 : Pic) : Option Bool :=
bnd (
bnd (spec_l01In p0.Wide 1 256) fun q2 =>
sel q2 (
bnd (spec_l01In p0.High 1 256) fun q3 =>
sel q3 (
some ((p0.Dots.size : Int) == (wrapK .i64 (p0.Wide * p0.High)))) (
some false)) (
some false)) fun v1 =>
some v1
def spec_l12Within (p0 : Pic) (p1 : Int) (p2 : Int) (p3 : Int) (p4 : Int) : Option Bool :=
bnd (
bnd (spec_PicOk p0) fun q2 =>
sel q2 (
bnd (spec_l01In p3 1 p0.Wide) fun q3 =>
sel q3 (
bnd (spec_l01In p4 1 p0.High) fun q4 =>
sel q4 (
bnd (spec_l01In p1 0 (wrapK .i64 (p0.Wide - p3))) fun q5 =>
sel q5 (
bnd (spec_l01In p2 0 (wrapK .i64 (p0.High - p4))) fun q6 =>
some q6) (
some false)) (
some false)) (
some false)) (
some false)) fun v1 =>
some v1
def spec_l13Fits (p0 : Pic) (p1 : Int) (p2 : Int) : Option Bool :=
bnd (
req ((8 : Int) ≠ 0) <|
sel ((p1.tmod 8) == 0) (
req ((8 : Int) ≠ 0) <|
sel ((p2.tmod 8) == 0) (
bnd (spec_l12Within p0 p1 p2 8 8) fun q2 =>
some q2) (
some false)) (
some false)) fun v1 =>
some v1
def spec_l13Dots_l2 (p0 : (List Int)) (v3 : Int) : Option (Lp Int (Ou Unit Bool)) :=
sel (decide (v3 < 64)) (
req (0 ≤ v3 ∧ v3 < p0.length) <|
bnd (spec_l01In (p0.getD v3.toNat 0) 0 255) fun q7 =>
sel (!q7) (
some (.done (.ret false))) (
some (.go (wrapK .i64 (v3 + 1))))) (
some (.done (.out ())))
def spec_l13Dots (p0 : (List Int)) : Option Bool :=
sel ((p0.length : Int) != 64) (
some false) (
bnd (loop (spec_l13Dots_l2 p0) 0) fun o8 => match o8 with
| .out v6 => (
some true)
| .ret r => some r)
def spec_CondOk (p0 : Cond) : Option Bool :=
bnd (
bnd (spec_l01In p0.Qp 0 40) fun q2 =>
sel q2 (
sel p0.Large (
some (!p0.Exact)) (
some true)) (
some false)) fun v1 =>
some v1
def spec_Brought (p0 : Int) (p1 : Int) (p2 : Int) : Option Int :=
bnd (
sel (decide (p2 < p1)) (
some true) (
some (decide (p0 < p1)))) fun v1 =>
sel v1 (
some p1) (
sel (decide (p0 > p2)) (
some p2) (
some p0))
def spec_DotAt (p0 : Pic) (p1 : Int) (p2 : Int) : Option Int :=
bnd (spec_PicOk p0) fun q1 =>
sel (!q1) (
some (-1)) (
bnd (spec_Brought p2 0 (wrapK .i64 (p0.High - 1))) fun q2 =>
bnd (spec_Brought p1 0 (wrapK .i64 (p0.Wide - 1))) fun q3 =>
req (0 ≤ (wrapK .i64 ((wrapK .i64 (q2 * p0.Wide)) + q3)) ∧ (wrapK .i64 ((wrapK .i64 (q2 * p0.Wide)) + q3)) < p0.Dots.size) <|
some (wrapK .i64 ((btOf p0.Dots (wrapK .i64 ((wrapK .i64 (q2 * p0.Wide)) + q3))))))
def spec_BlockOf_l2 (p0 : Pic) (p1 : Int) (p2 : Int) (v7 : (Int × (List Int))) : Option (Lp (Int × (List Int)) (List Int)) :=
sel (decide (v7.1 < 64)) (
req ((8 : Int) ≠ 0) <|
req ((8 : Int) ≠ 0) <|
bnd (spec_DotAt p0 (wrapK .i64 (p1 + (v7.1.tmod 8))) (wrapK .i64 (p2 + (wrapK .i64 (v7.1.tdiv 8))))) fun q11 =>
req ((v7.2.length + ([q11]).length) * 8 ≤ 140737488355328 ∧ v7.2.length + ([q11]).length ≤ maxLen) <|
some (.go (wrapK .i64 (v7.1 + 1), (v7.2 ++ ([q11]))))) (
some (.done v7.2))
def spec_BlockOf (p0 : Pic) (p1 : Int) (p2 : Int) : Option (List Int) :=
bnd (
bnd (spec_PicOk p0) fun q2 =>
sel q2 (
bnd (spec_l01In p1 (-1000) 1000) fun q3 =>
sel q3 (
bnd (spec_l01In p2 (-1000) 1000) fun q4 =>
some (!q4)) (
some true)) (
some true)) fun v1 =>
sel v1 (
some ([] : List Int)) (
bnd (loop (spec_BlockOf_l2 p0 p1 p2) (0, ([] : List Int))) fun v10 =>
some v10)
def spec_EdgesOf_l2 (p0 : Pic) (p1 : Int) (p2 : Int) (v7 : (Int × (List Int) × (List Int))) : Option (Lp (Int × (List Int) × (List Int)) ((List Int) × (List Int))) :=
sel (decide (v7.1 < 8)) (
bnd (
bnd (
sel (decide (p2 > 0)) (
bnd (spec_DotAt p0 (wrapK .i64 (p1 + v7.1)) (wrapK .i64 (p2 - 1))) fun q16 =>
req ((v7.2.1.length + ([q16]).length) * 8 ≤ 140737488355328 ∧ v7.2.1.length + ([q16]).length ≤ maxLen) <|
some (v7.2.1 ++ ([q16]))) (
some v7.2.1)) fun v15 =>
sel (decide (p1 > 0)) (
bnd (spec_DotAt p0 (wrapK .i64 (p1 - 1)) (wrapK .i64 (p2 + v7.1))) fun q17 =>
req ((v7.2.2.length + ([q17]).length) * 8 ≤ 140737488355328 ∧ v7.2.2.length + ([q17]).length ≤ maxLen) <|
some (v15, (v7.2.2 ++ ([q17])))) (
some (v15, v7.2.2))) fun v14 =>
some (.go (wrapK .i64 (v7.1 + 1), v14.1, v14.2))) (
some (.done (v7.2.1, v7.2.2)))
def spec_EdgesOf (p0 : Pic) (p1 : Int) (p2 : Int) : Option (Edges × Bool) :=
bnd (spec_l13Fits p0 p1 p2) fun q1 =>
sel (!q1) (
some ((⟨[], [], 0⟩ : Edges), false)) (
bnd (loop (spec_EdgesOf_l2 p0 p1 p2) (0, [], [])) fun v13 =>
bnd (
bnd (
sel (decide (p1 > 0)) (
some (decide (p2 > 0))) (
some false)) fun v20 =>
sel v20 (
bnd (spec_DotAt p0 (wrapK .i64 (p1 - 1)) (wrapK .i64 (p2 - 1))) fun q21 =>
some q21) (
some (-1))) fun v19 =>
some ((⟨v13.1, v13.2, v19⟩ : Edges), true))
def spec_l13Side_l2 (p0 : (List Int)) (v4 : Int) : Option (Lp Int (Ou Unit Bool)) :=
sel (decide (v4 < (p0.length : Int))) (
req (0 ≤ v4 ∧ v4 < p0.length) <|
bnd (spec_l01In (p0.getD v4.toNat 0) 0 255) fun q8 =>
sel (!q8) (
some (.done (.ret false))) (
some (.go (wrapK .i64 (v4 + 1))))) (
some (.done (.out ())))
def spec_l13Side (p0 : (List Int)) : Option Bool :=
bnd (
sel ((p0.length : Int) != 0) (
some ((p0.length : Int) != 8)) (
some false)) fun v1 =>
sel v1 (
some false) (
bnd (loop (spec_l13Side_l2 p0) 0) fun o9 => match o9 with
| .out v7 => (
some true)
| .ret r => some r)
def spec_EdgesOk (p0 : Edges) : Option Bool :=
bnd (
bnd (spec_l13Side p0.Above) fun q2 =>
sel q2 (
bnd (spec_l13Side p0.Left) fun q3 =>
sel q3 (
bnd (spec_l01In p0.Corner (-1) 255) fun q4 =>
some q4) (
some false)) (
some false)) fun v1 =>
some v1
def spec_l13Filled (p0 : (List Int)) (p1 : Int) : Option Int :=
sel ((p0.length : Int) == 0) (
some 128) (
req (0 ≤ p1 ∧ p1 < p0.length) <|
some (p0.getD p1.toNat 0))
def spec_l13Mid_l2 (p0 : Edges) (v2 : (Int × Int)) : Option (Lp (Int × Int) Int) :=
sel (decide (v2.2 < (p0.Above.length : Int))) (
req (0 ≤ v2.2 ∧ v2.2 < p0.Above.length) <|
some (.go (wrapK .i64 (v2.1 + (p0.Above.getD v2.2.toNat 0)), wrapK .i64 (v2.2 + 1)))) (
some (.done v2.1))
def spec_l13Mid_l4 (p0 : Edges) (v7 : (Int × Int)) : Option (Lp (Int × Int) Int) :=
sel (decide (v7.2 < (p0.Left.length : Int))) (
req (0 ≤ v7.2 ∧ v7.2 < p0.Left.length) <|
some (.go (wrapK .i64 (v7.1 + (p0.Left.getD v7.2.toNat 0)), wrapK .i64 (v7.2 + 1)))) (
some (.done v7.1))
def spec_l13Mid (p0 : Edges) : Option Int :=
sel ((wrapK .i64 ((p0.Above.length : Int) + (p0.Left.length : Int))) == 0) (
some 128) (
req ((2 : Int) ≠ 0) <|
bnd (loop (spec_l13Mid_l2 p0) (wrapK .i64 ((wrapK .i64 ((p0.Above.length : Int) + (p0.Left.length : Int))).tdiv 2), 0)) fun v4 =>
bnd (loop (spec_l13Mid_l4 p0) (v4, 0)) fun v9 =>
req ((wrapK .i64 ((p0.Above.length : Int) + (p0.Left.length : Int))) ≠ 0) <|
some (wrapK .i64 (v9.tdiv (wrapK .i64 ((p0.Above.length : Int) + (p0.Left.length : Int))))))
def spec_GuessOf_l2 (p0 : Int) (p1 : Edges) (v4 : Int) (v11 : (Int × (List Int))) : Option (Lp (Int × (List Int)) (List Int)) :=
sel (decide (v11.1 < 64)) (
bnd (
req ((8 : Int) ≠ 0) <|
bnd (spec_l13Filled p1.Above (v11.1.tmod 8)) fun q20 =>
req ((8 : Int) ≠ 0) <|
bnd (spec_l13Filled p1.Left (wrapK .i64 (v11.1.tdiv 8))) fun q21 =>
sel (p0 == 0) (
bnd (spec_l13Mid p1) fun q22 =>
req ((v11.2.length + ([q22]).length) * 8 ≤ 140737488355328 ∧ v11.2.length + ([q22]).length ≤ maxLen) <|
some (v11.2 ++ ([q22]))) (
sel (p0 == 1) (
req ((v11.2.length + ([q20]).length) * 8 ≤ 140737488355328 ∧ v11.2.length + ([q20]).length ≤ maxLen) <|
some (v11.2 ++ ([q20]))) (
sel (p0 == 2) (
req ((v11.2.length + ([q21]).length) * 8 ≤ 140737488355328 ∧ v11.2.length + ([q21]).length ≤ maxLen) <|
some (v11.2 ++ ([q21]))) (
bnd (spec_Brought (wrapK .i64 ((wrapK .i64 (q21 + q20)) - v4)) 0 255) fun q23 =>
req ((v11.2.length + ([q23]).length) * 8 ≤ 140737488355328 ∧ v11.2.length + ([q23]).length ≤ maxLen) <|
some (v11.2 ++ ([q23])))))) fun v19 =>
some (.go (wrapK .i64 (v11.1 + 1), v19))) (
some (.done v11.2))
def spec_GuessOf (p0 : Int) (p1 : Edges) : Option (List Int) :=
bnd (
bnd (spec_EdgesOk p1) fun q2 =>
sel q2 (
bnd (spec_l01In p0 0 3) fun q3 =>
some (!q3)) (
some true)) fun v1 =>
sel v1 (
some ([] : List Int)) (
bnd (
sel (decide (p1.Corner < 0)) (
some 128) (
some p1.Corner)) fun v4 =>
bnd (loop (spec_GuessOf_l2 p0 p1 v4) (0, ([] : List Int))) fun v18 =>
some v18)
def spec_l09All_l2 (p0 : (List Int)) (p1 : Int) (p2 : Int) (v3 : Int) : Option (Lp Int (Ou Unit Bool)) :=
sel (decide (v3 < p1)) (
req (0 ≤ v3 ∧ v3 < p0.length) <|
bnd (spec_l01In (p0.getD v3.toNat 0) (wrapK .i64 (0 - p2)) p2) fun q7 =>
sel (!q7) (
some (.done (.ret false))) (
some (.go (wrapK .i64 (v3 + 1))))) (
some (.done (.out ())))
def spec_l09All (p0 : (List Int)) (p1 : Int) (p2 : Int) : Option Bool :=
sel ((p0.length : Int) != p1) (
some false) (
bnd (loop (spec_l09All_l2 p0 p1 p2) 0) fun o8 => match o8 with
| .out v6 => (
some true)
| .ret r => some r)
def spec_l01Long_l2 (p0 : Int) (p1 : Int) (v2 : (Int × (List Int))) : Option (Lp (Int × (List Int)) (List Int)) :=
sel (decide (v2.1 < p0)) (
req (0 ≤ v2.1 ∧ v2.1 < v2.2.length) <|
req (v2.1.toNat < v2.2.length) <|
some (.go (wrapK .i64 (v2.1 + 1), (v2.2.set v2.1.toNat p1)))) (
some (.done v2.2))
def spec_l01Long (p0 : Int) (p1 : Int) : Option ByteArray :=
req (0 ≤ p0 ∧ p0 ≤ p0 ∧ p0 * 1 ≤ 281474976710656) <|
bnd (loop (spec_l01Long_l2 p0 p1) (0, (List.replicate p0.toNat (0 : Int)))) fun v4 =>
some (strOfNums v4)
def spec_ScanAt_l14 (p0 : Int) (p1 : Int) (v17 : (Int × Int)) (v38 : (Int × Int)) : Option (Lp (Int × Int) (Ou Int Int)) :=
sel (decide (v38.2 < p0)) (
joinK (fun (v44 : Int) =>
some (.go (v44, wrapK .i64 (v38.2 + 1)))) fun j36 =>
bnd (
req ((2 : Int) ≠ 0) <|
sel ((v17.2.tmod 2) == 0) (
some (wrapK .i64 ((wrapK .i64 (p0 - 1)) - v38.2))) (
some v38.2)) fun v45 =>
bnd (spec_l01In (wrapK .i64 (v17.2 - v45)) 0 (wrapK .i64 (p0 - 1))) fun q46 =>
sel (!q46) (
j36 v38.1) (
sel (v38.1 == p1) (
some (.done (.ret (wrapK .i64 ((wrapK .i64 ((wrapK .i64 (p0 * v45)) + v17.2)) - v45))))) (
j36 (wrapK .i64 (v38.1 + 1))))) (
some (.done (.out v38.1)))
def spec_ScanAt_l12 (p0 : Int) (p1 : Int) (v17 : (Int × Int)) : Option (Lp (Int × Int) (Ou Unit Int)) :=
sel (decide (v17.2 ≤ (wrapK .i64 ((wrapK .i64 (2 * p0)) - 2)))) (
bnd (loop (spec_ScanAt_l14 p0 p1 v17) (v17.1, 0)) fun o47 => match o47 with
| .out v43 => (
some (.go (v43, wrapK .i64 (v17.2 + 1))))
| .ret r => some (.done (.ret r))) (
some (.done (.out ())))
def spec_ScanAt (p0 : Int) (p1 : Int) : Option Int :=
bnd (
sel (p0 != 4) (
sel (p0 != 8) (
some true) (
sel (decide (p1 < 0)) (
some true) (
some (decide (p1 ≥ (wrapK .i64 (p0 * p0))))))) (
sel (decide (p1 < 0)) (
some true) (
some (decide (p1 ≥ (wrapK .i64 (p0 * p0))))))) fun v1 =>
sel v1 (
some (-1)) (
bnd (loop (spec_ScanAt_l12 p0 p1) (0, 0)) fun o48 => match o48 with
| .out v33 => (
some (-1))
| .ret r => some r)
def spec_SignOf_l2 (v6 : (Int × Int)) : Option (Lp (Int × Int) Int) :=
sel (decide (v6.2 > 0)) (
bnd (
req ((2 : Int) ≠ 0) <|
sel ((v6.2.tmod 2) == 1) (
some (wrapK .i64 (0 - v6.1))) (
some v6.1)) fun v10 =>
req ((2 : Int) ≠ 0) <|
some (.go (v10, wrapK .i64 (v6.2.tdiv 2)))) (
some (.done v6.1))
def spec_SignOf (p0 : Int) (p1 : Int) : Option Int :=
bnd (
bnd (spec_l01In p0 0 7) fun q2 =>
sel q2 (
bnd (spec_l01In p1 0 7) fun q3 =>
some (!q3)) (
some true)) fun v1 =>
sel v1 (
some 0) (
bnd (loop (spec_SignOf_l2) (1, (IntKind.wrap .i64 (BitVec.ofInt (IntKind.bits .i64) p0 &&& BitVec.ofInt (IntKind.bits .i64) p1).toNat))) fun v9 =>
some v9)
def spec_l10Row_l2 (p0 : (List Int)) (p1 : Int) (p2 : Int) (v3 : (Int × Int)) : Option (Lp (Int × Int) Int) :=
sel (decide (v3.2 < 8)) (
req (0 ≤ (wrapK .i64 ((wrapK .i64 (8 * p1)) + v3.2)) ∧ (wrapK .i64 ((wrapK .i64 (8 * p1)) + v3.2)) < p0.length) <|
bnd (spec_SignOf p2 v3.2) fun q7 =>
some (.go (wrapK .i64 (v3.1 + (wrapK .i64 ((p0.getD (wrapK .i64 ((wrapK .i64 (8 * p1)) + v3.2)).toNat 0) * q7))), wrapK .i64 (v3.2 + 1)))) (
some (.done v3.1))
def spec_l10Row (p0 : (List Int)) (p1 : Int) (p2 : Int) : Option Int :=
bnd (loop (spec_l10Row_l2 p0 p1 p2) (0, 0)) fun v6 =>
some v6
def spec_l10Sums_l14 (p0 : (List Int)) (v10 : (Int × (List Int))) (v23 : (Int × (List Int))) : Option (Lp (Int × (List Int)) (List Int)) :=
sel (decide (v23.1 < 8)) (
bnd (spec_l10Row p0 v10.1 v23.1) fun q27 =>
req ((v23.2.length + ([q27]).length) * 8 ≤ 140737488355328 ∧ v23.2.length + ([q27]).length ≤ maxLen) <|
some (.go (wrapK .i64 (v23.1 + 1), (v23.2 ++ ([q27]))))) (
some (.done v23.2))
def spec_l10Sums_l12 (p0 : (List Int)) (v10 : (Int × (List Int))) : Option (Lp (Int × (List Int)) (List Int)) :=
sel (decide (v10.1 < 8)) (
bnd (loop (spec_l10Sums_l14 p0 v10) (0, v10.2)) fun v26 =>
some (.go (wrapK .i64 (v10.1 + 1), v26))) (
some (.done v10.2))
def spec_l10Sums_l172 (v20 : (List Int)) (v60 : (Int × (List Int))) (v101 : (Int × (List Int))) (v114 : (Int × Int)) : Option (Lp (Int × Int) Int) :=
sel (decide (v114.2 < 8)) (
bnd (spec_SignOf v60.1 v114.2) fun q118 =>
req (0 ≤ (wrapK .i64 ((wrapK .i64 (8 * v114.2)) + v101.1)) ∧ (wrapK .i64 ((wrapK .i64 (8 * v114.2)) + v101.1)) < v20.length) <|
req ((wrapK .i64 ((wrapK .i64 (8 * v114.2)) + v101.1)).toNat < v20.length) <|
some (.go (wrapK .i64 (v114.1 + (wrapK .i64 (q118 * (v20.getD ((wrapK .i64 ((wrapK .i64 (8 * v114.2)) + v101.1)).toNat) 0)))), wrapK .i64 (v114.2 + 1)))) (
some (.done v114.1))
def spec_l10Sums_l168 (v20 : (List Int)) (v60 : (Int × (List Int))) (v101 : (Int × (List Int))) : Option (Lp (Int × (List Int)) (List Int)) :=
sel (decide (v101.1 < 8)) (
bnd (loop (spec_l10Sums_l172 v20 v60 v101) (0, 0)) fun v117 =>
req ((v101.2.length + ([v117]).length) * 8 ≤ 140737488355328 ∧ v101.2.length + ([v117]).length ≤ maxLen) <|
some (.go (wrapK .i64 (v101.1 + 1), (v101.2 ++ ([v117]))))) (
some (.done v101.2))
def spec_l10Sums_l146 (v20 : (List Int)) (v60 : (Int × (List Int))) : Option (Lp (Int × (List Int)) (List Int)) :=
sel (decide (v60.1 < 8)) (
bnd (loop (spec_l10Sums_l168 v20 v60) (0, v60.2)) fun v111 =>
some (.go (wrapK .i64 (v60.1 + 1), v111))) (
some (.done v60.2))
def spec_l10Sums (p0 : (List Int)) : Option (List Int) :=
bnd (loop (spec_l10Sums_l12 p0) (0, ([] : List Int))) fun v20 =>
bnd (loop (spec_l10Sums_l146 v20) (0, ([] : List Int))) fun v91 =>
some v91
def spec_StepOf_l2 (p0 : Int) (v4 : (Int × Int)) : Option (Lp (Int × Int) Int) :=
req ((6 : Int) ≠ 0) <|
sel (decide (v4.2 < (wrapK .i64 (p0.tdiv 6)))) (
some (.go (wrapK .i64 (2 * v4.1), wrapK .i64 (v4.2 + 1)))) (
some (.done v4.1))
def spec_StepOf (p0 : Int) : Option Int :=
bnd (spec_l01In p0 0 40) fun q1 =>
sel (!q1) (
some 0) (
bnd (
req ((6 : Int) ≠ 0) <|
sel ((p0.tmod 6) == 0) (
some 10) (
sel ((p0.tmod 6) == 1) (
some 11) (
sel ((p0.tmod 6) == 2) (
some 13) (
sel ((p0.tmod 6) == 3) (
some 14) (
sel ((p0.tmod 6) == 4) (
some 16) (
some 18)))))) fun v2 =>
bnd (loop (spec_StepOf_l2 p0) (v2, 0)) fun v6 =>
some v6)
def spec_l09Flip_l2 (p0 : (List Int)) (v2 : (Int × (List Int))) : Option (Lp (Int × (List Int)) (List Int)) :=
sel (decide (v2.1 < 16)) (
req ((4 : Int) ≠ 0) <|
req ((4 : Int) ≠ 0) <|
req (0 ≤ v2.1 ∧ v2.1 < p0.length) <|
req (0 ≤ (wrapK .i64 ((wrapK .i64 ((v2.1.tmod 4) * 4)) + (wrapK .i64 (v2.1.tdiv 4)))) ∧ (wrapK .i64 ((wrapK .i64 ((v2.1.tmod 4) * 4)) + (wrapK .i64 (v2.1.tdiv 4)))) < v2.2.length) <|
req ((wrapK .i64 ((wrapK .i64 ((v2.1.tmod 4) * 4)) + (wrapK .i64 (v2.1.tdiv 4)))).toNat < v2.2.length) <|
some (.go (wrapK .i64 (v2.1 + 1), (v2.2.set ((wrapK .i64 ((wrapK .i64 ((v2.1.tmod 4) * 4)) + (wrapK .i64 (v2.1.tdiv 4)))).toNat) (p0.getD v2.1.toNat 0))))) (
some (.done v2.2))
def spec_l09Flip (p0 : (List Int)) : Option (List Int) :=
req (0 ≤ (16 : Int) ∧ (16 : Int) ≤ (16 : Int) ∧ (16 : Int) * 8 ≤ 281474976710656) <|
bnd (loop (spec_l09Flip_l2 p0) (0, (List.replicate (16 : Int).toNat (0 : Int)))) fun v4 =>
some v4
def spec_KindOf (p0 : Int) : Option Int :=
bnd (spec_l01In p0 0 15) fun q1 =>
sel (!q1) (
some (-1)) (
req ((4 : Int) ≠ 0) <|
req ((2 : Int) ≠ 0) <|
req ((4 : Int) ≠ 0) <|
req ((2 : Int) ≠ 0) <|
bnd (
sel (((wrapK .i64 (p0.tdiv 4)).tmod 2) == 0) (
some (((p0.tmod 4).tmod 2) == 0)) (
some false)) fun v2 =>
sel v2 (
some 0) (
bnd (
sel (((wrapK .i64 (p0.tdiv 4)).tmod 2) == 1) (
some (((p0.tmod 4).tmod 2) == 1)) (
some false)) fun v3 =>
sel v3 (
some 1) (
some 2)))
def spec_l08Pick (p0 : Int) (p1 : Int) (p2 : Int) (p3 : Int) : Option Int :=
sel (p0 == 0) (
some p1) (
sel (p0 == 1) (
some p2) (
some p3))
def spec_SquareOk (p0 : Square) : Option Bool :=
sel (p0.Kind == 0) (
bnd (
sel (p0.Mode == 0) (
sel (p0.Dx == 0) (
sel (p0.Dy == 0) (
some ((p0.Levels.length : Int) == 0)) (
some false)) (
some false)) (
some false)) fun v1 =>
some v1) (
sel (p0.Kind == 1) (
bnd (
sel (p0.Mode == 0) (
bnd (spec_l01In p0.Dx (-16) 16) fun q3 =>
sel q3 (
bnd (spec_l01In p0.Dy (-16) 16) fun q4 =>
sel q4 (
bnd (spec_l09All p0.Levels 64 5000) fun q5 =>
some q5) (
some false)) (
some false)) (
some false)) fun v2 =>
some v2) (
sel (p0.Kind == 2) (
bnd (
bnd (spec_l01In p0.Mode 0 3) fun q7 =>
sel q7 (
sel (p0.Dx == 0) (
sel (p0.Dy == 0) (
bnd (spec_l09All p0.Levels 64 5000) fun q8 =>
some q8) (
some false)) (
some false)) (
some false)) fun v6 =>
some v6) (
some false)))
def spec_Unscanned_l2 (p0 : Int) (p1 : (List Int)) (v4 : (Int × (List Int))) : Option (Lp (Int × (List Int)) (List Int)) :=
sel (decide (v4.1 < (wrapK .i64 (p0 * p0)))) (
bnd (spec_ScanAt p0 v4.1) fun q8 =>
req (0 ≤ v4.1 ∧ v4.1 < p1.length) <|
req (0 ≤ q8 ∧ q8 < v4.2.length) <|
req (q8.toNat < v4.2.length) <|
some (.go (wrapK .i64 (v4.1 + 1), (v4.2.set q8.toNat (p1.getD v4.1.toNat 0))))) (
some (.done v4.2))
def spec_Unscanned (p0 : Int) (p1 : (List Int)) : Option ((List Int) × Bool) :=
bnd (
sel (p0 != 4) (
sel (p0 != 8) (
some true) (
some ((p1.length : Int) != (wrapK .i64 (p0 * p0))))) (
some ((p1.length : Int) != (wrapK .i64 (p0 * p0))))) fun v1 =>
sel v1 (
some (([] : List Int), false)) (
req (0 ≤ (p1.length : Int) ∧ (p1.length : Int) ≤ (p1.length : Int) ∧ (p1.length : Int) * 8 ≤ 281474976710656) <|
bnd (loop (spec_Unscanned_l2 p0 p1) (0, (List.replicate (p1.length : Int).toNat (0 : Int)))) fun v7 =>
some (v7, true))
def spec_LargeBack (p0 : Int) (p1 : Int) : Option Int :=
bnd (spec_l01In p0 (-5000) 5000) fun q1 =>
sel (!q1) (
some 0) (
bnd (spec_StepOf p1) fun q2 =>
some (wrapK .i64 (p0 * q2)))
def spec_l09Down (p0 : Int) (p1 : Int) : Option Int :=
req (p1 ≠ 0) <|
bnd (
req (p1 ≠ 0) <|
sel (decide ((p0.tmod p1) < 0)) (
some (wrapK .i64 ((wrapK .i64 (p0.tdiv p1)) - 1))) (
some (wrapK .i64 (p0.tdiv p1)))) fun v1 =>
some v1
def spec_EightBack_l2 (v5 : (Int × (List Int))) : Option (Lp (Int × (List Int)) (List Int)) :=
sel (decide (v5.1 < 64)) (
req (0 ≤ v5.1 ∧ v5.1 < v5.2.length) <|
req (v5.1.toNat < v5.2.length) <|
bnd (spec_l09Down (wrapK .i64 ((v5.2.getD v5.1.toNat 0) + 32)) 64) fun q9 =>
req (0 ≤ v5.1 ∧ v5.1 < v5.2.length) <|
req (v5.1.toNat < v5.2.length) <|
some (.go (wrapK .i64 (v5.1 + 1), (v5.2.set v5.1.toNat q9)))) (
some (.done v5.2))
def spec_EightBack (p0 : (List Int)) : Option (List Int) :=
bnd (spec_l09All p0 64 10000000) fun q1 =>
sel (!q1) (
some ([] : List Int)) (
bnd (spec_l10Sums p0) fun q2 =>
bnd (loop (spec_EightBack_l2) (0, q2)) fun v8 =>
some v8)
def spec_ScaleOf_l2 (p0 : Int) (v12 : (Int × Int)) : Option (Lp (Int × Int) Int) :=
req ((6 : Int) ≠ 0) <|
sel (decide (v12.2 < (wrapK .i64 (p0.tdiv 6)))) (
some (.go (wrapK .i64 (2 * v12.1), wrapK .i64 (v12.2 + 1)))) (
some (.done v12.1))
def spec_ScaleOf (p0 : Int) (p1 : Int) : Option Int :=
bnd (spec_KindOf p1) fun q1 =>
bnd (
bnd (spec_l01In p0 0 40) fun q3 =>
sel q3 (
some (decide (q1 < 0))) (
some true)) fun v2 =>
sel v2 (
some 0) (
bnd (
req ((6 : Int) ≠ 0) <|
sel ((p0.tmod 6) == 0) (
bnd (spec_l08Pick q1 10 16 13) fun q5 =>
some q5) (
sel ((p0.tmod 6) == 1) (
bnd (spec_l08Pick q1 11 18 14) fun q6 =>
some q6) (
sel ((p0.tmod 6) == 2) (
bnd (spec_l08Pick q1 13 20 16) fun q7 =>
some q7) (
sel ((p0.tmod 6) == 3) (
bnd (spec_l08Pick q1 14 23 18) fun q8 =>
some q8) (
sel ((p0.tmod 6) == 4) (
bnd (spec_l08Pick q1 16 25 20) fun q9 =>
some q9) (
sel ((p0.tmod 6) == 5) (
bnd (spec_l08Pick q1 18 29 23) fun q10 =>
some q10) (
some 0))))))) fun v4 =>
bnd (loop (spec_ScaleOf_l2 p0) (v4, 0)) fun v14 =>
some v14)
def spec_SmallBack (p0 : Int) (p1 : Int) (p2 : Int) : Option Int :=
bnd (spec_l01In p0 (-5000) 5000) fun q1 =>
sel (!q1) (
some 0) (
bnd (spec_ScaleOf p1 p2) fun q2 =>
some (wrapK .i64 (p0 * q2)))
def spec_l09Backs_l2 (p0 : (List Int)) (v4 : (Int × (List Int))) : Option (Lp (Int × (List Int)) (List Int)) :=
sel (decide (v4.1 < 4)) (
req (0 ≤ (wrapK .i64 (4 * v4.1)) ∧ (wrapK .i64 (4 * v4.1)) < p0.length) <|
req (0 ≤ (wrapK .i64 ((wrapK .i64 (4 * v4.1)) + 1)) ∧ (wrapK .i64 ((wrapK .i64 (4 * v4.1)) + 1)) < p0.length) <|
req (0 ≤ (wrapK .i64 ((wrapK .i64 (4 * v4.1)) + 2)) ∧ (wrapK .i64 ((wrapK .i64 (4 * v4.1)) + 2)) < p0.length) <|
req (0 ≤ (wrapK .i64 ((wrapK .i64 (4 * v4.1)) + 3)) ∧ (wrapK .i64 ((wrapK .i64 (4 * v4.1)) + 3)) < p0.length) <|
bnd (spec_l09Down (p0.getD (wrapK .i64 ((wrapK .i64 (4 * v4.1)) + 1)).toNat 0) 2) fun q9 =>
bnd (spec_l09Down (p0.getD (wrapK .i64 ((wrapK .i64 (4 * v4.1)) + 3)).toNat 0) 2) fun q10 =>
req ((v4.2.length + ([wrapK .i64 ((wrapK .i64 ((p0.getD (wrapK .i64 (4 * v4.1)).toNat 0) + (p0.getD (wrapK .i64 ((wrapK .i64 (4 * v4.1)) + 2)).toNat 0))) + (wrapK .i64 ((p0.getD (wrapK .i64 ((wrapK .i64 (4 * v4.1)) + 1)).toNat 0) + q10))), wrapK .i64 ((wrapK .i64 ((p0.getD (wrapK .i64 (4 * v4.1)).toNat 0) - (p0.getD (wrapK .i64 ((wrapK .i64 (4 * v4.1)) + 2)).toNat 0))) + (wrapK .i64 (q9 - (p0.getD (wrapK .i64 ((wrapK .i64 (4 * v4.1)) + 3)).toNat 0)))), wrapK .i64 ((wrapK .i64 ((p0.getD (wrapK .i64 (4 * v4.1)).toNat 0) - (p0.getD (wrapK .i64 ((wrapK .i64 (4 * v4.1)) + 2)).toNat 0))) - (wrapK .i64 (q9 - (p0.getD (wrapK .i64 ((wrapK .i64 (4 * v4.1)) + 3)).toNat 0)))), wrapK .i64 ((wrapK .i64 ((p0.getD (wrapK .i64 (4 * v4.1)).toNat 0) + (p0.getD (wrapK .i64 ((wrapK .i64 (4 * v4.1)) + 2)).toNat 0))) - (wrapK .i64 ((p0.getD (wrapK .i64 ((wrapK .i64 (4 * v4.1)) + 1)).toNat 0) + q10)))]).length) * 8 ≤ 140737488355328 ∧ v4.2.length + ([wrapK .i64 ((wrapK .i64 ((p0.getD (wrapK .i64 (4 * v4.1)).toNat 0) + (p0.getD (wrapK .i64 ((wrapK .i64 (4 * v4.1)) + 2)).toNat 0))) + (wrapK .i64 ((p0.getD (wrapK .i64 ((wrapK .i64 (4 * v4.1)) + 1)).toNat 0) + q10))), wrapK .i64 ((wrapK .i64 ((p0.getD (wrapK .i64 (4 * v4.1)).toNat 0) - (p0.getD (wrapK .i64 ((wrapK .i64 (4 * v4.1)) + 2)).toNat 0))) + (wrapK .i64 (q9 - (p0.getD (wrapK .i64 ((wrapK .i64 (4 * v4.1)) + 3)).toNat 0)))), wrapK .i64 ((wrapK .i64 ((p0.getD (wrapK .i64 (4 * v4.1)).toNat 0) - (p0.getD (wrapK .i64 ((wrapK .i64 (4 * v4.1)) + 2)).toNat 0))) - (wrapK .i64 (q9 - (p0.getD (wrapK .i64 ((wrapK .i64 (4 * v4.1)) + 3)).toNat 0)))), wrapK .i64 ((wrapK .i64 ((p0.getD (wrapK .i64 (4 * v4.1)).toNat 0) + (p0.getD (wrapK .i64 ((wrapK .i64 (4 * v4.1)) + 2)).toNat 0))) - (wrapK .i64 ((p0.getD (wrapK .i64 ((wrapK .i64 (4 * v4.1)) + 1)).toNat 0) + q10)))]).length ≤ maxLen) <|
some (.go (wrapK .i64 (v4.1 + 1), (v4.2 ++ ([wrapK .i64 ((wrapK .i64 ((p0.getD (wrapK .i64 (4 * v4.1)).toNat 0) + (p0.getD (wrapK .i64 ((wrapK .i64 (4 * v4.1)) + 2)).toNat 0))) + (wrapK .i64 ((p0.getD (wrapK .i64 ((wrapK .i64 (4 * v4.1)) + 1)).toNat 0) + q10))), wrapK .i64 ((wrapK .i64 ((p0.getD (wrapK .i64 (4 * v4.1)).toNat 0) - (p0.getD (wrapK .i64 ((wrapK .i64 (4 * v4.1)) + 2)).toNat 0))) + (wrapK .i64 (q9 - (p0.getD (wrapK .i64 ((wrapK .i64 (4 * v4.1)) + 3)).toNat 0)))), wrapK .i64 ((wrapK .i64 ((p0.getD (wrapK .i64 (4 * v4.1)).toNat 0) - (p0.getD (wrapK .i64 ((wrapK .i64 (4 * v4.1)) + 2)).toNat 0))) - (wrapK .i64 (q9 - (p0.getD (wrapK .i64 ((wrapK .i64 (4 * v4.1)) + 3)).toNat 0)))), wrapK .i64 ((wrapK .i64 ((p0.getD (wrapK .i64 (4 * v4.1)).toNat 0) + (p0.getD (wrapK .i64 ((wrapK .i64 (4 * v4.1)) + 2)).toNat 0))) - (wrapK .i64 ((p0.getD (wrapK .i64 ((wrapK .i64 (4 * v4.1)) + 1)).toNat 0) + q10)))]))))) (
some (.done v4.2))
def spec_l09Backs (p0 : (List Int)) : Option (List Int) :=
bnd (loop (spec_l09Backs_l2 p0) (0, ([] : List Int))) fun v8 =>
some v8
def spec_FourBack_l2 (v8 : (Int × (List Int))) : Option (Lp (Int × (List Int)) (List Int)) :=
sel (decide (v8.1 < 16)) (
req (0 ≤ v8.1 ∧ v8.1 < v8.2.length) <|
req (v8.1.toNat < v8.2.length) <|
bnd (spec_l09Down (wrapK .i64 ((v8.2.getD v8.1.toNat 0) + 32)) 64) fun q12 =>
req (0 ≤ v8.1 ∧ v8.1 < v8.2.length) <|
req (v8.1.toNat < v8.2.length) <|
some (.go (wrapK .i64 (v8.1 + 1), (v8.2.set v8.1.toNat q12)))) (
some (.done v8.2))
def spec_FourBack (p0 : (List Int)) : Option (List Int) :=
bnd (spec_l09All p0 16 10000000) fun q1 =>
sel (!q1) (
some ([] : List Int)) (
bnd (spec_l09Backs p0) fun q2 =>
bnd (spec_l09Flip q2) fun q3 =>
bnd (spec_l09Backs q3) fun q4 =>
bnd (spec_l09Flip q4) fun q5 =>
bnd (loop (spec_FourBack_l2) (0, q5)) fun v11 =>
some v11)
def spec_LevelsBack_l4 (p1 : Cond) (v8 : (Int × (List Int))) : Option (Lp (Int × (List Int)) (List Int)) :=
sel (decide (v8.1 < 64)) (
req (0 ≤ v8.1 ∧ v8.1 < v8.2.length) <|
req (v8.1.toNat < v8.2.length) <|
bnd (spec_LargeBack (v8.2.getD v8.1.toNat 0) p1.Qp) fun q12 =>
req (0 ≤ v8.1 ∧ v8.1 < v8.2.length) <|
req (v8.1.toNat < v8.2.length) <|
some (.go (wrapK .i64 (v8.1 + 1), (v8.2.set v8.1.toNat q12)))) (
some (.done v8.2))
def spec_LevelsBack_l41 (p1 : Cond) (v52 : (Int × (List Int))) : Option (Lp (Int × (List Int)) (List Int)) :=
sel (decide (v52.1 < 16)) (
req (0 ≤ v52.1 ∧ v52.1 < v52.2.length) <|
req (v52.1.toNat < v52.2.length) <|
bnd (spec_SmallBack (v52.2.getD v52.1.toNat 0) p1.Qp v52.1) fun q56 =>
req (0 ≤ v52.1 ∧ v52.1 < v52.2.length) <|
req (v52.1.toNat < v52.2.length) <|
some (.go (wrapK .i64 (v52.1 + 1), (v52.2.set v52.1.toNat q56)))) (
some (.done v52.2))
def spec_LevelsBack_l42 (v31 : (Int × (List Int))) (q58 : (List Int)) (v60 : (Int × (List Int))) : Option (Lp (Int × (List Int)) (List Int)) :=
sel (decide (v60.1 < 16)) (
req ((2 : Int) ≠ 0) <|
req ((4 : Int) ≠ 0) <|
req ((2 : Int) ≠ 0) <|
req ((4 : Int) ≠ 0) <|
req (0 ≤ v60.1 ∧ v60.1 < q58.length) <|
req (v60.1.toNat < q58.length) <|
req (0 ≤ (wrapK .i64 ((wrapK .i64 ((wrapK .i64 (8 * (wrapK .i64 ((wrapK .i64 ((wrapK .i64 (v31.1.tdiv 2)) * 4)) + (wrapK .i64 (v60.1.tdiv 4)))))) + (wrapK .i64 ((v31.1.tmod 2) * 4)))) + (v60.1.tmod 4))) ∧ (wrapK .i64 ((wrapK .i64 ((wrapK .i64 (8 * (wrapK .i64 ((wrapK .i64 ((wrapK .i64 (v31.1.tdiv 2)) * 4)) + (wrapK .i64 (v60.1.tdiv 4)))))) + (wrapK .i64 ((v31.1.tmod 2) * 4)))) + (v60.1.tmod 4))) < v60.2.length) <|
req ((wrapK .i64 ((wrapK .i64 ((wrapK .i64 (8 * (wrapK .i64 ((wrapK .i64 ((wrapK .i64 (v31.1.tdiv 2)) * 4)) + (wrapK .i64 (v60.1.tdiv 4)))))) + (wrapK .i64 ((v31.1.tmod 2) * 4)))) + (v60.1.tmod 4))).toNat < v60.2.length) <|
some (.go (wrapK .i64 (v60.1 + 1), (v60.2.set ((wrapK .i64 ((wrapK .i64 ((wrapK .i64 (8 * (wrapK .i64 ((wrapK .i64 ((wrapK .i64 (v31.1.tdiv 2)) * 4)) + (wrapK .i64 (v60.1.tdiv 4)))))) + (wrapK .i64 ((v31.1.tmod 2) * 4)))) + (v60.1.tmod 4))).toNat) (q58.getD v60.1.toNat 0))))) (
some (.done v60.2))
def spec_LevelsBack_l36 (p0 : (List Int)) (p1 : Cond) (v31 : (Int × (List Int))) : Option (Lp (Int × (List Int)) (List Int)) :=
sel (decide (v31.1 < 4)) (
req (0 ≤ (wrapK .i64 (16 * v31.1)) ∧ (wrapK .i64 (16 * v31.1)) ≤ (wrapK .i64 ((wrapK .i64 (16 * v31.1)) + 16)) ∧ (wrapK .i64 ((wrapK .i64 (16 * v31.1)) + 16)) ≤ (p0.length : Int)) <|
bnd (spec_Unscanned 4 ((p0.drop (wrapK .i64 (16 * v31.1)).toNat).take ((wrapK .i64 ((wrapK .i64 (16 * v31.1)) + 16)).toNat - (wrapK .i64 (16 * v31.1)).toNat))) fun q49 =>
bnd (loop (spec_LevelsBack_l41 p1) (0, q49.1)) fun v55 =>
bnd (spec_FourBack v55) fun q58 =>
bnd (loop (spec_LevelsBack_l42 v31 q58) (0, v31.2)) fun v62 =>
some (.go (wrapK .i64 (v31.1 + 1), v62))) (
some (.done v31.2))
def spec_LevelsBack (p0 : (List Int)) (p1 : Cond) : Option ((List Int) × Bool) :=
bnd (
bnd (spec_CondOk p1) fun q2 =>
sel q2 (
bnd (spec_l09All p0 64 5000) fun q3 =>
some (!q3)) (
some true)) fun v1 =>
sel v1 (
some (([] : List Int), false)) (
sel p1.Exact (
bnd (spec_Unscanned 8 p0) fun q4 =>
some (q4.1, q4.2)) (
sel p1.Large (
bnd (spec_Unscanned 8 p0) fun q5 =>
bnd (loop (spec_LevelsBack_l4 p1) (0, q5.1)) fun v11 =>
bnd (spec_EightBack v11) fun q14 =>
some (q14, true)) (
req (0 ≤ (64 : Int) ∧ (64 : Int) ≤ (64 : Int) ∧ (64 : Int) * 8 ≤ 281474976710656) <|
bnd (loop (spec_LevelsBack_l36 p0 p1) (0, (List.replicate (64 : Int).toNat (0 : Int)))) fun v48 =>
some (v48, true))))
def spec_Joined_l2 (p0 : (List Int)) (p1 : (List Int)) (v6 : (Int × (List Int))) : Option (Lp (Int × (List Int)) (List Int)) :=
sel (decide (v6.1 < 64)) (
req (0 ≤ v6.1 ∧ v6.1 < p0.length) <|
req (0 ≤ v6.1 ∧ v6.1 < p1.length) <|
bnd (spec_Brought (wrapK .i64 ((p0.getD v6.1.toNat 0) + (p1.getD v6.1.toNat 0))) 0 255) fun q10 =>
req ((v6.2.length + ([q10]).length) * 8 ≤ 140737488355328 ∧ v6.2.length + ([q10]).length ≤ maxLen) <|
some (.go (wrapK .i64 (v6.1 + 1), (v6.2 ++ ([q10]))))) (
some (.done v6.2))
def spec_Joined (p0 : (List Int)) (p1 : (List Int)) : Option (List Int) :=
bnd (
bnd (spec_l13Dots p0) fun q2 =>
sel q2 (
bnd (spec_l09All p1 64 10000000) fun q3 =>
some (!q3)) (
some true)) fun v1 =>
sel v1 (
some ([] : List Int)) (
bnd (loop (spec_Joined_l2 p0 p1) (0, ([] : List Int))) fun v9 =>
some v9)
def spec_SquareDots (p0 : Pic) (p1 : Pic) (p2 : Int) (p3 : Int) (p4 : Cond) (p5 : Int) (p6 : Int) (p7 : Square) : Option ((List Int) × Bool) :=
bnd (
bnd (spec_l13Fits p0 p5 p6) fun q2 =>
sel q2 (
bnd (spec_l01In p2 0 256) fun q3 =>
sel q3 (
bnd (spec_l01In p3 0 256) fun q4 =>
sel q4 (
bnd (spec_SquareOk p7) fun q5 =>
sel q5 (
bnd (spec_CondOk p4) fun q6 =>
some (!q6)) (
some true)) (
some true)) (
some true)) (
some true)) fun v1 =>
sel v1 (
some (([] : List Int), false)) (
sel (p7.Kind == 2) (
bnd (spec_EdgesOf p0 p5 p6) fun q7 =>
bnd (spec_LevelsBack p7.Levels p4) fun q8 =>
bnd (spec_GuessOf p7.Mode q7.1) fun q9 =>
bnd (spec_Joined q9 q8.1) fun q10 =>
some (q10, true)) (
bnd (
sel p4.Key (
some true) (
bnd (spec_PicOk p1) fun q12 =>
some (!q12))) fun v11 =>
sel v11 (
some (([] : List Int), false)) (
bnd (spec_BlockOf p1 (wrapK .i64 ((wrapK .i64 (p2 + p5)) + p7.Dx)) (wrapK .i64 ((wrapK .i64 (p3 + p6)) + p7.Dy))) fun q13 =>
sel (p7.Kind == 0) (
some (q13, true)) (
bnd (spec_LevelsBack p7.Levels p4) fun q14 =>
bnd (spec_Joined q13 q14.1) fun q15 =>
some (q15, true)))))
def impl_within (p0 : Int) (p1 : Int) (p2 : Int) : Option Bool :=
bnd (
sel (decide (p0 ≥ p1)) (
some (decide (p0 ≤ p2))) (
some false)) fun v1 =>
some v1
def impl_PicOk (p0 : Pic) : Option Bool :=
bnd (
bnd (impl_within p0.Wide 1 256) fun q2 =>
sel q2 (
bnd (impl_within p0.High 1 256) fun q3 =>
sel q3 (
some ((p0.Dots.size : Int) == (wrapK .i64 (p0.Wide * p0.High)))) (
some false)) (
some false)) fun v1 =>
some v1
def impl_Pic_isSquare (p0 : Pic) (p1 : Int) (p2 : Int) : Option Bool :=
bnd (
req ((8 : Int) ≠ 0) <|
sel ((p1.tmod 8) == 0) (
req ((8 : Int) ≠ 0) <|
sel ((p2.tmod 8) == 0) (
bnd (impl_within p1 0 (wrapK .i64 (p0.Wide - 8))) fun q2 =>
sel q2 (
bnd (impl_within p2 0 (wrapK .i64 (p0.High - 8))) fun q3 =>
some q3) (
some false)) (
some false)) (
some false)) fun v1 =>
some v1
def impl_areIn_l2 (p0 : (List Int)) (p2 : Int) (p3 : Int) (v3 : Int) : Option (Lp Int (Ou Unit Bool)) :=
sel (decide (v3 < (p0.length : Int))) (
req (0 ≤ v3 ∧ v3 < p0.length) <|
bnd (impl_within (p0.getD v3.toNat 0) p2 p3) fun q7 =>
sel (!q7) (
some (.done (.ret false))) (
some (.go (wrapK .i64 (v3 + 1))))) (
some (.done (.out ())))
def impl_areIn (p0 : (List Int)) (p1 : Int) (p2 : Int) (p3 : Int) : Option Bool :=
bnd (loop (impl_areIn_l2 p0 p2 p3) 0) fun o8 => match o8 with
| .out v6 => (
some ((p0.length : Int) == p1))
| .ret r => some r
def impl_CondOk (p0 : Cond) : Option Bool :=
bnd (
bnd (impl_within p0.Qp 0 40) fun q2 =>
sel q2 (
sel p0.Large (
some (!p0.Exact)) (
some true)) (
some false)) fun v1 =>
some v1
def impl_Brought (p0 : Int) (p1 : Int) (p2 : Int) : Option Int :=
some (if (if p2 < p0 then p2 else p0) > p1 then (if p2 < p0 then p2 else p0) else p1)
def impl_Pic_dot (p0 : Pic) (p1 : Int) (p2 : Int) : Option Int :=
bnd (impl_Brought p2 0 (wrapK .i64 (p0.High - 1))) fun q1 =>
bnd (impl_Brought p1 0 (wrapK .i64 (p0.Wide - 1))) fun q2 =>
req (0 ≤ (wrapK .i64 ((wrapK .i64 (q1 * p0.Wide)) + q2)) ∧ (wrapK .i64 ((wrapK .i64 (q1 * p0.Wide)) + q2)) < p0.Dots.size) <|
some (wrapK .i64 ((btOf p0.Dots (wrapK .i64 ((wrapK .i64 (q1 * p0.Wide)) + q2)))))
def impl_EdgesOf_l2 (p0 : Pic) (p1 : Int) (p2 : Int) (v9 : (Int × (List Int) × (List Int))) : Option (Lp (Int × (List Int) × (List Int)) ((List Int) × (List Int))) :=
sel (decide (v9.1 < 8)) (
bnd (
bnd (
sel (decide (p2 > 0)) (
bnd (impl_Pic_dot p0 (wrapK .i64 (p1 + v9.1)) (wrapK .i64 (p2 - 1))) fun q18 =>
req ((v9.2.1.length + ([q18]).length) * 8 ≤ 140737488355328 ∧ v9.2.1.length + ([q18]).length ≤ maxLen) <|
some (v9.2.1 ++ ([q18]))) (
some v9.2.1)) fun v17 =>
sel (decide (p1 > 0)) (
bnd (impl_Pic_dot p0 (wrapK .i64 (p1 - 1)) (wrapK .i64 (p2 + v9.1))) fun q19 =>
req ((v9.2.2.length + ([q19]).length) * 8 ≤ 140737488355328 ∧ v9.2.2.length + ([q19]).length ≤ maxLen) <|
some (v17, (v9.2.2 ++ ([q19])))) (
some (v17, v9.2.2))) fun v16 =>
some (.go (wrapK .i64 (v9.1 + 1), v16.1, v16.2))) (
some (.done (v9.2.1, v9.2.2)))
def impl_EdgesOf (p0 : Pic) (p1 : Int) (p2 : Int) : Option (Edges × Bool) :=
bnd (
bnd (impl_PicOk p0) fun q2 =>
sel q2 (
bnd (impl_Pic_isSquare p0 p1 p2) fun q3 =>
some (!q3)) (
some true)) fun v1 =>
sel v1 (
some ((⟨[], [], 0⟩ : Edges), false)) (
bnd (loop (impl_EdgesOf_l2 p0 p1 p2) (0, [], [])) fun v15 =>
bnd (
bnd (
sel (decide (p1 > 0)) (
some (decide (p2 > 0))) (
some false)) fun v22 =>
sel v22 (
bnd (impl_Pic_dot p0 (wrapK .i64 (p1 - 1)) (wrapK .i64 (p2 - 1))) fun q23 =>
some q23) (
some (-1))) fun v21 =>
some ((⟨v15.1, v15.2, v21⟩ : Edges), true))
def impl_EdgesOk_l2 (p0 : Edges) (v4 : Int) : Option (Lp Int (Ou Unit Bool)) :=
sel (decide (v4 < (([p0.Above, p0.Left]).length : Int))) (
req (0 ≤ v4 ∧ v4 < ([p0.Above, p0.Left]).length) <|
req (v4.toNat < ([p0.Above, p0.Left]).length) <|
bnd (
sel (decide (((([p0.Above, p0.Left]).getD v4.toNat dLInti64).length : Int) > 0)) (
bnd (impl_areIn (([p0.Above, p0.Left]).getD v4.toNat dLInti64) 8 0 255) fun q10 =>
some (!q10)) (
some false)) fun v9 =>
sel v9 (
some (.done (.ret false))) (
some (.go (wrapK .i64 (v4 + 1))))) (
some (.done (.out ())))
def impl_EdgesOk (p0 : Edges) : Option Bool :=
bnd (loop (impl_EdgesOk_l2 p0) 0) fun o11 => match o11 with
| .out v8 => (
bnd (impl_within p0.Corner (-1) 255) fun q12 =>
some q12)
| .ret r => some r
def impl_sumOf_l2 (p0 : (List Int)) (v2 : (Int × Int)) : Option (Lp (Int × Int) Int) :=
sel (decide (v2.2 < (p0.length : Int))) (
req (0 ≤ v2.2 ∧ v2.2 < p0.length) <|
some (.go (wrapK .i64 (v2.1 + (p0.getD v2.2.toNat 0)), wrapK .i64 (v2.2 + 1)))) (
some (.done v2.1))
def impl_sumOf (p0 : (List Int)) : Option Int :=
bnd (loop (impl_sumOf_l2 p0) (0, 0)) fun v4 =>
some v4
def impl_orGrey (p0 : (List Int)) : Option (List Int) :=
sel ((p0.length : Int) == 0) (
some ([128, 128, 128, 128, 128, 128, 128, 128])) (
some p0)
def impl_GuessOf_l14 (p0 : Int) (v4 : Int) (q7 : (List Int)) (q8 : (List Int)) (v9 : Int) (v22 : (Int × (List Int))) (v39 : (Int × (List Int))) : Option (Lp (Int × (List Int)) (List Int)) :=
sel (decide (v39.1 < 8)) (
bnd (
sel (p0 == 0) (
req ((v39.2.length + ([v4]).length) * 8 ≤ 140737488355328 ∧ v39.2.length + ([v4]).length ≤ maxLen) <|
some (v39.2 ++ ([v4]))) (
sel (p0 == 1) (
req (0 ≤ v39.1 ∧ v39.1 < q7.length) <|
req ((v39.2.length + ([(q7.getD v39.1.toNat 0)]).length) * 8 ≤ 140737488355328 ∧ v39.2.length + ([(q7.getD v39.1.toNat 0)]).length ≤ maxLen) <|
some (v39.2 ++ ([(q7.getD v39.1.toNat 0)]))) (
sel (p0 == 2) (
req (0 ≤ v22.1 ∧ v22.1 < q8.length) <|
req ((v39.2.length + ([(q8.getD v22.1.toNat 0)]).length) * 8 ≤ 140737488355328 ∧ v39.2.length + ([(q8.getD v22.1.toNat 0)]).length ≤ maxLen) <|
some (v39.2 ++ ([(q8.getD v22.1.toNat 0)]))) (
req (0 ≤ v22.1 ∧ v22.1 < q8.length) <|
req (0 ≤ v39.1 ∧ v39.1 < q7.length) <|
bnd (impl_Brought (wrapK .i64 ((wrapK .i64 ((q8.getD v22.1.toNat 0) + (q7.getD v39.1.toNat 0))) - v9)) 0 255) fun q45 =>
req ((v39.2.length + ([q45]).length) * 8 ≤ 140737488355328 ∧ v39.2.length + ([q45]).length ≤ maxLen) <|
some (v39.2 ++ ([q45])))))) fun v44 =>
some (.go (wrapK .i64 (v39.1 + 1), v44))) (
some (.done v39.2))
def impl_GuessOf_l12 (p0 : Int) (v4 : Int) (q7 : (List Int)) (q8 : (List Int)) (v9 : Int) (v22 : (Int × (List Int))) : Option (Lp (Int × (List Int)) (List Int)) :=
sel (decide (v22.1 < 8)) (
bnd (loop (impl_GuessOf_l14 p0 v4 q7 q8 v9 v22) (0, v22.2)) fun v43 =>
some (.go (wrapK .i64 (v22.1 + 1), v43))) (
some (.done v22.2))
def impl_GuessOf (p0 : Int) (p1 : Edges) : Option (List Int) :=
bnd (
bnd (impl_EdgesOk p1) fun q2 =>
sel q2 (
bnd (impl_within p0 0 3) fun q3 =>
some (!q3)) (
some true)) fun v1 =>
sel v1 (
some ([] : List Int)) (
bnd (
sel (decide ((wrapK .i64 ((p1.Above.length : Int) + (p1.Left.length : Int))) > 0)) (
bnd (impl_sumOf p1.Above) fun q5 =>
bnd (impl_sumOf p1.Left) fun q6 =>
req ((2 : Int) ≠ 0) <|
req ((wrapK .i64 ((p1.Above.length : Int) + (p1.Left.length : Int))) ≠ 0) <|
some (wrapK .i64 ((wrapK .i64 ((wrapK .i64 (q5 + q6)) + (wrapK .i64 ((wrapK .i64 ((p1.Above.length : Int) + (p1.Left.length : Int))).tdiv 2)))).tdiv (wrapK .i64 ((p1.Above.length : Int) + (p1.Left.length : Int)))))) (
some 128)) fun v4 =>
bnd (impl_orGrey p1.Above) fun q7 =>
bnd (impl_orGrey p1.Left) fun q8 =>
bnd (
sel (decide (p1.Corner < 0)) (
some 128) (
some p1.Corner)) fun v9 =>
bnd (loop (impl_GuessOf_l12 p0 v4 q7 q8 v9) (0, ([] : List Int))) fun v35 =>
some v35)
def impl_scanOrder_l14 (p0 : Int) (v16 : (Int × (List Int))) (v37 : (Int × (List Int))) : Option (Lp (Int × (List Int)) (List Int)) :=
sel (decide (v37.1 ≤ v16.1)) (
bnd (
bnd (
req ((2 : Int) ≠ 0) <|
sel ((v16.1.tmod 2) == 0) (
some (wrapK .i64 (v16.1 - v37.1))) (
some v37.1)) fun v44 =>
bnd (
sel (decide (v44 < p0)) (
some (decide ((wrapK .i64 (v16.1 - v44)) < p0))) (
some false)) fun v45 =>
sel v45 (
req ((v37.2.length + ([wrapK .i64 ((wrapK .i64 (v44 * p0)) + (wrapK .i64 (v16.1 - v44)))]).length) * 8 ≤ 140737488355328 ∧ v37.2.length + ([wrapK .i64 ((wrapK .i64 (v44 * p0)) + (wrapK .i64 (v16.1 - v44)))]).length ≤ maxLen) <|
some (v37.2 ++ ([wrapK .i64 ((wrapK .i64 (v44 * p0)) + (wrapK .i64 (v16.1 - v44)))]))) (
some v37.2)) fun v43 =>
some (.go (wrapK .i64 (v37.1 + 1), v43))) (
some (.done v37.2))
def impl_scanOrder_l12 (p0 : Int) (v16 : (Int × (List Int))) : Option (Lp (Int × (List Int)) (List Int)) :=
sel (decide (v16.1 ≤ (wrapK .i64 ((wrapK .i64 (2 * p0)) - 2)))) (
bnd (loop (impl_scanOrder_l14 p0 v16) (0, v16.2)) fun v42 =>
some (.go (wrapK .i64 (v16.1 + 1), v42))) (
some (.done v16.2))
def impl_scanOrder (p0 : Int) : Option (List Int) :=
bnd (loop (impl_scanOrder_l12 p0) (0, ([] : List Int))) fun v32 =>
some v32
def impl_SignOf (p0 : Int) (p1 : Int) : Option Int :=
bnd (
bnd (impl_within p0 0 7) fun q2 =>
sel q2 (
bnd (impl_within p1 0 7) fun q3 =>
some (!q3)) (
some true)) fun v1 =>
sel v1 (
some 0) (
req (0 ≤ (1 : Int)) <|
req (0 ≤ (2 : Int)) <|
req ((2 : Int) ≠ 0) <|
sel (((wrapK .i64 ((wrapK .i64 ((IntKind.wrap .i64 (BitVec.ofInt (IntKind.bits .i64) (IntKind.wrap .i64 (BitVec.ofInt (IntKind.bits .i64) p0 &&& BitVec.ofInt (IntKind.bits .i64) p1).toNat) &&& BitVec.ofInt (IntKind.bits .i64) 1).toNat) + (IntKind.wrap .i64 (BitVec.ofInt (IntKind.bits .i64) ((IntKind.wrap .i64 (BitVec.ofInt (IntKind.bits .i64) p0 &&& BitVec.ofInt (IntKind.bits .i64) p1).toNat) / 2 ^ min (1 : Int).toNat (IntKind.bits .i64)) &&& BitVec.ofInt (IntKind.bits .i64) 1).toNat))) + (IntKind.wrap .i64 (BitVec.ofInt (IntKind.bits .i64) ((IntKind.wrap .i64 (BitVec.ofInt (IntKind.bits .i64) p0 &&& BitVec.ofInt (IntKind.bits .i64) p1).toNat) / 2 ^ min (2 : Int).toNat (IntKind.bits .i64)) &&& BitVec.ofInt (IntKind.bits .i64) 1).toNat))).tmod 2) == 0) (
some 1) (
some (-1)))
def impl_sums_l86 (p0 : (List Int)) (v31 : (Int × (List Int))) (v72 : (Int × (List Int))) (v85 : (Int × (List Int))) : Option (Lp (Int × (List Int)) (List Int)) :=
sel (decide (v85.1 < 8)) (
req (0 ≤ (wrapK .i64 ((wrapK .i64 (8 * v31.1)) + v72.1)) ∧ (wrapK .i64 ((wrapK .i64 (8 * v31.1)) + v72.1)) < v85.2.length) <|
req ((wrapK .i64 ((wrapK .i64 (8 * v31.1)) + v72.1)).toNat < v85.2.length) <|
bnd (impl_SignOf v72.1 v85.1) fun q89 =>
req (0 ≤ (wrapK .i64 ((wrapK .i64 (8 * v31.1)) + v85.1)) ∧ (wrapK .i64 ((wrapK .i64 (8 * v31.1)) + v85.1)) < p0.length) <|
req (0 ≤ (wrapK .i64 ((wrapK .i64 (8 * v31.1)) + v72.1)) ∧ (wrapK .i64 ((wrapK .i64 (8 * v31.1)) + v72.1)) < v85.2.length) <|
req ((wrapK .i64 ((wrapK .i64 (8 * v31.1)) + v72.1)).toNat < v85.2.length) <|
some (.go (wrapK .i64 (v85.1 + 1), (v85.2.set ((wrapK .i64 ((wrapK .i64 (8 * v31.1)) + v72.1)).toNat) (wrapK .i64 ((v85.2.getD ((wrapK .i64 ((wrapK .i64 (8 * v31.1)) + v72.1)).toNat) 0) + (wrapK .i64 (q89 * (p0.getD (wrapK .i64 ((wrapK .i64 (8 * v31.1)) + v85.1)).toNat 0))))))))) (
some (.done v85.2))
def impl_sums_l84 (p0 : (List Int)) (v31 : (Int × (List Int))) (v72 : (Int × (List Int))) : Option (Lp (Int × (List Int)) (List Int)) :=
sel (decide (v72.1 < 8)) (
bnd (loop (impl_sums_l86 p0 v31 v72) (0, v72.2)) fun v88 =>
some (.go (wrapK .i64 (v72.1 + 1), v88))) (
some (.done v72.2))
def impl_sums_l72 (p0 : (List Int)) (v31 : (Int × (List Int))) : Option (Lp (Int × (List Int)) (List Int)) :=
sel (decide (v31.1 < 8)) (
bnd (loop (impl_sums_l84 p0 v31) (0, v31.2)) fun v82 =>
some (.go (wrapK .i64 (v31.1 + 1), v82))) (
some (.done v31.2))
def impl_sums_l172 (v62 : (List Int)) (v123 : (Int × (List Int))) (v164 : (Int × (List Int))) (v177 : (Int × (List Int))) : Option (Lp (Int × (List Int)) (List Int)) :=
sel (decide (v177.1 < 8)) (
req (0 ≤ (wrapK .i64 ((wrapK .i64 (8 * v123.1)) + v164.1)) ∧ (wrapK .i64 ((wrapK .i64 (8 * v123.1)) + v164.1)) < v177.2.length) <|
req ((wrapK .i64 ((wrapK .i64 (8 * v123.1)) + v164.1)).toNat < v177.2.length) <|
bnd (impl_SignOf v123.1 v177.1) fun q181 =>
req (0 ≤ (wrapK .i64 ((wrapK .i64 (8 * v177.1)) + v164.1)) ∧ (wrapK .i64 ((wrapK .i64 (8 * v177.1)) + v164.1)) < v62.length) <|
req ((wrapK .i64 ((wrapK .i64 (8 * v177.1)) + v164.1)).toNat < v62.length) <|
req (0 ≤ (wrapK .i64 ((wrapK .i64 (8 * v123.1)) + v164.1)) ∧ (wrapK .i64 ((wrapK .i64 (8 * v123.1)) + v164.1)) < v177.2.length) <|
req ((wrapK .i64 ((wrapK .i64 (8 * v123.1)) + v164.1)).toNat < v177.2.length) <|
some (.go (wrapK .i64 (v177.1 + 1), (v177.2.set ((wrapK .i64 ((wrapK .i64 (8 * v123.1)) + v164.1)).toNat) (wrapK .i64 ((v177.2.getD ((wrapK .i64 ((wrapK .i64 (8 * v123.1)) + v164.1)).toNat) 0) + (wrapK .i64 (q181 * (v62.getD ((wrapK .i64 ((wrapK .i64 (8 * v177.1)) + v164.1)).toNat) 0))))))))) (
some (.done v177.2))
def impl_sums_l170 (v62 : (List Int)) (v123 : (Int × (List Int))) (v164 : (Int × (List Int))) : Option (Lp (Int × (List Int)) (List Int)) :=
sel (decide (v164.1 < 8)) (
bnd (loop (impl_sums_l172 v62 v123 v164) (0, v164.2)) fun v180 =>
some (.go (wrapK .i64 (v164.1 + 1), v180))) (
some (.done v164.2))
def impl_sums_l158 (v62 : (List Int)) (v123 : (Int × (List Int))) : Option (Lp (Int × (List Int)) (List Int)) :=
sel (decide (v123.1 < 8)) (
bnd (loop (impl_sums_l170 v62 v123) (0, v123.2)) fun v174 =>
some (.go (wrapK .i64 (v123.1 + 1), v174))) (
some (.done v123.2))
def impl_sums (p0 : (List Int)) : Option (List Int) :=
req (0 ≤ (64 : Int) ∧ (64 : Int) ≤ (64 : Int) ∧ (64 : Int) * 8 ≤ 281474976710656) <|
bnd (loop (impl_sums_l72 p0) (0, (List.replicate (64 : Int).toNat (0 : Int)))) fun v62 =>
req (0 ≤ (64 : Int) ∧ (64 : Int) ≤ (64 : Int) ∧ (64 : Int) * 8 ≤ 281474976710656) <|
bnd (loop (impl_sums_l158 v62) (0, (List.replicate (64 : Int).toNat (0 : Int)))) fun v154 =>
some v154
def impl_StepOf (p0 : Int) : Option Int :=
bnd (impl_within p0 0 40) fun q1 =>
sel (!q1) (
some 0) (
req ((6 : Int) ≠ 0) <|
req (0 ≤ (p0.tmod 6) ∧ (p0.tmod 6) < ([10, 11, 13, 14, 16, 18]).length) <|
req ((p0.tmod 6).toNat < ([10, 11, 13, 14, 16, 18]).length) <|
req ((6 : Int) ≠ 0) <|
req (0 ≤ (wrapK .i64 (p0.tdiv 6))) <|
some (wrapK .i64 ((([10, 11, 13, 14, 16, 18]).getD ((p0.tmod 6).toNat) 0) * 2 ^ min (wrapK .i64 (p0.tdiv 6)).toNat (IntKind.bits .i64))))
def impl_quarter_l14 (p0 : Int) (v7 : (Int × (List Int))) (v16 : (Int × (List Int))) : Option (Lp (Int × (List Int)) (List Int)) :=
sel (decide (v16.1 < 4)) (
req ((2 : Int) ≠ 0) <|
req ((2 : Int) ≠ 0) <|
req ((v16.2.length + ([wrapK .i64 ((wrapK .i64 ((wrapK .i64 ((wrapK .i64 (v7.1 + (wrapK .i64 ((wrapK .i64 (p0.tdiv 2)) * 4)))) * 8)) + v16.1)) + (wrapK .i64 ((p0.tmod 2) * 4)))]).length) * 8 ≤ 140737488355328 ∧ v16.2.length + ([wrapK .i64 ((wrapK .i64 ((wrapK .i64 ((wrapK .i64 (v7.1 + (wrapK .i64 ((wrapK .i64 (p0.tdiv 2)) * 4)))) * 8)) + v16.1)) + (wrapK .i64 ((p0.tmod 2) * 4)))]).length ≤ maxLen) <|
some (.go (wrapK .i64 (v16.1 + 1), (v16.2 ++ ([wrapK .i64 ((wrapK .i64 ((wrapK .i64 ((wrapK .i64 (v7.1 + (wrapK .i64 ((wrapK .i64 (p0.tdiv 2)) * 4)))) * 8)) + v16.1)) + (wrapK .i64 ((p0.tmod 2) * 4)))]))))) (
some (.done v16.2))
def impl_quarter_l12 (p0 : Int) (v7 : (Int × (List Int))) : Option (Lp (Int × (List Int)) (List Int)) :=
sel (decide (v7.1 < 4)) (
bnd (loop (impl_quarter_l14 p0 v7) (0, v7.2)) fun v18 =>
some (.go (wrapK .i64 (v7.1 + 1), v18))) (
some (.done v7.2))
def impl_quarter (p0 : Int) : Option (List Int) :=
bnd (loop (impl_quarter_l12 p0) (0, ([] : List Int))) fun v14 =>
some v14
def impl_copyInts (p0 : (List Int)) : Option (List Int) :=
req ((([] : List Int).length + p0.length) * 8 ≤ 140737488355328 ∧ ([] : List Int).length + p0.length ≤ maxLen) <|
some (([] : List Int) ++ p0)
def impl_KindOf (p0 : Int) : Option Int :=
bnd (impl_within p0 0 15) fun q1 =>
sel (!q1) (
some (-1)) (
req ((4 : Int) ≠ 0) <|
req ((2 : Int) ≠ 0) <|
req ((4 : Int) ≠ 0) <|
req ((2 : Int) ≠ 0) <|
bnd (
sel (((wrapK .i64 (p0.tdiv 4)).tmod 2) == 0) (
some (((p0.tmod 4).tmod 2) == 0)) (
some false)) fun v2 =>
sel v2 (
some 0) (
bnd (
sel (((wrapK .i64 (p0.tdiv 4)).tmod 2) == 1) (
some (((p0.tmod 4).tmod 2) == 1)) (
some false)) fun v3 =>
sel v3 (
some 1) (
some 2)))
def impl_Pic_block_l14 (p0 : Pic) (p1 : Int) (p2 : Int) (v10 : (Int × (List Int))) (v23 : (Int × (List Int))) : Option (Lp (Int × (List Int)) (List Int)) :=
sel (decide (v23.1 < 8)) (
bnd (impl_Pic_dot p0 (wrapK .i64 (p1 + v23.1)) (wrapK .i64 (p2 + v10.1))) fun q27 =>
req ((v23.2.length + ([q27]).length) * 8 ≤ 140737488355328 ∧ v23.2.length + ([q27]).length ≤ maxLen) <|
some (.go (wrapK .i64 (v23.1 + 1), (v23.2 ++ ([q27]))))) (
some (.done v23.2))
def impl_Pic_block_l12 (p0 : Pic) (p1 : Int) (p2 : Int) (v10 : (Int × (List Int))) : Option (Lp (Int × (List Int)) (List Int)) :=
sel (decide (v10.1 < 8)) (
bnd (loop (impl_Pic_block_l14 p0 p1 p2 v10) (0, v10.2)) fun v26 =>
some (.go (wrapK .i64 (v10.1 + 1), v26))) (
some (.done v10.2))
def impl_Pic_block (p0 : Pic) (p1 : Int) (p2 : Int) : Option (List Int) :=
req (0 ≤ (0 : Int) ∧ (0 : Int) ≤ (64 : Int) ∧ (64 : Int) * 8 ≤ 281474976710656) <|
bnd (loop (impl_Pic_block_l12 p0 p1 p2) (0, (List.replicate (0 : Int).toNat (0 : Int)))) fun v20 =>
some v20
def impl_Pic_holds (p0 : Pic) (p1 : Rect) : Option Bool :=
bnd (
bnd (impl_within p1.Wide 1 p0.Wide) fun q2 =>
sel q2 (
bnd (impl_within p1.High 1 p0.High) fun q3 =>
sel q3 (
bnd (impl_within p1.Left 0 (wrapK .i64 (p0.Wide - p1.Wide))) fun q4 =>
sel q4 (
bnd (impl_within p1.Top 0 (wrapK .i64 (p0.High - p1.High))) fun q5 =>
some q5) (
some false)) (
some false)) (
some false)) fun v1 =>
some v1
def impl_areLevels (p0 : (List Int)) : Option Bool :=
bnd (impl_areIn p0 64 (-5000) 5000) fun q1 =>
some q1
def impl_SquareOk (p0 : Square) : Option Bool :=
sel (p0.Kind == 0) (
bnd (
sel (p0.Mode == 0) (
sel (p0.Dx == 0) (
sel (p0.Dy == 0) (
some ((p0.Levels.length : Int) == 0)) (
some false)) (
some false)) (
some false)) fun v1 =>
some v1) (
sel (p0.Kind == 1) (
bnd (
sel (p0.Mode == 0) (
bnd (impl_within p0.Dx (-16) 16) fun q3 =>
sel q3 (
bnd (impl_within p0.Dy (-16) 16) fun q4 =>
sel q4 (
bnd (impl_areLevels p0.Levels) fun q5 =>
some q5) (
some false)) (
some false)) (
some false)) fun v2 =>
some v2) (
sel (p0.Kind == 2) (
bnd (
bnd (impl_within p0.Mode 0 3) fun q7 =>
sel q7 (
sel (p0.Dx == 0) (
sel (p0.Dy == 0) (
bnd (impl_areLevels p0.Levels) fun q8 =>
some q8) (
some false)) (
some false)) (
some false)) fun v6 =>
some v6) (
some false)))
def impl_Square_let (p0 : Square) (p1 : Cond) : Option Bool :=
bnd (
sel p1.Key (
some (p0.Kind == 2)) (
some true)) fun v1 =>
some v1
def impl_Unscanned_l2 (p1 : (List Int)) (q2 : (List Int)) (v4 : (Int × (List Int))) : Option (Lp (Int × (List Int)) (List Int)) :=
sel (decide (v4.1 < (q2.length : Int))) (
req (0 ≤ v4.1 ∧ v4.1 < q2.length) <|
req (v4.1.toNat < q2.length) <|
req (0 ≤ v4.1 ∧ v4.1 < p1.length) <|
req (0 ≤ (q2.getD v4.1.toNat 0) ∧ (q2.getD v4.1.toNat 0) < v4.2.length) <|
req ((q2.getD v4.1.toNat 0).toNat < v4.2.length) <|
some (.go (wrapK .i64 (v4.1 + 1), (v4.2.set ((q2.getD v4.1.toNat 0).toNat) (p1.getD v4.1.toNat 0))))) (
some (.done v4.2))
def impl_Unscanned (p0 : Int) (p1 : (List Int)) : Option ((List Int) × Bool) :=
bnd (
sel (p0 != 4) (
sel (p0 != 8) (
some true) (
some ((p1.length : Int) != (wrapK .i64 (p0 * p0))))) (
some ((p1.length : Int) != (wrapK .i64 (p0 * p0))))) fun v1 =>
sel v1 (
some (([] : List Int), false)) (
req (0 ≤ (p1.length : Int) ∧ (p1.length : Int) ≤ (p1.length : Int) ∧ (p1.length : Int) * 8 ≤ 281474976710656) <|
bnd (impl_scanOrder p0) fun q2 =>
bnd (loop (impl_Unscanned_l2 p1 q2) (0, (List.replicate (p1.length : Int).toNat (0 : Int)))) fun v6 =>
some (v6, true))
def impl_LargeBack (p0 : Int) (p1 : Int) : Option Int :=
bnd (impl_within p0 (-5000) 5000) fun q1 =>
sel (!q1) (
some 0) (
bnd (impl_StepOf p1) fun q2 =>
some (wrapK .i64 (p0 * q2)))
def impl_floor (p0 : Int) (p1 : Int) : Option Int :=
req (p1 ≠ 0) <|
bnd (
req (p1 ≠ 0) <|
sel (decide ((p0.tmod p1) < 0)) (
some (wrapK .i64 ((wrapK .i64 (p0.tdiv p1)) - 1))) (
some (wrapK .i64 (p0.tdiv p1)))) fun v1 =>
some v1
def impl_settled_l2 (p0 : (List Int)) (v3 : (Int × (List Int))) : Option (Lp (Int × (List Int)) (List Int)) :=
sel (decide (v3.1 < (p0.length : Int))) (
req (0 ≤ v3.1 ∧ v3.1 < v3.2.length) <|
req (v3.1.toNat < v3.2.length) <|
bnd (impl_floor (wrapK .i64 ((v3.2.getD v3.1.toNat 0) + 32)) 64) fun q7 =>
req (0 ≤ v3.1 ∧ v3.1 < v3.2.length) <|
req (v3.1.toNat < v3.2.length) <|
some (.go (wrapK .i64 (v3.1 + 1), (v3.2.set v3.1.toNat q7)))) (
some (.done v3.2))
def impl_settled (p0 : (List Int)) : Option ((List Int) × (List Int)) :=
bnd (loop (impl_settled_l2 p0) (0, p0)) fun v6 =>
some (v6, v6)
def impl_EightBack (p0 : (List Int)) : Option (List Int) :=
bnd (impl_areIn p0 64 (-10000000) 10000000) fun q1 =>
sel (!q1) (
some ([] : List Int)) (
bnd (impl_sums p0) fun q2 =>
bnd (impl_settled q2) fun q3 =>
some q3.2)
def impl_ScaleOf (p0 : Int) (p1 : Int) : Option Int :=
bnd (
bnd (impl_within p0 0 40) fun q2 =>
sel q2 (
bnd (impl_within p1 0 15) fun q3 =>
some (!q3)) (
some true)) fun v1 =>
sel v1 (
some 0) (
req ((6 : Int) ≠ 0) <|
bnd (impl_KindOf p1) fun q4 =>
req (0 ≤ (p0.tmod 6) ∧ (p0.tmod 6) < 6) <|
req (0 ≤ q4 ∧ q4 < 3) <|
req (((0 + (p0.tmod 6).toNat * 3) + q4.toNat * 1) < ([10, 16, 13, 11, 18, 14, 13, 20, 16, 14, 23, 18, 16, 25, 20, 18, 29, 23] : List Int).length) <|
req ((6 : Int) ≠ 0) <|
req (0 ≤ (wrapK .i64 (p0.tdiv 6))) <|
some (wrapK .i64 ((([10, 16, 13, 11, 18, 14, 13, 20, 16, 14, 23, 18, 16, 25, 20, 18, 29, 23] : List Int).getD ((0 + (p0.tmod 6).toNat * 3) + q4.toNat * 1) 0) * 2 ^ min (wrapK .i64 (p0.tdiv 6)).toNat (IntKind.bits .i64))))
def impl_SmallBack (p0 : Int) (p1 : Int) (p2 : Int) : Option Int :=
bnd (impl_within p0 (-5000) 5000) fun q1 =>
sel (!q1) (
some 0) (
bnd (impl_ScaleOf p1 p2) fun q2 =>
some (wrapK .i64 (p0 * q2)))
def impl_FourBack_1 (p0 : Int) (p1 : Int) (p2 : Int) (p3 : Int) : Option (Int × Int × Int × Int) :=
bnd (impl_floor p1 2) fun q1 =>
bnd (impl_floor p3 2) fun q2 =>
some (wrapK .i64 ((wrapK .i64 (p0 + p2)) + (wrapK .i64 (p1 + q2))), wrapK .i64 ((wrapK .i64 (p0 - p2)) + (wrapK .i64 (q1 - p3))), wrapK .i64 ((wrapK .i64 (p0 - p2)) - (wrapK .i64 (q1 - p3))), wrapK .i64 ((wrapK .i64 (p0 + p2)) - (wrapK .i64 (p1 + q2))))
def impl_turned_impl_FourBack_1_l2 (v4 : (Int × (List Int))) : Option (Lp (Int × (List Int)) (List Int)) :=
sel (decide (v4.1 < 16)) (
req (0 ≤ v4.1 ∧ v4.1 < v4.2.length) <|
req (v4.1.toNat < v4.2.length) <|
req (0 ≤ (wrapK .i64 (v4.1 + 1)) ∧ (wrapK .i64 (v4.1 + 1)) < v4.2.length) <|
req ((wrapK .i64 (v4.1 + 1)).toNat < v4.2.length) <|
req (0 ≤ (wrapK .i64 (v4.1 + 2)) ∧ (wrapK .i64 (v4.1 + 2)) < v4.2.length) <|
req ((wrapK .i64 (v4.1 + 2)).toNat < v4.2.length) <|
req (0 ≤ (wrapK .i64 (v4.1 + 3)) ∧ (wrapK .i64 (v4.1 + 3)) < v4.2.length) <|
req ((wrapK .i64 (v4.1 + 3)).toNat < v4.2.length) <|
bnd (impl_FourBack_1 (v4.2.getD v4.1.toNat 0) (v4.2.getD ((wrapK .i64 (v4.1 + 1)).toNat) 0) (v4.2.getD ((wrapK .i64 (v4.1 + 2)).toNat) 0) (v4.2.getD ((wrapK .i64 (v4.1 + 3)).toNat) 0)) fun q8 =>
req (0 ≤ v4.1 ∧ v4.1 ≤ (wrapK .i64 (v4.1 + 4)) ∧ (wrapK .i64 (v4.1 + 4)) ≤ (v4.2.length : Int)) <|
req ((v4.1.toNat + ((wrapK .i64 (v4.1 + 4)).toNat - v4.1.toNat) ≤ v4.2.length ∧ ([q8.1, q8.2.1, q8.2.2.1, q8.2.2.2]).length ≤ ((wrapK .i64 (v4.1 + 4)).toNat - v4.1.toNat))) <|
some (.go (wrapK .i64 (v4.1 + 4), (over v4.2 v4.1.toNat ([q8.1, q8.2.1, q8.2.2.1, q8.2.2.2]))))) (
some (.done v4.2))
def impl_turned_impl_FourBack_1_l16 (v17 : (Int × (List Int))) (q26 : (Int × Int × Int × Int)) (v28 : (Int × (List Int))) : Option (Lp (Int × (List Int)) (List Int)) :=
sel (decide (v28.1 < 4)) (
req (0 ≤ v28.1 ∧ v28.1 < ([q26.1, q26.2.1, q26.2.2.1, q26.2.2.2] : List Int).length) <|
req (0 ≤ (wrapK .i64 (v17.1 + (wrapK .i64 (4 * v28.1)))) ∧ (wrapK .i64 (v17.1 + (wrapK .i64 (4 * v28.1)))) < v28.2.length) <|
req ((wrapK .i64 (v17.1 + (wrapK .i64 (4 * v28.1)))).toNat < v28.2.length) <|
some (.go (wrapK .i64 (v28.1 + 1), (v28.2.set ((wrapK .i64 (v17.1 + (wrapK .i64 (4 * v28.1)))).toNat) (([q26.1, q26.2.1, q26.2.2.1, q26.2.2.2] : List Int).getD v28.1.toNat 0))))) (
some (.done v28.2))
def impl_turned_impl_FourBack_1_l14 (v17 : (Int × (List Int))) : Option (Lp (Int × (List Int)) (List Int)) :=
sel (decide (v17.1 < 4)) (
req (0 ≤ v17.1 ∧ v17.1 < v17.2.length) <|
req (v17.1.toNat < v17.2.length) <|
req (0 ≤ (wrapK .i64 (v17.1 + 4)) ∧ (wrapK .i64 (v17.1 + 4)) < v17.2.length) <|
req ((wrapK .i64 (v17.1 + 4)).toNat < v17.2.length) <|
req (0 ≤ (wrapK .i64 (v17.1 + 8)) ∧ (wrapK .i64 (v17.1 + 8)) < v17.2.length) <|
req ((wrapK .i64 (v17.1 + 8)).toNat < v17.2.length) <|
req (0 ≤ (wrapK .i64 (v17.1 + 12)) ∧ (wrapK .i64 (v17.1 + 12)) < v17.2.length) <|
req ((wrapK .i64 (v17.1 + 12)).toNat < v17.2.length) <|
bnd (impl_FourBack_1 (v17.2.getD v17.1.toNat 0) (v17.2.getD ((wrapK .i64 (v17.1 + 4)).toNat) 0) (v17.2.getD ((wrapK .i64 (v17.1 + 8)).toNat) 0) (v17.2.getD ((wrapK .i64 (v17.1 + 12)).toNat) 0)) fun q26 =>
bnd (loop (impl_turned_impl_FourBack_1_l16 v17 q26) (0, v17.2)) fun v30 =>
some (.go (wrapK .i64 (v17.1 + 1), v30))) (
some (.done v17.2))
def impl_turned_impl_FourBack_1 (p0 : (List Int)) : Option (List Int) :=
bnd (impl_copyInts p0) fun q1 =>
bnd (loop (impl_turned_impl_FourBack_1_l2) (0, q1)) fun v7 =>
bnd (loop (impl_turned_impl_FourBack_1_l14) (0, v7)) fun v25 =>
some v25
def impl_FourBack (p0 : (List Int)) : Option (List Int) :=
bnd (impl_areIn p0 16 (-10000000) 10000000) fun q1 =>
sel (!q1) (
some ([] : List Int)) (
bnd (impl_turned_impl_FourBack_1 p0) fun q2 =>
bnd (impl_settled q2) fun q3 =>
some q3.2)
def impl_LevelsBack_l4 (p1 : Cond) (q5 : ((List Int) × Bool)) (v8 : (Int × (List Int))) : Option (Lp (Int × (List Int)) (List Int)) :=
sel (decide (v8.1 < (q5.1.length : Int))) (
req (0 ≤ v8.1 ∧ v8.1 < v8.2.length) <|
req (v8.1.toNat < v8.2.length) <|
bnd (impl_LargeBack (v8.2.getD v8.1.toNat 0) p1.Qp) fun q12 =>
req (0 ≤ v8.1 ∧ v8.1 < v8.2.length) <|
req (v8.1.toNat < v8.2.length) <|
some (.go (wrapK .i64 (v8.1 + 1), (v8.2.set v8.1.toNat q12)))) (
some (.done v8.2))
def impl_LevelsBack_l41 (p1 : Cond) (q51 : ((List Int) × Bool)) (v54 : (Int × (List Int))) : Option (Lp (Int × (List Int)) (List Int)) :=
sel (decide (v54.1 < (q51.1.length : Int))) (
req (0 ≤ v54.1 ∧ v54.1 < v54.2.length) <|
req (v54.1.toNat < v54.2.length) <|
bnd (impl_SmallBack (v54.2.getD v54.1.toNat 0) p1.Qp v54.1) fun q58 =>
req (0 ≤ v54.1 ∧ v54.1 < v54.2.length) <|
req (v54.1.toNat < v54.2.length) <|
some (.go (wrapK .i64 (v54.1 + 1), (v54.2.set v54.1.toNat q58)))) (
some (.done v54.2))
def impl_LevelsBack_l42 (q60 : (List Int)) (q61 : (List Int)) (v63 : (Int × (List Int))) : Option (Lp (Int × (List Int)) (List Int)) :=
sel (decide (v63.1 < (q61.length : Int))) (
req (0 ≤ v63.1 ∧ v63.1 < q61.length) <|
req (v63.1.toNat < q61.length) <|
req (0 ≤ v63.1 ∧ v63.1 < q60.length) <|
req (v63.1.toNat < q60.length) <|
req (0 ≤ (q61.getD v63.1.toNat 0) ∧ (q61.getD v63.1.toNat 0) < v63.2.length) <|
req ((q61.getD v63.1.toNat 0).toNat < v63.2.length) <|
some (.go (wrapK .i64 (v63.1 + 1), (v63.2.set ((q61.getD v63.1.toNat 0).toNat) (q60.getD v63.1.toNat 0))))) (
some (.done v63.2))
def impl_LevelsBack_l36 (p0 : (List Int)) (p1 : Cond) (v32 : (Int × (List Int))) : Option (Lp (Int × (List Int)) (List Int)) :=
sel (decide (v32.1 < 4)) (
req (0 ≤ (wrapK .i64 (16 * v32.1)) ∧ (wrapK .i64 (16 * v32.1)) ≤ (wrapK .i64 ((wrapK .i64 (16 * v32.1)) + 16)) ∧ (wrapK .i64 ((wrapK .i64 (16 * v32.1)) + 16)) ≤ (p0.length : Int)) <|
bnd (impl_Unscanned 4 ((p0.drop (wrapK .i64 (16 * v32.1)).toNat).take ((wrapK .i64 ((wrapK .i64 (16 * v32.1)) + 16)).toNat - (wrapK .i64 (16 * v32.1)).toNat))) fun q51 =>
bnd (loop (impl_LevelsBack_l41 p1 q51) (0, q51.1)) fun v57 =>
bnd (impl_FourBack v57) fun q60 =>
bnd (impl_quarter v32.1) fun q61 =>
bnd (loop (impl_LevelsBack_l42 q60 q61) (0, v32.2)) fun v65 =>
some (.go (wrapK .i64 (v32.1 + 1), v65))) (
some (.done v32.2))
def impl_LevelsBack (p0 : (List Int)) (p1 : Cond) : Option ((List Int) × Bool) :=
bnd (
bnd (impl_areLevels p0) fun q2 =>
sel q2 (
bnd (impl_CondOk p1) fun q3 =>
some (!q3)) (
some true)) fun v1 =>
sel v1 (
some (([] : List Int), false)) (
sel p1.Exact (
bnd (impl_Unscanned 8 p0) fun q4 =>
some (q4.1, q4.2)) (
sel p1.Large (
bnd (impl_Unscanned 8 p0) fun q5 =>
bnd (loop (impl_LevelsBack_l4 p1 q5) (0, q5.1)) fun v11 =>
bnd (impl_EightBack v11) fun q14 =>
some (q14, true)) (
req (0 ≤ (64 : Int) ∧ (64 : Int) ≤ (64 : Int) ∧ (64 : Int) * 8 ≤ 281474976710656) <|
bnd (loop (impl_LevelsBack_l36 p0 p1) (0, (List.replicate (64 : Int).toNat (0 : Int)))) fun v50 =>
some (v50, true))))
def impl_Joined_l2 (p0 : (List Int)) (p1 : (List Int)) (v6 : (Int × (List Int))) : Option (Lp (Int × (List Int)) (List Int)) :=
sel (decide (v6.1 < (p0.length : Int))) (
req (0 ≤ v6.1 ∧ v6.1 < p0.length) <|
req (0 ≤ v6.1 ∧ v6.1 < p1.length) <|
bnd (impl_Brought (wrapK .i64 ((p0.getD v6.1.toNat 0) + (p1.getD v6.1.toNat 0))) 0 255) fun q10 =>
req ((v6.2.length + ([q10]).length) * 8 ≤ 140737488355328 ∧ v6.2.length + ([q10]).length ≤ maxLen) <|
some (.go (wrapK .i64 (v6.1 + 1), (v6.2 ++ ([q10]))))) (
some (.done v6.2))
def impl_Joined (p0 : (List Int)) (p1 : (List Int)) : Option (List Int) :=
bnd (
bnd (impl_areIn p0 64 0 255) fun q2 =>
sel q2 (
bnd (impl_areIn p1 64 (-10000000) 10000000) fun q3 =>
some (!q3)) (
some true)) fun v1 =>
sel v1 (
some ([] : List Int)) (
bnd (loop (impl_Joined_l2 p0 p1) (0, ([] : List Int))) fun v9 =>
some v9)
def impl_SquareDots (p0 : Pic) (p1 : Pic) (p2 : Int) (p3 : Int) (p4 : Cond) (p5 : Int) (p6 : Int) (p7 : Square) : Option ((List Int) × Bool) :=
bnd (
bnd (impl_PicOk p0) fun q2 =>
sel q2 (
bnd (impl_Pic_isSquare p0 p5 p6) fun q3 =>
sel q3 (
bnd (impl_within p2 0 256) fun q4 =>
sel q4 (
bnd (impl_within p3 0 256) fun q5 =>
sel q5 (
bnd (impl_SquareOk p7) fun q6 =>
sel q6 (
bnd (impl_CondOk p4) fun q7 =>
sel q7 (
bnd (impl_Square_let p7 p4) fun q8 =>
sel q8 (
sel (p7.Kind != 2) (
bnd (impl_PicOk p1) fun q9 =>
some (!q9)) (
some false)) (
some true)) (
some true)) (
some true)) (
some true)) (
some true)) (
some true)) (
some true)) fun v1 =>
sel v1 (
some (([] : List Int), false)) (
sel (p7.Kind == 0) (
bnd (impl_Pic_block p1 (wrapK .i64 (p2 + p5)) (wrapK .i64 (p3 + p6))) fun q10 =>
some (q10, true)) (
bnd (impl_LevelsBack p7.Levels p4) fun q11 =>
sel (p7.Kind == 1) (
bnd (impl_Pic_block p1 (wrapK .i64 ((wrapK .i64 (p2 + p5)) + p7.Dx)) (wrapK .i64 ((wrapK .i64 (p3 + p6)) + p7.Dy))) fun q12 =>
bnd (impl_Joined q12 q11.1) fun q13 =>
some (q13, true)) (
bnd (impl_EdgesOf p0 p5 p6) fun q14 =>
bnd (impl_GuessOf p7.Mode q14.1) fun q15 =>
bnd (impl_Joined q15 q11.1) fun q16 =>
some (q16, true))))
def spec_l16Side (p0 : Int) : Option Bool :=
bnd (
req ((8 : Int) ≠ 0) <|
sel ((p0.tmod 8) == 0) (
bnd (spec_l01In p0 8 64) fun q2 =>
some q2) (
some false)) fun v1 =>
some v1
def spec_Grey (p0 : Int) (p1 : Int) : Option Pic :=
bnd (
bnd (spec_l01In p0 1 256) fun q2 =>
sel q2 (
bnd (spec_l01In p1 1 256) fun q3 =>
some (!q3)) (
some true)) fun v1 =>
sel v1 (
some (⟨0, 0, ⟨#[]⟩⟩ : Pic)) (
bnd (spec_l01Long (wrapK .i64 (p0 * p1)) 128) fun q4 =>
some (⟨p0, p1, q4⟩ : Pic))
def spec_l16Put_l2 (p0 : Pic) (p1 : Int) (p2 : Int) (p3 : (List Int)) (v2 : (Int × (List Int))) : Option (Lp (Int × (List Int)) (List Int)) :=
sel (decide (v2.1 < 64)) (
req ((8 : Int) ≠ 0) <|
req ((8 : Int) ≠ 0) <|
req (0 ≤ v2.1 ∧ v2.1 < p3.length) <|
req (0 ≤ (wrapK .i64 ((wrapK .i64 ((wrapK .i64 ((wrapK .i64 (p2 + (wrapK .i64 (v2.1.tdiv 8)))) * p0.Wide)) + p1)) + (v2.1.tmod 8))) ∧ (wrapK .i64 ((wrapK .i64 ((wrapK .i64 ((wrapK .i64 (p2 + (wrapK .i64 (v2.1.tdiv 8)))) * p0.Wide)) + p1)) + (v2.1.tmod 8))) < v2.2.length) <|
req ((wrapK .i64 ((wrapK .i64 ((wrapK .i64 ((wrapK .i64 (p2 + (wrapK .i64 (v2.1.tdiv 8)))) * p0.Wide)) + p1)) + (v2.1.tmod 8))).toNat < v2.2.length) <|
some (.go (wrapK .i64 (v2.1 + 1), (v2.2.set ((wrapK .i64 ((wrapK .i64 ((wrapK .i64 ((wrapK .i64 (p2 + (wrapK .i64 (v2.1.tdiv 8)))) * p0.Wide)) + p1)) + (v2.1.tmod 8))).toNat) (wrapK .u8 ((p3.getD v2.1.toNat 0))))))) (
some (.done v2.2))
def spec_l16Put (p0 : Pic) (p1 : Int) (p2 : Int) (p3 : (List Int)) : Option Pic :=
req (p0.Dots.size ≤ maxLen) <|
bnd (loop (spec_l16Put_l2 p0 p1 p2 p3) (0, (numsOf p0.Dots))) fun v4 =>
some (⟨p0.Wide, p0.High, (strOfNums v4)⟩ : Pic)
def impl_isTile (p0 : Int) : Option Bool :=
bnd (
req ((8 : Int) ≠ 0) <|
sel ((p0.tmod 8) == 0) (
bnd (impl_within p0 8 64) fun q2 =>
some q2) (
some false)) fun v1 =>
some v1
def impl_Grey_l2 (p0 : Int) (p1 : Int) (v5 : (Int × (List Int))) : Option (Lp (Int × (List Int)) (List Int)) :=
sel (decide (v5.1 < ((List.replicate (wrapK .i64 (p0 * p1)).toNat (0 : Int)).length : Int))) (
req (0 ≤ v5.1 ∧ v5.1 < v5.2.length) <|
req (v5.1.toNat < v5.2.length) <|
some (.go (wrapK .i64 (v5.1 + 1), (v5.2.set v5.1.toNat 128)))) (
some (.done v5.2))
def impl_Grey (p0 : Int) (p1 : Int) : Option Pic :=
bnd (
bnd (impl_within p0 1 256) fun q2 =>
sel q2 (
bnd (impl_within p1 1 256) fun q3 =>
some (!q3)) (
some true)) fun v1 =>
sel v1 (
some (⟨0, 0, ⟨#[]⟩⟩ : Pic)) (
req (0 ≤ (wrapK .i64 (p0 * p1)) ∧ (wrapK .i64 (p0 * p1)) ≤ (wrapK .i64 (p0 * p1)) ∧ (wrapK .i64 (p0 * p1)) * 1 ≤ 281474976710656) <|
bnd (loop (impl_Grey_l2 p0 p1) (0, (List.replicate (wrapK .i64 (p0 * p1)).toNat (0 : Int)))) fun v7 =>
some (⟨p0, p1, (strOfNums v7)⟩ : Pic))
def impl_dots (p0 : Pic) : Option (List Int) :=
req (p0.Dots.size ≤ maxLen) <|
some (numsOf p0.Dots)
def impl_put_l2 (p0 : Pic) (p1 : Int) (p2 : Int) (p3 : (List Int)) (v3 : (Int × (List Int))) : Option (Lp (Int × (List Int)) (List Int)) :=
sel (decide (v3.1 < (p3.length : Int))) (
req (0 ≤ v3.1 ∧ v3.1 < p3.length) <|
req ((8 : Int) ≠ 0) <|
req ((8 : Int) ≠ 0) <|
req (0 ≤ (wrapK .i64 ((wrapK .i64 ((wrapK .i64 ((wrapK .i64 (p2 + (wrapK .i64 (v3.1.tdiv 8)))) * p0.Wide)) + p1)) + (v3.1.tmod 8))) ∧ (wrapK .i64 ((wrapK .i64 ((wrapK .i64 ((wrapK .i64 (p2 + (wrapK .i64 (v3.1.tdiv 8)))) * p0.Wide)) + p1)) + (v3.1.tmod 8))) < v3.2.length) <|
req ((wrapK .i64 ((wrapK .i64 ((wrapK .i64 ((wrapK .i64 (p2 + (wrapK .i64 (v3.1.tdiv 8)))) * p0.Wide)) + p1)) + (v3.1.tmod 8))).toNat < v3.2.length) <|
some (.go (wrapK .i64 (v3.1 + 1), (v3.2.set ((wrapK .i64 ((wrapK .i64 ((wrapK .i64 ((wrapK .i64 (p2 + (wrapK .i64 (v3.1.tdiv 8)))) * p0.Wide)) + p1)) + (v3.1.tmod 8))).toNat) (wrapK .u8 ((p3.getD v3.1.toNat 0))))))) (
some (.done v3.2))
def impl_put (p0 : Pic) (p1 : Int) (p2 : Int) (p3 : (List Int)) : Option Pic :=
bnd (impl_dots p0) fun q1 =>
bnd (loop (impl_put_l2 p0 p1 p2 p3) (0, q1)) fun v5 =>
some (⟨p0.Wide, p0.High, (strOfNums v5)⟩ : Pic)
def laws_eqPic (p0 : Pic) (p1 : Pic) : Option Bool :=
sel (p0.Wide != p1.Wide) (
some false) (
sel (p0.High != p1.High) (
some false) (
sel (!(p0.Dots.toList == p1.Dots.toList)) (
some false) (
some true)))
def laws_szPart (p0 : Part) (p1 : Int) : Option Int :=
sel (decide ((wrapK .i64 (p1 - (p0.Row.size : Int))) < 0)) (
some (-1)) (
some (wrapK .i64 (p1 - (p0.Row.size : Int))))
def laws_toRect (p0 : Rect) : Option Rect :=
some p0
def laws_toPar (p0 : Par) : Option Par :=
some p0
def laws_toPart (p0 : Part) : Option Part :=
some p0
def spec_CondFor (p0 : Par) (p1 : Part) : Option Cond :=
some (⟨p1.Key, p1.Qp, p0.Large, p0.Exact⟩ : Cond)
def spec_l02Row_l2 (p0 : ByteArray) (v3 : Int) : Option (Lp Int (Ou Unit Bool)) :=
sel (decide (v3 < (p0.size : Int))) (
bnd (
req (0 ≤ v3 ∧ v3 < p0.size) <|
sel ((btOf p0 v3) != 48) (
req (0 ≤ v3 ∧ v3 < p0.size) <|
some ((btOf p0 v3) != 49)) (
some false)) fun v7 =>
sel v7 (
some (.done (.ret false))) (
some (.go (wrapK .i64 (v3 + 1))))) (
some (.done (.out ())))
def spec_l02Row (p0 : ByteArray) : Option Bool :=
bnd (loop (spec_l02Row_l2 p0) 0) fun o8 => match o8 with
| .out v6 => (
some true)
| .ret r => some r
def spec_RowOk (p0 : ByteArray) : Option Bool :=
bnd (
sel (decide ((p0.size : Int) ≤ 400000)) (
bnd (spec_l02Row p0) fun q2 =>
some q2) (
some false)) fun v1 =>
some v1
def spec_l02Read_l2 (p0 : ByteArray) (p1 : Int) (p2 : Int) (v2 : (Int × Int)) : Option (Lp (Int × Int) Int) :=
sel (decide (v2.2 < (wrapK .i64 (p1 + p2)))) (
req (0 ≤ v2.2 ∧ v2.2 < p0.size) <|
some (.go (wrapK .i64 ((wrapK .i64 ((wrapK .i64 (2 * v2.1)) + (wrapK .i64 ((btOf p0 v2.2))))) - 48), wrapK .i64 (v2.2 + 1)))) (
some (.done v2.1))
def spec_l02Read (p0 : ByteArray) (p1 : Int) (p2 : Int) : Option (Int × Int × Bool) :=
sel (decide (p2 > (wrapK .i64 ((p0.size : Int) - p1)))) (
some (0, 0, false)) (
bnd (loop (spec_l02Read_l2 p0 p1 p2) (0, p1)) fun v4 =>
some (v4, wrapK .i64 (p1 + p2), true))
def spec_l03ReadUe_l2 (p0 : ByteArray) (p1 : Int) (v3 : Int) : Option (Lp Int Int) :=
bnd (
sel (decide ((wrapK .i64 (p1 + v3)) < (p0.size : Int))) (
req (0 ≤ (wrapK .i64 (p1 + v3)) ∧ (wrapK .i64 (p1 + v3)) < p0.size) <|
sel ((btOf p0 (wrapK .i64 (p1 + v3))) == 48) (
some (decide (v3 < 21))) (
some false)) (
some false)) fun v7 =>
sel v7 (
some (.go (wrapK .i64 (v3 + 1)))) (
some (.done v3))
def spec_l03ReadUe (p0 : ByteArray) (p1 : Int) : Option (Int × Int × Bool) :=
bnd (loop (spec_l03ReadUe_l2 p0 p1) 0) fun v6 =>
bnd (spec_l02Read p0 (wrapK .i64 (p1 + v6)) (wrapK .i64 (v6 + 1))) fun q9 =>
bnd (
sel q9.2.2 (
req (0 ≤ (wrapK .u64 (v6))) <|
sel (decide (q9.1 < (wrapK .i64 (1 * 2 ^ min (wrapK .u64 (v6)).toNat (IntKind.bits .i64))))) (
some true) (
some (decide ((wrapK .i64 (q9.1 - 1)) > 1000000)))) (
some true)) fun v10 =>
sel v10 (
some (0, 0, false)) (
some (wrapK .i64 (q9.1 - 1), q9.2.1, true))
def spec_OpenSe (p0 : Int) : Option (Int × Bool) :=
bnd (spec_l01In p0 0 1000000) fun q1 =>
sel (!q1) (
some (0, false)) (
req ((2 : Int) ≠ 0) <|
sel ((p0.tmod 2) == 1) (
req ((2 : Int) ≠ 0) <|
some (wrapK .i64 ((wrapK .i64 (p0 + 1)).tdiv 2), true)) (
req ((2 : Int) ≠ 0) <|
some (wrapK .i64 (0 - (wrapK .i64 (p0.tdiv 2))), true)))
def spec_l03ReadSe (p0 : ByteArray) (p1 : Int) : Option (Int × Int × Bool) :=
bnd (spec_l03ReadUe p0 p1) fun q1 =>
sel (!q1.2.2) (
some (0, 0, false)) (
bnd (spec_OpenSe q1.1) fun q2 =>
some (q2.1, q1.2.1, true))
def spec_l11Read_l2 (p0 : ByteArray) (p2 : Int) (q1 : (Int × Int × Bool)) (v9 : (Int × Int × Int × (List Int))) : Option (Lp (Int × Int × Int × (List Int)) (Ou (Int × (List Int)) ((List Int) × Int × Bool))) :=
sel (decide (v9.2.2.1 < q1.1)) (
bnd (spec_l03ReadUe p0 v9.1) fun q17 =>
bnd (
sel q17.2.2 (
some (decide (q17.1 > (wrapK .i64 ((wrapK .i64 (p2 - 1)) - v9.2.1))))) (
some true)) fun v18 =>
sel v18 (
some (.done (.ret (([] : List Int), 0, false)))) (
bnd (spec_l03ReadSe p0 q17.2.1) fun q19 =>
bnd (
sel q19.2.2 (
sel (q19.1 == 0) (
some true) (
bnd (spec_l01In q19.1 (-5000) 5000) fun q21 =>
some (!q21))) (
some true)) fun v20 =>
sel v20 (
some (.done (.ret (([] : List Int), 0, false)))) (
req (0 ≤ (wrapK .i64 (v9.2.1 + q17.1)) ∧ (wrapK .i64 (v9.2.1 + q17.1)) < v9.2.2.2.length) <|
req ((wrapK .i64 (v9.2.1 + q17.1)).toNat < v9.2.2.2.length) <|
some (.go (q19.2.1, wrapK .i64 ((wrapK .i64 (v9.2.1 + q17.1)) + 1), wrapK .i64 (v9.2.2.1 + 1), (v9.2.2.2.set ((wrapK .i64 (v9.2.1 + q17.1)).toNat) q19.1)))))) (
some (.done (.out (v9.1, v9.2.2.2))))
def spec_l11Read (p0 : ByteArray) (p1 : Int) (p2 : Int) : Option ((List Int) × Int × Bool) :=
req (0 ≤ p2 ∧ p2 ≤ p2 ∧ p2 * 8 ≤ 281474976710656) <|
bnd (spec_l03ReadUe p0 p1) fun q1 =>
bnd (
sel q1.2.2 (
some (decide (q1.1 > p2))) (
some true)) fun v2 =>
sel v2 (
some (([] : List Int), 0, false)) (
bnd (loop (spec_l11Read_l2 p0 p2 q1) (q1.2.1, 0, 0, (List.replicate p2.toNat (0 : Int)))) fun o22 => match o22 with
| .out v16 => (
some (v16.2, v16.1, true))
| .ret r => some r)
def spec_l14Read_l2 (p0 : ByteArray) (v5 : (Int × Int × (List Int))) : Option (Lp (Int × Int × (List Int)) (Ou (Int × (List Int)) ((List Int) × Int × Bool))) :=
sel (decide (v5.2.1 < 4)) (
bnd (spec_l11Read p0 v5.1 16) fun q9 =>
sel (!q9.2.2) (
some (.done (.ret (([] : List Int), 0, false)))) (
req ((v5.2.2.length + q9.1.length) * 8 ≤ 140737488355328 ∧ v5.2.2.length + q9.1.length ≤ maxLen) <|
some (.go (q9.2.1, wrapK .i64 (v5.2.1 + 1), (v5.2.2 ++ q9.1))))) (
some (.done (.out (v5.1, v5.2.2))))
def spec_l14Read (p0 : ByteArray) (p1 : Int) (p2 : Cond) : Option ((List Int) × Int × Bool) :=
bnd (
sel p2.Large (
some true) (
some p2.Exact)) fun v1 =>
sel v1 (
bnd (spec_l11Read p0 p1 64) fun q2 =>
some (q2.1, q2.2.1, q2.2.2)) (
bnd (loop (spec_l14Read_l2 p0) (p1, 0, ([] : List Int))) fun o10 => match o10 with
| .out v8 => (
some (v8.2, v8.1, true))
| .ret r => some r)
def spec_l15Read (p0 : ByteArray) (p1 : Int) (p2 : Cond) : Option (Square × Int × Bool) :=
joinK (fun (v1 : (Int × Int)) =>
joinK (fun (v4 : (Int × Bool × Int × Int × Int)) =>
sel (!v4.2.1) (
some ((⟨0, 0, 0, 0, []⟩ : Square), 0, false)) (
bnd (spec_l14Read p0 v4.1 p2) fun q8 =>
bnd (
sel q8.2.2 (
bnd (spec_SquareOk (⟨v1.2, v4.2.2.1, v4.2.2.2.1, v4.2.2.2.2, q8.1⟩ : Square)) fun q10 =>
some (!q10)) (
some true)) fun v9 =>
sel v9 (
some ((⟨0, 0, 0, 0, []⟩ : Square), 0, false)) (
some ((⟨v1.2, v4.2.2.1, v4.2.2.2.1, v4.2.2.2.2, q8.1⟩ : Square), q8.2.1, true)))) fun j2 =>
sel (v1.2 == 0) (
some ((⟨v1.2, 0, 0, 0, []⟩ : Square), v1.1, true)) (
sel (v1.2 == 1) (
bnd (spec_l03ReadSe p0 v1.1) fun q5 =>
sel (!q5.2.2) (
some ((⟨0, 0, 0, 0, []⟩ : Square), 0, false)) (
bnd (spec_l03ReadSe p0 q5.2.1) fun q6 =>
j2 (q6.2.1, q6.2.2, 0, q5.1, q6.1))) (
bnd (spec_l03ReadUe p0 v1.1) fun q7 =>
j2 (q7.2.1, q7.2.2, q7.1, 0, 0)))) fun j1 =>
sel (!p2.Key) (
bnd (spec_l03ReadUe p0 p1) fun q2 =>
bnd (
sel q2.2.2 (
some (decide (q2.1 > 2))) (
some true)) fun v3 =>
sel v3 (
some ((⟨0, 0, 0, 0, []⟩ : Square), 0, false)) (
j1 (q2.2.1, q2.1))) (
j1 (p1, 2))
def spec_ReadTile_l2 (p0 : ByteArray) (p2 : Int) (p3 : Cond) (v8 : (Int × Int × (List Square))) : Option (Lp (Int × Int × (List Square)) (Ou (Int × (List Square)) ((List Square) × Bool))) :=
sel (decide (v8.2.1 < p2)) (
bnd (spec_l15Read p0 v8.1 p3) fun q12 =>
sel (!q12.2.2) (
some (.done (.ret (([] : List Square), false)))) (
req ((v8.2.2.length + ([q12.1]).length) * 56 ≤ 140737488355328 ∧ v8.2.2.length + ([q12.1]).length ≤ maxLen) <|
some (.go (q12.2.1, wrapK .i64 (v8.2.1 + 1), (v8.2.2 ++ ([q12.1])))))) (
some (.done (.out (v8.1, v8.2.2))))
def spec_ReadTile (p0 : ByteArray) (p1 : Int) (p2 : Int) (p3 : Cond) : Option ((List Square) × Bool) :=
bnd (
bnd (spec_RowOk p0) fun q2 =>
sel q2 (
bnd (spec_l01In p1 0 (p0.size : Int)) fun q3 =>
sel q3 (
bnd (spec_CondOk p3) fun q4 =>
sel q4 (
bnd (spec_l01In p2 1 64) fun q5 =>
some (!q5)) (
some true)) (
some true)) (
some true)) fun v1 =>
sel v1 (
some (([] : List Square), false)) (
bnd (loop (spec_ReadTile_l2 p0 p2 p3) (p1, 0, ([] : List Square))) fun o13 => match o13 with
| .out v11 => (
sel (v11.1 != (p0.size : Int)) (
some (([] : List Square), false)) (
some (v11.2, true)))
| .ret r => some r)
def spec_ParOk (p0 : Par) : Option Bool :=
bnd (
bnd (spec_l01In p0.Qp 0 40) fun q2 =>
sel q2 (
sel p0.Large (
some (!p0.Exact)) (
some true)) (
some false)) fun v1 =>
some v1
def spec_PartOk (p0 : Par) (p1 : Part) (p2 : Int) : Option Bool :=
bnd (spec_CondFor p0 p1) fun q1 =>
bnd (spec_ReadTile p1.Row 0 p2 q1) fun q2 =>
bnd (
bnd (spec_ParOk p0) fun q4 =>
sel q4 (
some q2.2) (
some false)) fun v3 =>
some v3
def spec_l16Ok_l2 (p0 : (List Square)) (p1 : Cond) (v7 : Int) : Option (Lp Int (Ou Unit Bool)) :=
sel (decide (v7 < (p0.length : Int))) (
bnd (
req (0 ≤ v7 ∧ v7 < p0.length) <|
bnd (spec_SquareOk (⟨(p0.getD v7.toNat dSquare).Kind, (p0.getD v7.toNat dSquare).Mode, (p0.getD v7.toNat dSquare).Dx, (p0.getD v7.toNat dSquare).Dy, (p0.getD v7.toNat dSquare).Levels⟩ : Square)) fun q13 =>
sel q13 (
sel p1.Key (
req (0 ≤ v7 ∧ v7 < p0.length) <|
some (((p0.getD v7.toNat dSquare).Kind) != 2)) (
some false)) (
some true)) fun v12 =>
sel v12 (
some (.done (.ret false))) (
some (.go (wrapK .i64 (v7 + 1))))) (
some (.done (.out ())))
def spec_l16Ok (p0 : (List Square)) (p1 : Cond) : Option Bool :=
bnd (
bnd (spec_CondOk p1) fun q2 =>
sel q2 (
bnd (spec_l01In (p0.length : Int) 1 64) fun q3 =>
some (!q3)) (
some true)) fun v1 =>
sel v1 (
some false) (
bnd (loop (spec_l16Ok_l2 p0 p1) 0) fun o14 => match o14 with
| .out v11 => (
some true)
| .ret r => some r)
def spec_CutOf_l2 (p0 : Pic) (p1 : Rect) (v3 : (Int × (List Int))) : Option (Lp (Int × (List Int)) (List Int)) :=
sel (decide (v3.1 < (wrapK .i64 (p1.Top + p1.High)))) (
req (0 ≤ (wrapK .i64 ((wrapK .i64 (v3.1 * p0.Wide)) + p1.Left)) ∧ (wrapK .i64 ((wrapK .i64 (v3.1 * p0.Wide)) + p1.Left)) ≤ (wrapK .i64 ((wrapK .i64 ((wrapK .i64 (v3.1 * p0.Wide)) + p1.Left)) + p1.Wide)) ∧ (wrapK .i64 ((wrapK .i64 ((wrapK .i64 (v3.1 * p0.Wide)) + p1.Left)) + p1.Wide)) ≤ (p0.Dots.size : Int)) <|
req ((v3.2.length + (numsOf (p0.Dots.extract (wrapK .i64 ((wrapK .i64 (v3.1 * p0.Wide)) + p1.Left)).toNat (wrapK .i64 ((wrapK .i64 ((wrapK .i64 (v3.1 * p0.Wide)) + p1.Left)) + p1.Wide)).toNat)).length) * 1 ≤ 140737488355328 ∧ v3.2.length + (numsOf (p0.Dots.extract (wrapK .i64 ((wrapK .i64 (v3.1 * p0.Wide)) + p1.Left)).toNat (wrapK .i64 ((wrapK .i64 ((wrapK .i64 (v3.1 * p0.Wide)) + p1.Left)) + p1.Wide)).toNat)).length ≤ maxLen) <|
some (.go (wrapK .i64 (v3.1 + 1), (v3.2 ++ (numsOf (p0.Dots.extract (wrapK .i64 ((wrapK .i64 (v3.1 * p0.Wide)) + p1.Left)).toNat (wrapK .i64 ((wrapK .i64 ((wrapK .i64 (v3.1 * p0.Wide)) + p1.Left)) + p1.Wide)).toNat)))))) (
some (.done v3.2))
def spec_CutOf (p0 : Pic) (p1 : Rect) : Option (Pic × Bool) :=
bnd (spec_l12Within p0 p1.Left p1.Top p1.Wide p1.High) fun q1 =>
sel (!q1) (
some ((⟨0, 0, ⟨#[]⟩⟩ : Pic), false)) (
bnd (loop (spec_CutOf_l2 p0 p1) (p1.Top, ([] : List Int))) fun v5 =>
some ((⟨p1.Wide, p1.High, (strOfNums v5)⟩ : Pic), true))
def spec_TileBack_l2 (p1 : Rect) (p2 : Cond) (p4 : (List Square)) (v9 : (Int × Int × Int × Int × ByteArray)) (v16 : (Int × Int × Int × ByteArray)) : Option (Lp (Int × Int × Int × ByteArray) (Int × Int × ByteArray)) :=
sel (decide (v16.1 < (p4.length : Int))) (
req ((8 : Int) ≠ 0) <|
req ((wrapK .i64 (p1.Wide.tdiv 8)) ≠ 0) <|
req ((8 : Int) ≠ 0) <|
req ((wrapK .i64 (p1.Wide.tdiv 8)) ≠ 0) <|
req (0 ≤ v16.1 ∧ v16.1 < p4.length) <|
bnd (spec_SquareDots (⟨v16.2.1, v16.2.2.1, v16.2.2.2⟩ : Pic) (⟨v9.2.2.1, v9.2.2.2.1, v9.2.2.2.2⟩ : Pic) v9.1 v9.2.1 p2 (wrapK .i64 (8 * (v16.1.tmod (wrapK .i64 (p1.Wide.tdiv 8))))) (wrapK .i64 (8 * (wrapK .i64 (v16.1.tdiv (wrapK .i64 (p1.Wide.tdiv 8)))))) (⟨(p4.getD v16.1.toNat dSquare).Kind, (p4.getD v16.1.toNat dSquare).Mode, (p4.getD v16.1.toNat dSquare).Dx, (p4.getD v16.1.toNat dSquare).Dy, (p4.getD v16.1.toNat dSquare).Levels⟩ : Square)) fun q21 =>
bnd (spec_l16Put (⟨v16.2.1, v16.2.2.1, v16.2.2.2⟩ : Pic) (wrapK .i64 (8 * (v16.1.tmod (wrapK .i64 (p1.Wide.tdiv 8))))) (wrapK .i64 (8 * (wrapK .i64 (v16.1.tdiv (wrapK .i64 (p1.Wide.tdiv 8)))))) q21.1) fun q22 =>
some (.go (wrapK .i64 (v16.1 + 1), q22.Wide, q22.High, q22.Dots))) (
some (.done (v16.2.1, v16.2.2.1, v16.2.2.2)))
def spec_TileBack (p0 : Pic) (p1 : Rect) (p2 : Cond) (p3 : Bool) (p4 : (List Square)) : Option (Pic × Bool) :=
bnd (
bnd (spec_l16Side p1.Wide) fun q2 =>
sel q2 (
bnd (spec_l16Side p1.High) fun q3 =>
sel q3 (
bnd (spec_l01In p1.Left 0 256) fun q4 =>
sel q4 (
bnd (spec_l01In p1.Top 0 256) fun q5 =>
sel q5 (
bnd (spec_l16Ok p4 p2) fun q6 =>
sel q6 (
req ((8 : Int) ≠ 0) <|
req ((8 : Int) ≠ 0) <|
some ((p4.length : Int) != (wrapK .i64 ((wrapK .i64 (p1.Wide.tdiv 8)) * (wrapK .i64 (p1.High.tdiv 8)))))) (
some true)) (
some true)) (
some true)) (
some true)) (
some true)) fun v1 =>
sel v1 (
some ((⟨0, 0, ⟨#[]⟩⟩ : Pic), false)) (
bnd (
sel p2.Key (
some false) (
bnd (spec_l12Within p0 p1.Left p1.Top p1.Wide p1.High) fun q8 =>
some (!q8))) fun v7 =>
sel v7 (
some ((⟨0, 0, ⟨#[]⟩⟩ : Pic), false)) (
bnd (
bnd (
sel p2.Key (
some false) (
some p3)) fun v10 =>
sel v10 (
bnd (spec_CutOf p0 p1) fun q11 =>
some (0, 0, q11.1.Wide, q11.1.High, q11.1.Dots)) (
some (p1.Left, p1.Top, p0.Wide, p0.High, p0.Dots))) fun v9 =>
bnd (spec_Grey p1.Wide p1.High) fun q12 =>
bnd (loop (spec_TileBack_l2 p1 p2 p4 v9) (0, q12.Wide, q12.High, q12.Dots)) fun v20 =>
some ((⟨v20.1, v20.2.1, v20.2.2⟩ : Pic), true)))
def spec_PartShows (p0 : Pic) (p1 : Rect) (p2 : Par) (p3 : Part) : Option (Pic × Bool) :=
bnd (
bnd (spec_l16Side p1.Wide) fun q2 =>
sel q2 (
bnd (spec_l16Side p1.High) fun q3 =>
some (!q3)) (
some true)) fun v1 =>
sel v1 (
some ((⟨0, 0, ⟨#[]⟩⟩ : Pic), false)) (
req ((8 : Int) ≠ 0) <|
req ((8 : Int) ≠ 0) <|
bnd (spec_PartOk p2 p3 (wrapK .i64 ((wrapK .i64 (p1.Wide.tdiv 8)) * (wrapK .i64 (p1.High.tdiv 8))))) fun q4 =>
sel (!q4) (
some ((⟨0, 0, ⟨#[]⟩⟩ : Pic), false)) (
bnd (spec_CondFor p2 p3) fun q5 =>
bnd (spec_ReadTile p3.Row 0 (wrapK .i64 ((wrapK .i64 (p1.Wide.tdiv 8)) * (wrapK .i64 (p1.High.tdiv 8)))) q5) fun q6 =>
bnd (spec_TileBack p0 p1 q5 p2.Confined q6.1) fun q7 =>
some (q7.1, q7.2)))
def impl_ParOk (p0 : Par) : Option Bool :=
bnd (
bnd (impl_within p0.Qp 0 40) fun q2 =>
sel q2 (
sel p0.Large (
some (!p0.Exact)) (
some true)) (
some false)) fun v1 =>
some v1
def impl_CondFor (p0 : Par) (p1 : Part) : Option Cond :=
some (⟨p1.Key, p1.Qp, p0.Large, p0.Exact⟩ : Cond)
def impl_RowOk_l2 (p0 : ByteArray) (v3 : Int) : Option (Lp Int (Ou Unit Bool)) :=
sel (decide (v3 < (p0.size : Int))) (
bnd (
req (0 ≤ v3 ∧ v3 < p0.size) <|
sel ((btOf p0 v3) != 48) (
req (0 ≤ v3 ∧ v3 < p0.size) <|
some ((btOf p0 v3) != 49)) (
some false)) fun v7 =>
sel v7 (
some (.done (.ret false))) (
some (.go (wrapK .i64 (v3 + 1))))) (
some (.done (.out ())))
def impl_RowOk (p0 : ByteArray) : Option Bool :=
sel (decide ((p0.size : Int) > 400000)) (
some false) (
bnd (loop (impl_RowOk_l2 p0) 0) fun o8 => match o8 with
| .out v6 => (
some true)
| .ret r => some r)
def impl_opened (p0 : ByteArray) (p1 : Int) : Option Scan :=
bnd (
bnd (impl_RowOk p0) fun q2 =>
sel q2 (
bnd (impl_within p1 0 (p0.size : Int)) fun q3 =>
some (!q3)) (
some true)) fun v1 =>
some (⟨p0, p1, v1⟩ : Scan)
def impl_scan_fix_l2 (p0 : Scan) (p1 : Int) (v3 : (Int × Int)) : Option (Lp (Int × Int) Int) :=
sel (decide (v3.2 < p1)) (
req (0 ≤ (1 : Int)) <|
req (0 ≤ (wrapK .i64 (p0.at_ + v3.2)) ∧ (wrapK .i64 (p0.at_ + v3.2)) < p0.row_.size) <|
some (.go ((IntKind.wrap .i64 (BitVec.ofInt (IntKind.bits .i64) (wrapK .i64 (v3.1 * 2 ^ min (1 : Int).toNat (IntKind.bits .i64))) ||| BitVec.ofInt (IntKind.bits .i64) (wrapK .i64 (wrapK .u8 ((btOf p0.row_ (wrapK .i64 (p0.at_ + v3.2))) - 48)))).toNat), wrapK .i64 (v3.2 + 1)))) (
some (.done v3.1))
def impl_scan_fix (p0 : Scan) (p1 : Int) : Option (Int × Scan) :=
bnd (
sel p0.bad_ (
some true) (
some (decide ((wrapK .i64 ((p0.row_.size : Int) - p0.at_)) < p1)))) fun v1 =>
sel v1 (
some (0, (⟨p0.row_, p0.at_, true⟩ : Scan))) (
bnd (loop (impl_scan_fix_l2 p0 p1) (0, 0)) fun v5 =>
some (v5, (⟨p0.row_, wrapK .i64 (p0.at_ + p1), p0.bad_⟩ : Scan)))
def impl_scan_ue_l2 (p0 : Scan) (v3 : Int) : Option (Lp Int Int) :=
bnd (
sel p0.bad_ (
some false) (
sel (decide ((wrapK .i64 (p0.at_ + v3)) < (p0.row_.size : Int))) (
req (0 ≤ (wrapK .i64 (p0.at_ + v3)) ∧ (wrapK .i64 (p0.at_ + v3)) < p0.row_.size) <|
some ((btOf p0.row_ (wrapK .i64 (p0.at_ + v3))) == 48)) (
some false))) fun v7 =>
sel v7 (
some (.go (wrapK .i64 (v3 + 1)))) (
some (.done v3))
def impl_scan_ue (p0 : Scan) : Option (Int × Scan) :=
bnd (loop (impl_scan_ue_l2 p0) 0) fun v6 =>
bnd (
sel (decide (v6 > 20)) (
some true) (
some p0.bad_)) fun v9 =>
bnd (impl_scan_fix (⟨p0.row_, p0.at_, v9⟩ : Scan) (wrapK .i64 ((wrapK .i64 (2 * v6)) + 1))) fun q10 =>
bnd (
sel q10.2.bad_ (
some true) (
some (decide ((wrapK .i64 (q10.1 - 1)) > 1000000)))) fun v11 =>
sel v11 (
some (0, (⟨q10.2.row_, q10.2.at_, true⟩ : Scan))) (
some (wrapK .i64 (q10.1 - 1), q10.2))
def impl_OpenSe (p0 : Int) : Option (Int × Bool) :=
bnd (impl_within p0 0 1000000) fun q1 =>
sel (!q1) (
some (0, false)) (
req ((2 : Int) ≠ 0) <|
sel ((p0.tmod 2) == 1) (
req ((2 : Int) ≠ 0) <|
some (wrapK .i64 ((wrapK .i64 (p0 + 1)).tdiv 2), true)) (
req ((2 : Int) ≠ 0) <|
some (wrapK .i64 ((wrapK .i64 (0 - p0)).tdiv 2), true)))
def impl_scan_se (p0 : Scan) : Option (Int × Scan) :=
bnd (impl_scan_ue p0) fun q1 =>
bnd (impl_OpenSe q1.1) fun q2 =>
bnd (
sel q1.2.bad_ (
some true) (
some (!q2.2))) fun v3 =>
some (q2.1, (⟨q1.2.row_, q1.2.at_, v3⟩ : Scan))
def impl_scan_runs_l2 (p1 : Int) (v8 : (Int × Int × ByteArray × Int × Bool × (List Int))) : Option (Lp (Int × Int × ByteArray × Int × Bool × (List Int)) ((List Int) × ByteArray × Int × Bool)) :=
bnd (
sel (decide (v8.2.1 > 0)) (
some (!v8.2.2.2.2.1)) (
some false)) fun v16 =>
sel v16 (
bnd (impl_scan_ue (⟨v8.2.2.1, v8.2.2.2.1, v8.2.2.2.2.1⟩ : Scan)) fun q17 =>
bnd (impl_scan_se q17.2) fun q18 =>
bnd (
sel (decide ((wrapK .i64 (v8.1 + q17.1)) ≥ p1)) (
some true) (
sel (q18.1 == 0) (
some true) (
bnd (impl_within q18.1 (-5000) 5000) fun q20 =>
some (!q20)))) fun v19 =>
sel v19 (
some (.done (v8.2.2.2.2.2, q18.2.row_, q18.2.at_, true))) (
req (0 ≤ (wrapK .i64 (v8.1 + q17.1)) ∧ (wrapK .i64 (v8.1 + q17.1)) < v8.2.2.2.2.2.length) <|
req ((wrapK .i64 (v8.1 + q17.1)).toNat < v8.2.2.2.2.2.length) <|
some (.go (wrapK .i64 ((wrapK .i64 (v8.1 + q17.1)) + 1), wrapK .i64 (v8.2.1 - 1), q18.2.row_, q18.2.at_, q18.2.bad_, (v8.2.2.2.2.2.set ((wrapK .i64 (v8.1 + q17.1)).toNat) q18.1))))) (
some (.done (v8.2.2.2.2.2, v8.2.2.1, v8.2.2.2.1, v8.2.2.2.2.1)))
def impl_scan_runs (p0 : Scan) (p1 : Int) : Option ((List Int) × Scan) :=
req (0 ≤ p1 ∧ p1 ≤ p1 ∧ p1 * 8 ≤ 281474976710656) <|
bnd (impl_scan_ue p0) fun q1 =>
bnd (loop (impl_scan_runs_l2 p1) (0, q1.1, q1.2.row_, q1.2.at_, q1.2.bad_, (List.replicate p1.toNat (0 : Int)))) fun v15 =>
some (v15.1, (⟨v15.2.1, v15.2.2.1, v15.2.2.2⟩ : Scan))
def impl_scan_levels_l2 (v5 : (Int × ByteArray × Int × Bool × (List Int))) : Option (Lp (Int × ByteArray × Int × Bool × (List Int)) ((List Int) × ByteArray × Int × Bool)) :=
sel (decide (v5.1 < 4)) (
bnd (impl_scan_runs (⟨v5.2.1, v5.2.2.1, v5.2.2.2.1⟩ : Scan) 16) fun q9 =>
req ((v5.2.2.2.2.length + q9.1.length) * 8 ≤ 140737488355328 ∧ v5.2.2.2.2.length + q9.1.length ≤ maxLen) <|
some (.go (wrapK .i64 (v5.1 + 1), q9.2.row_, q9.2.at_, q9.2.bad_, (v5.2.2.2.2 ++ q9.1)))) (
some (.done (v5.2.2.2.2, v5.2.1, v5.2.2.1, v5.2.2.2.1)))
def impl_scan_levels (p0 : Scan) (p1 : Cond) : Option ((List Int) × Scan) :=
bnd (
sel p1.Large (
some true) (
some p1.Exact)) fun v1 =>
sel v1 (
bnd (impl_scan_runs p0 64) fun q2 =>
some (q2.1, q2.2)) (
bnd (loop (impl_scan_levels_l2) (0, p0.row_, p0.at_, p0.bad_, ([] : List Int))) fun v8 =>
some (v8.1, (⟨v8.2.1, v8.2.2.1, v8.2.2.2⟩ : Scan)))
def impl_scan_square (p0 : Scan) (p1 : Cond) : Option (Square × Scan) :=
bnd (
sel (!p1.Key) (
bnd (impl_scan_ue p0) fun q2 =>
some (q2.2.row_, q2.2.at_, q2.2.bad_, q2.1)) (
some (p0.row_, p0.at_, p0.bad_, 2))) fun v1 =>
bnd (
sel v1.2.2.1 (
some (v1.1, v1.2.1, v1.2.2.1, 0, 0, 0, [])) (
sel (v1.2.2.2 == 1) (
bnd (impl_scan_se (⟨v1.1, v1.2.1, v1.2.2.1⟩ : Scan)) fun q4 =>
bnd (impl_scan_se q4.2) fun q5 =>
bnd (impl_scan_levels q5.2 p1) fun q6 =>
some (q6.2.row_, q6.2.at_, q6.2.bad_, 0, q4.1, q5.1, q6.1)) (
sel (v1.2.2.2 == 2) (
bnd (impl_scan_ue (⟨v1.1, v1.2.1, v1.2.2.1⟩ : Scan)) fun q7 =>
bnd (impl_scan_levels q7.2 p1) fun q8 =>
some (q8.2.row_, q8.2.at_, q8.2.bad_, q7.1, 0, 0, q8.1)) (
some (v1.1, v1.2.1, v1.2.2.1, 0, 0, 0, []))))) fun v3 =>
bnd (
sel v3.2.2.1 (
some true) (
bnd (impl_SquareOk (⟨v1.2.2.2, v3.2.2.2.1, v3.2.2.2.2.1, v3.2.2.2.2.2.1, v3.2.2.2.2.2.2⟩ : Square)) fun q10 =>
some (!q10))) fun v9 =>
some ((⟨v1.2.2.2, v3.2.2.2.1, v3.2.2.2.2.1, v3.2.2.2.2.2.1, v3.2.2.2.2.2.2⟩ : Square), (⟨v3.1, v3.2.1, v9⟩ : Scan))
def impl_ReadTile_l2 (p2 : Int) (p3 : Cond) (v7 : (Int × ByteArray × Int × Bool × (List Square))) : Option (Lp (Int × ByteArray × Int × Bool × (List Square)) (Ou (ByteArray × Int × Bool × (List Square)) ((List Square) × Bool))) :=
sel (decide (v7.1 < p2)) (
bnd (impl_scan_square (⟨v7.2.1, v7.2.2.1, v7.2.2.2.1⟩ : Scan) p3) fun q11 =>
req ((v7.2.2.2.2.length + ([q11.1]).length) * 56 ≤ 140737488355328 ∧ v7.2.2.2.2.length + ([q11.1]).length ≤ maxLen) <|
sel q11.2.bad_ (
some (.done (.ret (([] : List Square), false)))) (
some (.go (wrapK .i64 (v7.1 + 1), q11.2.row_, q11.2.at_, q11.2.bad_, (v7.2.2.2.2 ++ ([q11.1])))))) (
some (.done (.out (v7.2.1, v7.2.2.1, v7.2.2.2.1, v7.2.2.2.2))))
def impl_ReadTile (p0 : ByteArray) (p1 : Int) (p2 : Int) (p3 : Cond) : Option ((List Square) × Bool) :=
bnd (impl_opened p0 p1) fun q1 =>
bnd (
bnd (impl_within p2 1 64) fun q3 =>
sel q3 (
bnd (impl_CondOk p3) fun q4 =>
some (!q4)) (
some true)) fun v2 =>
sel v2 (
some (([] : List Square), false)) (
bnd (loop (impl_ReadTile_l2 p2 p3) (0, q1.row_, q1.at_, q1.bad_, ([] : List Square))) fun o12 => match o12 with
| .out v10 => (
sel (v10.2.1 != (p0.size : Int)) (
some (([] : List Square), false)) (
some (v10.2.2.2, true)))
| .ret r => some r)
def impl_CutOf_l2 (p0 : Pic) (p1 : Rect) (v5 : (Int × (List Int))) : Option (Lp (Int × (List Int)) (List Int)) :=
sel (decide (v5.1 < (wrapK .i64 (p1.Top + p1.High)))) (
req (0 ≤ (wrapK .i64 ((wrapK .i64 (v5.1 * p0.Wide)) + p1.Left)) ∧ (wrapK .i64 ((wrapK .i64 (v5.1 * p0.Wide)) + p1.Left)) ≤ (wrapK .i64 ((wrapK .i64 ((wrapK .i64 (v5.1 * p0.Wide)) + p1.Left)) + p1.Wide)) ∧ (wrapK .i64 ((wrapK .i64 ((wrapK .i64 (v5.1 * p0.Wide)) + p1.Left)) + p1.Wide)) ≤ (p0.Dots.size : Int)) <|
req ((v5.2.length + (numsOf (p0.Dots.extract (wrapK .i64 ((wrapK .i64 (v5.1 * p0.Wide)) + p1.Left)).toNat (wrapK .i64 ((wrapK .i64 ((wrapK .i64 (v5.1 * p0.Wide)) + p1.Left)) + p1.Wide)).toNat)).length) * 1 ≤ 140737488355328 ∧ v5.2.length + (numsOf (p0.Dots.extract (wrapK .i64 ((wrapK .i64 (v5.1 * p0.Wide)) + p1.Left)).toNat (wrapK .i64 ((wrapK .i64 ((wrapK .i64 (v5.1 * p0.Wide)) + p1.Left)) + p1.Wide)).toNat)).length ≤ maxLen) <|
some (.go (wrapK .i64 (v5.1 + 1), (v5.2 ++ (numsOf (p0.Dots.extract (wrapK .i64 ((wrapK .i64 (v5.1 * p0.Wide)) + p1.Left)).toNat (wrapK .i64 ((wrapK .i64 ((wrapK .i64 (v5.1 * p0.Wide)) + p1.Left)) + p1.Wide)).toNat)))))) (
some (.done v5.2))
def impl_CutOf (p0 : Pic) (p1 : Rect) : Option (Pic × Bool) :=
bnd (
bnd (impl_PicOk p0) fun q2 =>
sel q2 (
bnd (impl_Pic_holds p0 p1) fun q3 =>
some (!q3)) (
some true)) fun v1 =>
sel v1 (
some ((⟨0, 0, ⟨#[]⟩⟩ : Pic), false)) (
req (0 ≤ (0 : Int) ∧ (0 : Int) ≤ (wrapK .i64 (p1.Wide * p1.High)) ∧ (wrapK .i64 (p1.Wide * p1.High)) * 1 ≤ 281474976710656) <|
bnd (loop (impl_CutOf_l2 p0 p1) (p1.Top, (List.replicate (0 : Int).toNat (0 : Int)))) fun v7 =>
some ((⟨p1.Wide, p1.High, (strOfNums v7)⟩ : Pic), true))
def impl_TileBack_l2 (p1 : Rect) (p2 : Cond) (p4 : (List Square)) (v10 : (Int × Int × Int × Int × ByteArray)) (v16 : (Int × Int × Int × ByteArray)) : Option (Lp (Int × Int × Int × ByteArray) (Ou (Int × Int × ByteArray) (Pic × Bool))) :=
sel (decide (v16.1 < (p4.length : Int))) (
req (0 ≤ v16.1 ∧ v16.1 < p4.length) <|
req ((8 : Int) ≠ 0) <|
req ((wrapK .i64 (p1.Wide.tdiv 8)) ≠ 0) <|
req ((8 : Int) ≠ 0) <|
req ((wrapK .i64 (p1.Wide.tdiv 8)) ≠ 0) <|
bnd (impl_SquareDots (⟨v16.2.1, v16.2.2.1, v16.2.2.2⟩ : Pic) (⟨v10.2.2.1, v10.2.2.2.1, v10.2.2.2.2⟩ : Pic) v10.1 v10.2.1 p2 (wrapK .i64 ((v16.1.tmod (wrapK .i64 (p1.Wide.tdiv 8))) * 8)) (wrapK .i64 ((wrapK .i64 (v16.1.tdiv (wrapK .i64 (p1.Wide.tdiv 8)))) * 8)) (⟨(p4.getD v16.1.toNat dSquare).Kind, (p4.getD v16.1.toNat dSquare).Mode, (p4.getD v16.1.toNat dSquare).Dx, (p4.getD v16.1.toNat dSquare).Dy, (p4.getD v16.1.toNat dSquare).Levels⟩ : Square)) fun q21 =>
sel (!q21.2) (
some (.done (.ret ((⟨0, 0, ⟨#[]⟩⟩ : Pic), false)))) (
bnd (impl_put (⟨v16.2.1, v16.2.2.1, v16.2.2.2⟩ : Pic) (wrapK .i64 ((v16.1.tmod (wrapK .i64 (p1.Wide.tdiv 8))) * 8)) (wrapK .i64 ((wrapK .i64 (v16.1.tdiv (wrapK .i64 (p1.Wide.tdiv 8)))) * 8)) q21.1) fun q22 =>
some (.go (wrapK .i64 (v16.1 + 1), q22.Wide, q22.High, q22.Dots)))) (
some (.done (.out (v16.2.1, v16.2.2.1, v16.2.2.2))))
def impl_TileBack (p0 : Pic) (p1 : Rect) (p2 : Cond) (p3 : Bool) (p4 : (List Square)) : Option (Pic × Bool) :=
bnd (
bnd (impl_isTile p1.Wide) fun q2 =>
sel q2 (
bnd (impl_isTile p1.High) fun q3 =>
sel q3 (
bnd (impl_within p1.Left 0 256) fun q4 =>
sel q4 (
bnd (impl_within p1.Top 0 256) fun q5 =>
sel q5 (
bnd (impl_CondOk p2) fun q6 =>
sel q6 (
req ((8 : Int) ≠ 0) <|
req ((8 : Int) ≠ 0) <|
some ((p4.length : Int) != (wrapK .i64 ((wrapK .i64 (p1.Wide.tdiv 8)) * (wrapK .i64 (p1.High.tdiv 8)))))) (
some true)) (
some true)) (
some true)) (
some true)) (
some true)) fun v1 =>
sel v1 (
some ((⟨0, 0, ⟨#[]⟩⟩ : Pic), false)) (
bnd (
sel p2.Key (
some false) (
bnd (impl_PicOk p0) fun q8 =>
sel q8 (
bnd (impl_Pic_holds p0 p1) fun q9 =>
some (!q9)) (
some true))) fun v7 =>
sel v7 (
some ((⟨0, 0, ⟨#[]⟩⟩ : Pic), false)) (
bnd (
sel p3 (
sel (!p2.Key) (
bnd (impl_CutOf p0 p1) fun q11 =>
some (0, 0, q11.1.Wide, q11.1.High, q11.1.Dots)) (
some (0, 0, p0.Wide, p0.High, p0.Dots))) (
some (p1.Left, p1.Top, p0.Wide, p0.High, p0.Dots))) fun v10 =>
bnd (impl_Grey p1.Wide p1.High) fun q12 =>
bnd (loop (impl_TileBack_l2 p1 p2 p4 v10) (0, q12.Wide, q12.High, q12.Dots)) fun o23 => match o23 with
| .out v20 => (
some ((⟨v20.1, v20.2.1, v20.2.2⟩ : Pic), true))
| .ret r => some r))
def impl_PartShows (p0 : Pic) (p1 : Rect) (p2 : Par) (p3 : Part) : Option (Pic × Bool) :=
bnd (
bnd (impl_isTile p1.Wide) fun q2 =>
sel q2 (
bnd (impl_isTile p1.High) fun q3 =>
sel q3 (
bnd (impl_ParOk p2) fun q4 =>
some (!q4)) (
some true)) (
some true)) fun v1 =>
sel v1 (
some ((⟨0, 0, ⟨#[]⟩⟩ : Pic), false)) (
bnd (impl_CondFor p2 p3) fun q5 =>
req ((8 : Int) ≠ 0) <|
req ((8 : Int) ≠ 0) <|
bnd (impl_ReadTile p3.Row 0 (wrapK .i64 ((wrapK .i64 (p1.Wide.tdiv 8)) * (wrapK .i64 (p1.High.tdiv 8)))) q5) fun q6 =>
sel (!q6.2) (
some ((⟨0, 0, ⟨#[]⟩⟩ : Pic), false)) (
bnd (impl_TileBack p0 p1 q5 p2.Confined q6.1) fun q7 =>
some (q7.1, q7.2)))
def laws_FnExactPartShows (p0 : Pic) (p1 : Rect) (p2 : Par) (p3 : Part) : Option Bool :=
bnd (laws_szPic p0 1048576) fun q1 =>
sel (decide (q1 < 0)) (
some true) (
bnd (laws_szPart p3 q1) fun q2 =>
sel (decide (q2 < 0)) (
some true) (
bnd (laws_toPic p0) fun q3 =>
bnd (laws_toRect p1) fun q4 =>
bnd (laws_toPar p2) fun q5 =>
bnd (laws_toPart p3) fun q6 =>
bnd (spec_PartShows q3 q4 q5 q6) fun q7 =>
bnd (laws_toPic p0) fun q8 =>
bnd (laws_toRect p1) fun q9 =>
bnd (laws_toPar p2) fun q10 =>
bnd (laws_toPart p3) fun q11 =>
bnd (impl_PartShows q8 q9 q10 q11) fun q12 =>
bnd (
bnd (laws_eqPic q12.1 q7.1) fun q14 =>
sel q14 (
some (!(q12.2 == q7.2))) (
some true)) fun v13 =>
sel v13 (
some false) (
some true)))
end
end Go.Proofs.YtpmljllgnocjkaaGreat.A
