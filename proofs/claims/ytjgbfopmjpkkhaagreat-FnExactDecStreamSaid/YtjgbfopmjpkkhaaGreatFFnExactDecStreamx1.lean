/- Contracts of the functions that the law FnExactDecStream reaches, part 1: each comes to what its pure function tells. Written by a program of this session. Conditions: as each statement tells. -/
import Derived.Test.YtjgbfopmjpkkhaaGreatFFnExactDecStreamx0
namespace Go.Proofs.YtjgbfopmjpkkhaaGreat.A
open Go Go.Proofs Go.Proofs.YtjgbfopmjpkkhaaGreatAL Go.RowKit
set_option linter.unusedVariables false
set_option linter.unusedSimpArgs false
set_option maxRecDepth 100000
set_option maxHeartbeats 2000000
noncomputable section
def Xue (r : ((List Int) × Bool)) : AV := .tup [.own 16, .sv (.bool r.2)]
def Xud (r : ((List Int) × Bool)) : Xa8 := [(16, .ints .i64 r.1)]
theorem Xwh {p0 p1 p2 p3 p4 p5 p6 p7 r} (h : Xcq p0 p1 p2 p3 p4 p5 p6 p7 = some r) : AC Tryz.prog 151 [.agg [.sv (.int .i64 p0.Wide), .sv (.int .i64 p0.High), .sv (.str p0.Dots)], .agg [.sv (.int .i64 p1.Wide), .sv (.int .i64 p1.High), .sv (.str p1.Dots)], .sv (.int .i64 p2), .sv (.int .i64 p3), .agg [.sv (.bool p4.Key), .sv (.int .i64 p4.Qp), .sv (.bool p4.Large), .sv (.bool p4.Exact)], .sv (.int .i64 p5), .sv (.int .i64 p6), .agg [.sv (.int .i64 p7.Kind), .sv (.int .i64 p7.Mode), .sv (.int .i64 p7.Dx), .sv (.int .i64 p7.Dy), .sv (.ints .i64 p7.Levels)]] [] (Xue r) (Xud r) := by
 refine Xag hT Tryz.func151 rfl fun C hC => ?_
 unfold Xcq at h
 refine Xac ?_
 iterate 6 refine kO hT hC ?_
 refine Vc.nil ?_
 refine Xaq ?_
 refine kL [2,3,5,6,8,9,12,15] [128,144,192,240] [_,_,_,_,_,_,_,_] [_,_,_,_] ?_
 refine kA h (fun v1 => ([(49, .sv (.bool v1))], [])) (fun v1 h => ?_) fun v1 h => ?_
 refine Xab ?_
 iterate 3 refine kO hT hC ?_
 refine kC hC [] Tryz.call177 h (fun _ => Xrs) fun q2 h => ?_
 iterate 2 refine kO hT hC ?_
 refine kS h ?_ ?_ <;> intro b1 h
 refine kI hT hC (kn b1) ?_
 refine kE hC (kn b1) [] Tryz.call136 h (fun _ => Xau) fun q3 h => ?_
 refine kI hT hC (kn b1) ?_
 refine kP hC false (kn b1) ?_
 refine kO hT hC ?_
 refine kS h ?_ ?_ <;> intro b2 h
 refine kI hT hC (kn b2) ?_
 refine kE hC (kn b2) [] Tryz.call136 h (fun _ => Xau) fun q4 h => ?_
 refine kI hT hC (kn b2) ?_
 refine kP hC false (kn b2) ?_
 refine kO hT hC ?_
 refine kS h ?_ ?_ <;> intro b3 h
 refine kI hT hC (kn b3) ?_
 refine kE hC (kn b3) [] Tryz.call176 h (fun _ => Xl8) fun q5 h => ?_
 refine kI hT hC (kn b3) ?_
 refine kP hC false (kn b3) ?_
 refine kO hT hC ?_
 refine kS h ?_ ?_ <;> intro b4 h
 refine kI hT hC (kn b4) ?_
 refine kE hC (kn b4) [] Tryz.call144 h (fun _ => Xlb) fun q6 h => ?_
 refine kI hT hC (kn b4) ?_
 refine kP hC false (kn b4) ?_
 refine Vc.nil ?_
 exact kM
 iterate 3 refine kF hC (kn b4) ?_
 refine kP hC true (kn b4) ?_
 refine Vc.nil ?_
 exact kM
 iterate 3 refine kF hC (kn b3) ?_
 refine kP hC true (kn b3) ?_
 refine kO hT hC ?_
 iterate 3 refine kF hC rfl ?_
 refine kO hT hC ?_
 refine Vc.nil ?_
 exact kM
 iterate 3 refine kF hC (kn b2) ?_
 refine kP hC true (kn b2) ?_
 refine kO hT hC ?_
 iterate 3 refine kF hC rfl ?_
 iterate 2 refine kO hT hC ?_
 iterate 3 refine kF hC rfl ?_
 refine kO hT hC ?_
 refine Vc.nil ?_
 exact kM
 iterate 3 refine kF hC (kn b1) ?_
 refine kP hC true (kn b1) ?_
 refine kO hT hC ?_
 iterate 3 refine kF hC rfl ?_
 iterate 2 refine kO hT hC ?_
 iterate 3 refine kF hC rfl ?_
 iterate 2 refine kO hT hC ?_
 iterate 3 refine kF hC rfl ?_
 refine kO hT hC ?_
 refine Vc.nil ?_
 exact kM
 refine kS h ?_ ?_ <;> intro b5 h
 refine kt b5 ?_
 refine Xac ?_
 iterate 3 refine kO hT hC ?_
 refine Vc.nil ?_
 refine Xah ?_
 refine Xap ?_
 obtain rfl := kj h
 exact Xbt (τ := ⟨[(16, .own 16), (17, .sv (.bool false))], [(16, some (.ints .i64 ([] : List Int)))]⟩) (kW hC [(16, 800)]) rfl ⟨rfl, trivial⟩
 refine kf b5 ?_
 refine Xaf ?_
 refine Xae ?_
 refine Xaq ?_
 refine Xac ?_
 iterate 3 refine kO hT hC ?_
 refine Vc.nil ?_
 refine kS h ?_ ?_ <;> intro b6 h
 refine kt b6 ?_
 refine Xac ?_
 iterate 3 refine kO hT hC ?_
 refine kC hC [(16, 928), (17, 929)] Tryz.call178 h (fun _ => Yfy) fun q7 h => ?_
 iterate 6 refine kO hT hC ?_
 refine kN ?_
 iterate 3 refine kO hT hC ?_
 refine kC hC [(16, 1040)] Tryz.call179 h (fun _ => Xnv) fun q8 h => ?_
 iterate 5 refine kO hT hC ?_
 refine kN ?_
 iterate 3 refine kO hT hC ?_
 refine kC hC [(16, 1136)] Tryz.call181 h (fun _ => Yf3) fun q9 h => ?_
 refine kO hT hC ?_
 refine kC hC [(16, 1168)] Tryz.call180 h (fun _ => Xtb) fun q10 h => ?_
 iterate 2 refine kO hT hC ?_
 refine Vc.nil ?_
 refine Xah ?_
 refine Xap ?_
 obtain rfl := kj h
 exact Xbt (τ := ⟨[(16, .own 16), (17, .sv (.bool true))], [(16, some (.ints .i64 q10))]⟩) (kW hC [(16, 1168)]) rfl ⟨rfl, trivial⟩
 refine kf b6 ?_
 refine Xaf ?_
 refine Xae ?_
 refine Xaq ?_
 refine kL [2,3,5,6,9,12,15] [144,192,240] [_,_,_,_,_,_,_] [_,_,_] ?_
 refine kA h (fun v11 => ([(80, .sv (.bool v11))], [])) (fun v11 h => ?_) fun v11 h => ?_
 refine Xab ?_
 iterate 3 refine kO hT hC ?_
 refine kS h ?_ ?_ <;> intro b7 h
 iterate 3 refine kF hC b7 ?_
 refine kP hC true b7 ?_
 refine Vc.nil ?_
 exact kM
 refine kI hT hC b7 ?_
 refine kE hC b7 [] Tryz.call139 h (fun _ => Xhq) fun q12 h => ?_
 refine kI hT hC b7 ?_
 refine kP hC false b7 ?_
 refine Vc.nil ?_
 exact kM
 refine kS h ?_ ?_ <;> intro b8 h
 refine kt b8 ?_
 refine Xac ?_
 iterate 3 refine kO hT hC ?_
 refine Vc.nil ?_
 refine Xah ?_
 refine Xap ?_
 obtain rfl := kj h
 exact Xbt (τ := ⟨[(16, .own 16), (17, .sv (.bool false))], [(16, some (.ints .i64 ([] : List Int)))]⟩) (kW hC [(16, 1296)]) rfl ⟨rfl, trivial⟩
 refine kf b8 ?_
 refine Xaf ?_
 refine Xae ?_
 refine Xac ?_
 iterate 13 refine kO hT hC ?_
 refine kC hC [(16, 1520)] Tryz.call182 h (fun _ => Yfp) fun q13 h => ?_
 refine kO hT hC ?_
 refine Vc.nil ?_
 refine Xaq ?_
 refine Xac ?_
 iterate 3 refine kO hT hC ?_
 refine Vc.nil ?_
 refine kS h ?_ ?_ <;> intro b9 h
 refine kt b9 ?_
 refine Xac ?_
 iterate 3 refine kO hT hC ?_
 refine Vc.nil ?_
 refine Xah ?_
 refine Xap ?_
 obtain rfl := kj h
 exact Xbt (τ := ⟨[(16, .own 16), (17, .sv (.bool true))], [(16, some (.ints .i64 q13))]⟩) (kW hC [(16, 1520)]) rfl ⟨rfl, trivial⟩
 refine kf b9 ?_
 refine Xaf ?_
 refine Xae ?_
 refine Xac ?_
 iterate 3 refine kO hT hC ?_
 refine kC hC [(16, 1664)] Tryz.call179 h (fun _ => Xnv) fun q14 h => ?_
 iterate 5 refine kO hT hC ?_
 refine kN ?_
 iterate 2 refine kO hT hC ?_
 refine kC hC [(16, 1744)] Tryz.call180 h (fun _ => Xtb) fun q15 h => ?_
 iterate 2 refine kO hT hC ?_
 refine Vc.nil ?_
 refine Xah ?_
 obtain rfl := kj h
 exact Xbt (τ := ⟨[(16, .own 16), (17, .sv (.bool true))], [(16, some (.ints .i64 q15))]⟩) (kW hC [(16, 1744)]) rfl ⟨rfl, trivial⟩
def Yg7 (r : Pic) : AV := .agg [.sv (.int .i64 r.Wide), .sv (.int .i64 r.High), .sv (.str r.Dots)]
def Yg6 (r : Pic) : Xa8 := []
theorem Yjq {p0 p1 p2 p3 r} (h : Xg9 p0 p1 p2 p3 = some r) : AC Tryz.prog 152 [.agg [.sv (.int .i64 p0.Wide), .sv (.int .i64 p0.High), .sv (.str p0.Dots)], .sv (.int .i64 p1), .sv (.int .i64 p2), .sv (.ints .i64 p3)] [] (Yg7 r) (Yg6 r) := by
 refine Xag hT Tryz.func152 rfl fun C hC => ?_
 unfold Xg9 at h
 refine Xac ?_
 iterate 2 refine kO hT hC ?_
 refine kN ?_
 iterate 2 refine kO hT hC ?_
 refine kQ hT hC h fun h => ?_
 refine kO hT hC ?_
 refine Vc.nil ?_
 refine Xaq ?_
 refine Xac ?_
 refine kO hT hC ?_
 refine Vc.nil ?_
 refine kL [1,2,3,4,8,9,10] [64,128,208] [_,_,_,_,_,_,_] [_,_,_] ?_
 refine kX h (fun v2 => ([(10, .sv (.int .i64 v2.1))], [(208, some (.ints .u8 v2.2))])) (fun v4 => ([(1, .any), (2, .any), (3, .any), (10, .any)], [(208, some (.ints .u8 v4))])) (kW hC []) (fun v2 s h => ?_) fun v4 h => ?_
 unfold Xe4 at h
 refine Xaq ?_
 refine Xac ?_
 iterate 2 refine kO hT hC ?_
 refine Vc.nil ?_
 refine kS h ?_ ?_ <;> intro b3 h
 refine kt b3 ?_
 refine Xaf ?_
 refine Xae ?_
 refine Xaq ?_
 refine Xao ?_
 refine Xcz hm ?_
 iterate 3 refine kO hT hC ?_
 refine kQ hT hC h fun h => ?_
 iterate 7 refine kO hT hC ?_
 refine kQ hT hC h fun h => ?_
 iterate 3 refine kO hT hC ?_
 refine kQ hT hC h fun h => ?_
 iterate 2 refine kO hT hC ?_
 iterate 2 refine kQ hT hC h fun h => ?_
 refine kD ?_
 refine Xar ?_
 refine Xae ?_
 refine Xab ?_
 iterate 3 refine kO hT hC ?_
 refine Vc.nil ?_
 exact kG
 refine kf b3 ?_
 refine Xas ?_
 refine Xaz ?_
 exact ku
 refine Xae ?_
 refine Xac ?_
 iterate 8 refine kO hT hC ?_
 refine Vc.nil ?_
 refine Xah ?_
 exact kR
def Xyt (r : (Pic × Bool)) : AV := .tup [.agg [.sv (.int .i64 r.1.Wide), .sv (.int .i64 r.1.High), .sv (.str r.1.Dots)], .sv (.bool r.2)]
def Xys (r : (Pic × Bool)) : Xa8 := []
theorem Ybu {p0 p1 p2 p3 p4 r} (h : Xj2 p0 p1 p2 p3 p4 = some r) : AC Tryz.prog 111 [.agg [.sv (.int .i64 p0.Wide), .sv (.int .i64 p0.High), .sv (.str p0.Dots)], .agg [.sv (.int .i64 p1.Left), .sv (.int .i64 p1.Top), .sv (.int .i64 p1.Wide), .sv (.int .i64 p1.High)], .agg [.sv (.bool p2.Key), .sv (.int .i64 p2.Qp), .sv (.bool p2.Large), .sv (.bool p2.Exact)], .sv (.bool p3), .sv (Xdj.sv p4)] [] (Xyt r) (Xys r) := by
 refine Xag hT Tryz.func111 rfl fun C hC => ?_
 unfold Xj2 at h
 refine Xac ?_
 iterate 5 refine kO hT hC ?_
 refine Vc.nil ?_
 refine Xaq ?_
 refine kL [3,4,5,6,7,10] [80,96,112,160] [_,_,_,_,_,_] [_,_,_,_] ?_
 refine kA h (fun v1 => ([(59, .sv (.bool v1))], [])) (fun v1 h => ?_) fun v1 h => ?_
 refine Xab ?_
 iterate 2 refine kO hT hC ?_
 refine kC hC [] Tryz.call147 h (fun _ => Xru) fun q2 h => ?_
 iterate 2 refine kO hT hC ?_
 refine kS h ?_ ?_ <;> intro b1 h
 iterate 2 refine kI hT hC (kn b1) ?_
 refine kE hC (kn b1) [] Tryz.call147 h (fun _ => Xru) fun q3 h => ?_
 refine kI hT hC (kn b1) ?_
 refine kP hC false (kn b1) ?_
 refine kO hT hC ?_
 refine kS h ?_ ?_ <;> intro b2 h
 iterate 2 refine kI hT hC (kn b2) ?_
 refine kE hC (kn b2) [] Tryz.call136 h (fun _ => Xau) fun q4 h => ?_
 refine kI hT hC (kn b2) ?_
 refine kP hC false (kn b2) ?_
 refine kO hT hC ?_
 refine kS h ?_ ?_ <;> intro b3 h
 iterate 2 refine kI hT hC (kn b3) ?_
 refine kE hC (kn b3) [] Tryz.call136 h (fun _ => Xau) fun q5 h => ?_
 refine kI hT hC (kn b3) ?_
 refine kP hC false (kn b3) ?_
 refine kO hT hC ?_
 refine kS h ?_ ?_ <;> intro b4 h
 iterate 2 refine kI hT hC (kn b4) ?_
 refine kE hC (kn b4) [] Tryz.call148 h (fun _ => Ymi) fun q6 h => ?_
 refine kI hT hC (kn b4) ?_
 refine kP hC false (kn b4) ?_
 refine kO hT hC ?_
 refine kS h ?_ ?_ <;> intro b5 h
 iterate 4 refine kI hT hC (kn b5) ?_
 refine kJ hT hC (kn b5) h fun h => ?_
 iterate 2 refine kI hT hC (kn b5) ?_
 refine kJ hT hC (kn b5) h fun h => ?_
 iterate 2 refine kI hT hC (kn b5) ?_
 refine kP hC false (kn b5) ?_
 refine Vc.nil ?_
 exact kM
 iterate 10 refine kF hC (kn b5) ?_
 refine kP hC true (kn b5) ?_
 refine Vc.nil ?_
 exact kM
 iterate 4 refine kF hC (kn b4) ?_
 refine kP hC true (kn b4) ?_
 refine kO hT hC ?_
 iterate 10 refine kF hC rfl ?_
 refine kO hT hC ?_
 refine Vc.nil ?_
 exact kM
 iterate 4 refine kF hC (kn b3) ?_
 refine kP hC true (kn b3) ?_
 refine kO hT hC ?_
 iterate 4 refine kF hC rfl ?_
 iterate 2 refine kO hT hC ?_
 iterate 10 refine kF hC rfl ?_
 refine kO hT hC ?_
 refine Vc.nil ?_
 exact kM
 iterate 4 refine kF hC (kn b2) ?_
 refine kP hC true (kn b2) ?_
 refine kO hT hC ?_
 iterate 4 refine kF hC rfl ?_
 iterate 2 refine kO hT hC ?_
 iterate 4 refine kF hC rfl ?_
 iterate 2 refine kO hT hC ?_
 iterate 10 refine kF hC rfl ?_
 refine kO hT hC ?_
 refine Vc.nil ?_
 exact kM
 iterate 4 refine kF hC (kn b1) ?_
 refine kP hC true (kn b1) ?_
 refine kO hT hC ?_
 iterate 4 refine kF hC rfl ?_
 iterate 2 refine kO hT hC ?_
 iterate 4 refine kF hC rfl ?_
 iterate 2 refine kO hT hC ?_
 iterate 4 refine kF hC rfl ?_
 iterate 2 refine kO hT hC ?_
 iterate 10 refine kF hC rfl ?_
 refine kO hT hC ?_
 refine Vc.nil ?_
 exact kM
 refine kS h ?_ ?_ <;> intro b6 h
 refine kt b6 ?_
 refine Xac ?_
 iterate 3 refine kO hT hC ?_
 refine Vc.nil ?_
 refine Xah ?_
 refine Xap ?_
 exact kR
 refine kf b6 ?_
 refine Xaf ?_
 refine Xae ?_
 refine Xaq ?_
 refine kL [3,4,5,6,7,10] [80,96,112,160] [_,_,_,_,_,_] [_,_,_,_] ?_
 refine kA h (fun v7 => ([(76, .sv (.bool v7))], [])) (fun v7 h => ?_) fun v7 h => ?_
 refine Xab ?_
 iterate 4 refine kO hT hC ?_
 refine kS h ?_ ?_ <;> intro b7 h
 iterate 11 refine kF hC (kn b7) ?_
 refine kP hC false (kn b7) ?_
 refine Vc.nil ?_
 exact kM
 iterate 9 refine kI hT hC (kn b7) ?_
 refine kE hC (kn b7) [] Tryz.call149 h (fun _ => Xhw) fun q8 h => ?_
 refine kI hT hC (kn b7) ?_
 refine kP hC true (kn b7) ?_
 refine Vc.nil ?_
 exact kM
 refine kS h ?_ ?_ <;> intro b8 h
 refine kt b8 ?_
 refine Xac ?_
 iterate 3 refine kO hT hC ?_
 refine Vc.nil ?_
 refine Xah ?_
 refine Xap ?_
 exact kR
 refine kf b8 ?_
 refine Xaf ?_
 refine Xae ?_
 refine Xac ?_
 iterate 3 refine kO hT hC ?_
 refine kN ?_
 iterate 3 refine kO hT hC ?_
 refine Vc.nil ?_
 refine kL [3,4,5,6,7,10,12,13] [80,96,112,160] [_,_,_,_,_,_,_,_] [_,_,_,_] ?_
 refine kA h (fun v9 => ([(12, .sv (.int .i64 v9.1)), (13, .sv (.int .i64 v9.2.1)), (3, .any)], [(80, some (.box [.sv (.int .i64 v9.2.2.1), .sv (.int .i64 v9.2.2.2.1), .sv (.str v9.2.2.2.2)]))])) (fun v9 h => ?_) fun v9 h => ?_
 refine kL [3,4,5,6,7,10,12,13] [80,96,112,160] [_,_,_,_,_,_,_,_] [_,_,_,_] ?_
 refine kA h (fun v10 => ([(87, .sv (.bool v10)), (3, .any)], [])) (fun v10 h => ?_) fun v10 h => ?_
 refine Xab ?_
 iterate 4 refine kO hT hC ?_
 refine kS h ?_ ?_ <;> intro b9 h
 refine kF hC (kn b9) ?_
 refine kP hC false (kn b9) ?_
 refine Vc.nil ?_
 exact kM
 refine kI hT hC (kn b9) ?_
 refine kP hC true (kn b9) ?_
 refine Vc.nil ?_
 exact kM
 refine kS h ?_ ?_ <;> intro b10 h
 refine kt b10 ?_
 refine Xac ?_
 iterate 2 refine kO hT hC ?_
 refine kC hC [] Tryz.call150 h (fun _ => Ymb) fun q11 h => ?_
 iterate 4 refine kO hT hC ?_
 refine kN ?_
 refine kO hT hC ?_
 refine Vc.nil ?_
 refine Xab ?_
 refine kO hT hC ?_
 refine Vc.nil ?_
 exact kM
 refine kf b10 ?_
 refine Xaf ?_
 exact kM
 refine Xac ?_
 iterate 4 refine kO hT hC ?_
 refine kC hC [] Tryz.call113 h (fun _ => Xzo) fun q12 h => ?_
 iterate 2 refine kO hT hC ?_
 refine Vc.nil ?_
 refine Xaq ?_
 refine Xac ?_
 refine kO hT hC ?_
 refine Vc.nil ?_
 refine kL [4,5,6,7,10,12,13,14,15] [80,96,112,160,224] [_,_,_,_,_,_,_,_,_] [_,_,_,_,_] ?_
 refine kX h (fun v16 => ([(15, .sv (.int .i64 v16.1))], [(224, some (.box [.sv (.int .i64 v16.2.1), .sv (.int .i64 v16.2.2.1), .sv (.str v16.2.2.2)]))])) (fun v20 => ([(4, .any), (5, .any), (6, .any), (7, .any), (12, .any), (13, .any), (15, .any)], [(224, some (.box [.sv (.int .i64 v20.1), .sv (.int .i64 v20.2.1), .sv (.str v20.2.2)])), (80, none), (96, none), (112, none)])) (kW hC []) (fun v16 s h => ?_) fun v20 h => ?_
 unfold Xbd at h
 refine Xaq ?_
 refine Xac ?_
 iterate 4 refine kO hT hC ?_
 refine Vc.nil ?_
 refine kS h ?_ ?_ <;> intro b13 h
 refine kt b13 ?_
 refine Xaf ?_
 refine Xae ?_
 refine Xaq ?_
 refine Xao ?_
 refine Xac ?_
 iterate 3 refine kO hT hC ?_
 iterate 2 refine kQ hT hC h fun h => ?_
 iterate 2 refine kO hT hC ?_
 refine kN ?_
 iterate 3 refine kO hT hC ?_
 iterate 2 refine kQ hT hC h fun h => ?_
 iterate 2 refine kO hT hC ?_
 refine Vc.nil ?_
 refine Xd7 hm ?_
 iterate 9 refine kO hT hC ?_
 refine kQ hT hC h fun h => ?_
 refine kO hT hC ?_
 refine kC hC [(16, 2064)] Tryz.call151 h (fun _ => Xwh) fun q21 h => ?_
 iterate 5 refine kO hT hC ?_
 refine kD ?_
 refine Xab ?_
 iterate 4 refine kO hT hC ?_
 refine kC hC [] Tryz.call152 h (fun _ => Yjq) fun q22 h => ?_
 refine kO hT hC ?_
 refine Vc.nil ?_
 refine Xar ?_
 refine Xae ?_
 refine Xab ?_
 iterate 3 refine kO hT hC ?_
 refine Vc.nil ?_
 exact kG
 refine kf b13 ?_
 refine Xas ?_
 refine Xaz ?_
 exact ku
 refine Xae ?_
 refine Xac ?_
 iterate 3 refine kO hT hC ?_
 refine Vc.nil ?_
 refine Xah ?_
 exact kR
def Yge (r : (Pic × Bool)) : AV := .tup [.agg [.sv (.int .i64 r.1.Wide), .sv (.int .i64 r.1.High), .sv (.str r.1.Dots)], .sv (.bool r.2)]
def Ygd (r : (Pic × Bool)) : Xa8 := []
theorem Yi3 {p0 p1 p2 p3 r} (h : Xnd p0 p1 p2 p3 = some r) : AC Tryz.prog 114 [.agg [.sv (.int .i64 p0.Wide), .sv (.int .i64 p0.High), .sv (.str p0.Dots)], .agg [.sv (.int .i64 p1.Wide), .sv (.int .i64 p1.High), .sv (.str p1.Dots)], .sv (.int .i64 p2), .sv (.int .i64 p3)] [] (Yge r) (Ygd r) := by
 refine Xag hT Tryz.func114 rfl fun C hC => ?_
 unfold Xnd at h
 refine Xac ?_
 iterate 4 refine kO hT hC ?_
 refine Vc.nil ?_
 refine Xaq ?_
 refine kL [2,3,4,5,8] [64,80,128] [_,_,_,_,_] [_,_,_] ?_
 refine kA h (fun v1 => ([(26, .sv (.bool v1))], [])) (fun v1 h => ?_) fun v1 h => ?_
 refine Xab ?_
 refine kO hT hC ?_
 refine kC hC [] Tryz.call139 h (fun _ => Xhq) fun q2 h => ?_
 iterate 2 refine kO hT hC ?_
 refine kS h ?_ ?_ <;> intro b1 h
 iterate 7 refine kI hT hC (kn b1) ?_
 refine kE hC (kn b1) [] Tryz.call149 h (fun _ => Xhw) fun q3 h => ?_
 refine kI hT hC (kn b1) ?_
 refine kP hC false (kn b1) ?_
 refine Vc.nil ?_
 exact kM
 iterate 9 refine kF hC (kn b1) ?_
 refine kP hC true (kn b1) ?_
 refine Vc.nil ?_
 exact kM
 refine kS h ?_ ?_ <;> intro b2 h
 refine kt b2 ?_
 refine Xac ?_
 iterate 3 refine kO hT hC ?_
 refine Vc.nil ?_
 refine Xah ?_
 refine Xap ?_
 exact kR
 refine kf b2 ?_
 refine Xaf ?_
 refine Xae ?_
 refine Xac ?_
 iterate 2 refine kO hT hC ?_
 refine kQ hT hC h fun h => ?_
 refine kO hT hC ?_
 refine Vc.nil ?_
 refine Xaq ?_
 refine Xac ?_
 refine kO hT hC ?_
 refine Vc.nil ?_
 refine kL [2,3,4,5,8,10,11] [64,80,128,480] [_,_,_,_,_,_,_] [_,_,_,_] ?_
 refine kX h (fun v10 => ([(11, .sv (.int .i64 v10.1))], [(480, some (.ints .u8 v10.2))])) (fun v17 => ([(2, .any), (3, .any), (5, .any), (11, .any)], [(480, some (.ints .u8 v17)), (80, none)])) (kW hC []) (fun v10 s h => ?_) fun v17 h => ?_
 unfold Xde at h
 refine Xaq ?_
 refine Xac ?_
 iterate 4 refine kO hT hC ?_
 refine Vc.nil ?_
 refine kS h ?_ ?_ <;> intro b11 h
 refine kt b11 ?_
 refine Xaf ?_
 refine Xae ?_
 refine Xaq ?_
 refine Xao ?_
 refine Xac ?_
 refine kO hT hC ?_
 refine Vc.nil ?_
 refine kL [2,3,4,5,8,10,11,12] [64,80,128,480] [_,_,_,_,_,_,_,_] [_,_,_,_] ?_
 refine kX h (fun v19 => ([(12, .sv (.int .i64 v19.1))], [(480, some (.ints .u8 v19.2))])) (fun v21 => ([(12, .any)], [(480, some (.ints .u8 v21))])) (kW hC []) (fun v19 s h => ?_) fun v21 h => ?_
 unfold Xbr at h
 refine Xaq ?_
 refine Xac ?_
 iterate 4 refine kO hT hC ?_
 refine Vc.nil ?_
 refine kS h ?_ ?_ <;> intro b14 h
 refine kt b14 ?_
 refine Xaf ?_
 refine Xae ?_
 refine Xaq ?_
 refine Xao ?_
 refine Xcz hm ?_
 iterate 19 refine kO hT hC ?_
 iterate 3 refine kQ hT hC h fun h => ?_
 refine kD ?_
 refine Xar ?_
 refine Xae ?_
 refine Xab ?_
 iterate 3 refine kO hT hC ?_
 refine Vc.nil ?_
 exact kG
 refine kf b14 ?_
 refine Xas ?_
 refine Xaz ?_
 exact ku
 refine Xar ?_
 refine Xae ?_
 refine Xab ?_
 iterate 3 refine kO hT hC ?_
 refine Vc.nil ?_
 exact kG
 refine kf b11 ?_
 refine Xas ?_
 refine Xaz ?_
 exact ku
 refine Xae ?_
 refine Xac ?_
 iterate 9 refine kO hT hC ?_
 refine Vc.nil ?_
 refine Xah ?_
 exact kR
def Xy3 (r : (Xa0 × Int × Pic)) : AV := .tup [.agg [.sv (.bool r.1.HasSeq), .sv (.bool r.1.HasPar), .sv (.bool r.1.HasRef), .sv (.int .i64 r.1.Seq.Level), .sv (.int .i64 r.1.Seq.Bits), .sv (.ints .i64 r.1.Seq.Cols), .sv (.ints .i64 r.1.Seq.Rows), .sv (.int .i64 r.1.Par.Qp), .sv (.bool r.1.Par.Large), .sv (.bool r.1.Par.Exact), .sv (.bool r.1.Par.Confined), .sv (.int .i64 r.1.Frame), .sv (.int .i64 r.1.Got), .sv (.int .i64 r.1.Now.Wide), .sv (.int .i64 r.1.Now.High), .sv (.str r.1.Now.Dots), .sv (.int .i64 r.1.Ref.Wide), .sv (.int .i64 r.1.Ref.High), .sv (.str r.1.Ref.Dots)], .sv (.int .i64 r.2.1), .agg [.sv (.int .i64 r.2.2.Wide), .sv (.int .i64 r.2.2.High), .sv (.str r.2.2.Dots)]]
def Xy2 (r : (Xa0 × Int × Pic)) : Xa8 := []
theorem Ycp {p0 p1 p2 r} (h : Xj8 p0 p1 p2 = some r) : AC Tryz.prog 72 [.agg [.sv (.bool p0.HasSeq), .sv (.bool p0.HasPar), .sv (.bool p0.HasRef), .sv (.int .i64 p0.Seq.Level), .sv (.int .i64 p0.Seq.Bits), .sv (.ints .i64 p0.Seq.Cols), .sv (.ints .i64 p0.Seq.Rows), .sv (.int .i64 p0.Par.Qp), .sv (.bool p0.Par.Large), .sv (.bool p0.Par.Exact), .sv (.bool p0.Par.Confined), .sv (.int .i64 p0.Frame), .sv (.int .i64 p0.Got), .sv (.int .i64 p0.Now.Wide), .sv (.int .i64 p0.Now.High), .sv (.str p0.Now.Dots), .sv (.int .i64 p0.Ref.Wide), .sv (.int .i64 p0.Ref.High), .sv (.str p0.Ref.Dots)], .sv (.int .i64 p1), .sv (.str p2)] [] (Xy3 r) (Xy2 r) := by
 refine Xag hT Tryz.func72 rfl fun C hC => ?_
 unfold Xj8 at h
 refine Xac ?_
 iterate 4 refine kO hT hC ?_
 refine Vc.nil ?_
 refine Xaq ?_
 refine Xac ?_
 iterate 3 refine kO hT hC ?_
 refine Vc.nil ?_
 refine kS h ?_ ?_ <;> intro b1 h
 refine kt b1 ?_
 refine Xac ?_
 iterate 5 refine kO hT hC ?_
 refine Vc.nil ?_
 refine Xah ?_
 refine Xap ?_
 exact kR
 refine kf b1 ?_
 refine Xaf ?_
 refine Xae ?_
 refine Xac ?_
 iterate 5 refine kO hT hC ?_
 refine kC hC [] Tryz.call107 h (fun _ => Ybq) fun q1 h => ?_
 iterate 8 refine kO hT hC ?_
 refine Vc.nil ?_
 refine Xaq ?_
 refine Xac ?_
 iterate 2 refine kO hT hC ?_
 refine Vc.nil ?_
 refine kS h ?_ ?_ <;> intro b2 h
 refine kt b2 ?_
 refine Xac ?_
 iterate 5 refine kO hT hC ?_
 refine Vc.nil ?_
 refine Xah ?_
 refine Xap ?_
 exact kR
 refine kf b2 ?_
 refine Xaf ?_
 refine Xae ?_
 refine Xaq ?_
 refine Xac ?_
 iterate 5 refine kO hT hC ?_
 refine Vc.nil ?_
 refine kS h ?_ ?_ <;> intro b3 h
 refine kt b3 ?_
 refine Xac ?_
 iterate 5 refine kO hT hC ?_
 refine Vc.nil ?_
 refine Xah ?_
 refine Xap ?_
 exact kR
 refine kf b3 ?_
 refine Xaf ?_
 refine Xae ?_
 refine Xaq ?_
 refine kL [1,2,3,6,8,9,10] [48,96,128,144] [_,_,_,_,_,_,_] [_,_,_,_] ?_
 refine kA h (fun v2 => ([(58, .sv (.bool v2))], [])) (fun v2 h => ?_) fun v2 h => ?_
 refine Xab ?_
 iterate 4 refine kO hT hC ?_
 refine kS h ?_ ?_ <;> intro b4 h
 iterate 5 refine kI hT hC b4 ?_
 refine kP hC true b4 ?_
 refine Vc.nil ?_
 exact kM
 iterate 5 refine kF hC b4 ?_
 refine kP hC false b4 ?_
 refine Vc.nil ?_
 exact kM
 refine kS h ?_ ?_ <;> intro b5 h
 refine kt b5 ?_
 refine Xac ?_
 iterate 5 refine kO hT hC ?_
 refine Vc.nil ?_
 refine Xah ?_
 refine Xap ?_
 exact kR
 refine kf b5 ?_
 refine Xaf ?_
 refine Xae ?_
 refine Xaq ?_
 refine kL [1,2,3,6,8,9,10] [48,96,128,144] [_,_,_,_,_,_,_] [_,_,_,_] ?_
 refine kA h (fun v3 => ([(67, .sv (.bool v3))], [])) (fun v3 h => ?_) fun v3 h => ?_
 refine Xab ?_
 iterate 3 refine kO hT hC ?_
 refine kS h ?_ ?_ <;> intro b6 h
 iterate 3 refine kI hT hC b6 ?_
 refine kP hC true b6 ?_
 refine Vc.nil ?_
 exact kM
 iterate 3 refine kF hC b6 ?_
 refine kP hC false b6 ?_
 refine Vc.nil ?_
 exact kM
 refine kS h ?_ ?_ <;> intro b7 h
 refine kt b7 ?_
 refine Xac ?_
 iterate 5 refine kO hT hC ?_
 refine Vc.nil ?_
 refine Xah ?_
 refine Xap ?_
 exact kR
 refine kf b7 ?_
 refine Xaf ?_
 refine Xae ?_
 refine Xac ?_
 iterate 13 refine kO hT hC ?_
 refine Vc.nil ?_
 refine Xd7 hm ?_
 iterate 6 refine kO hT hC ?_
 refine kC hC [] Tryz.call109 h (fun _ => Xuf) fun q4 h => ?_
 refine kO hT hC ?_
 refine kC hC [(16, 1440)] Tryz.call108 h (fun _ => Ybr) fun q5 h => ?_
 iterate 5 refine kO hT hC ?_
 refine kD ?_
 refine Xaq ?_
 refine Xac ?_
 iterate 2 refine kO hT hC ?_
 refine Vc.nil ?_
 refine kS h ?_ ?_ <;> intro b8 h
 refine kt b8 ?_
 refine Xac ?_
 iterate 5 refine kO hT hC ?_
 refine Vc.nil ?_
 refine Xah ?_
 refine Xap ?_
 exact kR
 refine kf b8 ?_
 refine Xaf ?_
 refine Xae ?_
 refine Xac ?_
 iterate 4 refine kO hT hC ?_
 refine kC hC [] Tryz.call110 h (fun _ => Xqi) fun q6 h => ?_
 iterate 6 refine kO hT hC ?_
 refine kN ?_
 iterate 8 refine kO hT hC ?_
 refine kC hC [] Tryz.call111 h (fun _ => Ybu) fun q7 h => ?_
 iterate 6 refine kO hT hC ?_
 refine kN ?_
 iterate 3 refine kO hT hC ?_
 refine Vc.nil ?_
 refine kL [3,6,8,9,15,17,19] [48,96,128,144,240,272,304] [_,_,_,_,_,_,_] [_,_,_,_,_,_,_] ?_
 refine kA h (fun v8 => ([], [(304, some (.box [.sv (.bool p0.HasSeq), .sv (.bool p0.HasPar), .sv (.bool p0.HasRef), .sv (.int .i64 p0.Seq.Level), .sv (.int .i64 p0.Seq.Bits), .sv (.ints .i64 p0.Seq.Cols), .sv (.ints .i64 p0.Seq.Rows), .sv (.int .i64 p0.Par.Qp), .sv (.bool p0.Par.Large), .sv (.bool p0.Par.Exact), .sv (.bool p0.Par.Confined), .sv (.int .i64 p0.Frame), .sv (.int .i64 p0.Got), .sv (.int .i64 v8.1), .sv (.int .i64 v8.2.1), .sv (.str v8.2.2), .sv (.int .i64 p0.Ref.Wide), .sv (.int .i64 p0.Ref.High), .sv (.str p0.Ref.Dots)]))])) (fun v8 h => ?_) fun v8 h => ?_
 refine Xac ?_
 iterate 3 refine kO hT hC ?_
 refine Vc.nil ?_
 refine kS h ?_ ?_ <;> intro b9 h
 refine kt b9 ?_
 refine Xac ?_
 iterate 2 refine kO hT hC ?_
 refine kC hC [] Tryz.call112 h (fun _ => Xth) fun q9 h => ?_
 iterate 5 refine kO hT hC ?_
 refine Vc.nil ?_
 refine Xab ?_
 iterate 2 refine kO hT hC ?_
 refine kC hC [] Tryz.call113 h (fun _ => Xzo) fun q10 h => ?_
 iterate 2 refine kO hT hC ?_
 refine Vc.nil ?_
 exact kM
 refine kf b9 ?_
 refine Xaf ?_
 exact kM
 refine Xac ?_
 iterate 7 refine kO hT hC ?_
 refine kC hC [] Tryz.call114 h (fun _ => Yi3) fun q11 h => ?_
 iterate 5 refine kO hT hC ?_
 refine kN ?_
 iterate 5 refine kO hT hC ?_
 refine kN ?_
 iterate 4 refine kO hT hC ?_
 refine Vc.nil ?_
 refine Xaq ?_
 refine Xd7 hm ?_
 iterate 4 refine kO hT hC ?_
 refine kC hC [] Tryz.call100 h (fun _ => Xj3) fun q12 h => ?_
 refine kO hT hC ?_
 refine kD ?_
 refine kS h ?_ ?_ <;> intro b10 h
 refine kt b10 ?_
 refine Xac ?_
 iterate 5 refine kO hT hC ?_
 refine Vc.nil ?_
 refine Xah ?_
 refine Xap ?_
 exact kR
 refine kf b10 ?_
 refine Xaf ?_
 refine Xae ?_
 refine Xac ?_
 iterate 4 refine kO hT hC ?_
 refine kN ?_
 iterate 3 refine kO hT hC ?_
 refine kN ?_
 iterate 2 refine kO hT hC ?_
 refine kN ?_
 iterate 3 refine kO hT hC ?_
 refine kN ?_
 iterate 2 refine kO hT hC ?_
 refine kN ?_
 iterate 7 refine kO hT hC ?_
 iterate 2 refine kQ hT hC h fun h => ?_
 iterate 2 refine kO hT hC ?_
 refine Vc.nil ?_
 refine Xd7 hm ?_
 iterate 5 refine kO hT hC ?_
 refine kD ?_
 refine Xah ?_
 exact kR
def Ycr (r : (Xa0 × Int × Pic)) : AV := .tup [.agg [.sv (.bool r.1.HasSeq), .sv (.bool r.1.HasPar), .sv (.bool r.1.HasRef), .sv (.int .i64 r.1.Seq.Level), .sv (.int .i64 r.1.Seq.Bits), .sv (.ints .i64 r.1.Seq.Cols), .sv (.ints .i64 r.1.Seq.Rows), .sv (.int .i64 r.1.Par.Qp), .sv (.bool r.1.Par.Large), .sv (.bool r.1.Par.Exact), .sv (.bool r.1.Par.Confined), .sv (.int .i64 r.1.Frame), .sv (.int .i64 r.1.Got), .sv (.int .i64 r.1.Now.Wide), .sv (.int .i64 r.1.Now.High), .sv (.str r.1.Now.Dots), .sv (.int .i64 r.1.Ref.Wide), .sv (.int .i64 r.1.Ref.High), .sv (.str r.1.Ref.Dots)], .sv (.int .i64 r.2.1), .agg [.sv (.int .i64 r.2.2.Wide), .sv (.int .i64 r.2.2.High), .sv (.str r.2.2.Dots)]]
def Ycq (r : (Xa0 × Int × Pic)) : Xa8 := []
theorem Yg9 {p0 p1 r} (h : Xnx p0 p1 = some r) : AC Tryz.prog 36 [.agg [.sv (.bool p0.HasSeq), .sv (.bool p0.HasPar), .sv (.bool p0.HasRef), .sv (.int .i64 p0.Seq.Level), .sv (.int .i64 p0.Seq.Bits), .sv (.ints .i64 p0.Seq.Cols), .sv (.ints .i64 p0.Seq.Rows), .sv (.int .i64 p0.Par.Qp), .sv (.bool p0.Par.Large), .sv (.bool p0.Par.Exact), .sv (.bool p0.Par.Confined), .sv (.int .i64 p0.Frame), .sv (.int .i64 p0.Got), .sv (.int .i64 p0.Now.Wide), .sv (.int .i64 p0.Now.High), .sv (.str p0.Now.Dots), .sv (.int .i64 p0.Ref.Wide), .sv (.int .i64 p0.Ref.High), .sv (.str p0.Ref.Dots)], .sv (.str p1)] [] (Ycr r) (Ycq r) := by
 refine Xag hT Tryz.func36 rfl fun C hC => ?_
 unfold Xnx at h
 refine Xac ?_
 iterate 4 refine kO hT hC ?_
 refine Vc.nil ?_
 refine Xaq ?_
 refine Xac ?_
 refine kO hT hC ?_
 refine kC hC [] Tryz.call68 h (fun _ => Ymd) fun q1 h => ?_
 refine kO hT hC ?_
 refine Vc.nil ?_
 refine kS h ?_ ?_ <;> intro b1 h
 refine kt b1 ?_
 refine Xac ?_
 iterate 5 refine kO hT hC ?_
 refine Vc.nil ?_
 refine Xah ?_
 refine Xap ?_
 exact kR
 refine kf b1 ?_
 refine Xaf ?_
 refine Xae ?_
 refine Xac ?_
 refine kO hT hC ?_
 refine kC hC [] Tryz.call69 h (fun _ => Yje) fun q2 h => ?_
 iterate 7 refine kO hT hC ?_
 refine Vc.nil ?_
 refine Xaq ?_
 refine Xac ?_
 iterate 2 refine kO hT hC ?_
 refine Vc.nil ?_
 refine kS h ?_ ?_ <;> intro b2 h
 refine kt b2 ?_
 refine Xac ?_
 iterate 5 refine kO hT hC ?_
 refine Vc.nil ?_
 refine Xah ?_
 refine Xap ?_
 exact kR
 refine kf b2 ?_
 refine Xaf ?_
 refine Xae ?_
 refine Xaq ?_
 refine Xac ?_
 refine kO hT hC ?_
 refine Vc.nil ?_
 refine Xao ?_
 refine Xac ?_
 iterate 2 refine kO hT hC ?_
 refine Vc.nil ?_
 refine kS h ?_ ?_ <;> intro b3 h
 refine kt b3 ?_
 refine Xac ?_
 refine kO hT hC ?_
 refine kC hC [(16, 592), (17, 593)] Tryz.call70 h (fun _ => Xwv) fun q3 h => ?_
 iterate 8 refine kO hT hC ?_
 refine Vc.nil ?_
 refine Xaq ?_
 refine kL [2,4,6,8,10,11,12] [32,64,96,160,592,593] [_,_,_,_,_,_,_] [_,_,_,_,_,_] ?_
 refine kA h (fun v4 => ([(48, .sv (.bool v4)), (8, .any), (11, .any), (12, .any)], [])) (fun v4 h => ?_) fun v4 h => ?_
 refine Xab ?_
 iterate 3 refine kO hT hC ?_
 refine kS h ?_ ?_ <;> intro b4 h
 iterate 4 refine kI hT hC (kn b4) ?_
 refine kP hC false (kn b4) ?_
 refine Vc.nil ?_
 exact kM
 iterate 4 refine kF hC (kn b4) ?_
 refine kP hC true (kn b4) ?_
 refine Vc.nil ?_
 exact kM
 refine kS h ?_ ?_ <;> intro b5 h
 refine kt b5 ?_
 refine Xac ?_
 iterate 5 refine kO hT hC ?_
 refine Vc.nil ?_
 refine Xah ?_
 refine Xap ?_
 refine Xcr ?_
 refine Xap ?_
 exact kR
 refine kf b5 ?_
 refine Xaf ?_
 refine Xae ?_
 refine Xac ?_
 iterate 6 refine kO hT hC ?_
 refine Vc.nil ?_
 refine Xah ?_
 refine Xcr ?_
 refine Xap ?_
 obtain rfl := kj h
 exact Xbt (τ := ⟨[(4, .ptr 2000000 0), (5, .sv (.int .i64 0)), (6, .ptr 2000002 0)], [(2000000, some (.box [.sv (.bool true), .sv (.bool false), .sv (.bool false), .sv (.int .i64 q3.1.Level), .sv (.int .i64 q3.1.Bits), .sv (.ints .i64 q3.1.Cols), .sv (.ints .i64 q3.1.Rows), .sv (.int .i64 0), .sv (.bool false), .sv (.bool false), .sv (.bool false), .sv (.int .i64 (-1)), .sv (.int .i64 0), .sv (.int .i64 0), .sv (.int .i64 0), .sv (.str ⟨#[]⟩), .sv (.int .i64 0), .sv (.int .i64 0), .sv (.str ⟨#[]⟩)])), (2000002, some (.box [.sv (.int .i64 0), .sv (.int .i64 0), .sv (.str ⟨#[]⟩)]))]⟩) (kW hC [(2000000, 64), (2000002, 96)]) rfl trivial
 refine kf b3 ?_
 refine Xac ?_
 iterate 2 refine kO hT hC ?_
 refine Vc.nil ?_
 refine kS h ?_ ?_ <;> intro b6 h
 refine kt b6 ?_
 refine Xac ?_
 refine kO hT hC ?_
 refine kC hC [] Tryz.call71 h (fun _ => Xwu) fun q5 h => ?_
 iterate 8 refine kO hT hC ?_
 refine Vc.nil ?_
 refine Xaq ?_
 refine kL [2,4,6,8,13,14,15] [32,64,96,208] [_,_,_,_,_,_,_] [_,_,_,_] ?_
 refine kA h (fun v6 => ([(69, .sv (.bool v6)), (8, .any), (14, .any), (15, .any)], [])) (fun v6 h => ?_) fun v6 h => ?_
 refine Xab ?_
 iterate 3 refine kO hT hC ?_
 refine kS h ?_ ?_ <;> intro b7 h
 iterate 4 refine kI hT hC (kn b7) ?_
 refine kP hC false (kn b7) ?_
 refine Vc.nil ?_
 exact kM
 iterate 4 refine kF hC (kn b7) ?_
 refine kP hC true (kn b7) ?_
 refine Vc.nil ?_
 exact kM
 refine kS h ?_ ?_ <;> intro b8 h
 refine kt b8 ?_
 refine Xac ?_
 iterate 5 refine kO hT hC ?_
 refine Vc.nil ?_
 refine Xah ?_
 refine Xap ?_
 refine Xcr ?_
 refine Xap ?_
 exact kR
 refine kf b8 ?_
 refine Xaf ?_
 refine Xae ?_
 refine Xaq ?_
 refine kL [2,4,6,13] [32,64,96,208] [_,_,_,_] [_,_,_,_] ?_
 refine kA h (fun v7 => ([(79, .sv (.bool v7))], [])) (fun v7 h => ?_) fun v7 h => ?_
 refine Xab ?_
 iterate 4 refine kO hT hC ?_
 refine kS h ?_ ?_ <;> intro b9 h
 iterate 3 refine kI hT hC (kn b9) ?_
 refine kP hC false (kn b9) ?_
 refine Vc.nil ?_
 exact kM
 iterate 3 refine kF hC (kn b9) ?_
 refine kP hC true (kn b9) ?_
 refine Vc.nil ?_
 exact kM
 refine kS h ?_ ?_ <;> intro b10 h
 refine kt b10 ?_
 refine Xac ?_
 iterate 5 refine kO hT hC ?_
 refine Vc.nil ?_
 refine Xah ?_
 refine Xap ?_
 refine Xcr ?_
 refine Xap ?_
 exact kR
 refine kf b10 ?_
 refine Xaf ?_
 refine Xae ?_
 refine Xac ?_
 iterate 3 refine kO hT hC ?_
 refine kN ?_
 iterate 2 refine kO hT hC ?_
 refine kN ?_
 iterate 3 refine kO hT hC ?_
 refine kN ?_
 iterate 5 refine kO hT hC ?_
 refine Vc.nil ?_
 refine Xah ?_
 refine Xcr ?_
 refine Xap ?_
 exact kR
 refine kf b6 ?_
 refine Xaf ?_
 refine Xar ?_
 refine Xae ?_
 refine Xac ?_
 iterate 3 refine kO hT hC ?_
 refine kC hC [] Tryz.call72 h (fun _ => Ycp) fun q8 h => ?_
 iterate 6 refine kO hT hC ?_
 refine Vc.nil ?_
 refine Xah ?_
 exact kR
def Yb4 (r : Seq) : AV := .agg [.sv (.int .i64 r.Level), .sv (.int .i64 r.Bits), .own 16, .own 17]
def Yb3 (r : Seq) : Xa8 := [(16, .ints .i64 r.Cols), (17, .ints .i64 r.Rows)]
theorem Xrj {p0 r} (h : Xg3 p0 = some r) : AC Tryz.prog 37 [.agg [.sv (.int .i64 p0.Level), .sv (.int .i64 p0.Bits), .sv (.ints .i64 p0.Cols), .sv (.ints .i64 p0.Rows)]] [] (Yb4 r) (Yb3 r) := by
 refine Xag hT Tryz.func37 rfl fun C hC => ?_
 unfold Xg3 at h
 refine Xac ?_
 iterate 2 refine kO hT hC ?_
 refine kN ?_
 iterate 3 refine kO hT hC ?_
 refine kT hT hC h fun h => ?_
 iterate 2 refine kO hT hC ?_
 refine kN ?_
 iterate 3 refine kO hT hC ?_
 refine kT hT hC h fun h => ?_
 iterate 2 refine kO hT hC ?_
 refine kN ?_
 iterate 2 refine kO hT hC ?_
 refine Vc.nil ?_
 refine Xah ?_
 obtain rfl := kj h
 exact Xbt (τ := ⟨[(2, .ptr 2000000 0)], [(16, some (.ints .i64 (([] : List Int) ++ p0.Cols))), (17, some (.ints .i64 (([] : List Int) ++ p0.Rows))), (2000000, some (.box [.sv (.int .i64 p0.Level), .sv (.int .i64 p0.Bits), .own 16, .own 17]))]⟩) (kW hC [(16, 96), (17, 176), (2000000, 32)]) rfl ⟨rfl, rfl, trivial⟩
def Ybg (r : (Xa0 × Int × Pic)) : AV := .tup [.agg [.sv (.bool r.1.HasSeq), .sv (.bool r.1.HasPar), .sv (.bool r.1.HasRef), .sv (.int .i64 r.1.Seq.Level), .sv (.int .i64 r.1.Seq.Bits), .own 16, .own 17, .sv (.int .i64 r.1.Par.Qp), .sv (.bool r.1.Par.Large), .sv (.bool r.1.Par.Exact), .sv (.bool r.1.Par.Confined), .sv (.int .i64 r.1.Frame), .sv (.int .i64 r.1.Got), .sv (.int .i64 r.1.Now.Wide), .sv (.int .i64 r.1.Now.High), .sv (.str r.1.Now.Dots), .sv (.int .i64 r.1.Ref.Wide), .sv (.int .i64 r.1.Ref.High), .sv (.str r.1.Ref.Dots)], .sv (.int .i64 r.2.1), .agg [.sv (.int .i64 r.2.2.Wide), .sv (.int .i64 r.2.2.High), .sv (.str r.2.2.Dots)]]
def Ybf (r : (Xa0 × Int × Pic)) : Xa8 := [(16, .ints .i64 r.1.Seq.Cols), (17, .ints .i64 r.1.Seq.Rows)]
theorem Yfx {p0 p1 r} (h : Xi5 p0 p1 = some r) : AC Tryz.prog 8 [.agg [.sv (.bool p0.HasSeq), .sv (.bool p0.HasPar), .sv (.bool p0.HasRef), .sv (.int .i64 p0.Seq.Level), .sv (.int .i64 p0.Seq.Bits), .sv (.ints .i64 p0.Seq.Cols), .sv (.ints .i64 p0.Seq.Rows), .sv (.int .i64 p0.Par.Qp), .sv (.bool p0.Par.Large), .sv (.bool p0.Par.Exact), .sv (.bool p0.Par.Confined), .sv (.int .i64 p0.Frame), .sv (.int .i64 p0.Got), .sv (.int .i64 p0.Now.Wide), .sv (.int .i64 p0.Now.High), .sv (.str p0.Now.Dots), .sv (.int .i64 p0.Ref.Wide), .sv (.int .i64 p0.Ref.High), .sv (.str p0.Ref.Dots)], .sv (.str p1)] [] (Ybg r) (Ybf r) := by
 refine Xag hT Tryz.func8 rfl fun C hC => ?_
 unfold Xi5 at h
 refine Xac ?_
 iterate 4 refine kO hT hC ?_
 refine kN ?_
 iterate 2 refine kO hT hC ?_
 refine kC hC [] Tryz.call36 h (fun _ => Yg9) fun q1 h => ?_
 iterate 9 refine kO hT hC ?_
 refine kN ?_
 iterate 2 refine kO hT hC ?_
 refine kC hC [(16, 304), (17, 305)] Tryz.call37 h (fun _ => Xrj) fun q2 h => ?_
 iterate 2 refine kO hT hC ?_
 refine Vc.nil ?_
 refine Xd7 hm ?_
 iterate 6 refine kO hT hC ?_
 refine kD ?_
 refine Xah ?_
 obtain rfl := kj h
 exact Xbt (τ := ⟨[(4, .ptr 2000000 0), (5, .sv (.int .i64 q1.2.1)), (6, .ptr 2000002 0)], [(16, some (.ints .i64 q2.Cols)), (17, some (.ints .i64 q2.Rows)), (2000000, some (.box [.sv (.bool q1.1.HasSeq), .sv (.bool q1.1.HasPar), .sv (.bool q1.1.HasRef), .sv (.int .i64 q2.Level), .sv (.int .i64 q2.Bits), .own 16, .own 17, .sv (.int .i64 q1.1.Par.Qp), .sv (.bool q1.1.Par.Large), .sv (.bool q1.1.Par.Exact), .sv (.bool q1.1.Par.Confined), .sv (.int .i64 q1.1.Frame), .sv (.int .i64 q1.1.Got), .sv (.int .i64 q1.1.Now.Wide), .sv (.int .i64 q1.1.Now.High), .sv (.str q1.1.Now.Dots), .sv (.int .i64 q1.1.Ref.Wide), .sv (.int .i64 q1.1.Ref.High), .sv (.str q1.1.Ref.Dots)])), (2000002, some (.box [.sv (.int .i64 q1.2.2.Wide), .sv (.int .i64 q1.2.2.High), .sv (.str q1.2.2.Dots)]))]⟩) (kW hC [(16, 304), (17, 305), (2000000, 64), (2000002, 96)]) rfl ⟨rfl, rfl, trivial⟩
def Xxv (r : (List Int)) : AV := .own 16
def Xxu (r : (List Int)) : Xa8 := [(16, .ints .i64 r)]
theorem Xl4 {p0 r} (h : Xem p0 = some r) : AC Tryz.prog 115 [.sv (.ints .i64 p0)] [] (Xxv r) (Xxu r) := by
 refine Xag hT Tryz.func115 rfl fun C hC => ?_
 unfold Xem at h
 refine Xac ?_
 refine kO hT hC ?_
 refine kN ?_
 iterate 2 refine kO hT hC ?_
 refine kT hT hC h fun h => ?_
 refine kO hT hC ?_
 refine Vc.nil ?_
 refine Xah ?_
 obtain rfl := kj h
 exact Xbt (τ := ⟨[(2, .own 16)], [(16, some (.ints .i64 (([] : List Int) ++ p0)))]⟩) (kW hC [(16, 80)]) rfl ⟨rfl, trivial⟩
def Yaj (r : Seq) : AV := .agg [.sv (.int .i64 r.Level), .sv (.int .i64 r.Bits), .own 16, .own 17]
def Yai (r : Seq) : Xa8 := [(16, .ints .i64 r.Cols), (17, .ints .i64 r.Rows)]
theorem Yek {p0 r} (h : Xlm p0 = some r) : AC Tryz.prog 74 [.agg [.sv (.int .i64 p0.Level), .sv (.int .i64 p0.Bits), .sv (.ints .i64 p0.Cols), .sv (.ints .i64 p0.Rows)]] [] (Yaj r) (Yai r) := by
 refine Xag hT Tryz.func74 rfl fun C hC => ?_
 unfold Xlm at h
 refine Xac ?_
 iterate 2 refine kO hT hC ?_
 refine kN ?_
 iterate 2 refine kO hT hC ?_
 refine kC hC [(16, 80)] Tryz.call115 h (fun _ => Xl4) fun q1 h => ?_
 iterate 2 refine kO hT hC ?_
 refine kN ?_
 iterate 2 refine kO hT hC ?_
 refine kC hC [(16, 144)] Tryz.call115 h (fun _ => Xl4) fun q2 h => ?_
 iterate 2 refine kO hT hC ?_
 refine kN ?_
 iterate 2 refine kO hT hC ?_
 refine Vc.nil ?_
 refine Xah ?_
 obtain rfl := kj h
 exact Xbt (τ := ⟨[(2, .ptr 2000000 0)], [(16, some (.ints .i64 q1)), (17, some (.ints .i64 q2)), (2000000, some (.box [.sv (.int .i64 p0.Level), .sv (.int .i64 p0.Bits), .own 16, .own 17]))]⟩) (kW hC [(16, 80), (17, 144), (2000000, 32)]) rfl ⟨rfl, rfl, trivial⟩
def Xsl (r : Xa0) : AV := .agg [.sv (.bool r.HasSeq), .sv (.bool r.HasPar), .sv (.bool r.HasRef), .sv (.int .i64 r.Seq.Level), .sv (.int .i64 r.Seq.Bits), .own 16, .own 17, .sv (.int .i64 r.Par.Qp), .sv (.bool r.Par.Large), .sv (.bool r.Par.Exact), .sv (.bool r.Par.Confined), .sv (.int .i64 r.Frame), .sv (.int .i64 r.Got), .sv (.int .i64 r.Now.Wide), .sv (.int .i64 r.Now.High), .sv (.str r.Now.Dots), .sv (.int .i64 r.Ref.Wide), .sv (.int .i64 r.Ref.High), .sv (.str r.Ref.Dots)]
def Xsk (r : Xa0) : Xa8 := [(16, .ints .i64 r.Seq.Cols), (17, .ints .i64 r.Seq.Rows)]
theorem Xm3 {p0 r} (h : Xct p0 = some r) : AC Tryz.prog 41 [.agg [.sv (.bool p0.HasSeq), .sv (.bool p0.HasPar), .sv (.bool p0.HasRef), .sv (.int .i64 p0.Seq.Level), .sv (.int .i64 p0.Seq.Bits), .sv (.ints .i64 p0.Seq.Cols), .sv (.ints .i64 p0.Seq.Rows), .sv (.int .i64 p0.Par.Qp), .sv (.bool p0.Par.Large), .sv (.bool p0.Par.Exact), .sv (.bool p0.Par.Confined), .sv (.int .i64 p0.Frame), .sv (.int .i64 p0.Got), .sv (.int .i64 p0.Now.Wide), .sv (.int .i64 p0.Now.High), .sv (.str p0.Now.Dots), .sv (.int .i64 p0.Ref.Wide), .sv (.int .i64 p0.Ref.High), .sv (.str p0.Ref.Dots)]] [] (Xsl r) (Xsk r) := by
 refine Xag hT Tryz.func41 rfl fun C hC => ?_
 unfold Xct at h
 refine Xac ?_
 iterate 2 refine kO hT hC ?_
 refine kN ?_
 iterate 2 refine kO hT hC ?_
 refine kC hC [(16, 80), (17, 81)] Tryz.call74 h (fun _ => Yek) fun q1 h => ?_
 iterate 2 refine kO hT hC ?_
 refine kN ?_
 iterate 2 refine kO hT hC ?_
 refine Vc.nil ?_
 refine Xah ?_
 obtain rfl := kj h
 exact Xbt (τ := ⟨[(2, .ptr 2000000 0)], [(16, some (.ints .i64 q1.Cols)), (17, some (.ints .i64 q1.Rows)), (2000000, some (.box [.sv (.bool p0.HasSeq), .sv (.bool p0.HasPar), .sv (.bool p0.HasRef), .sv (.int .i64 q1.Level), .sv (.int .i64 q1.Bits), .own 16, .own 17, .sv (.int .i64 p0.Par.Qp), .sv (.bool p0.Par.Large), .sv (.bool p0.Par.Exact), .sv (.bool p0.Par.Confined), .sv (.int .i64 p0.Frame), .sv (.int .i64 p0.Got), .sv (.int .i64 p0.Now.Wide), .sv (.int .i64 p0.Now.High), .sv (.str p0.Now.Dots), .sv (.int .i64 p0.Ref.Wide), .sv (.int .i64 p0.Ref.High), .sv (.str p0.Ref.Dots)]))]⟩) (kW hC [(16, 80), (17, 81), (2000000, 32)]) rfl ⟨rfl, rfl, trivial⟩
def Yal (r : Bool) : AV := .sv (.bool r)
def Yak (r : Bool) : Xa8 := []
theorem Yep {p0 r} (h : Xln p0 = some r) : AC Tryz.prog 61 [.agg [.sv (.int .i64 p0.Level), .sv (.int .i64 p0.Bits), .sv (.ints .i64 p0.Cols), .sv (.ints .i64 p0.Rows)]] [] (Yal r) (Yak r) := by
 refine Xag hT Tryz.func61 rfl fun C hC => ?_
 unfold Xln at h
 refine Xac ?_
 iterate 2 refine kO hT hC ?_
 refine Vc.nil ?_
 refine kL [1,2] [16] [_,_] [_] ?_
 refine kA h (fun v1 => ([(2, .sv (.bool v1)), (1, .any)], [(16, none)])) (fun v1 h => ?_) fun v1 h => ?_
 refine Xab ?_
 iterate 4 refine kO hT hC ?_
 refine kS h ?_ ?_ <;> intro b1 h
 iterate 3 refine kI hT hC b1 ?_
 refine kP hC true b1 ?_
 refine kO hT hC ?_
 refine kS h ?_ ?_ <;> intro b2 h
 iterate 4 refine kI hT hC b2 ?_
 refine kP hC true b2 ?_
 refine kO hT hC ?_
 refine kS h ?_ ?_ <;> intro b3 h
 iterate 4 refine kI hT hC b3 ?_
 refine kP hC true b3 ?_
 refine kO hT hC ?_
 refine Vc.nil ?_
 exact kM
 iterate 4 refine kF hC b3 ?_
 refine kP hC false b3 ?_
 refine kO hT hC ?_
 refine Vc.nil ?_
 exact kM
 iterate 4 refine kF hC b2 ?_
 refine kP hC false b2 ?_
 refine kO hT hC ?_
 iterate 4 refine kF hC rfl ?_
 iterate 2 refine kO hT hC ?_
 refine Vc.nil ?_
 exact kM
 iterate 3 refine kF hC b1 ?_
 refine kP hC false b1 ?_
 refine kO hT hC ?_
 iterate 4 refine kF hC rfl ?_
 iterate 2 refine kO hT hC ?_
 iterate 4 refine kF hC rfl ?_
 iterate 2 refine kO hT hC ?_
 refine Vc.nil ?_
 exact kM
 refine Xah ?_
 exact kR
def Ye3 (r : Bool) : AV := .sv (.bool r)
def Ye2 (r : Bool) : Xa8 := []
theorem Xam {p0 p1 p2 r} (h : Xat p0 p1 p2 = some r) : AC Tryz.prog 64 [.sv (.int .i64 p0), .sv (.int .i64 p1), .sv (.int .i64 p2)] [] (Ye3 r) (Ye2 r) := by
 refine Xag hT Tryz.func64 rfl fun C hC => ?_
 unfold Xat at h
 refine Xac ?_
 refine kO hT hC ?_
 refine Vc.nil ?_
 refine kL [0,1,2,6] [] [_,_,_,_] [] ?_
 refine kA h (fun v1 => ([(6, .sv (.bool v1)), (0, .any), (1, .any), (2, .any)], [])) (fun v1 h => ?_) fun v1 h => ?_
 refine Xab ?_
 iterate 4 refine kO hT hC ?_
 refine kS h ?_ ?_ <;> intro b1 h
 iterate 3 refine kI hT hC b1 ?_
 refine kP hC true b1 ?_
 refine kO hT hC ?_
 refine Vc.nil ?_
 exact kM
 iterate 3 refine kF hC b1 ?_
 refine kP hC false b1 ?_
 refine kO hT hC ?_
 refine Vc.nil ?_
 exact kM
 refine Xah ?_
 exact kR
def Yig (r : Int) : AV := .sv (.int .i64 r)
def Yif (r : Int) : Xa8 := []
theorem Xen {p0 r} (h : Xcb p0 = some r) : AC Tryz.prog 121 [.sv (.ints .i64 p0)] [] (Yig r) (Yif r) := by
 refine Xag hT Tryz.func121 rfl fun C hC => ?_
 unfold Xcb at h
 refine Xac ?_
 refine kO hT hC ?_
 refine kN ?_
 refine kO hT hC ?_
 refine Vc.nil ?_
 refine Xaq ?_
 refine Xac ?_
 iterate 3 refine kO hT hC ?_
 refine Vc.nil ?_
 refine kL [3,6,7,8] [] [_,_,_,_] [] ?_
 refine kX h (fun v2 => ([(3, .sv (.int .i64 v2.1)), (8, .sv (.int .i64 v2.2))], [])) (fun v4 => ([(3, .sv (.int .i64 v4)), (6, .any), (7, .any), (8, .any)], [])) (kW hC []) (fun v2 s h => ?_) fun v4 h => ?_
 unfold Xds at h
 refine Xac ?_
 refine kO hT hC ?_
 refine Vc.nil ?_
 refine Xaq ?_
 refine kS h ?_ ?_ <;> intro b3 h
 refine kt b3 ?_
 refine Xaf ?_
 refine Xae ?_
 refine Xaq ?_
 refine Xao ?_
 refine Xac ?_
 refine kQ hT hC h fun h => ?_
 iterate 2 refine kO hT hC ?_
 refine Vc.nil ?_
 refine Xab ?_
 iterate 4 refine kO hT hC ?_
 refine Vc.nil ?_
 refine Xar ?_
 refine Xae ?_
 refine Xab ?_
 iterate 2 refine kO hT hC ?_
 refine Vc.nil ?_
 exact kG
 refine kf b3 ?_
 refine Xas ?_
 refine Xaz ?_
 exact ku
 refine Xae ?_
 refine Xac ?_
 iterate 2 refine kO hT hC ?_
 refine Vc.nil ?_
 refine Xah ?_
 exact kR
def Xjk (r : Int) : AV := .sv (.int .i64 r)
def Xjj (r : Int) : Xa8 := []
theorem Xxo {p0 r} (h : Xh6 p0 = some r) : AC Tryz.prog 95 [.agg [.sv (.int .i64 p0.Level), .sv (.int .i64 p0.Bits), .sv (.ints .i64 p0.Cols), .sv (.ints .i64 p0.Rows)]] [] (Xjk r) (Xjj r) := by
 refine Xag hT Tryz.func95 rfl fun C hC => ?_
 unfold Xh6 at h
 refine Xac ?_
 iterate 2 refine kO hT hC ?_
 refine Vc.nil ?_
 refine Xaq ?_
 refine Xac ?_
 iterate 7 refine kO hT hC ?_
 refine Vc.nil ?_
 refine kL [1,11,12,13] [16,176] [_,_,_,_] [_,_] ?_
 obtain ⟨o32, hl, h⟩ := Xba h
 refine Xd8 (fun v11 => ([(13, .sv (.int .i64 v11))], [])) (fun v22 => ([(11, .any), (12, .any), (13, .any)], [(176, none)])) (fun r => Xl1 C T Tryz.f95.results.toList (Xjk r) (Xjj r)) hl ?_ ?_ ?_ ?_
 apply Xbz hC []
 exact co
 rfl
 decide
 rfl
 intro v11 s hs
 have h := hs
 unfold Xdi at h
 refine Xac ?_
 refine kO hT hC ?_
 refine Vc.nil ?_
 refine Xaq ?_
 refine kS h ?_ ?_ <;> intro b17 h
 refine kt b17 ?_
 refine Xaf ?_
 refine Xae ?_
 refine Xaq ?_
 refine Xao ?_
 refine Xac ?_
 iterate 2 refine kQ hT hC h fun h => ?_
 refine kO hT hC ?_
 refine Vc.nil ?_
 refine Xaq ?_
 refine Xac ?_
 iterate 2 refine kO hT hC ?_
 refine kC hC [] Tryz.call64 h (fun _ => Xam) fun q23 h => ?_
 refine kO hT hC ?_
 refine Vc.nil ?_
 refine kS h ?_ ?_ <;> intro b18 h
 refine kt b18 ?_
 refine Xac ?_
 refine kO hT hC ?_
 refine Vc.nil ?_
 refine Xah ?_
 refine Xap ?_
 refine Xcr ?_
 refine Xap ?_
 obtain rfl := kj h
 refine Xku ?_
 refine Xkr ?_
 exact Xbt (Xgk.refl _) rfl trivial
 refine kf b18 ?_
 refine Xaf ?_
 refine Xae ?_
 refine Xac ?_
 iterate 3 refine kO hT hC ?_
 refine Vc.nil ?_
 refine kL [1,11,12,13,21,22,23] [16,176] [_,_,_,_,_,_,_] [_,_] ?_
 obtain ⟨o31, hl, h⟩ := Xba h
 refine Xd8 (fun v26 => ([(23, .sv (.int .i64 v26))], [])) (fun v29 => ([(21, .any), (22, .any), (23, .any)], [])) (fun r => Xl1 C T Tryz.f95.results.toList (Xjk r) (Xjj r)) hl ?_ ?_ ?_ ?_
 apply Xbz hC []
 exact co
 rfl
 decide
 rfl
 intro v26 s hs
 have h := hs
 unfold Xcl at h
 refine Xac ?_
 refine kO hT hC ?_
 refine Vc.nil ?_
 refine Xaq ?_
 refine kS h ?_ ?_ <;> intro b23 h
 refine kt b23 ?_
 refine Xaf ?_
 refine Xae ?_
 refine Xaq ?_
 refine Xao ?_
 refine Xac ?_
 refine kQ hT hC h fun h => ?_
 iterate 2 refine kO hT hC ?_
 refine kN ?_
 refine kO hT hC ?_
 refine kC hC [] Tryz.call64 h (fun _ => Xam) fun q30 h => ?_
 refine kO hT hC ?_
 refine Vc.nil ?_
 refine kS h ?_ ?_ <;> intro b24 h
 refine kt b24 ?_
 refine Xac ?_
 refine kO hT hC ?_
 refine Vc.nil ?_
 refine Xah ?_
 refine Xcr ?_
 refine Xap ?_
 obtain rfl := kj h
 refine Xku ?_
 refine Xkr ?_
 exact Xbt (Xgk.refl _) rfl trivial
 refine kf b24 ?_
 refine Xaf ?_
 refine Xar ?_
 refine Xae ?_
 refine Xab ?_
 iterate 2 refine kO hT hC ?_
 refine Vc.nil ?_
 exact kG
 refine kf b23 ?_
 refine Xas ?_
 refine Xaz ?_
 exact kb
 intro v29 e
 subst e
 refine Xar ?_
 refine Xae ?_
 refine Xab ?_
 iterate 2 refine kO hT hC ?_
 refine Vc.nil ?_
 exact kG
 intro r' σ' e hE
 subst e
 obtain rfl := kj h
 refine Xcr ?_
 refine Xap ?_
 refine Xku ?_
 refine Xkr ?_
 exact hE
 refine kf b17 ?_
 refine Xas ?_
 refine Xaz ?_
 exact kb
 intro v22 e
 subst e
 refine Xae ?_
 refine Xd7 hm ?_
 iterate 2 refine kO hT hC ?_
 refine kC hC [] Tryz.call121 h (fun _ => Xen) fun q33 h => ?_
 iterate 2 refine kO hT hC ?_
 refine kC hC [] Tryz.call121 h (fun _ => Xen) fun q34 h => ?_
 iterate 2 refine kO hT hC ?_
 refine kD ?_
 refine Xah ?_
 exact kR
 intro r' σ' e hE
 subst e
 obtain rfl := kj h
 refine Xap ?_
 exact hE
def Xq3 (r : Int) : AV := .sv (.int .i64 r)
def Xq2 (r : Int) : Xa8 := []
theorem Xsg {p0 r} (h : Xe8 p0 = some r) : AC Tryz.prog 96 [.sv (.int .i64 p0)] [] (Xq3 r) (Xq2 r) := by
 refine Xag hT Tryz.func96 rfl fun C hC => ?_
 unfold Xe8 at h
 refine Xac ?_
 refine kO hT hC ?_
 refine Vc.nil ?_
 refine Xaq ?_
 refine Xac ?_
 refine kO hT hC ?_
 refine kC hC [] Tryz.call64 h (fun _ => Xam) fun q1 h => ?_
 refine kO hT hC ?_
 refine Vc.nil ?_
 refine kS h ?_ ?_ <;> intro b1 h
 refine kt b1 ?_
 refine Xac ?_
 refine kO hT hC ?_
 refine Vc.nil ?_
 refine Xah ?_
 refine Xap ?_
 exact kR
 refine kf b1 ?_
 refine Xaf ?_
 refine Xae ?_
 refine Xac ?_
 iterate 3 refine kO hT hC ?_
 iterate 2 refine kQ hT hC h fun h => ?_
 refine kO hT hC ?_
 refine Vc.nil ?_
 refine Xah ?_
 exact kR
def Yh3 (r : Bool) : AV := .sv (.bool r)
def Yh2 (r : Bool) : Xa8 := []
theorem Xhf {p0 r} (h : Xgb p0 = some r) : AC Tryz.prog 62 [.agg [.sv (.int .i64 p0.Level), .sv (.int .i64 p0.Bits), .sv (.ints .i64 p0.Cols), .sv (.ints .i64 p0.Rows)]] [] (Yh3 r) (Yh2 r) := by
 refine Xag hT Tryz.func62 rfl fun C hC => ?_
 unfold Xgb at h
 refine Xac ?_
 iterate 2 refine kO hT hC ?_
 refine Vc.nil ?_
 refine kL [1,2] [16] [_,_] [_] ?_
 refine kA h (fun v1 => ([(2, .sv (.bool v1)), (1, .any)], [(16, none)])) (fun v1 h => ?_) fun v1 h => ?_
 refine Xcz hm ?_
 refine kO hT hC ?_
 refine kC hC [] Tryz.call95 h (fun _ => Xxo) fun q2 h => ?_
 iterate 2 refine kO hT hC ?_
 refine kC hC [] Tryz.call96 h (fun _ => Xsg) fun q3 h => ?_
 refine kC hC [] Tryz.call64 h (fun _ => Xam) fun q4 h => ?_
 refine kO hT hC ?_
 refine kS h ?_ ?_ <;> intro b1 h
 iterate 2 refine kI hT hC b1 ?_
 refine kE hC b1 [] Tryz.call64 h (fun _ => Xam) fun q5 h => ?_
 refine kP hC true b1 ?_
 refine kO hT hC ?_
 refine kD ?_
 exact kM
 iterate 3 refine kF hC b1 ?_
 refine kP hC false b1 ?_
 refine kO hT hC ?_
 refine kD ?_
 exact kM
 refine Xah ?_
 exact kR
def Yhy (r : Bool) : AV := .sv (.bool r)
def Yhx (r : Bool) : Xa8 := []
theorem Xmi {p0 r} (h : Xiy p0 = some r) : AC Tryz.prog 63 [.agg [.sv (.int .i64 p0.Qp), .sv (.bool p0.Large), .sv (.bool p0.Exact), .sv (.bool p0.Confined)]] [] (Yhy r) (Yhx r) := by
 refine Xag hT Tryz.func63 rfl fun C hC => ?_
 unfold Xiy at h
 refine Xac ?_
 iterate 2 refine kO hT hC ?_
 refine Vc.nil ?_
 refine kL [1,2] [16] [_,_] [_] ?_
 refine kA h (fun v1 => ([(2, .sv (.bool v1)), (1, .any)], [(16, none)])) (fun v1 h => ?_) fun v1 h => ?_
 refine Xab ?_
 iterate 2 refine kO hT hC ?_
 refine kC hC [] Tryz.call64 h (fun _ => Xam) fun q2 h => ?_
 refine kO hT hC ?_
 refine kS h ?_ ?_ <;> intro b1 h
 iterate 3 refine kI hT hC b1 ?_
 refine kS h ?_ ?_ <;> intro b2 h
 iterate 2 refine kI hT hC b2 ?_
 refine Xa3 hC rfl rfl rfl rfl b1 rfl rfl (b := true) b2 rfl rfl rfl trivial ?_
 refine kI hT hC b1 ?_
 refine kP hC true b1 ?_
 refine kO hT hC ?_
 refine Vc.nil ?_
 exact kM
 iterate 2 refine kF hC b2 ?_
 refine Xa3 hC rfl rfl rfl rfl b1 rfl rfl (b := false) b2 rfl rfl rfl trivial ?_
 refine kI hT hC b1 ?_
 refine kP hC true b1 ?_
 refine kO hT hC ?_
 refine Vc.nil ?_
 exact kM
 iterate 3 refine kF hC b1 ?_
 iterate 2 refine Xdq hC rfl rfl rfl rfl rfl rfl ?_
 iterate 2 refine kF hC b1 ?_
 refine kP hC false b1 ?_
 refine kO hT hC ?_
 refine Vc.nil ?_
 exact kM
 refine Xah ?_
 exact kR
def Yaf (r : Int) : AV := .sv (.int .i64 r)
def Yae (r : Int) : Xa8 := []
theorem Xjm {p0 r} (h : Xfl p0 = some r) : AC Tryz.prog 65 [.agg [.sv (.int .i64 p0.Level), .sv (.int .i64 p0.Bits), .sv (.ints .i64 p0.Cols), .sv (.ints .i64 p0.Rows)]] [] (Yaf r) (Yae r) := by
 refine Xag hT Tryz.func65 rfl fun C hC => ?_
 unfold Xfl at h
 refine Xac ?_
 iterate 2 refine kO hT hC ?_
 refine Vc.nil ?_
 refine Xaq ?_
 refine Xac ?_
 refine kO hT hC ?_
 refine kC hC [] Tryz.call62 h (fun _ => Xhf) fun q1 h => ?_
 refine kO hT hC ?_
 refine Vc.nil ?_
 refine kS h ?_ ?_ <;> intro b1 h
 refine kt b1 ?_
 refine Xac ?_
 refine kO hT hC ?_
 refine Vc.nil ?_
 refine Xah ?_
 refine Xap ?_
 exact kR
 refine kf b1 ?_
 refine Xaf ?_
 refine Xae ?_
 refine Xac ?_
 iterate 8 refine kO hT hC ?_
 refine Vc.nil ?_
 refine Xah ?_
 exact kR
def Yed (r : (Int × Int)) : AV := .tup [.sv (.int .i64 r.1), .sv (.int .i64 r.2)]
def Yec (r : (Int × Int)) : Xa8 := []
theorem Xsz {p0 r} (h : Xir p0 = some r) : AC Tryz.prog 87 [.agg [.sv (.int .i64 p0.Level), .sv (.int .i64 p0.Bits), .sv (.ints .i64 p0.Cols), .sv (.ints .i64 p0.Rows)]] [] (Yed r) (Yec r) := by
 refine Xag hT Tryz.func87 rfl fun C hC => ?_
 unfold Xir at h
 refine Xac ?_
 iterate 3 refine kO hT hC ?_
 refine Vc.nil ?_
 refine Xaq ?_
 refine Xac ?_
 refine kO hT hC ?_
 refine kC hC [] Tryz.call62 h (fun _ => Xhf) fun q1 h => ?_
 refine kO hT hC ?_
 refine Vc.nil ?_
 refine kS h ?_ ?_ <;> intro b1 h
 refine kt b1 ?_
 refine Xac ?_
 iterate 2 refine kO hT hC ?_
 refine Vc.nil ?_
 refine Xah ?_
 refine Xap ?_
 exact kR
 refine kf b1 ?_
 refine Xaf ?_
 refine Xae ?_
 refine Xd7 hm ?_
 iterate 2 refine kO hT hC ?_
 refine kC hC [] Tryz.call121 h (fun _ => Xen) fun q2 h => ?_
 iterate 3 refine kO hT hC ?_
 refine kC hC [] Tryz.call121 h (fun _ => Xen) fun q3 h => ?_
 iterate 3 refine kO hT hC ?_
 refine kD ?_
 refine Xah ?_
 exact kR
def Yh1 (r : Bool) : AV := .sv (.bool r)
def Yh0 (r : Bool) : Xa8 := []
theorem Xdr {p0 r} (h : Xdh p0 = some r) : AC Tryz.prog 55 [.agg [.sv (.int .i64 p0.Wide), .sv (.int .i64 p0.High), .sv (.str p0.Dots)]] [] (Yh1 r) (Yh0 r) := by
 refine Xag hT Tryz.func55 rfl fun C hC => ?_
 unfold Xdh at h
 refine Xac ?_
 iterate 2 refine kO hT hC ?_
 refine Vc.nil ?_
 refine kL [1,2] [16] [_,_] [_] ?_
 refine kA h (fun v1 => ([(2, .sv (.bool v1)), (1, .any)], [(16, none)])) (fun v1 h => ?_) fun v1 h => ?_
 refine Xab ?_
 iterate 2 refine kO hT hC ?_
 refine kC hC [] Tryz.call64 h (fun _ => Xam) fun q2 h => ?_
 refine kO hT hC ?_
 refine kS h ?_ ?_ <;> intro b1 h
 iterate 2 refine kI hT hC b1 ?_
 refine kE hC b1 [] Tryz.call64 h (fun _ => Xam) fun q3 h => ?_
 refine kP hC true b1 ?_
 refine kO hT hC ?_
 refine kS h ?_ ?_ <;> intro b2 h
 iterate 9 refine kI hT hC b2 ?_
 refine kP hC true b2 ?_
 refine kO hT hC ?_
 refine Vc.nil ?_
 exact kM
 iterate 9 refine kF hC b2 ?_
 refine kP hC false b2 ?_
 refine kO hT hC ?_
 refine Vc.nil ?_
 exact kM
 iterate 3 refine kF hC b1 ?_
 refine kP hC false b1 ?_
 refine kO hT hC ?_
 iterate 9 refine kF hC rfl ?_
 iterate 2 refine kO hT hC ?_
 refine Vc.nil ?_
 exact kM
 refine Xah ?_
 exact kR
def Yld (r : Bool) : AV := .sv (.bool r)
def Ylc (r : Bool) : Xa8 := []
theorem Xzg {p0 p1 r} (h : Xot p0 p1 = some r) : AC Tryz.prog 66 [.agg [.sv (.int .i64 p0.Wide), .sv (.int .i64 p0.High), .sv (.str p0.Dots)], .agg [.sv (.int .i64 p1.Level), .sv (.int .i64 p1.Bits), .sv (.ints .i64 p1.Cols), .sv (.ints .i64 p1.Rows)]] [] (Yld r) (Ylc r) := by
 refine Xag hT Tryz.func66 rfl fun C hC => ?_
 unfold Xot at h
 refine Xac ?_
 iterate 3 refine kO hT hC ?_
 refine kN ?_
 refine kO hT hC ?_
 refine kC hC [] Tryz.call87 h (fun _ => Xsz) fun q1 h => ?_
 iterate 5 refine kO hT hC ?_
 refine Vc.nil ?_
 refine kL [2,4,5,6] [32] [_,_,_,_] [_] ?_
 refine kA h (fun v2 => ([(4, .sv (.bool v2)), (2, .any), (5, .any), (6, .any)], [(32, none)])) (fun v2 h => ?_) fun v2 h => ?_
 refine Xab ?_
 refine kO hT hC ?_
 refine kC hC [] Tryz.call55 h (fun _ => Xdr) fun q3 h => ?_
 refine kO hT hC ?_
 refine kS h ?_ ?_ <;> intro b1 h
 iterate 4 refine kI hT hC b1 ?_
 refine kP hC true b1 ?_
 refine kO hT hC ?_
 refine kS h ?_ ?_ <;> intro b2 h
 iterate 4 refine kI hT hC b2 ?_
 refine kP hC true b2 ?_
 refine kO hT hC ?_
 refine Vc.nil ?_
 exact kM
 iterate 4 refine kF hC b2 ?_
 refine kP hC false b2 ?_
 refine kO hT hC ?_
 refine Vc.nil ?_
 exact kM
 iterate 4 refine kF hC b1 ?_
 refine kP hC false b1 ?_
 refine kO hT hC ?_
 iterate 4 refine kF hC rfl ?_
 iterate 2 refine kO hT hC ?_
 refine Vc.nil ?_
 exact kM
 refine Xah ?_
 exact kR
def Yhs (r : Bool) : AV := .sv (.bool r)
def Yhr (r : Bool) : Xa8 := []
theorem Yk3 {p0 r} (h : Xoj p0 = some r) : AC Tryz.prog 33 [.agg [.sv (.bool p0.HasSeq), .sv (.bool p0.HasPar), .sv (.bool p0.HasRef), .sv (.int .i64 p0.Seq.Level), .sv (.int .i64 p0.Seq.Bits), .sv (.ints .i64 p0.Seq.Cols), .sv (.ints .i64 p0.Seq.Rows), .sv (.int .i64 p0.Par.Qp), .sv (.bool p0.Par.Large), .sv (.bool p0.Par.Exact), .sv (.bool p0.Par.Confined), .sv (.int .i64 p0.Frame), .sv (.int .i64 p0.Got), .sv (.int .i64 p0.Now.Wide), .sv (.int .i64 p0.Now.High), .sv (.str p0.Now.Dots), .sv (.int .i64 p0.Ref.Wide), .sv (.int .i64 p0.Ref.High), .sv (.str p0.Ref.Dots)]] [] (Yhs r) (Yhr r) := by
 refine Xag hT Tryz.func33 rfl fun C hC => ?_
 unfold Xoj at h
 refine Xac ?_
 iterate 2 refine kO hT hC ?_
 refine Vc.nil ?_
 refine Xaq ?_
 refine Xac ?_
 iterate 3 refine kO hT hC ?_
 refine Vc.nil ?_
 refine kS h ?_ ?_ <;> intro b1 h
 refine kt b1 ?_
 refine kL [1,2] [16] [_,_] [_] ?_
 refine kA h (fun v1 => ([(2, .sv (.bool v1)), (1, .any)], [(16, none)])) (fun v1 h => ?_) fun v1 h => ?_
 refine Xab ?_
 iterate 4 refine kO hT hC ?_
 refine kS h ?_ ?_ <;> intro b2 h
 iterate 3 refine kF hC (kn b2) ?_
 refine kP hC false (kn b2) ?_
 refine kO hT hC ?_
 iterate 3 refine kF hC rfl ?_
 iterate 2 refine kO hT hC ?_
 iterate 4 refine kF hC rfl ?_
 iterate 2 refine kO hT hC ?_
 iterate 3 refine kF hC rfl ?_
 iterate 2 refine kO hT hC ?_
 iterate 3 refine kF hC rfl ?_
 iterate 2 refine kO hT hC ?_
 iterate 4 refine kF hC rfl ?_
 iterate 2 refine kO hT hC ?_
 iterate 4 refine kF hC rfl ?_
 iterate 2 refine kO hT hC ?_
 refine Vc.nil ?_
 exact kM
 iterate 3 refine kI hT hC (kn b2) ?_
 refine kP hC true (kn b2) ?_
 refine kO hT hC ?_
 refine kS h ?_ ?_ <;> intro b3 h
 iterate 3 refine kF hC (kn b3) ?_
 refine kP hC false (kn b3) ?_
 refine kO hT hC ?_
 iterate 4 refine kF hC rfl ?_
 iterate 2 refine kO hT hC ?_
 iterate 3 refine kF hC rfl ?_
 iterate 2 refine kO hT hC ?_
 iterate 3 refine kF hC rfl ?_
 iterate 2 refine kO hT hC ?_
 iterate 4 refine kF hC rfl ?_
 iterate 2 refine kO hT hC ?_
 iterate 4 refine kF hC rfl ?_
 iterate 2 refine kO hT hC ?_
 refine Vc.nil ?_
 exact kM
 iterate 2 refine kI hT hC (kn b3) ?_
 refine kE hC (kn b3) [] Tryz.call61 h (fun _ => Yep) fun q2 h => ?_
 refine kP hC true (kn b3) ?_
 refine kO hT hC ?_
 refine kS h ?_ ?_ <;> intro b4 h
 iterate 3 refine kI hT hC b4 ?_
 refine Xrx hC rfl rfl rfl rfl b4 rfl rfl rfl Yqb rfl rfl ?_
 refine kP hC true b4 ?_
 refine kO hT hC ?_
 refine kS h ?_ ?_ <;> intro b5 h
 iterate 3 refine kI hT hC b5 ?_
 refine kP hC true b5 ?_
 refine kO hT hC ?_
 refine kS h ?_ ?_ <;> intro b6 h
 iterate 3 refine kI hT hC b6 ?_
 refine kP hC true b6 ?_
 refine kO hT hC ?_
 refine kS h ?_ ?_ <;> intro b7 h
 iterate 3 refine kI hT hC b7 ?_
 refine Xrx hC rfl rfl rfl rfl b7 rfl rfl rfl Ync rfl rfl ?_
 refine kP hC true b7 ?_
 refine kO hT hC ?_
 refine kS h ?_ ?_ <;> intro b8 h
 iterate 3 refine kI hT hC b8 ?_
 refine Xrx hC rfl rfl rfl rfl b8 rfl rfl rfl Ync rfl rfl ?_
 refine kP hC true b8 ?_
 refine kO hT hC ?_
 refine Vc.nil ?_
 exact kM
 iterate 4 refine kF hC b8 ?_
 refine kP hC false b8 ?_
 refine kO hT hC ?_
 refine Vc.nil ?_
 exact kM
 iterate 4 refine kF hC b7 ?_
 refine kP hC false b7 ?_
 refine kO hT hC ?_
 iterate 4 refine kF hC rfl ?_
 iterate 2 refine kO hT hC ?_
 refine Vc.nil ?_
 exact kM
 iterate 3 refine kF hC b6 ?_
 refine kP hC false b6 ?_
 refine kO hT hC ?_
 iterate 4 refine kF hC rfl ?_
 iterate 2 refine kO hT hC ?_
 iterate 4 refine kF hC rfl ?_
 iterate 2 refine kO hT hC ?_
 refine Vc.nil ?_
 exact kM
 iterate 3 refine kF hC b5 ?_
 refine kP hC false b5 ?_
 refine kO hT hC ?_
 iterate 3 refine kF hC rfl ?_
 iterate 2 refine kO hT hC ?_
 iterate 4 refine kF hC rfl ?_
 iterate 2 refine kO hT hC ?_
 iterate 4 refine kF hC rfl ?_
 iterate 2 refine kO hT hC ?_
 refine Vc.nil ?_
 exact kM
 iterate 4 refine kF hC b4 ?_
 refine kP hC false b4 ?_
 refine kO hT hC ?_
 iterate 3 refine kF hC rfl ?_
 iterate 2 refine kO hT hC ?_
 iterate 3 refine kF hC rfl ?_
 iterate 2 refine kO hT hC ?_
 iterate 4 refine kF hC rfl ?_
 iterate 2 refine kO hT hC ?_
 iterate 4 refine kF hC rfl ?_
 iterate 2 refine kO hT hC ?_
 refine Vc.nil ?_
 exact kM
 refine Xah ?_
 refine Xap ?_
 exact kR
 refine kf b1 ?_
 refine Xaf ?_
 refine Xae ?_
 refine Xaq ?_
 refine kL [1] [16] [_] [_] ?_
 refine kA h (fun v3 => ([(80, .sv (.bool v3))], [])) (fun v3 h => ?_) fun v3 h => ?_
 refine Xab ?_
 iterate 2 refine kO hT hC ?_
 refine kC hC [] Tryz.call62 h (fun _ => Xhf) fun q4 h => ?_
 iterate 2 refine kO hT hC ?_
 refine kS h ?_ ?_ <;> intro b9 h
 iterate 3 refine kI hT hC (kn b9) ?_
 refine kS h ?_ ?_ <;> intro b10 h
 iterate 2 refine kI hT hC b10 ?_
 refine kE hC b10 [] Tryz.call63 h (fun _ => Xmi) fun q5 h => ?_
 refine kI hT hC b10 ?_
 refine Xa3 hC rfl rfl rfl rfl (kn b9) rfl rfl (b := true) b10 rfl rfl rfl trivial ?_
 refine kP hC false (kn b9) ?_
 refine kO hT hC ?_
 refine kS h ?_ ?_ <;> intro b11 h
 iterate 4 refine kI hT hC (kn b11) ?_
 iterate 5 refine kF hC (kn b10) ?_
 iterate 3 refine Xdq hC rfl rfl rfl rfl rfl rfl ?_
 iterate 2 refine kF hC (kn b10) ?_
 iterate 2 refine Xdq hC rfl rfl rfl rfl rfl rfl ?_
 refine kF hC (kn b10) ?_
 refine Xa3 hC rfl rfl rfl rfl (kn b11) rfl rfl (b := false) (kn b10) rfl rfl rfl trivial ?_
 refine kP hC false (kn b11) ?_
 refine Vc.nil ?_
 exact kM
 iterate 4 refine kF hC (kn b11) ?_
 iterate 13 refine Xdq hC rfl rfl rfl rfl rfl rfl ?_
 refine kF hC (kn b11) ?_
 refine kP hC true (kn b11) ?_
 refine Vc.nil ?_
 exact kM
 iterate 4 refine kF hC b10 ?_
 refine Xa3 hC rfl rfl rfl rfl (kn b9) rfl rfl (b := false) b10 rfl rfl rfl trivial ?_
 refine kP hC false (kn b9) ?_
 refine kO hT hC ?_
 iterate 4 refine kI hT hC rfl ?_
 iterate 3 refine kI hT hC (kn b10) ?_
 refine Xrx hC rfl rfl rfl rfl (kn b10) rfl rfl rfl Yqb rfl rfl ?_
 refine kI hT hC (kn b10) ?_
 refine kS h ?_ ?_ <;> intro b12 h
 iterate 3 refine kF hC b12 ?_
 refine Xa3 hC rfl rfl rfl rfl (kn b10) rfl rfl (b := true) b12 rfl rfl rfl trivial ?_
 refine kI hT hC (kn b10) ?_
 iterate 2 refine kF hC rfl ?_
 refine Xa3 hC rfl rfl rfl rfl (kn b10) rfl rfl (b := true) rfl rfl rfl rfl trivial ?_
 refine Xa3 hC rfl rfl rfl rfl rfl rfl rfl (b := true) (kn b10) rfl rfl rfl trivial ?_
 refine kO hT hC ?_
 refine Vc.nil ?_
 exact kM
 iterate 3 refine kI hT hC b12 ?_
 refine Xa3 hC rfl rfl rfl rfl (kn b10) rfl rfl (b := false) b12 rfl rfl rfl trivial ?_
 refine kI hT hC (kn b10) ?_
 refine kS h ?_ ?_ <;> intro b13 h
 iterate 2 refine kF hC b13 ?_
 refine Xa3 hC rfl rfl rfl rfl (kn b10) rfl rfl (b := true) b13 rfl rfl rfl trivial ?_
 refine Xa3 hC rfl rfl rfl rfl rfl rfl rfl (b := true) (kn b10) rfl rfl rfl trivial ?_
 refine kO hT hC ?_
 refine Vc.nil ?_
 exact kM
 iterate 2 refine kI hT hC b13 ?_
 refine Xa3 hC rfl rfl rfl rfl (kn b10) rfl rfl (b := false) b13 rfl rfl rfl trivial ?_
 refine Xa3 hC rfl rfl rfl rfl rfl rfl rfl (b := true) (kn b10) rfl rfl rfl trivial ?_
 refine kO hT hC ?_
 refine Vc.nil ?_
 exact kM
 iterate 3 refine kF hC (kn b9) ?_
 iterate 4 refine Xdq hC rfl rfl rfl rfl rfl rfl ?_
 refine kF hC (kn b9) ?_
 refine kP hC true (kn b9) ?_
 refine kO hT hC ?_
 iterate 4 refine kF hC rfl ?_
 iterate 13 refine Xdq hC rfl rfl rfl rfl rfl rfl ?_
 refine kF hC rfl ?_
 refine kO hT hC ?_
 refine Vc.nil ?_
 exact kM
 refine kS h ?_ ?_ <;> intro b14 h
 refine kt b14 ?_
 refine Xac ?_
 refine kO hT hC ?_
 refine Vc.nil ?_
 refine Xah ?_
 refine Xap ?_
 exact kR
 refine kf b14 ?_
 refine Xaf ?_
 refine Xae ?_
 refine Xaq ?_
 refine kL [1] [16] [_] [_] ?_
 refine kA h (fun v6 => ([(99, .sv (.bool v6))], [])) (fun v6 h => ?_) fun v6 h => ?_
 refine Xcz hm ?_
 iterate 5 refine kO hT hC ?_
 refine kQ hT hC h fun h => ?_
 refine kO hT hC ?_
 refine kC hC [] Tryz.call64 h (fun _ => Xam) fun q7 h => ?_
 iterate 2 refine kO hT hC ?_
 refine kS h ?_ ?_ <;> intro b15 h
 iterate 4 refine kI hT hC (kn b15) ?_
 refine kE hC (kn b15) [] Tryz.call65 h (fun _ => Xjm) fun q8 h => ?_
 refine kI hT hC (kn b15) ?_
 refine kE hC (kn b15) [] Tryz.call64 h (fun _ => Xam) fun q9 h => ?_
 refine kI hT hC (kn b15) ?_
 refine kP hC false (kn b15) ?_
 refine kD ?_
 exact kM
 iterate 8 refine kF hC (kn b15) ?_
 refine kP hC true (kn b15) ?_
 refine kD ?_
 exact kM
 refine kS h ?_ ?_ <;> intro b16 h
 refine kt b16 ?_
 refine Xac ?_
 refine kO hT hC ?_
 refine Vc.nil ?_
 refine Xah ?_
 refine Xap ?_
 exact kR
 refine kf b16 ?_
 refine Xaf ?_
 refine Xae ?_
 refine Xaq ?_
 refine kL [1] [16] [_] [_] ?_
 refine kA h (fun v10 => ([(126, .sv (.bool v10))], [])) (fun v10 h => ?_) fun v10 h => ?_
 refine Xab ?_
 iterate 4 refine kO hT hC ?_
 refine kS h ?_ ?_ <;> intro b17 h
 iterate 4 refine kI hT hC b17 ?_
 refine kS h ?_ ?_ <;> intro b18 h
 iterate 6 refine kF hC b18 ?_
 refine Xa3 hC rfl rfl rfl rfl b17 rfl rfl (b := true) b18 rfl rfl rfl trivial ?_
 refine kP hC true b17 ?_
 refine kO hT hC ?_
 iterate 4 refine kF hC rfl ?_
 iterate 4 refine Xdq hC rfl rfl rfl rfl rfl rfl ?_
 refine kF hC rfl ?_
 refine kO hT hC ?_
 refine Vc.nil ?_
 exact kM
 iterate 4 refine kI hT hC b18 ?_
 refine kE hC b18 [] Tryz.call66 h (fun _ => Xzg) fun q11 h => ?_
 refine kI hT hC b18 ?_
 refine Xa3 hC rfl rfl rfl rfl b17 rfl rfl (b := false) b18 rfl rfl rfl trivial ?_
 refine kP hC true b17 ?_
 refine kO hT hC ?_
 refine kS h ?_ ?_ <;> intro b19 h
 iterate 4 refine kI hT hC (kn b19) ?_
 refine kS h ?_ ?_ <;> intro b20 h
 iterate 3 refine kI hT hC b20 ?_
 refine Xrx hC rfl rfl rfl rfl b20 rfl rfl rfl Ync rfl rfl ?_
 refine Xa3 hC rfl rfl rfl rfl (kn b19) rfl rfl (b := true) b20 rfl rfl rfl trivial ?_
 refine kP hC false (kn b19) ?_
 refine Vc.nil ?_
 exact kM
 iterate 4 refine kF hC b20 ?_
 refine Xa3 hC rfl rfl rfl rfl (kn b19) rfl rfl (b := false) b20 rfl rfl rfl trivial ?_
 refine kP hC false (kn b19) ?_
 refine Vc.nil ?_
 exact kM
 iterate 4 refine kF hC (kn b19) ?_
 iterate 4 refine Xdq hC rfl rfl rfl rfl rfl rfl ?_
 refine kF hC (kn b19) ?_
 refine kP hC true (kn b19) ?_
 refine Vc.nil ?_
 exact kM
 iterate 4 refine kF hC b17 ?_
 iterate 6 refine Xdq hC rfl rfl rfl rfl rfl rfl ?_
 refine kF hC b17 ?_
 refine kP hC false b17 ?_
 refine kO hT hC ?_
 iterate 4 refine kI hT hC rfl ?_
 refine kS h ?_ ?_ <;> intro b21 h
 iterate 3 refine kI hT hC b21 ?_
 refine Xrx hC rfl rfl rfl rfl b21 rfl rfl rfl Ync rfl rfl ?_
 refine Xa3 hC rfl rfl rfl rfl rfl rfl rfl (b := true) b21 rfl rfl rfl trivial ?_
 refine kO hT hC ?_
 refine Vc.nil ?_
 exact kM
 iterate 4 refine kF hC b21 ?_
 refine Xa3 hC rfl rfl rfl rfl rfl rfl rfl (b := false) b21 rfl rfl rfl trivial ?_
 refine kO hT hC ?_
 refine Vc.nil ?_
 exact kM
 refine kS h ?_ ?_ <;> intro b22 h
 refine kt b22 ?_
 refine Xac ?_
 refine kO hT hC ?_
 refine Vc.nil ?_
 refine Xah ?_
 refine Xap ?_
 exact kR
 refine kf b22 ?_
 refine Xaf ?_
 refine Xae ?_
 refine Xaq ?_
 refine Xac ?_
 iterate 2 refine kO hT hC ?_
 refine Vc.nil ?_
 refine kS h ?_ ?_ <;> intro b23 h
 refine kt b23 ?_
 refine Xac ?_
 iterate 4 refine kO hT hC ?_
 refine kC hC [] Tryz.call66 h (fun _ => Xzg) fun q12 h => ?_
 refine kO hT hC ?_
 refine Vc.nil ?_
 refine Xah ?_
 refine Xap ?_
 exact kR
 refine kf b23 ?_
 refine Xaf ?_
 refine Xae ?_
 refine Xac ?_
 iterate 3 refine kO hT hC ?_
 refine Zag hC rfl rfl rfl rfl Ync rfl rfl ?_
 refine kO hT hC ?_
 refine Vc.nil ?_
 refine Xah ?_
 exact kR
def Yeo (r : Bool) : AV := .sv (.bool r)
def Yen (r : Bool) : Xa8 := []
theorem Yib {p0 r} (h : Xm4 p0 = some r) : AC Tryz.prog 75 [.sv (.int .i64 p0)] [] (Yeo r) (Yen r) := by
 refine Xag hT Tryz.func75 rfl fun C hC => ?_
 unfold Xm4 at h
 refine Xac ?_
 refine kO hT hC ?_
 refine Vc.nil ?_
 refine kL [0,2] [] [_,_] [] ?_
 refine kA h (fun v1 => ([(2, .sv (.bool v1)), (0, .any)], [])) (fun v1 h => ?_) fun v1 h => ?_
 refine Xab ?_
 iterate 3 refine kO hT hC ?_
 refine kS h ?_ ?_ <;> intro b1 h
 iterate 2 refine kF hC b1 ?_
 refine kP hC true b1 ?_
 refine kO hT hC ?_
 iterate 2 refine kF hC rfl ?_
 iterate 2 refine kO hT hC ?_
 iterate 2 refine kF hC rfl ?_
 iterate 2 refine kO hT hC ?_
 refine Vc.nil ?_
 exact kM
 iterate 2 refine kI hT hC b1 ?_
 refine kP hC false b1 ?_
 refine kO hT hC ?_
 refine kS h ?_ ?_ <;> intro b2 h
 iterate 2 refine kF hC b2 ?_
 refine kP hC true b2 ?_
 refine kO hT hC ?_
 iterate 2 refine kF hC rfl ?_
 iterate 2 refine kO hT hC ?_
 refine Vc.nil ?_
 exact kM
 iterate 2 refine kI hT hC b2 ?_
 refine kP hC false b2 ?_
 refine kO hT hC ?_
 refine kS h ?_ ?_ <;> intro b3 h
 iterate 2 refine kF hC b3 ?_
 refine kP hC true b3 ?_
 refine kO hT hC ?_
 refine Vc.nil ?_
 exact kM
 iterate 2 refine kI hT hC b3 ?_
 refine kP hC false b3 ?_
 refine kO hT hC ?_
 refine Vc.nil ?_
 exact kM
 refine Xah ?_
 exact kR
def Xxd (r : (ByteArray × Bool)) : AV := .tup [.sv (.str r.1), .sv (.bool r.2)]
def Xxc (r : (ByteArray × Bool)) : Xa8 := []
theorem Xzt {p0 r} (h : Xhc p0 = some r) : AC Tryz.prog 76 [.sv (.str p0)] [] (Xxd r) (Xxc r) := by
 refine Xag hT Tryz.func76 rfl fun C hC => ?_
 unfold Xhc at h
 refine Xac ?_
 iterate 2 refine kO hT hC ?_
 refine kN ?_
 iterate 4 refine kO hT hC ?_
 refine Vc.nil ?_
 refine Xaq ?_
 refine kL [0,4] [] [_,_] [] ?_
 refine kA h (fun v1 => ([(23, .sv (.bool v1))], [])) (fun v1 h => ?_) fun v1 h => ?_
 refine Xab ?_
 iterate 3 refine kO hT hC ?_
 refine kS h ?_ ?_ <;> intro b1 h
 iterate 6 refine kF hC b1 ?_
 refine kP hC true b1 ?_
 refine kO hT hC ?_
 iterate 2 refine kF hC rfl ?_
 refine kO hT hC ?_
 refine Vc.nil ?_
 exact kM
 iterate 4 refine kI hT hC b1 ?_
 refine kJ hT hC b1 h fun h => ?_
 refine kI hT hC b1 ?_
 refine kP hC false b1 ?_
 refine kO hT hC ?_
 refine kS h ?_ ?_ <;> intro b2 h
 iterate 2 refine kF hC b2 ?_
 refine kP hC true b2 ?_
 refine Vc.nil ?_
 exact kM
 iterate 2 refine kI hT hC b2 ?_
 refine kP hC false b2 ?_
 refine Vc.nil ?_
 exact kM
 refine kS h ?_ ?_ <;> intro b3 h
 refine kt b3 ?_
 refine Xac ?_
 iterate 2 refine kO hT hC ?_
 refine Vc.nil ?_
 refine Xah ?_
 refine Xap ?_
 exact kR
 refine kf b3 ?_
 refine Xaf ?_
 refine Xae ?_
 refine Xac ?_
 refine kO hT hC ?_
 obtain ⟨hq, h⟩ := Xa5 h
 refine Xw3 hT hC rfl rfl rfl rfl ⟨hq.1, hq.2.1, hq.2.2, by decide⟩ ?_
 refine kO hT hC ?_
 refine Vc.nil ?_
 refine Xaq ?_
 refine Xac ?_
 refine kO hT hC ?_
 refine Vc.nil ?_
 refine kL [0,4,5,6] [400] [_,_,_,_] [_] ?_
 refine kX h (fun v3 => ([(6, .sv (.int .i64 v3.1))], [(400, some (.ints .u8 v3.2))])) (fun v5 => ([(0, .any), (6, .any)], [(400, some (.ints .u8 v5))])) (kW hC []) (fun v3 s h => ?_) fun v5 h => ?_
 unfold Xed at h
 refine Xaq ?_
 refine Xac ?_
 iterate 3 refine kO hT hC ?_
 refine Vc.nil ?_
 refine kS h ?_ ?_ <;> intro b6 h
 refine kt b6 ?_
 refine Xaf ?_
 refine Xae ?_
 refine Xaq ?_
 refine Xao ?_
 refine Xab ?_
 iterate 3 refine kO hT hC ?_
 iterate 2 refine kQ hT hC h fun h => ?_
 refine kO hT hC ?_
 refine kQ hT hC h fun h => ?_
 refine kO hT hC ?_
 refine kQ hT hC h fun h => ?_
 iterate 3 refine kO hT hC ?_
 refine kT hT hC h fun h => ?_
 refine kO hT hC ?_
 refine Vc.nil ?_
 refine Xar ?_
 refine Xae ?_
 refine Xab ?_
 iterate 3 refine kO hT hC ?_
 refine Vc.nil ?_
 obtain rfl := kj h
 exact Ya8 (kW hC [(400, 688)])
 refine kf b6 ?_
 refine Xas ?_
 refine Xaz ?_
 exact ku
 refine Xae ?_
 refine Xaq ?_
 refine kL [4,5] [400] [_,_] [_] ?_
 refine kX h (fun v8 => ([(4, .sv (.int .i64 v8))], [])) (fun v10 => ([(4, .sv (.int .i64 v10))], [])) (kW hC []) (fun v8 s h => ?_) fun v10 h => ?_
 unfold Xee at h
 refine Xaq ?_
 refine Xac ?_
 iterate 3 refine kO hT hC ?_
 iterate 2 refine kQ hT hC h fun h => ?_
 refine kO hT hC ?_
 refine Vc.nil ?_
 refine kS h ?_ ?_ <;> intro b9 h
 refine kt b9 ?_
 refine Xaf ?_
 refine Xae ?_
 refine Xao ?_
 refine Xab ?_
 iterate 3 refine kO hT hC ?_
 refine Vc.nil ?_
 refine Xar ?_
 exact kG
 refine kf b9 ?_
 refine Xas ?_
 refine Xaz ?_
 exact ku
 refine Xae ?_
 refine Xaq ?_
 refine Xac ?_
 iterate 3 refine kO hT hC ?_
 refine Vc.nil ?_
 refine kS h ?_ ?_ <;> intro b10 h
 refine kt b10 ?_
 refine Xac ?_
 iterate 2 refine kO hT hC ?_
 refine Vc.nil ?_
 refine Xah ?_
 refine Xap ?_
 exact kR
 refine kf b10 ?_
 refine Xaf ?_
 refine Xae ?_
 refine Xac ?_
 iterate 3 refine kO hT hC ?_
 iterate 2 refine kQ hT hC h fun h => ?_
 iterate 2 refine kO hT hC ?_
 refine Vc.nil ?_
 refine Xah ?_
 exact kR
def Yeh (r : (Int × ByteArray × Bool)) : AV := .tup [.sv (.int .i64 r.1), .sv (.str r.2.1), .sv (.bool r.2.2)]
def Yeg (r : (Int × ByteArray × Bool)) : Xa8 := []
theorem Yh6 {p0 r} (h : Xkh p0 = some r) : AC Tryz.prog 42 [.sv (.str p0)] [] (Yeh r) (Yeg r) := by
 refine Xag hT Tryz.func42 rfl fun C hC => ?_
 unfold Xkh at h
 refine Xac ?_
 iterate 3 refine kO hT hC ?_
 refine Vc.nil ?_
 refine Xaq ?_
 refine kL [0] [] [_] [] ?_
 refine kA h (fun v1 => ([(15, .sv (.bool v1))], [])) (fun v1 h => ?_) fun v1 h => ?_
 refine Xab ?_
 iterate 3 refine kO hT hC ?_
 refine kS h ?_ ?_ <;> intro b1 h
 iterate 5 refine kF hC b1 ?_
 refine kP hC true b1 ?_
 refine Vc.nil ?_
 exact kM
 refine kI hT hC b1 ?_
 refine kJ hT hC b1 h fun h => ?_
 refine kI hT hC b1 ?_
 refine kE hC b1 [] Tryz.call75 h (fun _ => Yib) fun q2 h => ?_
 refine kI hT hC b1 ?_
 refine kP hC false b1 ?_
 refine Vc.nil ?_
 exact kM
 refine kS h ?_ ?_ <;> intro b2 h
 refine kt b2 ?_
 refine Xac ?_
 iterate 3 refine kO hT hC ?_
 refine Vc.nil ?_
 refine Xah ?_
 refine Xap ?_
 exact kR
 refine kf b2 ?_
 refine Xaf ?_
 refine Xae ?_
 refine Xac ?_
 refine kO hT hC ?_
 refine kQ hT hC h fun h => ?_
 refine kC hC [] Tryz.call76 h (fun _ => Xzt) fun q3 h => ?_
 iterate 5 refine kO hT hC ?_
 refine Vc.nil ?_
 refine Xaq ?_
 refine Xac ?_
 iterate 2 refine kO hT hC ?_
 refine Vc.nil ?_
 refine kS h ?_ ?_ <;> intro b3 h
 refine kt b3 ?_
 refine Xac ?_
 iterate 3 refine kO hT hC ?_
 refine Vc.nil ?_
 refine Xah ?_
 refine Xap ?_
 exact kR
 refine kf b3 ?_
 refine Xaf ?_
 refine Xae ?_
 refine Xac ?_
 refine kO hT hC ?_
 refine kQ hT hC h fun h => ?_
 iterate 5 refine kO hT hC ?_
 refine Vc.nil ?_
 refine Xah ?_
 exact kR
def Xsx (r : Bool) : AV := .sv (.bool r)
def Xsw (r : Bool) : Xa8 := []
theorem Yk7 {p0 r} (h : Xi1 p0 = some r) : AC Tryz.prog 116 [.sv (.str p0)] [] (Xsx r) (Xsw r) := by
 refine Xag hT Tryz.func116 rfl fun C hC => ?_
 unfold Xi1 at h
 refine Xac ?_
 refine kO hT hC ?_
 refine Vc.nil ?_
 refine Xaq ?_
 refine Xac ?_
 iterate 3 refine kO hT hC ?_
 refine Vc.nil ?_
 refine kS h ?_ ?_ <;> intro b1 h
 refine kt b1 ?_
 refine Xac ?_
 refine kO hT hC ?_
 refine Vc.nil ?_
 refine Xah ?_
 refine Xap ?_
 exact kR
 refine kf b1 ?_
 refine Xaf ?_
 refine Xae ?_
 refine Xaq ?_
 refine Xac ?_
 refine kO hT hC ?_
 refine Vc.nil ?_
 refine kL [0,3] [] [_,_] [] ?_
 obtain ⟨o8, hl, h⟩ := Xba h
 refine Xd8 (fun v3 => ([(3, .sv (.int .i64 v3))], [])) (fun v6 => ([(0, .any), (3, .any)], [])) (fun r => Xl1 C T Tryz.f116.results.toList (Xsx r) (Xsw r)) hl ?_ ?_ ?_ ?_
 apply Xbz hC []
 exact co
 rfl
 decide
 rfl
 intro v3 s hs
 have h := hs
 unfold Xhe at h
 refine Xaq ?_
 refine Xac ?_
 iterate 4 refine kO hT hC ?_
 refine Vc.nil ?_
 refine kS h ?_ ?_ <;> intro b8 h
 refine kt b8 ?_
 refine Xaf ?_
 refine Xae ?_
 refine Xaq ?_
 refine Xao ?_
 refine kL [0,3] [] [_,_] [] ?_
 refine kA h (fun v7 => ([(22, .sv (.bool v7))], [])) (fun v7 h => ?_) fun v7 h => ?_
 refine Xab ?_
 iterate 2 refine kO hT hC ?_
 refine kQ hT hC h fun h => ?_
 iterate 2 refine kO hT hC ?_
 refine kS h ?_ ?_ <;> intro b9 h
 iterate 2 refine kI hT hC b9 ?_
 refine kJ hT hC b9 h fun h => ?_
 refine kI hT hC b9 ?_
 refine kP hC true b9 ?_
 refine Vc.nil ?_
 exact kM
 iterate 4 refine kF hC b9 ?_
 refine kP hC false b9 ?_
 refine Vc.nil ?_
 exact kM
 refine kS h ?_ ?_ <;> intro b10 h
 refine kt b10 ?_
 refine Xac ?_
 refine kO hT hC ?_
 refine Vc.nil ?_
 refine Xah ?_
 refine Xcr ?_
 refine Xap ?_
 obtain rfl := kj h
 refine Xku ?_
 refine Xkr ?_
 exact Xbt (Xgk.refl _) rfl trivial
 refine kf b10 ?_
 refine Xaf ?_
 refine Xar ?_
 refine Xae ?_
 refine Xab ?_
 iterate 3 refine kO hT hC ?_
 refine Vc.nil ?_
 exact kG
 refine kf b8 ?_
 refine Xas ?_
 refine Xaz ?_
 exact kb
 intro v6 e
 subst e
 refine Xae ?_
 refine Xac ?_
 refine kO hT hC ?_
 refine Vc.nil ?_
 refine Xah ?_
 exact kR
 intro r' σ' e hE
 subst e
 obtain rfl := kj h
 refine Xap ?_
 exact hE
def Yev (r : Xka) : AV := .ptr 16 0
def Yeu (r : Xka) : Xa8 := [(16, .box [.sv (.str r.row_), .sv (.int .i64 r.at_), .sv (.bool r.bad_)])]
theorem Xk8 {p0 p1 r} (h : Xex p0 p1 = some r) : AC Tryz.prog 77 [.sv (.str p0), .sv (.int .i64 p1)] [] (Yev r) (Yeu r) := by
 refine Xag hT Tryz.func77 rfl fun C hC => ?_
 unfold Xex at h
 refine Xac ?_
 refine kO hT hC ?_
 refine Vc.nil ?_
 refine kL [0,1] [] [_,_] [] ?_
 refine kA h (fun v1 => ([(4, .ptr 321 0), (0, .any), (1, .any)], [(321, some (.box [.sv (.str p0), .sv (.int .i64 p1), .sv (.bool v1)]))])) (fun v1 h => ?_) fun v1 h => ?_
 refine Xab ?_
 iterate 3 refine kO hT hC ?_
 refine kC hC [] Tryz.call116 h (fun _ => Yk7) fun q2 h => ?_
 iterate 2 refine kO hT hC ?_
 refine kS h ?_ ?_ <;> intro b1 h
 iterate 3 refine kI hT hC (kn b1) ?_
 refine kE hC (kn b1) [] Tryz.call64 h (fun _ => Xam) fun q3 h => ?_
 refine kI hT hC (kn b1) ?_
 refine kP hC false (kn b1) ?_
 iterate 3 refine kO hT hC ?_
 refine Vc.nil ?_
 obtain rfl := kj h
 exact Xdp (kW hC [(321, 288)])
 iterate 5 refine kF hC (kn b1) ?_
 refine kP hC true (kn b1) ?_
 iterate 3 refine kO hT hC ?_
 refine Vc.nil ?_
 obtain rfl := kj h
 exact Xdp (kW hC [(321, 288)])
 refine Xah ?_
 obtain rfl := kj h
 exact Xbt (τ := ⟨[(4, .ptr 16 0)], [(16, some (.box [.sv (.str p0), .sv (.int .i64 p1), .sv (.bool v1)]))]⟩) (kW hC [(16, 321)]) rfl ⟨rfl, trivial⟩
def Xxz (r : (Int × Xka)) : AV := .sv (.int .i64 r.1)
def Xxy (r : (Int × Xka)) : Xa8 := [(0, .box [.sv (.str r.2.row_), .sv (.int .i64 r.2.at_), .sv (.bool r.2.bad_)])]
theorem Xdl {p0 p1 r} (h : Xa4 p0 p1 = some r) : AC Tryz.prog 79 [.ptr 0 0, .sv (.int .i64 p1)] [(0, .box [.sv (.str p0.row_), .sv (.int .i64 p0.at_), .sv (.bool p0.bad_)])] (Xxz r) (Xxy r) := by
 refine Xag hT Tryz.func79 rfl fun C hC => ?_
 unfold Xa4 at h
 refine Xac ?_
 refine kO hT hC ?_
 refine Vc.nil ?_
 refine Xaq ?_
 refine kL [0,1] [0] [_,_] [_] ?_
 refine kA h (fun v1 => ([(24, .sv (.bool v1))], [])) (fun v1 h => ?_) fun v1 h => ?_
 refine Xcz hm ?_
 iterate 5 refine kO hT hC ?_
 refine kS h ?_ ?_ <;> intro b1 h
 iterate 12 refine kF hC b1 ?_
 refine kP hC true b1 ?_
 refine kD ?_
 exact kM
 iterate 12 refine kI hT hC b1 ?_
 refine kP hC false b1 ?_
 refine kD ?_
 exact kM
 refine kS h ?_ ?_ <;> intro b2 h
 refine kt b2 ?_
 refine Xac ?_
 iterate 4 refine kO hT hC ?_
 refine kN ?_
 refine kO hT hC ?_
 refine Vc.nil ?_
 refine Xah ?_
 refine Xap ?_
 obtain rfl := kj h
 exact Xbt (Xgk.refl _) rfl ⟨rfl, trivial⟩
 refine kf b2 ?_
 refine Xaf ?_
 refine Xae ?_
 refine Xac ?_
 refine kO hT hC ?_
 refine Vc.nil ?_
 refine Xaq ?_
 refine Xac ?_
 refine kO hT hC ?_
 refine Vc.nil ?_
 refine kL [0,1,5,6] [0] [_,_,_,_] [_] ?_
 refine kX h (fun v3 => ([(5, .sv (.int .i64 v3.1)), (6, .sv (.int .i64 v3.2))], [])) (fun v5 => ([(5, .sv (.int .i64 v5)), (6, .any)], [])) (kW hC []) (fun v3 s h => ?_) fun v5 h => ?_
 unfold Xf0 at h
 refine Xaq ?_
 refine Xac ?_
 iterate 3 refine kO hT hC ?_
 refine Vc.nil ?_
 refine kS h ?_ ?_ <;> intro b5 h
 refine kt b5 ?_
 refine Xaf ?_
 refine Xae ?_
 refine Xaq ?_
 refine Xao ?_
 refine Xcz hm ?_
 refine kO hT hC ?_
 refine kQ hT hC h fun h => ?_
 iterate 10 refine kO hT hC ?_
 refine kQ hT hC h fun h => ?_
 iterate 4 refine kO hT hC ?_
 refine kD ?_
 refine Xar ?_
 refine Xae ?_
 refine Xab ?_
 iterate 3 refine kO hT hC ?_
 refine Vc.nil ?_
 exact kG
 refine kf b5 ?_
 refine Xas ?_
 refine Xaz ?_
 exact ku
 refine Xae ?_
 refine Xac ?_
 iterate 10 refine kO hT hC ?_
 refine kN ?_
 iterate 2 refine kO hT hC ?_
 refine Vc.nil ?_
 refine Xah ?_
 obtain rfl := kj h
 exact Xbt (Xgk.refl _) rfl ⟨rfl, trivial⟩
def Yas (r : (Int × Xka)) : AV := .sv (.int .i64 r.1)
def Yar (r : (Int × Xka)) : Xa8 := [(0, .box [.sv (.str r.2.row_), .sv (.int .i64 r.2.at_), .sv (.bool r.2.bad_)])]
theorem Xcm {p0 r} (h : Xbl p0 = some r) : AC Tryz.prog 78 [.ptr 0 0] [(0, .box [.sv (.str p0.row_), .sv (.int .i64 p0.at_), .sv (.bool p0.bad_)])] (Yas r) (Yar r) := by
 refine Xag hT Tryz.func78 rfl fun C hC => ?_
 unfold Xbl at h
 refine Xac ?_
 refine kO hT hC ?_
 refine kN ?_
 refine kO hT hC ?_
 refine Vc.nil ?_
 refine Xaq ?_
 refine kL [0,3] [0] [_,_] [_] ?_
 refine kX h (fun v3 => ([(3, .sv (.int .i64 v3))], [])) (fun v6 => ([(3, .sv (.int .i64 v6))], [])) (kW hC []) (fun v3 s h => ?_) fun v6 h => ?_
 unfold Xd6 at h
 refine Xaq ?_
 refine kL [0,3] [0] [_,_] [_] ?_
 refine kA h (fun v7 => ([(37, .sv (.bool v7))], [])) (fun v7 h => ?_) fun v7 h => ?_
 refine Xcz hm ?_
 iterate 6 refine kO hT hC ?_
 refine kS h ?_ ?_ <;> intro b7 h
 iterate 12 refine kF hC (kn b7) ?_
 refine kP hC false (kn b7) ?_
 refine kO hT hC ?_
 iterate 12 refine kF hC rfl ?_
 refine kO hT hC ?_
 refine kD ?_
 exact kM
 iterate 12 refine kI hT hC (kn b7) ?_
 refine kP hC true (kn b7) ?_
 refine kO hT hC ?_
 refine kS h ?_ ?_ <;> intro b8 h
 iterate 10 refine kI hT hC b8 ?_
 refine kJ hT hC b8 h fun h => ?_
 refine kI hT hC b8 ?_
 refine kP hC true b8 ?_
 refine kD ?_
 exact kM
 iterate 12 refine kF hC b8 ?_
 refine kP hC false b8 ?_
 refine kD ?_
 exact kM
 refine kS h ?_ ?_ <;> intro b9 h
 refine kt b9 ?_
 refine Xaf ?_
 refine Xae ?_
 refine Xao ?_
 refine Xab ?_
 iterate 3 refine kO hT hC ?_
 refine Vc.nil ?_
 refine Xar ?_
 exact kG
 refine kf b9 ?_
 refine Xas ?_
 refine Xaz ?_
 exact ku
 refine Xae ?_
 refine kL [0,3] [0] [_,_] [_] ?_
 refine kA h (fun v9 => ([], [(0, some (.box [.sv (.str p0.row_), .sv (.int .i64 p0.at_), .sv (.bool v9)]))])) (fun v9 h => ?_) fun v9 h => ?_
 refine Xac ?_
 iterate 2 refine kO hT hC ?_
 refine Vc.nil ?_
 refine kS h ?_ ?_ <;> intro b10 h
 refine kt b10 ?_
 refine Xab ?_
 iterate 4 refine kO hT hC ?_
 refine Vc.nil ?_
 exact kM
 refine kf b10 ?_
 refine Xaf ?_
 exact kM
 refine Xac ?_
 iterate 4 refine kO hT hC ?_
 refine kC hC [(0, 0)] Tryz.call79 h (fun _ => Xdl) fun q10 h => ?_
 iterate 2 refine kO hT hC ?_
 refine Vc.nil ?_
 refine Xaq ?_
 refine kL [0,4] [0] [_,_] [_] ?_
 refine kA h (fun v11 => ([(58, .sv (.bool v11))], [])) (fun v11 h => ?_) fun v11 h => ?_
 refine Xab ?_
 iterate 5 refine kO hT hC ?_
 refine kS h ?_ ?_ <;> intro b11 h
 iterate 2 refine kF hC b11 ?_
 refine kP hC true b11 ?_
 refine Vc.nil ?_
 exact kM
 iterate 2 refine kI hT hC b11 ?_
 refine kP hC false b11 ?_
 refine Vc.nil ?_
 exact kM
 refine kS h ?_ ?_ <;> intro b12 h
 refine kt b12 ?_
 refine Xac ?_
 iterate 4 refine kO hT hC ?_
 refine kN ?_
 refine kO hT hC ?_
 refine Vc.nil ?_
 refine Xah ?_
 refine Xap ?_
 obtain rfl := kj h
 exact Xbt (Xgk.refl _) rfl ⟨rfl, trivial⟩
 refine kf b12 ?_
 refine Xaf ?_
 refine Xae ?_
 refine Xac ?_
 iterate 2 refine kO hT hC ?_
 refine Vc.nil ?_
 refine Xah ?_
 obtain rfl := kj h
 exact Xbt (Xgk.refl _) rfl ⟨rfl, trivial⟩
def Xvt (r : ((List Int) × Xka)) : AV := .own 16
def Xvs (r : ((List Int) × Xka)) : Xa8 := [(16, .ints .i64 r.1), (0, .box [.sv (.str r.2.row_), .sv (.int .i64 r.2.at_), .sv (.bool r.2.bad_)])]
theorem Xou {p0 r} (h : Xc3 p0 = some r) : AC Tryz.prog 80 [.ptr 0 0] [(0, .box [.sv (.str p0.row_), .sv (.int .i64 p0.at_), .sv (.bool p0.bad_)])] (Xvt r) (Xvs r) := by
 refine Xag hT Tryz.func80 rfl fun C hC => ?_
 unfold Xc3 at h
 refine Xac ?_
 refine kO hT hC ?_
 refine kN ?_
 iterate 2 refine kO hT hC ?_
 refine kN ?_
 refine kO hT hC ?_
 refine kC hC [(0, 0)] Tryz.call78 h (fun _ => Xcm) fun q1 h => ?_
 refine kO hT hC ?_
 refine Vc.nil ?_
 refine kL [0,3,4] [0,96] [_,_,_] [_,_] ?_
 refine kA h (fun v2 => ([], [(0, some (.box [.sv (.str q1.2.row_), .sv (.int .i64 q1.2.at_), .sv (.bool v2)]))])) (fun v2 h => ?_) fun v2 h => ?_
 refine Xac ?_
 iterate 2 refine kO hT hC ?_
 refine Vc.nil ?_
 refine kS h ?_ ?_ <;> intro b1 h
 refine kt b1 ?_
 refine Xab ?_
 iterate 4 refine kO hT hC ?_
 refine Vc.nil ?_
 exact kM
 refine kf b1 ?_
 refine Xaf ?_
 exact kM
 refine Xaq ?_
 refine Xac ?_
 refine kO hT hC ?_
 refine Vc.nil ?_
 refine kL [0,3,4,5] [0,96] [_,_,_,_] [_,_] ?_
 refine kX h (fun v6 => ([(5, .sv (.int .i64 v6.1))], [(0, some (.box [.sv (.str v6.2.1), .sv (.int .i64 v6.2.2.1), .sv (.bool v6.2.2.2.1)])), (96, some (.ints .i64 v6.2.2.2.2))])) (fun v10 => ([(0, .any), (4, .any), (5, .any)], [(0, some (.box [.sv (.str v10.2.1), .sv (.int .i64 v10.2.2.1), .sv (.bool v10.2.2.2)])), (96, some (.ints .i64 v10.1))])) (kW hC []) (fun v6 s h => ?_) fun v10 h => ?_
 unfold Xa6 at h
 refine Xaq ?_
 refine kL [0,3,4,5] [0,96] [_,_,_,_] [_,_] ?_
 refine kA h (fun v11 => ([(23, .sv (.bool v11))], [])) (fun v11 h => ?_) fun v11 h => ?_
 refine Xab ?_
 iterate 4 refine kO hT hC ?_
 refine kS h ?_ ?_ <;> intro b6 h
 iterate 5 refine kI hT hC b6 ?_
 refine kP hC true b6 ?_
 refine Vc.nil ?_
 exact kM
 iterate 5 refine kF hC b6 ?_
 refine kP hC false b6 ?_
 refine Vc.nil ?_
 exact kM
 refine kS h ?_ ?_ <;> intro b7 h
 refine kt b7 ?_
 refine Xaf ?_
 refine Xae ?_
 refine Xaq ?_
 refine Xao ?_
 refine Xab ?_
 iterate 2 refine kO hT hC ?_
 refine kC hC [(0, 0)] Tryz.call78 h (fun _ => Xcm) fun q12 h => ?_
 refine kO hT hC ?_
 refine kT hT hC h fun h => ?_
 refine kO hT hC ?_
 refine Vc.nil ?_
 refine Xar ?_
 refine Xae ?_
 refine Xab ?_
 iterate 3 refine kO hT hC ?_
 refine Vc.nil ?_
 obtain rfl := kj h
 exact Ya8 (kW hC [(96, 480)])
 refine kf b7 ?_
 refine Xas ?_
 refine Xaz ?_
 exact ku
 refine Xae ?_
 refine Xac ?_
 iterate 2 refine kO hT hC ?_
 refine Vc.nil ?_
 refine Xah ?_
 obtain rfl := kj h
 exact Xbt (τ := ⟨[(2, .own 16)], [(16, some (.ints .i64 v10.1)), (0, some (.box [.sv (.str v10.2.1), .sv (.int .i64 v10.2.2.1), .sv (.bool v10.2.2.2)]))]⟩) (kW hC [(16, 96)]) rfl ⟨rfl, rfl, trivial⟩
def Xz9 (r : (Seq × Int × Bool)) : AV := .tup [.agg [.sv (.int .i64 r.1.Level), .sv (.int .i64 r.1.Bits), .own 16, .own 17], .sv (.int .i64 r.2.1), .sv (.bool r.2.2)]
def Xz8 (r : (Seq × Int × Bool)) : Xa8 := [(16, .ints .i64 r.1.Cols), (17, .ints .i64 r.1.Rows)]
theorem Yd8 {p0 p1 r} (h : Xi0 p0 p1 = some r) : AC Tryz.prog 43 [.sv (.str p0), .sv (.int .i64 p1)] [] (Xz9 r) (Xz8 r) := by
 refine Xag hT Tryz.func43 rfl fun C hC => ?_
 unfold Xi0 at h
 refine Xac ?_
 iterate 3 refine kO hT hC ?_
 refine kN ?_
 iterate 2 refine kO hT hC ?_
 refine kC hC [(16, 176)] Tryz.call77 h (fun _ => Xk8) fun q1 h => ?_
 refine kO hT hC ?_
 refine kN ?_
 iterate 3 refine kO hT hC ?_
 refine kN ?_
 refine kO hT hC ?_
 refine kC hC [(0, 176)] Tryz.call78 h (fun _ => Xcm) fun q2 h => ?_
 iterate 2 refine kO hT hC ?_
 refine kN ?_
 refine kO hT hC ?_
 refine kC hC [(0, 176)] Tryz.call79 h (fun _ => Xdl) fun q3 h => ?_
 iterate 2 refine kO hT hC ?_
 refine kN ?_
 refine kO hT hC ?_
 refine kC hC [(16, 320), (0, 176)] Tryz.call80 h (fun _ => Xou) fun q4 h => ?_
 iterate 2 refine kO hT hC ?_
 refine kN ?_
 refine kO hT hC ?_
 refine kC hC [(16, 368), (0, 176)] Tryz.call80 h (fun _ => Xou) fun q5 h => ?_
 iterate 2 refine kO hT hC ?_
 refine Vc.nil ?_
 refine Xaq ?_
 refine kL [4,7,8] [64,128,176,320,368] [_,_,_] [_,_,_,_,_] ?_
 refine kA h (fun v6 => ([(33, .sv (.bool v6))], [])) (fun v6 h => ?_) fun v6 h => ?_
 refine Xab ?_
 iterate 5 refine kO hT hC ?_
 refine kS h ?_ ?_ <;> intro b1 h
 iterate 3 refine kF hC b1 ?_
 refine kP hC true b1 ?_
 refine Vc.nil ?_
 exact kM
 refine kI hT hC b1 ?_
 refine kE hC b1 [] Tryz.call62 h (fun _ => Xhf) fun q7 h => ?_
 refine kI hT hC b1 ?_
 refine kP hC false b1 ?_
 refine Vc.nil ?_
 exact kM
 refine kS h ?_ ?_ <;> intro b2 h
 refine kt b2 ?_
 refine Xac ?_
 iterate 4 refine kO hT hC ?_
 refine Vc.nil ?_
 refine Xah ?_
 refine Xap ?_
 obtain rfl := kj h
 refine Xbt (τ := ⟨[(4, .ptr 2000000 0), (5, .sv (.int .i64 0)), (6, .sv (.bool false))], [(16, some (.ints .i64 [])), (17, some (.ints .i64 [])), (2000000, some (.box [.sv (.int .i64 0), .sv (.int .i64 0), .own 16, .own 17]))]⟩) ?_ rfl ⟨rfl, rfl, trivial⟩
 refine Xf7 hC 64 2 657 (.ints .i64 []) rfl rfl rfl rfl rfl trivial ?_
 refine Xf7 hC 64 3 658 (.ints .i64 []) rfl rfl rfl rfl rfl trivial ?_
 apply Xbz hC [(16, 657), (17, 658), (2000000, 64)]
 exact co
 rfl
 decide
 rfl
 refine kf b2 ?_
 refine Xaf ?_
 refine Xae ?_
 refine Xd7 hm ?_
 iterate 8 refine kO hT hC ?_
 refine kD ?_
 refine Xah ?_
 obtain rfl := kj h
 exact Xbt (τ := ⟨[(4, .ptr 2000000 0), (5, .sv (.int .i64 q5.2.at_)), (6, .sv (.bool true))], [(16, some (.ints .i64 q4.1)), (17, some (.ints .i64 q5.1)), (2000000, some (.box [.sv (.int .i64 q2.1), .sv (.int .i64 q3.1), .own 16, .own 17]))]⟩) (kW hC [(16, 320), (17, 368), (2000000, 64)]) rfl ⟨rfl, rfl, trivial⟩
def Ydq (r : Xa0) : AV := .agg [.sv (.bool r.HasSeq), .sv (.bool r.HasPar), .sv (.bool r.HasRef), .sv (.int .i64 r.Seq.Level), .sv (.int .i64 r.Seq.Bits), .sv (.ints .i64 r.Seq.Cols), .sv (.ints .i64 r.Seq.Rows), .sv (.int .i64 r.Par.Qp), .sv (.bool r.Par.Large), .sv (.bool r.Par.Exact), .sv (.bool r.Par.Confined), .sv (.int .i64 r.Frame), .sv (.int .i64 r.Got), .sv (.int .i64 r.Now.Wide), .sv (.int .i64 r.Now.High), .sv (.str r.Now.Dots), .sv (.int .i64 r.Ref.Wide), .sv (.int .i64 r.Ref.High), .sv (.str r.Ref.Dots)]
def Ydp (r : Xa0) : Xa8 := []
theorem Xsu {r} (h : Xmy = some r) : AC Tryz.prog 44 [] [] (Ydq r) (Ydp r) := by
 refine Xag hT Tryz.func44 rfl fun C hC => ?_
 unfold Xmy at h
 refine Xac ?_
 refine kO hT hC ?_
 refine kN ?_
 iterate 2 refine kO hT hC ?_
 refine Vc.nil ?_
 refine Xah ?_
 obtain rfl := kj h
 exact Xbt (τ := ⟨[(0, .ptr 2000000 0)], [(2000000, some (.box [.sv (.bool false), .sv (.bool false), .sv (.bool false), .sv (.int .i64 0), .sv (.int .i64 0), .sv (.ints .i64 []), .sv (.ints .i64 []), .sv (.int .i64 0), .sv (.bool false), .sv (.bool false), .sv (.bool false), .sv (.int .i64 (-1)), .sv (.int .i64 0), .sv (.int .i64 0), .sv (.int .i64 0), .sv (.str ⟨#[]⟩), .sv (.int .i64 0), .sv (.int .i64 0), .sv (.str ⟨#[]⟩)]))]⟩) (kW hC [(2000000, 0)]) rfl trivial
def Xz7 (r : (Par × Int × Bool)) : AV := .tup [.agg [.sv (.int .i64 r.1.Qp), .sv (.bool r.1.Large), .sv (.bool r.1.Exact), .sv (.bool r.1.Confined)], .sv (.int .i64 r.2.1), .sv (.bool r.2.2)]
def Xz6 (r : (Par × Int × Bool)) : Xa8 := []
theorem Yd7 {p0 p1 r} (h : Xiz p0 p1 = some r) : AC Tryz.prog 45 [.sv (.str p0), .sv (.int .i64 p1)] [] (Xz7 r) (Xz6 r) := by
 refine Xag hT Tryz.func45 rfl fun C hC => ?_
 unfold Xiz at h
 refine Xac ?_
 iterate 3 refine kO hT hC ?_
 refine kN ?_
 iterate 2 refine kO hT hC ?_
 refine kC hC [(16, 176)] Tryz.call77 h (fun _ => Xk8) fun q1 h => ?_
 refine kO hT hC ?_
 refine kN ?_
 refine kO hT hC ?_
 refine kC hC [(0, 176)] Tryz.call79 h (fun _ => Xdl) fun q2 h => ?_
 iterate 3 refine kO hT hC ?_
 refine kN ?_
 refine kO hT hC ?_
 refine kC hC [(0, 176)] Tryz.call79 h (fun _ => Xdl) fun q3 h => ?_
 iterate 3 refine kO hT hC ?_
 refine kN ?_
 refine kO hT hC ?_
 refine kC hC [(0, 176)] Tryz.call79 h (fun _ => Xdl) fun q4 h => ?_
 iterate 3 refine kO hT hC ?_
 refine kN ?_
 refine kO hT hC ?_
 refine kC hC [(0, 176)] Tryz.call79 h (fun _ => Xdl) fun q5 h => ?_
 iterate 3 refine kO hT hC ?_
 refine Vc.nil ?_
 refine Xaq ?_
 refine kL [4,7,8] [64,128,176] [_,_,_] [_,_,_] ?_
 refine kA h (fun v6 => ([(35, .sv (.bool v6))], [])) (fun v6 h => ?_) fun v6 h => ?_
 refine Xab ?_
 iterate 5 refine kO hT hC ?_
 refine kS h ?_ ?_ <;> intro b1 h
 iterate 3 refine kF hC b1 ?_
 refine kP hC true b1 ?_
 refine Vc.nil ?_
 exact kM
 refine kI hT hC b1 ?_
 refine kE hC b1 [] Tryz.call63 h (fun _ => Xmi) fun q7 h => ?_
 refine kI hT hC b1 ?_
 refine kP hC false b1 ?_
 refine Vc.nil ?_
 exact kM
 refine kS h ?_ ?_ <;> intro b2 h
 refine kt b2 ?_
 refine Xac ?_
 iterate 4 refine kO hT hC ?_
 refine Vc.nil ?_
 refine Xah ?_
 refine Xap ?_
 exact kR
 refine kf b2 ?_
 refine Xaf ?_
 refine Xae ?_
 refine Xd7 hm ?_
 iterate 8 refine kO hT hC ?_
 refine kD ?_
 refine Xah ?_
 exact kR
def Yd4 (r : (Int × Bool)) : AV := .tup [.sv (.int .i64 r.1), .sv (.bool r.2)]
def Yd3 (r : (Int × Bool)) : Xa8 := []
theorem Yhw {p0 r} (h : Xm1 p0 = some r) : AC Tryz.prog 155 [.sv (.int .i64 p0)] [] (Yd4 r) (Yd3 r) := by
 refine Xag hT Tryz.func155 rfl fun C hC => ?_
 unfold Xm1 at h
 refine Xac ?_
 iterate 2 refine kO hT hC ?_
 refine Vc.nil ?_
 refine Xaq ?_
 refine Xao ?_
 refine Xac ?_
 refine kO hT hC ?_
 refine kC hC [] Tryz.call64 h (fun _ => Xam) fun q1 h => ?_
 iterate 2 refine kO hT hC ?_
 refine Vc.nil ?_
 refine kS h ?_ ?_ <;> intro b1 h
 refine kt b1 ?_
 refine Xac ?_
 iterate 2 refine kO hT hC ?_
 refine Vc.nil ?_
 refine Xah ?_
 refine Xcr ?_
 refine Xap ?_
 exact kR
 refine kf b1 ?_
 refine Xac ?_
 refine kO hT hC ?_
 refine kQ hT hC h fun h => ?_
 iterate 2 refine kO hT hC ?_
 refine Vc.nil ?_
 refine kS h ?_ ?_ <;> intro b2 h
 refine kt b2 ?_
 refine Xac ?_
 iterate 2 refine kO hT hC ?_
 refine kQ hT hC h fun h => ?_
 iterate 2 refine kO hT hC ?_
 refine Vc.nil ?_
 refine Xah ?_
 refine Xcr ?_
 refine Xap ?_
 exact kR
 refine kf b2 ?_
 refine Xaf ?_
 refine Xar ?_
 refine Xae ?_
 refine Xac ?_
 iterate 2 refine kO hT hC ?_
 refine kQ hT hC h fun h => ?_
 iterate 2 refine kO hT hC ?_
 refine Vc.nil ?_
 refine Xah ?_
 exact kR
def Yaq (r : (Int × Xka)) : AV := .sv (.int .i64 r.1)
def Yap (r : (Int × Xka)) : Xa8 := [(0, .box [.sv (.str r.2.row_), .sv (.int .i64 r.2.at_), .sv (.bool r.2.bad_)])]
theorem Xjq {p0 r} (h : Xb2 p0 = some r) : AC Tryz.prog 117 [.ptr 0 0] [(0, .box [.sv (.str p0.row_), .sv (.int .i64 p0.at_), .sv (.bool p0.bad_)])] (Yaq r) (Yap r) := by
 refine Xag hT Tryz.func117 rfl fun C hC => ?_
 unfold Xb2 at h
 refine Xac ?_
 refine kO hT hC ?_
 refine kN ?_
 refine kO hT hC ?_
 refine kC hC [(0, 0)] Tryz.call78 h (fun _ => Xcm) fun q1 h => ?_
 refine kC hC [] Tryz.call155 h (fun _ => Yhw) fun q2 h => ?_
 iterate 5 refine kO hT hC ?_
 refine Vc.nil ?_
 refine kL [0,3,4] [0] [_,_,_] [_] ?_
 refine kA h (fun v3 => ([(0, .any), (4, .any)], [(0, some (.box [.sv (.str q1.2.row_), .sv (.int .i64 q1.2.at_), .sv (.bool v3)]))])) (fun v3 h => ?_) fun v3 h => ?_
 refine Xab ?_
 iterate 6 refine kO hT hC ?_
 refine kS h ?_ ?_ <;> intro b1 h
 iterate 2 refine kF hC b1 ?_
 refine kP hC true b1 ?_
 iterate 3 refine kO hT hC ?_
 refine Vc.nil ?_
 exact kM
 iterate 2 refine kI hT hC b1 ?_
 refine kP hC false b1 ?_
 iterate 3 refine kO hT hC ?_
 refine Vc.nil ?_
 exact kM
 refine Xac ?_
 iterate 2 refine kO hT hC ?_
 refine Vc.nil ?_
 refine Xah ?_
 obtain rfl := kj h
 exact Xbt (Xgk.refl _) rfl ⟨rfl, trivial⟩
def Ydy (r : Bool) : AV := .sv (.bool r)
def Ydx (r : Bool) : Xa8 := []
theorem Yht {p0 p1 p2 r} (h : Xm0 p0 p1 p2 = some r) : AC Tryz.prog 118 [.agg [.sv (.int .i64 p0.Level), .sv (.int .i64 p0.Bits), .sv (.ints .i64 p0.Cols), .sv (.ints .i64 p0.Rows)], .agg [.sv (.int .i64 p1.Qp), .sv (.bool p1.Large), .sv (.bool p1.Exact), .sv (.bool p1.Confined)], .agg [.sv (.int .i64 p2.Tile), .sv (.int .i64 p2.Frame), .sv (.int .i64 p2.Qp)]] [] (Ydy r) (Ydx r) := by
 refine Xag hT Tryz.func118 rfl fun C hC => ?_
 unfold Xm0 at h
 refine Xac ?_
 iterate 4 refine kO hT hC ?_
 refine Vc.nil ?_
 refine kL [3,4,5,6] [48,64,80] [_,_,_,_] [_,_,_] ?_
 refine kA h (fun v1 => ([(6, .sv (.bool v1)), (3, .any), (4, .any), (5, .any)], [(48, none), (64, none), (80, none)])) (fun v1 h => ?_) fun v1 h => ?_
 refine Xcz hm ?_
 refine kO hT hC ?_
 refine kC hC [] Tryz.call62 h (fun _ => Xhf) fun q2 h => ?_
 refine kO hT hC ?_
 refine kS h ?_ ?_ <;> intro b1 h
 refine kI hT hC b1 ?_
 refine kE hC b1 [] Tryz.call63 h (fun _ => Xmi) fun q3 h => ?_
 refine kP hC true b1 ?_
 refine kO hT hC ?_
 refine kS h ?_ ?_ <;> intro b2 h
 iterate 3 refine kI hT hC b2 ?_
 refine kE hC b2 [] Tryz.call65 h (fun _ => Xjm) fun q4 h => ?_
 refine kI hT hC b2 ?_
 refine kE hC b2 [] Tryz.call64 h (fun _ => Xam) fun q5 h => ?_
 refine kP hC true b2 ?_
 refine kO hT hC ?_
 refine kS h ?_ ?_ <;> intro b3 h
 iterate 4 refine kI hT hC b3 ?_
 refine kJ hT hC b3 h fun h => ?_
 refine kI hT hC b3 ?_
 refine kE hC b3 [] Tryz.call64 h (fun _ => Xam) fun q6 h => ?_
 refine kP hC true b3 ?_
 refine kO hT hC ?_
 refine kS h ?_ ?_ <;> intro b4 h
 iterate 2 refine kI hT hC b4 ?_
 refine kE hC b4 [] Tryz.call64 h (fun _ => Xam) fun q7 h => ?_
 refine kP hC true b4 ?_
 refine kO hT hC ?_
 refine kD ?_
 exact kM
 iterate 3 refine kF hC b4 ?_
 refine kP hC false b4 ?_
 refine kO hT hC ?_
 refine kD ?_
 exact kM
 iterate 7 refine kF hC b3 ?_
 refine kP hC false b3 ?_
 refine kO hT hC ?_
 iterate 3 refine kF hC rfl ?_
 iterate 2 refine kO hT hC ?_
 refine kD ?_
 exact kM
 iterate 6 refine kF hC b2 ?_
 refine kP hC false b2 ?_
 refine kO hT hC ?_
 iterate 7 refine kF hC rfl ?_
 iterate 2 refine kO hT hC ?_
 iterate 3 refine kF hC rfl ?_
 iterate 2 refine kO hT hC ?_
 refine kD ?_
 exact kM
 iterate 2 refine kF hC b1 ?_
 refine kP hC false b1 ?_
 refine kO hT hC ?_
 iterate 6 refine kF hC rfl ?_
 iterate 2 refine kO hT hC ?_
 iterate 7 refine kF hC rfl ?_
 iterate 2 refine kO hT hC ?_
 iterate 3 refine kF hC rfl ?_
 iterate 2 refine kO hT hC ?_
 refine kD ?_
 exact kM
 refine Xah ?_
 exact kR
def Xxk (r : (Yhf × Int × Bool)) : AV := .tup [.agg [.sv (.int .i64 r.1.Tile), .sv (.int .i64 r.1.Frame), .sv (.int .i64 r.1.Qp)], .sv (.int .i64 r.2.1), .sv (.bool r.2.2)]
def Xxj (r : (Yhf × Int × Bool)) : Xa8 := []
theorem Xz5 {p0 p1 p2 r} (h : Xhd p0 p1 p2 = some r) : AC Tryz.prog 81 [.agg [.sv (.int .i64 p0.Level), .sv (.int .i64 p0.Bits), .sv (.ints .i64 p0.Cols), .sv (.ints .i64 p0.Rows)], .agg [.sv (.int .i64 p1.Qp), .sv (.bool p1.Large), .sv (.bool p1.Exact), .sv (.bool p1.Confined)], .sv (.str p2)] [] (Xxk r) (Xxj r) := by
 refine Xag hT Tryz.func81 rfl fun C hC => ?_
 unfold Xhd at h
 refine Xac ?_
 iterate 5 refine kO hT hC ?_
 refine kN ?_
 refine kO hT hC ?_
 refine kC hC [(16, 192)] Tryz.call77 h (fun _ => Xk8) fun q1 h => ?_
 refine kO hT hC ?_
 refine Vc.nil ?_
 refine Xaq ?_
 refine kL [3,4,6,9] [48,64,96,192] [_,_,_,_] [_,_,_,_] ?_
 refine kA h (fun v2 => ([(20, .sv (.bool v2))], [])) (fun v2 h => ?_) fun v2 h => ?_
 refine Xab ?_
 refine kO hT hC ?_
 refine kC hC [] Tryz.call62 h (fun _ => Xhf) fun q3 h => ?_
 iterate 2 refine kO hT hC ?_
 refine kS h ?_ ?_ <;> intro b1 h
 refine kI hT hC (kn b1) ?_
 refine kE hC (kn b1) [] Tryz.call63 h (fun _ => Xmi) fun q4 h => ?_
 refine kI hT hC (kn b1) ?_
 refine kP hC false (kn b1) ?_
 refine Vc.nil ?_
 exact kM
 iterate 3 refine kF hC (kn b1) ?_
 refine kP hC true (kn b1) ?_
 refine Vc.nil ?_
 exact kM
 refine kS h ?_ ?_ <;> intro b2 h
 refine kt b2 ?_
 refine Xac ?_
 iterate 4 refine kO hT hC ?_
 refine Vc.nil ?_
 refine Xah ?_
 refine Xap ?_
 exact kR
 refine kf b2 ?_
 refine Xaf ?_
 refine Xae ?_
 refine Xac ?_
 refine kO hT hC ?_
 refine kC hC [(0, 192)] Tryz.call78 h (fun _ => Xcm) fun q5 h => ?_
 iterate 3 refine kO hT hC ?_
 refine kN ?_
 iterate 3 refine kO hT hC ?_
 refine kC hC [(0, 192)] Tryz.call79 h (fun _ => Xdl) fun q6 h => ?_
 iterate 2 refine kO hT hC ?_
 refine kN ?_
 refine kO hT hC ?_
 refine kC hC [(0, 192)] Tryz.call117 h (fun _ => Xjq) fun q7 h => ?_
 iterate 2 refine kO hT hC ?_
 refine kN ?_
 iterate 7 refine kO hT hC ?_
 refine Vc.nil ?_
 refine Xaq ?_
 refine kL [3,4,6,9,10] [48,64,96,160,192] [_,_,_,_,_] [_,_,_,_,_] ?_
 refine kA h (fun v8 => ([(49, .sv (.bool v8)), (3, .any), (4, .any)], [(48, none), (64, none)])) (fun v8 h => ?_) fun v8 h => ?_
 refine Xab ?_
 iterate 5 refine kO hT hC ?_
 refine kS h ?_ ?_ <;> intro b3 h
 iterate 5 refine kF hC b3 ?_
 refine kP hC true b3 ?_
 refine Vc.nil ?_
 exact kM
 iterate 3 refine kI hT hC b3 ?_
 refine kE hC b3 [] Tryz.call118 h (fun _ => Yht) fun q9 h => ?_
 refine kI hT hC b3 ?_
 refine kP hC false b3 ?_
 refine Vc.nil ?_
 exact kM
 refine kS h ?_ ?_ <;> intro b4 h
 refine kt b4 ?_
 refine Xac ?_
 iterate 4 refine kO hT hC ?_
 refine Vc.nil ?_
 refine Xah ?_
 refine Xap ?_
 exact kR
 refine kf b4 ?_
 refine Xaf ?_
 refine Xae ?_
 refine Xd7 hm ?_
 iterate 8 refine kO hT hC ?_
 refine kD ?_
 refine Xah ?_
 exact kR
def Xxr (r : (Xph × Bool)) : AV := .tup [.agg [.sv (.int .i64 r.1.Left), .sv (.int .i64 r.1.Top), .sv (.int .i64 r.1.Wide), .sv (.int .i64 r.1.High)], .sv (.bool r.2)]
def Xxq (r : (Xph × Bool)) : Xa8 := []
theorem Xqb {p0 p1 r} (h : Xhh p0 p1 = some r) : AC Tryz.prog 84 [.agg [.sv (.int .i64 p0.Level), .sv (.int .i64 p0.Bits), .sv (.ints .i64 p0.Cols), .sv (.ints .i64 p0.Rows)], .sv (.int .i64 p1)] [] (Xxr r) (Xxq r) := by
 refine Xag hT Tryz.func84 rfl fun C hC => ?_
 unfold Xhh at h
 refine Xac ?_
 iterate 3 refine kO hT hC ?_
 refine Vc.nil ?_
 refine Xaq ?_
 refine Xac ?_
 iterate 2 refine kO hT hC ?_
 refine kC hC [] Tryz.call65 h (fun _ => Xjm) fun q1 h => ?_
 refine kO hT hC ?_
 refine kC hC [] Tryz.call64 h (fun _ => Xam) fun q2 h => ?_
 refine kO hT hC ?_
 refine Vc.nil ?_
 refine kS h ?_ ?_ <;> intro b1 h
 refine kt b1 ?_
 refine Xac ?_
 iterate 3 refine kO hT hC ?_
 refine Vc.nil ?_
 refine Xah ?_
 refine Xap ?_
 exact kR
 refine kf b1 ?_
 refine Xaf ?_
 refine Xae ?_
 refine Xd7 hm ?_
 iterate 4 refine kO hT hC ?_
 refine kQ hT hC h fun h => ?_
 iterate 4 refine kO hT hC ?_
 refine kQ hT hC h fun h => ?_
 iterate 2 refine kO hT hC ?_
 refine kD ?_
 refine Xd7 hm ?_
 iterate 3 refine kO hT hC ?_
 refine kQ hT hC h fun h => ?_
 refine kC hC [] Tryz.call121 h (fun _ => Xen) fun q3 h => ?_
 iterate 4 refine kO hT hC ?_
 refine kQ hT hC h fun h => ?_
 refine kC hC [] Tryz.call121 h (fun _ => Xen) fun q4 h => ?_
 iterate 4 refine kO hT hC ?_
 refine kQ hT hC h fun h => ?_
 iterate 5 refine kO hT hC ?_
 refine kQ hT hC h fun h => ?_
 iterate 5 refine kO hT hC ?_
 refine kD ?_
 refine Xah ?_
 exact kR
def Xsj (r : Int) : AV := .sv (.int .i64 r)
def Xsi (r : Int) : Xa8 := []
theorem Xt3 {p0 p1 r} (h : Xfz p0 p1 = some r) : AC Tryz.prog 83 [.agg [.sv (.int .i64 p0.Level), .sv (.int .i64 p0.Bits), .sv (.ints .i64 p0.Cols), .sv (.ints .i64 p0.Rows)], .sv (.int .i64 p1)] [] (Xsj r) (Xsi r) := by
 refine Xag hT Tryz.func83 rfl fun C hC => ?_
 unfold Xfz at h
 refine Xac ?_
 iterate 2 refine kO hT hC ?_
 refine kN ?_
 iterate 2 refine kO hT hC ?_
 refine kC hC [] Tryz.call84 h (fun _ => Xqb) fun q1 h => ?_
 iterate 6 refine kO hT hC ?_
 refine kN ?_
 iterate 2 refine kO hT hC ?_
 refine kQ hT hC h fun h => ?_
 iterate 2 refine kO hT hC ?_
 refine kQ hT hC h fun h => ?_
 iterate 2 refine kO hT hC ?_
 refine Vc.nil ?_
 refine Xah ?_
 exact kR
def Ydm (r : Bool) : AV := .sv (.bool r)
def Ydl (r : Bool) : Xa8 := []
theorem Xk5 {p0 r} (h : Xgm p0 = some r) : AC Tryz.prog 119 [.agg [.sv (.bool p0.Key), .sv (.int .i64 p0.Qp), .sv (.bool p0.Large), .sv (.bool p0.Exact)]] [] (Ydm r) (Ydl r) := by
 refine Xag hT Tryz.func119 rfl fun C hC => ?_
 unfold Xgm at h
 refine Xac ?_
 iterate 2 refine kO hT hC ?_
 refine Vc.nil ?_
 refine kL [1,2] [16] [_,_] [_] ?_
 refine kA h (fun v1 => ([(2, .sv (.bool v1)), (1, .any)], [(16, none)])) (fun v1 h => ?_) fun v1 h => ?_
 refine Xab ?_
 iterate 2 refine kO hT hC ?_
 refine kC hC [] Tryz.call64 h (fun _ => Xam) fun q2 h => ?_
 refine kO hT hC ?_
 refine kS h ?_ ?_ <;> intro b1 h
 iterate 3 refine kI hT hC b1 ?_
 refine kS h ?_ ?_ <;> intro b2 h
 iterate 2 refine kI hT hC b2 ?_
 refine Xa3 hC rfl rfl rfl rfl b1 rfl rfl (b := true) b2 rfl rfl rfl trivial ?_
 refine kI hT hC b1 ?_
 refine kP hC true b1 ?_
 refine kO hT hC ?_
 refine Vc.nil ?_
 exact kM
 iterate 2 refine kF hC b2 ?_
 refine Xa3 hC rfl rfl rfl rfl b1 rfl rfl (b := false) b2 rfl rfl rfl trivial ?_
 refine kI hT hC b1 ?_
 refine kP hC true b1 ?_
 refine kO hT hC ?_
 refine Vc.nil ?_
 exact kM
 iterate 3 refine kF hC b1 ?_
 iterate 2 refine Xdq hC rfl rfl rfl rfl rfl rfl ?_
 iterate 2 refine kF hC b1 ?_
 refine kP hC false b1 ?_
 refine kO hT hC ?_
 refine Vc.nil ?_
 exact kM
 refine Xah ?_
 exact kR
def Xvv (r : ((List Int) × Xka)) : AV := .own 16
def Xvu (r : ((List Int) × Xka)) : Xa8 := [(16, .ints .i64 r.1), (0, .box [.sv (.str r.2.row_), .sv (.int .i64 r.2.at_), .sv (.bool r.2.bad_)])]
theorem Xov {p0 p1 r} (h : Xc4 p0 p1 = some r) : AC Tryz.prog 183 [.ptr 0 0, .sv (.int .i64 p1)] [(0, .box [.sv (.str p0.row_), .sv (.int .i64 p0.at_), .sv (.bool p0.bad_)])] (Xvv r) (Xvu r) := by
 refine Xag hT Tryz.func183 rfl fun C hC => ?_
 unfold Xc4 at h
 refine Xac ?_
 refine kO hT hC ?_
 refine kN ?_
 refine kO hT hC ?_
 obtain ⟨hq, h⟩ := Xa5 h
 refine Xw3 hT hC rfl rfl rfl rfl ⟨hq.1, hq.2.1, hq.2.2, by decide⟩ ?_
 refine kO hT hC ?_
 refine kN ?_
 refine kO hT hC ?_
 refine Vc.nil ?_
 refine Xaq ?_
 refine Xac ?_
 refine kO hT hC ?_
 refine kC hC [(0, 0)] Tryz.call78 h (fun _ => Xcm) fun q1 h => ?_
 refine kO hT hC ?_
 refine Vc.nil ?_
 refine kL [0,1,5,6,7] [0,160] [_,_,_,_,_] [_,_] ?_
 refine kX h (fun v8 => ([(6, .sv (.int .i64 v8.1)), (7, .sv (.int .i64 v8.2.1))], [(0, some (.box [.sv (.str v8.2.2.1), .sv (.int .i64 v8.2.2.2.1), .sv (.bool v8.2.2.2.2.1)])), (160, some (.ints .i64 v8.2.2.2.2.2))])) (fun v15 => ([(0, .any), (1, .any), (6, .any), (7, .any)], [(0, some (.box [.sv (.str v15.2.1), .sv (.int .i64 v15.2.2.1), .sv (.bool v15.2.2.2)])), (160, some (.ints .i64 v15.1))])) (kW hC []) (fun v8 s h => ?_) fun v15 h => ?_
 unfold Xbg at h
 refine Xaq ?_
 refine kL [0,1,5,6,7] [0,160] [_,_,_,_,_] [_,_] ?_
 refine kA h (fun v16 => ([(21, .sv (.bool v16))], [])) (fun v16 h => ?_) fun v16 h => ?_
 refine Xab ?_
 iterate 3 refine kO hT hC ?_
 refine kS h ?_ ?_ <;> intro b11 h
 iterate 5 refine kI hT hC b11 ?_
 refine kP hC true b11 ?_
 refine Vc.nil ?_
 exact kM
 iterate 5 refine kF hC b11 ?_
 refine kP hC false b11 ?_
 refine Vc.nil ?_
 exact kM
 refine kS h ?_ ?_ <;> intro b12 h
 refine kt b12 ?_
 refine Xaf ?_
 refine Xae ?_
 refine Xaq ?_
 refine Xao ?_
 refine Xac ?_
 iterate 2 refine kO hT hC ?_
 refine kC hC [(0, 0)] Tryz.call78 h (fun _ => Xcm) fun q17 h => ?_
 iterate 2 refine kO hT hC ?_
 refine kN ?_
 refine kO hT hC ?_
 refine kC hC [(0, 0)] Tryz.call117 h (fun _ => Xjq) fun q18 h => ?_
 refine kO hT hC ?_
 refine Vc.nil ?_
 refine Xaq ?_
 refine kL [0,1,5,6,7,8] [0,160] [_,_,_,_,_,_] [_,_] ?_
 refine kA h (fun v19 => ([(41, .sv (.bool v19))], [])) (fun v19 h => ?_) fun v19 h => ?_
 refine Xab ?_
 iterate 4 refine kO hT hC ?_
 refine kS h ?_ ?_ <;> intro b13 h
 iterate 2 refine kF hC b13 ?_
 refine kP hC true b13 ?_
 refine kO hT hC ?_
 iterate 3 refine kF hC rfl ?_
 refine kO hT hC ?_
 refine Vc.nil ?_
 exact kM
 iterate 2 refine kI hT hC b13 ?_
 refine kP hC false b13 ?_
 refine kO hT hC ?_
 refine kS h ?_ ?_ <;> intro b14 h
 iterate 3 refine kF hC b14 ?_
 refine kP hC true b14 ?_
 refine Vc.nil ?_
 exact kM
 refine kI hT hC b14 ?_
 refine kE hC b14 [] Tryz.call64 h (fun _ => Xam) fun q20 h => ?_
 refine kI hT hC b14 ?_
 refine kP hC false b14 ?_
 refine Vc.nil ?_
 exact kM
 refine kS h ?_ ?_ <;> intro b15 h
 refine kt b15 ?_
 refine Xac ?_
 iterate 4 refine kO hT hC ?_
 refine Vc.nil ?_
 refine Xas ?_
 refine Xaz ?_
 refine Ysw rfl ?_
 refine Xaz ?_
 exact ku
 refine kf b15 ?_
 refine Xaf ?_
 refine Xae ?_
 refine Xac ?_
 iterate 3 refine kO hT hC ?_
 iterate 2 refine kQ hT hC h fun h => ?_
 refine Vc.nil ?_
 refine Xab ?_
 iterate 3 refine kO hT hC ?_
 refine Vc.nil ?_
 refine Xar ?_
 refine Xae ?_
 refine Xab ?_
 iterate 3 refine kO hT hC ?_
 refine Vc.nil ?_
 exact kG
 refine kf b12 ?_
 refine Xas ?_
 refine Xaz ?_
 exact ku
 refine Xae ?_
 refine Xac ?_
 iterate 2 refine kO hT hC ?_
 refine Vc.nil ?_
 refine Xah ?_
 obtain rfl := kj h
 exact Xbt (τ := ⟨[(4, .own 16)], [(16, some (.ints .i64 v15.1)), (0, some (.box [.sv (.str v15.2.1), .sv (.int .i64 v15.2.2.1), .sv (.bool v15.2.2.2)]))]⟩) (kW hC [(16, 160)]) rfl ⟨rfl, rfl, trivial⟩
def Xsn (r : ((List Int) × Xka)) : AV := .own 16
def Xsm (r : ((List Int) × Xka)) : Xa8 := [(16, .ints .i64 r.1), (0, .box [.sv (.str r.2.row_), .sv (.int .i64 r.2.at_), .sv (.bool r.2.bad_)])]
theorem Xm6 {p0 p1 r} (h : Xbq p0 p1 = some r) : AC Tryz.prog 156 [.ptr 0 0, .agg [.sv (.bool p1.Key), .sv (.int .i64 p1.Qp), .sv (.bool p1.Large), .sv (.bool p1.Exact)]] [(0, .box [.sv (.str p0.row_), .sv (.int .i64 p0.at_), .sv (.bool p0.bad_)])] (Xsn r) (Xsm r) := by
 refine Xag hT Tryz.func156 rfl fun C hC => ?_
 unfold Xbq at h
 refine Xac ?_
 iterate 2 refine kO hT hC ?_
 refine Vc.nil ?_
 refine Xaq ?_
 refine kL [0,3] [0,48] [_,_] [_,_] ?_
 refine kA h (fun v1 => ([(11, .sv (.bool v1)), (3, .any)], [(48, none)])) (fun v1 h => ?_) fun v1 h => ?_
 refine Xab ?_
 iterate 3 refine kO hT hC ?_
 refine kS h ?_ ?_ <;> intro b1 h
 iterate 2 refine kF hC b1 ?_
 refine kP hC true b1 ?_
 refine Vc.nil ?_
 exact kM
 iterate 2 refine kI hT hC b1 ?_
 refine kP hC false b1 ?_
 refine Vc.nil ?_
 exact kM
 refine kS h ?_ ?_ <;> intro b2 h
 refine kt b2 ?_
 refine Xac ?_
 refine kO hT hC ?_
 refine kC hC [(16, 208), (0, 0)] Tryz.call183 h (fun _ => Xov) fun q2 h => ?_
 refine kO hT hC ?_
 refine Vc.nil ?_
 refine Xah ?_
 refine Xap ?_
 obtain rfl := kj h
 exact Xbt (τ := ⟨[(4, .own 16)], [(16, some (.ints .i64 q2.1)), (0, some (.box [.sv (.str q2.2.row_), .sv (.int .i64 q2.2.at_), .sv (.bool q2.2.bad_)]))]⟩) (kW hC [(16, 208)]) rfl ⟨rfl, rfl, trivial⟩
 refine kf b2 ?_
 refine Xaf ?_
 refine Xae ?_
 refine Xac ?_
 iterate 2 refine kO hT hC ?_
 refine Vc.nil ?_
 refine Xaq ?_
 refine Xac ?_
 refine kO hT hC ?_
 refine Vc.nil ?_
 refine kL [0,5,15] [0,224] [_,_,_] [_,_] ?_
 refine kX h (fun v5 => ([(15, .sv (.int .i64 v5.1))], [(0, some (.box [.sv (.str v5.2.1), .sv (.int .i64 v5.2.2.1), .sv (.bool v5.2.2.2.1)])), (224, some (.ints .i64 v5.2.2.2.2))])) (fun v8 => ([(0, .any), (15, .any)], [(0, some (.box [.sv (.str v8.2.1), .sv (.int .i64 v8.2.2.1), .sv (.bool v8.2.2.2)])), (224, some (.ints .i64 v8.1))])) (kW hC []) (fun v5 s h => ?_) fun v8 h => ?_
 unfold Xbe at h
 refine Xac ?_
 refine kO hT hC ?_
 refine Vc.nil ?_
 refine Xaq ?_
 refine kS h ?_ ?_ <;> intro b5 h
 refine kt b5 ?_
 refine Xaf ?_
 refine Xae ?_
 refine Xaq ?_
 refine Xao ?_
 refine Xab ?_
 iterate 2 refine kO hT hC ?_
 refine kC hC [(16, 304), (0, 0)] Tryz.call183 h (fun _ => Xov) fun q9 h => ?_
 refine kT hT hC h fun h => ?_
 refine kO hT hC ?_
 refine Vc.nil ?_
 refine Xar ?_
 refine Xae ?_
 refine Xab ?_
 iterate 2 refine kO hT hC ?_
 refine Vc.nil ?_
 obtain rfl := kj h
 exact Ya8 (kW hC [(224, 320)])
 refine kf b5 ?_
 refine Xas ?_
 refine Xaz ?_
 exact ku
 refine Xae ?_
 refine Xac ?_
 iterate 2 refine kO hT hC ?_
 refine Vc.nil ?_
 refine Xah ?_
 obtain rfl := kj h
 exact Xbt (τ := ⟨[(4, .own 16)], [(16, some (.ints .i64 v8.1)), (0, some (.box [.sv (.str v8.2.1), .sv (.int .i64 v8.2.2.1), .sv (.bool v8.2.2.2)]))]⟩) (kW hC [(16, 224)]) rfl ⟨rfl, rfl, trivial⟩
def Xs2 (r : Bool) : AV := .sv (.bool r)
def Xs1 (r : Bool) : Xa8 := []
theorem Xhj {p0 p1 p2 p3 r} (h : Xd1 p0 p1 p2 p3 = some r) : AC Tryz.prog 192 [.sv (.ints .i64 p0), .sv (.int .i64 p1), .sv (.int .i64 p2), .sv (.int .i64 p3)] [] (Xs2 r) (Xs1 r) := by
 refine Xag hT Tryz.func192 rfl fun C hC => ?_
 unfold Xd1 at h
 refine Xac ?_
 refine kO hT hC ?_
 refine Vc.nil ?_
 refine Xaq ?_
 refine Xac ?_
 iterate 3 refine kO hT hC ?_
 refine Vc.nil ?_
 refine kL [0,1,2,3,11,12,13] [] [_,_,_,_,_,_,_] [] ?_
 obtain ⟨o8, hl, h⟩ := Xba h
 refine Xd8 (fun v3 => ([(13, .sv (.int .i64 v3))], [])) (fun v6 => ([(2, .any), (3, .any), (11, .any), (12, .any), (13, .any)], [])) (fun r => Xl1 C T Tryz.f192.results.toList (Xs2 r) (Xs1 r)) hl ?_ ?_ ?_ ?_
 apply Xbz hC []
 exact co
 rfl
 decide
 rfl
 intro v3 s hs
 have h := hs
 unfold Xjo at h
 refine Xac ?_
 refine kO hT hC ?_
 refine Vc.nil ?_
 refine Xaq ?_
 refine kS h ?_ ?_ <;> intro b5 h
 refine kt b5 ?_
 refine Xaf ?_
 refine Xae ?_
 refine Xaq ?_
 refine Xao ?_
 refine Xac ?_
 refine kQ hT hC h fun h => ?_
 iterate 2 refine kO hT hC ?_
 refine kN ?_
 iterate 3 refine kO hT hC ?_
 refine kC hC [] Tryz.call64 h (fun _ => Xam) fun q7 h => ?_
 refine kO hT hC ?_
 refine Vc.nil ?_
 refine kS h ?_ ?_ <;> intro b6 h
 refine kt b6 ?_
 refine Xac ?_
 refine kO hT hC ?_
 refine Vc.nil ?_
 refine Xah ?_
 refine Xcr ?_
 refine Xap ?_
 obtain rfl := kj h
 refine Xku ?_
 refine Xkr ?_
 exact Xbt (Xgk.refl _) rfl trivial
 refine kf b6 ?_
 refine Xaf ?_
 refine Xar ?_
 refine Xae ?_
 refine Xab ?_
 iterate 2 refine kO hT hC ?_
 refine Vc.nil ?_
 exact kG
 refine kf b5 ?_
 refine Xas ?_
 refine Xaz ?_
 exact kb
 intro v6 e
 subst e
 refine Xae ?_
 refine Xac ?_
 iterate 5 refine kO hT hC ?_
 refine Vc.nil ?_
 refine Xah ?_
 exact kR
 intro r' σ' e hE
 subst e
 obtain rfl := kj h
 refine Xap ?_
 exact hE
def Xvo (r : Bool) : AV := .sv (.bool r)
def Xvn (r : Bool) : Xa8 := []
theorem Xkj {p0 r} (h : Xew p0 = some r) : AC Tryz.prog 184 [.sv (.ints .i64 p0)] [] (Xvo r) (Xvn r) := by
 refine Xag hT Tryz.func184 rfl fun C hC => ?_
 unfold Xew at h
 refine Xac ?_
 refine kO hT hC ?_
 refine kN ?_
 refine kO hT hC ?_
 refine kC hC [] Tryz.call192 h (fun _ => Xhj) fun q1 h => ?_
 refine kO hT hC ?_
 refine Vc.nil ?_
 refine Xah ?_
 exact kR
def Xxn (r : Bool) : AV := .sv (.bool r)
def Xxm (r : Bool) : Xa8 := []
theorem Xqa {p0 r} (h : Xft p0 = some r) : AC Tryz.prog 157 [.agg [.sv (.int .i64 p0.Kind), .sv (.int .i64 p0.Mode), .sv (.int .i64 p0.Dx), .sv (.int .i64 p0.Dy), .sv (.ints .i64 p0.Levels)]] [] (Xxn r) (Xxm r) := by
 refine Xag hT Tryz.func157 rfl fun C hC => ?_
 unfold Xft at h
 refine Xac ?_
 iterate 2 refine kO hT hC ?_
 refine Vc.nil ?_
 refine Xaq ?_
 refine Xac ?_
 iterate 2 refine kO hT hC ?_
 refine Vc.nil ?_
 refine Xao ?_
 refine Xac ?_
 iterate 2 refine kO hT hC ?_
 refine Vc.nil ?_
 refine kS h ?_ ?_ <;> intro b1 h
 refine kt b1 ?_
 refine kL [1,2] [16] [_,_] [_] ?_
 refine kA h (fun v1 => ([(2, .sv (.bool v1)), (1, .any)], [(16, none)])) (fun v1 h => ?_) fun v1 h => ?_
 refine Xab ?_
 iterate 4 refine kO hT hC ?_
 refine kS h ?_ ?_ <;> intro b2 h
 iterate 3 refine kI hT hC b2 ?_
 refine kP hC true b2 ?_
 refine kO hT hC ?_
 refine kS h ?_ ?_ <;> intro b3 h
 iterate 3 refine kI hT hC b3 ?_
 refine kP hC true b3 ?_
 refine kO hT hC ?_
 refine kS h ?_ ?_ <;> intro b4 h
 iterate 4 refine kI hT hC b4 ?_
 refine kP hC true b4 ?_
 refine kO hT hC ?_
 refine Vc.nil ?_
 exact kM
 iterate 4 refine kF hC b4 ?_
 refine kP hC false b4 ?_
 refine kO hT hC ?_
 refine Vc.nil ?_
 exact kM
 iterate 3 refine kF hC b3 ?_
 refine kP hC false b3 ?_
 refine kO hT hC ?_
 iterate 4 refine kF hC rfl ?_
 iterate 2 refine kO hT hC ?_
 refine Vc.nil ?_
 exact kM
 iterate 3 refine kF hC b2 ?_
 refine kP hC false b2 ?_
 refine kO hT hC ?_
 iterate 3 refine kF hC rfl ?_
 iterate 2 refine kO hT hC ?_
 iterate 4 refine kF hC rfl ?_
 iterate 2 refine kO hT hC ?_
 refine Vc.nil ?_
 exact kM
 refine Xah ?_
 refine Xcr ?_
 refine Xap ?_
 exact kR
 refine kf b1 ?_
 refine Xac ?_
 iterate 2 refine kO hT hC ?_
 refine Vc.nil ?_
 refine kS h ?_ ?_ <;> intro b5 h
 refine kt b5 ?_
 refine kL [1,2] [16] [_,_] [_] ?_
 refine kA h (fun v2 => ([(2, .sv (.bool v2)), (1, .any)], [(16, none)])) (fun v2 h => ?_) fun v2 h => ?_
 refine Xab ?_
 iterate 4 refine kO hT hC ?_
 refine kS h ?_ ?_ <;> intro b6 h
 iterate 2 refine kI hT hC b6 ?_
 refine kE hC b6 [] Tryz.call64 h (fun _ => Xam) fun q3 h => ?_
 refine kP hC true b6 ?_
 refine kO hT hC ?_
 refine kS h ?_ ?_ <;> intro b7 h
 iterate 2 refine kI hT hC b7 ?_
 refine kE hC b7 [] Tryz.call64 h (fun _ => Xam) fun q4 h => ?_
 refine kP hC true b7 ?_
 refine kO hT hC ?_
 refine kS h ?_ ?_ <;> intro b8 h
 iterate 2 refine kI hT hC b8 ?_
 refine kE hC b8 [] Tryz.call184 h (fun _ => Xkj) fun q5 h => ?_
 refine kP hC true b8 ?_
 refine kO hT hC ?_
 refine Vc.nil ?_
 exact kM
 iterate 3 refine kF hC b8 ?_
 refine kP hC false b8 ?_
 refine kO hT hC ?_
 refine Vc.nil ?_
 exact kM
 iterate 3 refine kF hC b7 ?_
 refine kP hC false b7 ?_
 refine kO hT hC ?_
 iterate 3 refine kF hC rfl ?_
 iterate 2 refine kO hT hC ?_
 refine Vc.nil ?_
 exact kM
 iterate 3 refine kF hC b6 ?_
 refine kP hC false b6 ?_
 refine kO hT hC ?_
 iterate 3 refine kF hC rfl ?_
 iterate 2 refine kO hT hC ?_
 iterate 3 refine kF hC rfl ?_
 iterate 2 refine kO hT hC ?_
 refine Vc.nil ?_
 exact kM
 refine Xah ?_
 refine Xcr ?_
 refine Xap ?_
 exact kR
 refine kf b5 ?_
 refine Xac ?_
 iterate 2 refine kO hT hC ?_
 refine Vc.nil ?_
 refine kS h ?_ ?_ <;> intro b9 h
 refine kt b9 ?_
 refine kL [1,2] [16] [_,_] [_] ?_
 refine kA h (fun v6 => ([(2, .sv (.bool v6)), (1, .any)], [(16, none)])) (fun v6 h => ?_) fun v6 h => ?_
 refine Xab ?_
 iterate 2 refine kO hT hC ?_
 refine kC hC [] Tryz.call64 h (fun _ => Xam) fun q7 h => ?_
 refine kO hT hC ?_
 refine kS h ?_ ?_ <;> intro b10 h
 iterate 3 refine kI hT hC b10 ?_
 refine kP hC true b10 ?_
 refine kO hT hC ?_
 refine kS h ?_ ?_ <;> intro b11 h
 iterate 3 refine kI hT hC b11 ?_
 refine kP hC true b11 ?_
 refine kO hT hC ?_
 refine kS h ?_ ?_ <;> intro b12 h
 iterate 2 refine kI hT hC b12 ?_
 refine kE hC b12 [] Tryz.call184 h (fun _ => Xkj) fun q8 h => ?_
 refine kP hC true b12 ?_
 refine kO hT hC ?_
 refine Vc.nil ?_
 exact kM
 iterate 3 refine kF hC b12 ?_
 refine kP hC false b12 ?_
 refine kO hT hC ?_
 refine Vc.nil ?_
 exact kM
 iterate 3 refine kF hC b11 ?_
 refine kP hC false b11 ?_
 refine kO hT hC ?_
 iterate 3 refine kF hC rfl ?_
 iterate 2 refine kO hT hC ?_
 refine Vc.nil ?_
 exact kM
 iterate 3 refine kF hC b10 ?_
 refine kP hC false b10 ?_
 refine kO hT hC ?_
 iterate 3 refine kF hC rfl ?_
 iterate 2 refine kO hT hC ?_
 iterate 3 refine kF hC rfl ?_
 iterate 2 refine kO hT hC ?_
 refine Vc.nil ?_
 exact kM
 refine Xah ?_
 refine Xcr ?_
 refine Xap ?_
 exact kR
 refine kf b9 ?_
 refine Xaf ?_
 refine Xar ?_
 refine Xae ?_
 refine Xac ?_
 refine kO hT hC ?_
 refine Vc.nil ?_
 refine Xah ?_
 exact kR
def Xsp (r : (Xa1 × Xka)) : AV := .agg [.sv (.int .i64 r.1.Kind), .sv (.int .i64 r.1.Mode), .sv (.int .i64 r.1.Dx), .sv (.int .i64 r.1.Dy), .own 16]
def Xso (r : (Xa1 × Xka)) : Xa8 := [(16, .ints .i64 r.1.Levels), (0, .box [.sv (.str r.2.row_), .sv (.int .i64 r.2.at_), .sv (.bool r.2.bad_)])]
theorem Xt4 {p0 p1 r} (h : Xcu p0 p1 = some r) : AC Tryz.prog 120 [.ptr 0 0, .agg [.sv (.bool p1.Key), .sv (.int .i64 p1.Qp), .sv (.bool p1.Large), .sv (.bool p1.Exact)]] [(0, .box [.sv (.str p0.row_), .sv (.int .i64 p0.at_), .sv (.bool p0.bad_)])] (Xsp r) (Xso r) := by
 refine Xag hT Tryz.func120 rfl fun C hC => ?_
 unfold Xcu at h
 refine Xac ?_
 iterate 2 refine kO hT hC ?_
 refine kN ?_
 iterate 3 refine kO hT hC ?_
 refine Vc.nil ?_
 refine kL [0,3,4,5] [0,48,64,80] [_,_,_,_] [_,_,_,_] ?_
 refine kA h (fun v1 => ([], [(0, some (.box [.sv (.str v1.1), .sv (.int .i64 v1.2.1), .sv (.bool v1.2.2.1)])), (80, some (.box [.sv (.int .i64 v1.2.2.2), .sv (.int .i64 0), .sv (.int .i64 0), .sv (.int .i64 0), .sv .nil]))])) (fun v1 h => ?_) fun v1 h => ?_
 refine Xac ?_
 iterate 3 refine kO hT hC ?_
 refine Vc.nil ?_
 refine kS h ?_ ?_ <;> intro b1 h
 refine kt b1 ?_
 refine Xab ?_
 refine kO hT hC ?_
 refine kC hC [(0, 0)] Tryz.call78 h (fun _ => Xcm) fun q2 h => ?_
 iterate 2 refine kO hT hC ?_
 refine Vc.nil ?_
 exact kM
 refine kf b1 ?_
 refine Xaf ?_
 exact kM
 refine kL [0,3,4,5] [0,48,64,80] [_,_,_,_] [_,_,_,_] ?_
 refine kA h (fun v3 => ([(3, .any)], [(0, some (.box [.sv (.str v3.1), .sv (.int .i64 v3.2.1), .sv (.bool v3.2.2.1)])), (80, some (.box [.sv (.int .i64 v1.2.2.2), .sv (.int .i64 v3.2.2.2.1), .sv (.int .i64 v3.2.2.2.2.1), .sv (.int .i64 v3.2.2.2.2.2.1), .own 913])), (913, some (.ints .i64 v3.2.2.2.2.2.2)), (48, none)])) (fun v3 h => ?_) fun v3 h => ?_
 refine Xao ?_
 refine Xac ?_
 iterate 5 refine kO hT hC ?_
 refine Vc.nil ?_
 refine kS h ?_ ?_ <;> intro b2 h
 refine kt b2 ?_
 refine Xaf ?_
 refine Xar ?_
 obtain rfl := kj h
 refine Xdp ?_
 refine Xf7 hC 80 4 914 (.ints .i64 []) rfl rfl rfl rfl rfl trivial ?_
 try dsimp only
 apply Xbz hC [(913, 914)]
 exact co
 rfl
 decide
 rfl
 refine kf b2 ?_
 refine Xac ?_
 iterate 4 refine kO hT hC ?_
 refine Vc.nil ?_
 refine kS h ?_ ?_ <;> intro b3 h
 refine kt b3 ?_
 refine Xac ?_
 refine kO hT hC ?_
 refine kC hC [(0, 0)] Tryz.call117 h (fun _ => Xjq) fun q4 h => ?_
 iterate 2 refine kO hT hC ?_
 refine kN ?_
 refine kO hT hC ?_
 refine kC hC [(0, 0)] Tryz.call117 h (fun _ => Xjq) fun q5 h => ?_
 iterate 2 refine kO hT hC ?_
 refine Vc.nil ?_
 refine Xab ?_
 iterate 2 refine kO hT hC ?_
 refine kC hC [(16, 480), (0, 0)] Tryz.call156 h (fun _ => Xm6) fun q6 h => ?_
 iterate 2 refine kO hT hC ?_
 refine Vc.nil ?_
 refine Xar ?_
 obtain rfl := kj h
 exact Xdp (kW hC [(913, 480)])
 refine kf b3 ?_
 refine Xac ?_
 iterate 4 refine kO hT hC ?_
 refine Vc.nil ?_
 refine kS h ?_ ?_ <;> intro b4 h
 refine kt b4 ?_
 refine Xac ?_
 refine kO hT hC ?_
 refine kC hC [(0, 0)] Tryz.call78 h (fun _ => Xcm) fun q7 h => ?_
 iterate 2 refine kO hT hC ?_
 refine Vc.nil ?_
 refine Xab ?_
 iterate 2 refine kO hT hC ?_
 refine kC hC [(16, 656), (0, 0)] Tryz.call156 h (fun _ => Xm6) fun q8 h => ?_
 iterate 2 refine kO hT hC ?_
 refine Vc.nil ?_
 refine Xar ?_
 obtain rfl := kj h
 exact Xdp (kW hC [(913, 656)])
 refine kf b4 ?_
 refine Xaf ?_
 refine Xar ?_
 obtain rfl := kj h
 refine Xdp ?_
 refine Xf7 hC 80 4 915 (.ints .i64 []) rfl rfl rfl rfl rfl trivial ?_
 try dsimp only
 apply Xbz hC [(913, 915)]
 exact co
 rfl
 decide
 rfl
 refine kL [0,4,5] [0,64,80,913] [_,_,_] [_,_,_,_] ?_
 refine kA h (fun v9 => ([(0, .any)], [(0, some (.box [.sv (.str v3.1), .sv (.int .i64 v3.2.1), .sv (.bool v9)]))])) (fun v9 h => ?_) fun v9 h => ?_
 refine Xab ?_
 iterate 6 refine kO hT hC ?_
 refine kS h ?_ ?_ <;> intro b5 h
 iterate 3 refine kF hC b5 ?_
 refine kP hC true b5 ?_
 iterate 3 refine kO hT hC ?_
 refine Vc.nil ?_
 exact kM
 refine kI hT hC b5 ?_
 refine kE hC b5 [] Tryz.call157 h (fun _ => Xqa) fun q10 h => ?_
 refine kI hT hC b5 ?_
 refine kP hC false b5 ?_
 iterate 3 refine kO hT hC ?_
 refine Vc.nil ?_
 exact kM
 refine Xac ?_
 iterate 2 refine kO hT hC ?_
 refine Vc.nil ?_
 refine Xah ?_
 obtain rfl := kj h
 exact Xbt (τ := ⟨[(4, .ptr 2000000 0)], [(16, some (.ints .i64 v3.2.2.2.2.2.2)), (0, some (.box [.sv (.str v3.1), .sv (.int .i64 v3.2.1), .sv (.bool v9)])), (2000000, some (.box [.sv (.int .i64 v1.2.2.2), .sv (.int .i64 v3.2.2.2.1), .sv (.int .i64 v3.2.2.2.2.1), .sv (.int .i64 v3.2.2.2.2.2.1), .own 16]))]⟩) (kW hC [(16, 913), (2000000, 64)]) rfl ⟨rfl, rfl, trivial⟩
def Xoo (r : ((List Xa1) × Bool)) : AV := .tup [.own 16, .sv (.bool r.2)]
def Xon (r : ((List Xa1) × Bool)) : Xa8 := [(16, .row Xdj r.1)]
theorem Yaa {p0 p1 p2 p3 r} (h : Xji p0 p1 p2 p3 = some r) : AC Tryz.prog 82 [.sv (.str p0), .sv (.int .i64 p1), .sv (.int .i64 p2), .agg [.sv (.bool p3.Key), .sv (.int .i64 p3.Qp), .sv (.bool p3.Large), .sv (.bool p3.Exact)]] [] (Xoo r) (Xon r) := by
 refine Xag hT Tryz.func82 rfl fun C hC => ?_
 unfold Xji at h
 refine Xac ?_
 iterate 3 refine kO hT hC ?_
 refine kN ?_
 iterate 2 refine kO hT hC ?_
 refine kC hC [(16, 224)] Tryz.call77 h (fun _ => Xk8) fun q1 h => ?_
 refine kO hT hC ?_
 refine kN ?_
 iterate 2 refine kO hT hC ?_
 refine Vc.nil ?_
 refine Xaq ?_
 refine kL [0,2,7,10,11] [112,224,240] [_,_,_,_,_] [_,_,_] ?_
 refine kA h (fun v2 => ([(23, .sv (.bool v2))], [])) (fun v2 h => ?_) fun v2 h => ?_
 refine Xab ?_
 refine kO hT hC ?_
 refine kC hC [] Tryz.call64 h (fun _ => Xam) fun q3 h => ?_
 iterate 2 refine kO hT hC ?_
 refine kS h ?_ ?_ <;> intro b1 h
 refine kI hT hC (kn b1) ?_
 refine kE hC (kn b1) [] Tryz.call119 h (fun _ => Xk5) fun q4 h => ?_
 refine kI hT hC (kn b1) ?_
 refine kP hC false (kn b1) ?_
 refine Vc.nil ?_
 exact kM
 iterate 3 refine kF hC (kn b1) ?_
 refine kP hC true (kn b1) ?_
 refine Vc.nil ?_
 exact kM
 refine kS h ?_ ?_ <;> intro b2 h
 refine kt b2 ?_
 refine Xac ?_
 iterate 3 refine kO hT hC ?_
 refine Vc.nil ?_
 refine Xah ?_
 refine Xap ?_
 obtain rfl := kj h
 exact Xbt (τ := ⟨[(8, .own 16), (9, .sv (.bool false))], [(16, some (.row Xdj ([] : List Xa1)))]⟩) (kW hC [(16, 240)]) rfl ⟨rfl, trivial⟩
 refine kf b2 ?_
 refine Xaf ?_
 refine Xae ?_
 refine Xaq ?_
 refine Xac ?_
 iterate 2 refine kO hT hC ?_
 refine Vc.nil ?_
 refine kL [0,7,10,11,25,26] [112,224,240] [_,_,_,_,_,_] [_,_,_] ?_
 obtain ⟨o12, hl, h⟩ := Xba h
 refine Xd8 (fun v7 => ([(26, .sv (.int .i64 v7.1))], [(224, some (.box [.sv (.str v7.2.1), .sv (.int .i64 v7.2.2.1), .sv (.bool v7.2.2.2.1)])), (240, some (.row Xdj v7.2.2.2.2))])) (fun v10 => ([(7, .any), (25, .any), (26, .any)], [(224, some (.box [.sv (.str v10.1), .sv (.int .i64 v10.2.1), .sv (.bool v10.2.2.1)])), (240, some (.row Xdj v10.2.2.2)), (112, none)])) (fun r => Xl1 C T Tryz.f82.results.toList (Xoo r) (Xon r)) hl ?_ ?_ ?_ ?_
 try dsimp only
 apply Xbz hC []
 exact co
 rfl
 decide
 rfl
 intro v7 s hs
 have h := hs
 unfold Xbc at h
 refine Xac ?_
 refine kO hT hC ?_
 refine Vc.nil ?_
 refine Xaq ?_
 refine kS h ?_ ?_ <;> intro b7 h
 refine kt b7 ?_
 refine Xaf ?_
 refine Xae ?_
 refine Xaq ?_
 refine Xao ?_
 refine Xac ?_
 iterate 3 refine kO hT hC ?_
 refine kC hC [(16, 496), (0, 224)] Tryz.call120 h (fun _ => Xt4) fun q11 h => ?_
 refine kO hT hC ?_
 obtain ⟨hq, h⟩ := Xa5 h
 refine Xw3 hT hC rfl rfl rfl rfl ⟨fun _ _ => rfl, by rw [Xr0]; exact hq⟩ ?_
 rw [Xr0]
 refine kO hT hC ?_
 refine kN ?_
 iterate 4 refine kO hT hC ?_
 refine Vc.nil ?_
 refine kS h ?_ ?_ <;> intro b8 h
 refine kt b8 ?_
 refine Xac ?_
 iterate 3 refine kO hT hC ?_
 refine Vc.nil ?_
 refine Xah ?_
 refine Xcr ?_
 refine Xap ?_
 obtain rfl := kj h
 refine Xku ?_
 refine Xkr ?_
 refine Xbt (τ := ⟨[(8, .own 16), (9, .sv (.bool false))], [(16, some (.row Xdj ([] : List Xa1)))]⟩) ?_ rfl ⟨rfl, trivial⟩
 apply Xbz hC [(16, 608)]
 exact co
 rfl
 decide
 rfl
 refine kf b8 ?_
 refine Xaf ?_
 refine Xar ?_
 refine Xae ?_
 refine Xab ?_
 iterate 2 refine kO hT hC ?_
 refine Vc.nil ?_
 obtain rfl := kj h
 exact Ya8 (kW hC [(240, 528)])
 refine kf b7 ?_
 refine Xas ?_
 refine Xaz ?_
 exact kb
 intro v10 e
 subst e
 refine Xae ?_
 refine Xaq ?_
 refine Xac ?_
 iterate 7 refine kO hT hC ?_
 refine Vc.nil ?_
 refine kS h ?_ ?_ <;> intro b9 h
 refine kt b9 ?_
 refine Xac ?_
 iterate 3 refine kO hT hC ?_
 refine Vc.nil ?_
 refine Xah ?_
 refine Xap ?_
 obtain rfl := kj h
 exact Xbt (τ := ⟨[(8, .own 16), (9, .sv (.bool false))], [(16, some (.row Xdj ([] : List Xa1)))]⟩) (kW hC [(16, 752)]) rfl ⟨rfl, trivial⟩
 refine kf b9 ?_
 refine Xaf ?_
 refine Xae ?_
 refine Xac ?_
 iterate 3 refine kO hT hC ?_
 refine Vc.nil ?_
 refine Xah ?_
 obtain rfl := kj h
 exact Xbt (τ := ⟨[(8, .own 16), (9, .sv (.bool true))], [(16, some (.row Xdj v10.2.2.2))]⟩) (kW hC [(16, 240)]) rfl ⟨rfl, trivial⟩
 intro r' σ' e hE
 subst e
 obtain rfl := kj h
 refine Xap ?_
 exact hE
def Yes (r : Bool) : AV := .sv (.bool r)
def Yer (r : Bool) : Xa8 := []
theorem Xs3 {p0 r} (h : Xkk p0 = some r) : AC Tryz.prog 122 [.sv (.int .i64 p0)] [] (Yes r) (Yer r) := by
 refine Xag hT Tryz.func122 rfl fun C hC => ?_
 unfold Xkk at h
 refine Xac ?_
 refine kO hT hC ?_
 refine Vc.nil ?_
 refine kL [0,2] [] [_,_] [] ?_
 refine kA h (fun v1 => ([(2, .sv (.bool v1)), (0, .any)], [])) (fun v1 h => ?_) fun v1 h => ?_
 refine Xab ?_
 refine kO hT hC ?_
 refine kQ hT hC h fun h => ?_
 iterate 2 refine kO hT hC ?_
 refine kS h ?_ ?_ <;> intro b1 h
 refine kI hT hC b1 ?_
 refine kE hC b1 [] Tryz.call64 h (fun _ => Xam) fun q2 h => ?_
 refine kP hC true b1 ?_
 refine kO hT hC ?_
 refine Vc.nil ?_
 exact kM
 iterate 2 refine kF hC b1 ?_
 refine kP hC false b1 ?_
 refine kO hT hC ?_
 refine Vc.nil ?_
 exact kM
 refine Xah ?_
 exact kR
def Xve (r : Bool) : AV := .sv (.bool r)
def Xvd (r : Bool) : Xa8 := []
theorem Xke {p0 p1 r} (h : Xdw p0 p1 = some r) : AC Tryz.prog 123 [.agg [.sv (.int .i64 p0.Wide), .sv (.int .i64 p0.High), .sv (.str p0.Dots)], .agg [.sv (.int .i64 p1.Left), .sv (.int .i64 p1.Top), .sv (.int .i64 p1.Wide), .sv (.int .i64 p1.High)]] [] (Xve r) (Xvd r) := by
 refine Xag hT Tryz.func123 rfl fun C hC => ?_
 unfold Xdw at h
 refine Xac ?_
 iterate 3 refine kO hT hC ?_
 refine Vc.nil ?_
 refine kL [2,3,4] [32,48] [_,_,_] [_,_] ?_
 refine kA h (fun v1 => ([(4, .sv (.bool v1)), (2, .any), (3, .any)], [(32, none), (48, none)])) (fun v1 h => ?_) fun v1 h => ?_
 refine Xab ?_
 iterate 4 refine kO hT hC ?_
 refine kC hC [] Tryz.call64 h (fun _ => Xam) fun q2 h => ?_
 refine kO hT hC ?_
 refine kS h ?_ ?_ <;> intro b1 h
 iterate 4 refine kI hT hC b1 ?_
 refine kE hC b1 [] Tryz.call64 h (fun _ => Xam) fun q3 h => ?_
 refine kP hC true b1 ?_
 refine kO hT hC ?_
 refine kS h ?_ ?_ <;> intro b2 h
 iterate 7 refine kI hT hC b2 ?_
 refine kE hC b2 [] Tryz.call64 h (fun _ => Xam) fun q4 h => ?_
 refine kP hC true b2 ?_
 refine kO hT hC ?_
 refine kS h ?_ ?_ <;> intro b3 h
 iterate 7 refine kI hT hC b3 ?_
 refine kE hC b3 [] Tryz.call64 h (fun _ => Xam) fun q5 h => ?_
 refine kP hC true b3 ?_
 refine kO hT hC ?_
 refine Vc.nil ?_
 exact kM
 iterate 8 refine kF hC b3 ?_
 refine kP hC false b3 ?_
 refine kO hT hC ?_
 refine Vc.nil ?_
 exact kM
 iterate 8 refine kF hC b2 ?_
 refine kP hC false b2 ?_
 refine kO hT hC ?_
 iterate 8 refine kF hC rfl ?_
 iterate 2 refine kO hT hC ?_
 refine Vc.nil ?_
 exact kM
 iterate 5 refine kF hC b1 ?_
 refine kP hC false b1 ?_
 refine kO hT hC ?_
 iterate 8 refine kF hC rfl ?_
 iterate 2 refine kO hT hC ?_
 iterate 8 refine kF hC rfl ?_
 iterate 2 refine kO hT hC ?_
 refine Vc.nil ?_
 exact kM
 refine Xah ?_
 exact kR
def Yhp (r : (Pic × Bool)) : AV := .tup [.agg [.sv (.int .i64 r.1.Wide), .sv (.int .i64 r.1.High), .sv (.str r.1.Dots)], .sv (.bool r.2)]
def Yho (r : (Pic × Bool)) : Xa8 := []
theorem Yk1 {p0 p1 r} (h : Xmt p0 p1 = some r) : AC Tryz.prog 124 [.agg [.sv (.int .i64 p0.Wide), .sv (.int .i64 p0.High), .sv (.str p0.Dots)], .agg [.sv (.int .i64 p1.Left), .sv (.int .i64 p1.Top), .sv (.int .i64 p1.Wide), .sv (.int .i64 p1.High)]] [] (Yhp r) (Yho r) := by
 refine Xag hT Tryz.func124 rfl fun C hC => ?_
 unfold Xmt at h
 refine Xac ?_
 iterate 4 refine kO hT hC ?_
 refine Vc.nil ?_
 refine Xaq ?_
 refine kL [2,3,4] [32,48,64] [_,_,_] [_,_,_] ?_
 refine kA h (fun v1 => ([(16, .sv (.bool v1))], [])) (fun v1 h => ?_) fun v1 h => ?_
 refine Xab ?_
 refine kO hT hC ?_
 refine kC hC [] Tryz.call55 h (fun _ => Xdr) fun q2 h => ?_
 iterate 2 refine kO hT hC ?_
 refine kS h ?_ ?_ <;> intro b1 h
 iterate 2 refine kI hT hC (kn b1) ?_
 refine kE hC (kn b1) [] Tryz.call123 h (fun _ => Xke) fun q3 h => ?_
 refine kI hT hC (kn b1) ?_
 refine kP hC false (kn b1) ?_
 refine Vc.nil ?_
 exact kM
 iterate 4 refine kF hC (kn b1) ?_
 refine kP hC true (kn b1) ?_
 refine Vc.nil ?_
 exact kM
 refine kS h ?_ ?_ <;> intro b2 h
 refine kt b2 ?_
 refine Xac ?_
 iterate 3 refine kO hT hC ?_
 refine Vc.nil ?_
 refine Xah ?_
 refine Xap ?_
 exact kR
 refine kf b2 ?_
 refine Xaf ?_
 refine Xae ?_
 refine Xac ?_
 iterate 5 refine kO hT hC ?_
 obtain ⟨hq, h⟩ := Xa5 h
 refine Xw3 hT hC rfl rfl rfl rfl ⟨hq.1, hq.2.1, hq.2.2, by decide⟩ ?_
 refine kO hT hC ?_
 refine Vc.nil ?_
 refine Xaq ?_
 refine Xac ?_
 iterate 3 refine kO hT hC ?_
 refine Vc.nil ?_
 refine kL [2,3,4,6,7] [32,48,64,368] [_,_,_,_,_] [_,_,_,_] ?_
 refine kX h (fun v5 => ([(7, .sv (.int .i64 v5.1))], [(368, some (.ints .u8 v5.2))])) (fun v7 => ([(2, .any), (7, .any)], [(368, some (.ints .u8 v7)), (32, none)])) (kW hC []) (fun v5 s h => ?_) fun v7 h => ?_
 unfold Xpo at h
 refine Xaq ?_
 refine Xac ?_
 iterate 7 refine kO hT hC ?_
 refine Vc.nil ?_
 refine kS h ?_ ?_ <;> intro b5 h
 refine kt b5 ?_
 refine Xaf ?_
 refine Xae ?_
 refine Xaq ?_
 refine Xao ?_
 refine Xab ?_
 iterate 20 refine kO hT hC ?_
 refine kQ hT hC h fun h => ?_
 refine kT hT hC h fun h => ?_
 refine kO hT hC ?_
 refine Vc.nil ?_
 refine Xar ?_
 refine Xae ?_
 refine Xab ?_
 iterate 3 refine kO hT hC ?_
 refine Vc.nil ?_
 obtain rfl := kj h
 exact Ya8 (kW hC [(368, 896)])
 refine kf b5 ?_
 refine Xas ?_
 refine Xaz ?_
 exact ku
 refine Xae ?_
 refine Xac ?_
 iterate 9 refine kO hT hC ?_
 refine Vc.nil ?_
 refine Xah ?_
 exact kR
def Yk6 (r : Pic) : AV := .agg [.sv (.int .i64 r.Wide), .sv (.int .i64 r.High), .sv (.str r.Dots)]
def Yk5 (r : Pic) : Xa8 := []
theorem Xzd {p0 p1 r} (h : Xmz p0 p1 = some r) : AC Tryz.prog 86 [.sv (.int .i64 p0), .sv (.int .i64 p1)] [] (Yk6 r) (Yk5 r) := by
 refine Xag hT Tryz.func86 rfl fun C hC => ?_
 unfold Xmz at h
 refine Xac ?_
 refine kO hT hC ?_
 refine Vc.nil ?_
 refine Xaq ?_
 refine kL [0,1,4] [64] [_,_,_] [_] ?_
 refine kA h (fun v1 => ([(14, .sv (.bool v1))], [])) (fun v1 h => ?_) fun v1 h => ?_
 refine Xab ?_
 refine kO hT hC ?_
 refine kC hC [] Tryz.call64 h (fun _ => Xam) fun q2 h => ?_
 iterate 2 refine kO hT hC ?_
 refine kS h ?_ ?_ <;> intro b1 h
 refine kI hT hC (kn b1) ?_
 refine kE hC (kn b1) [] Tryz.call64 h (fun _ => Xam) fun q3 h => ?_
 refine kI hT hC (kn b1) ?_
 refine kP hC false (kn b1) ?_
 refine Vc.nil ?_
 exact kM
 iterate 3 refine kF hC (kn b1) ?_
 refine kP hC true (kn b1) ?_
 refine Vc.nil ?_
 exact kM
 refine kS h ?_ ?_ <;> intro b2 h
 refine kt b2 ?_
 refine Xac ?_
 iterate 2 refine kO hT hC ?_
 refine Vc.nil ?_
 refine Xah ?_
 refine Xap ?_
 exact kR
 refine kf b2 ?_
 refine Xaf ?_
 refine Xae ?_
 refine Xac ?_
 iterate 3 refine kO hT hC ?_
 obtain ⟨hq, h⟩ := Xa5 h
 refine Xw3 hT hC rfl rfl rfl rfl ⟨hq.1, hq.2.1, hq.2.2, by decide⟩ ?_
 refine kO hT hC ?_
 refine Vc.nil ?_
 refine Xaq ?_
 refine Xac ?_
 iterate 3 refine kO hT hC ?_
 refine Vc.nil ?_
 refine kL [0,1,4,5,21,22] [64,304] [_,_,_,_,_,_] [_,_] ?_
 refine kX h (fun v5 => ([(22, .sv (.int .i64 v5.1))], [(304, some (.ints .u8 v5.2))])) (fun v7 => ([(21, .any), (22, .any)], [(304, some (.ints .u8 v7))])) (kW hC []) (fun v5 s h => ?_) fun v7 h => ?_
 unfold Xlj at h
 refine Xac ?_
 refine kO hT hC ?_
 refine Vc.nil ?_
 refine Xaq ?_
 refine kS h ?_ ?_ <;> intro b5 h
 refine kt b5 ?_
 refine Xaf ?_
 refine Xae ?_
 refine Xaq ?_
 refine Xao ?_
 refine Xac ?_
 iterate 2 refine kO hT hC ?_
 refine Vc.nil ?_
 refine Xab ?_
 iterate 2 refine kO hT hC ?_
 iterate 2 refine kQ hT hC h fun h => ?_
 refine Vc.nil ?_
 refine Xar ?_
 refine Xae ?_
 refine Xab ?_
 iterate 2 refine kO hT hC ?_
 refine Vc.nil ?_
 exact kG
 refine kf b5 ?_
 refine Xas ?_
 refine Xaz ?_
 exact ku
 refine Xae ?_
 refine Xac ?_
 iterate 6 refine kO hT hC ?_
 refine Vc.nil ?_
 refine Xah ?_
 exact kR
def Xq5 (r : Bool) : AV := .sv (.bool r)
def Xq4 (r : Bool) : Xa8 := []
theorem Xmb {p0 p1 p2 r} (h : Xc1 p0 p1 p2 = some r) : AC Tryz.prog 158 [.agg [.sv (.int .i64 p0.Wide), .sv (.int .i64 p0.High), .sv (.str p0.Dots)], .sv (.int .i64 p1), .sv (.int .i64 p2)] [] (Xq5 r) (Xq4 r) := by
 refine Xag hT Tryz.func158 rfl fun C hC => ?_
 unfold Xc1 at h
 refine Xac ?_
 iterate 2 refine kO hT hC ?_
 refine Vc.nil ?_
 refine kL [1,2,3,6] [48] [_,_,_,_] [_] ?_
 refine kA h (fun v1 => ([(6, .sv (.bool v1)), (1, .any), (2, .any), (3, .any)], [(48, none)])) (fun v1 h => ?_) fun v1 h => ?_
 refine Xab ?_
 refine kO hT hC ?_
 refine kQ hT hC h fun h => ?_
 iterate 2 refine kO hT hC ?_
 refine kS h ?_ ?_ <;> intro b1 h
 refine kI hT hC b1 ?_
 refine kJ hT hC b1 h fun h => ?_
 refine kI hT hC b1 ?_
 refine kP hC true b1 ?_
 refine kO hT hC ?_
 refine kS h ?_ ?_ <;> intro b2 h
 iterate 4 refine kI hT hC b2 ?_
 refine kE hC b2 [] Tryz.call64 h (fun _ => Xam) fun q2 h => ?_
 refine kP hC true b2 ?_
 refine kO hT hC ?_
 refine kS h ?_ ?_ <;> intro b3 h
 iterate 4 refine kI hT hC b3 ?_
 refine kE hC b3 [] Tryz.call64 h (fun _ => Xam) fun q3 h => ?_
 refine kP hC true b3 ?_
 refine kO hT hC ?_
 refine Vc.nil ?_
 exact kM
 iterate 5 refine kF hC b3 ?_
 refine kP hC false b3 ?_
 refine kO hT hC ?_
 refine Vc.nil ?_
 exact kM
 iterate 5 refine kF hC b2 ?_
 refine kP hC false b2 ?_
 refine kO hT hC ?_
 iterate 5 refine kF hC rfl ?_
 iterate 2 refine kO hT hC ?_
 refine Vc.nil ?_
 exact kM
 iterate 3 refine kF hC b1 ?_
 refine kP hC false b1 ?_
 refine kO hT hC ?_
 iterate 5 refine kF hC rfl ?_
 iterate 2 refine kO hT hC ?_
 iterate 5 refine kF hC rfl ?_
 iterate 2 refine kO hT hC ?_
 refine Vc.nil ?_
 exact kM
 refine Xah ?_
 exact kR
def Xt2 (r : Bool) : AV := .sv (.bool r)
def Xt1 (r : Bool) : Xa8 := []
theorem Xvi {p0 p1 r} (h : Xgo p0 p1 = some r) : AC Tryz.prog 159 [.agg [.sv (.int .i64 p0.Kind), .sv (.int .i64 p0.Mode), .sv (.int .i64 p0.Dx), .sv (.int .i64 p0.Dy), .sv (.ints .i64 p0.Levels)], .agg [.sv (.bool p1.Key), .sv (.int .i64 p1.Qp), .sv (.bool p1.Large), .sv (.bool p1.Exact)]] [] (Xt2 r) (Xt1 r) := by
 refine Xag hT Tryz.func159 rfl fun C hC => ?_
 unfold Xgo at h
 refine Xac ?_
 iterate 3 refine kO hT hC ?_
 refine Vc.nil ?_
 refine kL [2,3,4] [32,48] [_,_,_] [_,_] ?_
 refine kA h (fun v1 => ([(4, .sv (.bool v1)), (2, .any), (3, .any)], [(32, none), (48, none)])) (fun v1 h => ?_) fun v1 h => ?_
 refine Xab ?_
 iterate 4 refine kO hT hC ?_
 refine kS h ?_ ?_ <;> intro b1 h
 iterate 3 refine kI hT hC (kn b1) ?_
 refine kP hC false (kn b1) ?_
 refine kO hT hC ?_
 refine Vc.nil ?_
 exact kM
 iterate 3 refine kF hC (kn b1) ?_
 refine kP hC true (kn b1) ?_
 refine kO hT hC ?_
 refine Vc.nil ?_
 exact kM
 refine Xah ?_
 exact kR
def Xzs (r : Int) : AV := .sv (.int .i64 r)
def Xzr (r : Int) : Xa8 := []
theorem Xjd {p0 p1 p2 r} (h : Xeh p0 p1 p2 = some r) : AC Tryz.prog 193 [.sv (.int .i64 p0), .sv (.int .i64 p1), .sv (.int .i64 p2)] [] (Xzs r) (Xzr r) := by
 refine Xag hT Tryz.func193 rfl fun C hC => ?_
 unfold Xeh at h
 refine Xac ?_
 refine kO hT hC ?_
 refine kN ?_
 iterate 6 refine kO hT hC ?_
 refine Vc.nil ?_
 refine Xah ?_
 exact kR
def Xz4 (r : Int) : AV := .sv (.int .i64 r)
def Xz3 (r : Int) : Xa8 := []
theorem Xjh {p0 p1 p2 r} (h : Xel p0 p1 p2 = some r) : AC Tryz.prog 185 [.agg [.sv (.int .i64 p0.Wide), .sv (.int .i64 p0.High), .sv (.str p0.Dots)], .sv (.int .i64 p1), .sv (.int .i64 p2)] [] (Xz4 r) (Xz3 r) := by
 refine Xag hT Tryz.func185 rfl fun C hC => ?_
 unfold Xel at h
 refine Xac ?_
 iterate 2 refine kO hT hC ?_
 refine Vc.nil ?_
 refine Xd7 hm ?_
 iterate 6 refine kO hT hC ?_
 refine kC hC [] Tryz.call193 h (fun _ => Xjd) fun q1 h => ?_
 iterate 7 refine kO hT hC ?_
 refine kC hC [] Tryz.call193 h (fun _ => Xjd) fun q2 h => ?_
 refine kO hT hC ?_
 refine kQ hT hC h fun h => ?_
 iterate 2 refine kO hT hC ?_
 refine kD ?_
 refine Xah ?_
 exact kR
def Xvc (r : (List Int)) : AV := .own 16
def Xvb (r : (List Int)) : Xa8 := [(16, .ints .i64 r)]
theorem Xom {p0 p1 p2 r} (h : Xga p0 p1 p2 = some r) : AC Tryz.prog 160 [.agg [.sv (.int .i64 p0.Wide), .sv (.int .i64 p0.High), .sv (.str p0.Dots)], .sv (.int .i64 p1), .sv (.int .i64 p2)] [] (Xvc r) (Xvb r) := by
 refine Xag hT Tryz.func160 rfl fun C hC => ?_
 unfold Xga at h
 refine Xac ?_
 iterate 2 refine kO hT hC ?_
 refine kN ?_
 obtain ⟨hq, h⟩ := Xa5 h
 refine Xw3 hT hC rfl rfl rfl rfl ⟨hq.1, hq.2.1, hq.2.2, by decide⟩ ?_
 refine kO hT hC ?_
 refine Vc.nil ?_
 refine Xaq ?_
 refine Xac ?_
 refine kO hT hC ?_
 refine Vc.nil ?_
 refine kL [1,2,3,7,11] [48,160] [_,_,_,_,_] [_,_] ?_
 refine kX h (fun v10 => ([(11, .sv (.int .i64 v10.1))], [(160, some (.ints .i64 v10.2))])) (fun v20 => ([(1, .any), (2, .any), (3, .any), (11, .any)], [(160, some (.ints .i64 v20)), (48, none)])) (kW hC []) (fun v10 s h => ?_) fun v20 h => ?_
 unfold Xej at h
 refine Xac ?_
 refine kO hT hC ?_
 refine Vc.nil ?_
 refine Xaq ?_
 refine kS h ?_ ?_ <;> intro b9 h
 refine kt b9 ?_
 refine Xaf ?_
 refine Xae ?_
 refine Xaq ?_
 refine Xao ?_
 refine Xac ?_
 iterate 2 refine kO hT hC ?_
 refine kN ?_
 refine kO hT hC ?_
 refine Vc.nil ?_
 refine kL [1,2,3,7,8,11,14] [48,160] [_,_,_,_,_,_,_] [_,_] ?_
 refine kX h (fun v23 => ([(14, .sv (.int .i64 v23.1))], [(160, some (.ints .i64 v23.2))])) (fun v26 => ([(8, .any), (14, .any)], [(160, some (.ints .i64 v26))])) (kW hC []) (fun v23 s h => ?_) fun v26 h => ?_
 unfold Xek at h
 refine Xac ?_
 refine kO hT hC ?_
 refine Vc.nil ?_
 refine Xaq ?_
 refine kS h ?_ ?_ <;> intro b12 h
 refine kt b12 ?_
 refine Xaf ?_
 refine Xae ?_
 refine Xaq ?_
 refine Xao ?_
 refine Xac ?_
 iterate 2 refine kO hT hC ?_
 refine Vc.nil ?_
 refine Xab ?_
 iterate 8 refine kO hT hC ?_
 refine kC hC [] Tryz.call185 h (fun _ => Xjh) fun q27 h => ?_
 refine kO hT hC ?_
 refine kT hT hC h fun h => ?_
 refine kO hT hC ?_
 refine Vc.nil ?_
 refine Xar ?_
 refine Xae ?_
 refine Xab ?_
 iterate 2 refine kO hT hC ?_
 refine Vc.nil ?_
 obtain rfl := kj h
 exact Ya8 (kW hC [(160, 432)])
 refine kf b12 ?_
 refine Xas ?_
 refine Xaz ?_
 exact ku
 refine Xar ?_
 refine Xae ?_
 refine Xab ?_
 iterate 2 refine kO hT hC ?_
 refine Vc.nil ?_
 exact kG
 refine kf b9 ?_
 refine Xas ?_
 refine Xaz ?_
 exact ku
 refine Xae ?_
 refine Xac ?_
 iterate 2 refine kO hT hC ?_
 refine Vc.nil ?_
 refine Xah ?_
 obtain rfl := kj h
 exact Xbt (τ := ⟨[(6, .own 16)], [(16, some (.ints .i64 v20))]⟩) (kW hC [(16, 160)]) rfl ⟨rfl, trivial⟩
def Xvr (r : (List Int)) : AV := .own 16
def Xvq (r : (List Int)) : Xa8 := [(16, .ints .i64 r)]
theorem Xxw {p0 r} (h : Xh8 p0 = some r) : AC Tryz.prog 212 [.sv (.int .i64 p0)] [] (Xvr r) (Xvq r) := by
 refine Xag hT Tryz.func212 rfl fun C hC => ?_
 unfold Xh8 at h
 refine Xac ?_
 refine kO hT hC ?_
 refine kN ?_
 iterate 2 refine kO hT hC ?_
 refine Vc.nil ?_
 refine Xaq ?_
 refine Xac ?_
 refine kO hT hC ?_
 refine Vc.nil ?_
 refine kL [0,3,4] [128] [_,_,_] [_] ?_
 refine kX h (fun v16 => ([(4, .sv (.int .i64 v16.1))], [(128, some (.ints .i64 v16.2))])) (fun v32 => ([(0, .any), (4, .any)], [(128, some (.ints .i64 v32))])) (kW hC []) (fun v16 s h => ?_) fun v32 h => ?_
 unfold Xgj at h
 refine Xaq ?_
 refine Xac ?_
 iterate 5 refine kO hT hC ?_
 refine Vc.nil ?_
 refine kS h ?_ ?_ <;> intro b27 h
 refine kt b27 ?_
 refine Xaf ?_
 refine Xae ?_
 refine Xaq ?_
 refine Xao ?_
 refine Xac ?_
 refine kO hT hC ?_
 refine Vc.nil ?_
 refine kL [0,3,4,5] [128] [_,_,_,_] [_] ?_
 refine kX h (fun v37 => ([(5, .sv (.int .i64 v37.1))], [(128, some (.ints .i64 v37.2))])) (fun v42 => ([(5, .any)], [(128, some (.ints .i64 v42))])) (kW hC []) (fun v37 s h => ?_) fun v42 h => ?_
 unfold Xjp at h
 refine Xaq ?_
 refine Xac ?_
 iterate 3 refine kO hT hC ?_
 refine Vc.nil ?_
 refine kS h ?_ ?_ <;> intro b36 h
 refine kt b36 ?_
 refine Xaf ?_
 refine Xae ?_
 refine kL [0,3,4,5] [128] [_,_,_,_] [_] ?_
 refine kA h (fun v43 => ([], [(128, some (.ints .i64 v43))])) (fun v43 h => ?_) fun v43 h => ?_
 refine Xao ?_
 refine Xac ?_
 iterate 2 refine kO hT hC ?_
 refine Vc.nil ?_
 refine kL [0,3,4,5,6] [128] [_,_,_,_,_] [_] ?_
 refine kA h (fun v44 => ([(6, .sv (.int .i64 v44))], [])) (fun v44 h => ?_) fun v44 h => ?_
 refine Xac ?_
 refine kO hT hC ?_
 refine kQ hT hC h fun h => ?_
 refine kO hT hC ?_
 refine Vc.nil ?_
 refine kS h ?_ ?_ <;> intro b37 h
 refine kt b37 ?_
 refine Xab ?_
 iterate 4 refine kO hT hC ?_
 refine Vc.nil ?_
 exact kM
 refine kf b37 ?_
 refine Xaf ?_
 exact kM
 refine Xac ?_
 iterate 4 refine kO hT hC ?_
 refine Vc.nil ?_
 refine kL [0,3,4,5,6,7] [128] [_,_,_,_,_,_] [_] ?_
 refine kA h (fun v45 => ([(38, .sv (.bool v45))], [])) (fun v45 h => ?_) fun v45 h => ?_
 refine Xab ?_
 iterate 4 refine kO hT hC ?_
 refine kS h ?_ ?_ <;> intro b38 h
 iterate 3 refine kI hT hC b38 ?_
 refine kP hC true b38 ?_
 refine Vc.nil ?_
 exact kM
 iterate 3 refine kF hC b38 ?_
 refine kP hC false b38 ?_
 refine Vc.nil ?_
 exact kM
 refine kS h ?_ ?_ <;> intro b39 h
 refine kt b39 ?_
 refine Xab ?_
 iterate 7 refine kO hT hC ?_
 refine kT hT hC h fun h => ?_
 refine kO hT hC ?_
 refine Vc.nil ?_
 refine Xar ?_
 obtain rfl := kj h
 exact Xdp (kW hC [(128, 736)])
 refine kf b39 ?_
 refine Xaf ?_
 refine Xar ?_
 exact kM
 refine Xab ?_
 iterate 3 refine kO hT hC ?_
 refine Vc.nil ?_
 exact kG
 refine kf b36 ?_
 refine Xas ?_
 refine Xaz ?_
 exact ku
 refine Xar ?_
 refine Xae ?_
 refine Xab ?_
 iterate 3 refine kO hT hC ?_
 refine Vc.nil ?_
 exact kG
 refine kf b27 ?_
 refine Xas ?_
 refine Xaz ?_
 exact ku
 refine Xae ?_
 refine Xac ?_
 iterate 2 refine kO hT hC ?_
 refine Vc.nil ?_
 refine Xah ?_
 obtain rfl := kj h
 exact Xbt (τ := ⟨[(2, .own 16)], [(16, some (.ints .i64 v32))]⟩) (kW hC [(16, 128)]) rfl ⟨rfl, trivial⟩
def Xvm (r : ((List Int) × Bool)) : AV := .tup [.own 16, .sv (.bool r.2)]
def Xvl (r : ((List Int) × Bool)) : Xa8 := [(16, .ints .i64 r.1)]
theorem Xki {p0 p1 r} (h : Xev p0 p1 = some r) : AC Tryz.prog 186 [.sv (.int .i64 p0), .sv (.ints .i64 p1)] [] (Xvm r) (Xvl r) := by
 refine Xag hT Tryz.func186 rfl fun C hC => ?_
 unfold Xev at h
 refine Xac ?_
 iterate 2 refine kO hT hC ?_
 refine Vc.nil ?_
 refine Xaq ?_
 refine kL [0,1] [] [_,_] [] ?_
 refine kA h (fun v1 => ([(22, .sv (.bool v1))], [])) (fun v1 h => ?_) fun v1 h => ?_
 refine Xab ?_
 iterate 3 refine kO hT hC ?_
 refine kS h ?_ ?_ <;> intro b1 h
 iterate 2 refine kI hT hC b1 ?_
 refine kP hC true b1 ?_
 refine kO hT hC ?_
 refine kS h ?_ ?_ <;> intro b2 h
 iterate 6 refine kF hC b2 ?_
 refine kP hC true b2 ?_
 refine Vc.nil ?_
 exact kM
 iterate 6 refine kI hT hC b2 ?_
 refine kP hC false b2 ?_
 refine Vc.nil ?_
 exact kM
 iterate 2 refine kF hC b1 ?_
 refine kP hC false b1 ?_
 refine kO hT hC ?_
 iterate 6 refine kI hT hC rfl ?_
 refine kO hT hC ?_
 refine Vc.nil ?_
 exact kM
 refine kS h ?_ ?_ <;> intro b3 h
 refine kt b3 ?_
 refine Xac ?_
 iterate 3 refine kO hT hC ?_
 refine Vc.nil ?_
 refine Xah ?_
 refine Xap ?_
 obtain rfl := kj h
 exact Xbt (τ := ⟨[(4, .own 16), (5, .sv (.bool false))], [(16, some (.ints .i64 ([] : List Int)))]⟩) (kW hC [(16, 368)]) rfl ⟨rfl, trivial⟩
 refine kf b3 ?_
 refine Xaf ?_
 refine Xae ?_
 refine Xac ?_
 iterate 2 refine kO hT hC ?_
 obtain ⟨hq, h⟩ := Xa5 h
 refine Xw3 hT hC rfl rfl rfl rfl ⟨hq.1, hq.2.1, hq.2.2, by decide⟩ ?_
 refine kO hT hC ?_
 refine Vc.nil ?_
 refine Xaq ?_
 refine Xac ?_
 refine kO hT hC ?_
 refine kC hC [(16, 448)] Tryz.call212 h (fun _ => Xxw) fun q2 h => ?_
 iterate 2 refine kO hT hC ?_
 refine Vc.nil ?_
 refine kL [1,6,28,29,30] [416,448] [_,_,_,_,_] [_,_] ?_
 refine kX h (fun v4 => ([(30, .sv (.int .i64 v4.1))], [(416, some (.ints .i64 v4.2))])) (fun v6 => ([(1, .any), (28, .any), (29, .any), (30, .any)], [(416, some (.ints .i64 v6)), (448, none)])) (kW hC []) (fun v4 s h => ?_) fun v6 h => ?_
 unfold Xhi at h
 refine Xac ?_
 refine kO hT hC ?_
 refine Vc.nil ?_
 refine Xaq ?_
 refine kS h ?_ ?_ <;> intro b6 h
 refine kt b6 ?_
 refine Xaf ?_
 refine Xae ?_
 refine Xaq ?_
 refine Xao ?_
 refine Xac ?_
 refine kO hT hC ?_
 iterate 2 refine kQ hT hC h fun h => ?_
 iterate 2 refine kO hT hC ?_
 refine Vc.nil ?_
 refine Xab ?_
 iterate 4 refine kO hT hC ?_
 refine kQ hT hC h fun h => ?_
 refine kO hT hC ?_
 iterate 2 refine kQ hT hC h fun h => ?_
 refine Vc.nil ?_
 refine Xar ?_
 refine Xae ?_
 refine Xab ?_
 iterate 2 refine kO hT hC ?_
 refine Vc.nil ?_
 exact kG
 refine kf b6 ?_
 refine Xas ?_
 refine Xaz ?_
 exact ku
 refine Xae ?_
 refine Xac ?_
 iterate 3 refine kO hT hC ?_
 refine Vc.nil ?_
 refine Xah ?_
 obtain rfl := kj h
 exact Xbt (τ := ⟨[(4, .own 16), (5, .sv (.bool true))], [(16, some (.ints .i64 v6))]⟩) (kW hC [(16, 416)]) rfl ⟨rfl, trivial⟩
def Yef (r : Int) : AV := .sv (.int .i64 r)
def Yee (r : Int) : Xa8 := []
theorem Yh4 {p0 r} (h : Xkg p0 = some r) : AC Tryz.prog 213 [.sv (.int .i64 p0)] [] (Yef r) (Yee r) := by
 refine Xag hT Tryz.func213 rfl fun C hC => ?_
 unfold Xkg at h
 refine Xac ?_
 refine kO hT hC ?_
 refine Vc.nil ?_
 refine Xaq ?_
 refine Xac ?_
 refine kO hT hC ?_
 refine kC hC [] Tryz.call64 h (fun _ => Xam) fun q1 h => ?_
 refine kO hT hC ?_
 refine Vc.nil ?_
 refine kS h ?_ ?_ <;> intro b1 h
 refine kt b1 ?_
 refine Xac ?_
 refine kO hT hC ?_
 refine Vc.nil ?_
 refine Xah ?_
 refine Xap ?_
 exact kR
 refine kf b1 ?_
 refine Xaf ?_
 refine Xae ?_
 refine Xac ?_
 iterate 2 refine kO hT hC ?_
 iterate 3 refine kQ hT hC h fun h => ?_
 refine kO hT hC ?_
 iterate 2 refine kQ hT hC h fun h => ?_
 refine kO hT hC ?_
 refine Vc.nil ?_
 refine Xah ?_
 exact kR
def Xu9 (r : Int) : AV := .sv (.int .i64 r)
def Xu8 (r : Int) : Xa8 := []
theorem Xxi {p0 p1 r} (h : Xh4 p0 p1 = some r) : AC Tryz.prog 187 [.sv (.int .i64 p0), .sv (.int .i64 p1)] [] (Xu9 r) (Xu8 r) := by
 refine Xag hT Tryz.func187 rfl fun C hC => ?_
 unfold Xh4 at h
 refine Xac ?_
 refine kO hT hC ?_
 refine Vc.nil ?_
 refine Xaq ?_
 refine Xac ?_
 refine kO hT hC ?_
 refine kC hC [] Tryz.call64 h (fun _ => Xam) fun q1 h => ?_
 refine kO hT hC ?_
 refine Vc.nil ?_
 refine kS h ?_ ?_ <;> intro b1 h
 refine kt b1 ?_
 refine Xac ?_
 refine kO hT hC ?_
 refine Vc.nil ?_
 refine Xah ?_
 refine Xap ?_
 exact kR
 refine kf b1 ?_
 refine Xaf ?_
 refine Xae ?_
 refine Xac ?_
 iterate 2 refine kO hT hC ?_
 refine kC hC [] Tryz.call213 h (fun _ => Yh4) fun q2 h => ?_
 iterate 2 refine kO hT hC ?_
 refine Vc.nil ?_
 refine Xah ?_
 exact kR
def Yeb (r : Int) : AV := .sv (.int .i64 r)
def Yea (r : Int) : Xa8 := []
theorem Xsy {p0 p1 r} (h : Xkf p0 p1 = some r) : AC Tryz.prog 231 [.sv (.int .i64 p0), .sv (.int .i64 p1)] [] (Yeb r) (Yea r) := by
 refine Xag hT Tryz.func231 rfl fun C hC => ?_
 unfold Xkf at h
 refine Xac ?_
 refine kO hT hC ?_
 refine Vc.nil ?_
 refine Xaq ?_
 refine kL [0,1] [] [_,_] [] ?_
 refine kA h (fun v1 => ([(13, .sv (.bool v1))], [])) (fun v1 h => ?_) fun v1 h => ?_
 refine Xab ?_
 refine kO hT hC ?_
 refine kC hC [] Tryz.call64 h (fun _ => Xam) fun q2 h => ?_
 iterate 2 refine kO hT hC ?_
 refine kS h ?_ ?_ <;> intro b1 h
 refine kI hT hC (kn b1) ?_
 refine kE hC (kn b1) [] Tryz.call64 h (fun _ => Xam) fun q3 h => ?_
 refine kI hT hC (kn b1) ?_
 refine kP hC false (kn b1) ?_
 refine Vc.nil ?_
 exact kM
 iterate 3 refine kF hC (kn b1) ?_
 refine kP hC true (kn b1) ?_
 refine Vc.nil ?_
 exact kM
 refine kS h ?_ ?_ <;> intro b2 h
 refine kt b2 ?_
 refine Xac ?_
 refine kO hT hC ?_
 refine Vc.nil ?_
 refine Xah ?_
 refine Xap ?_
 exact kR
 refine kf b2 ?_
 refine Xaf ?_
 refine Xae ?_
 refine Xac ?_
 iterate 4 refine kO hT hC ?_
 refine Vc.nil ?_
 refine Xaq ?_
 refine Xac ?_
 iterate 3 refine kO hT hC ?_
 refine kQ hT hC h fun h => ?_
 iterate 3 refine kO hT hC ?_
 refine kQ hT hC h fun h => ?_
 iterate 2 refine kO hT hC ?_
 refine kQ hT hC h fun h => ?_
 refine kO hT hC ?_
 refine Vc.nil ?_
 refine kS h ?_ ?_ <;> intro b3 h
 refine kt b3 ?_
 refine Xac ?_
 refine kO hT hC ?_
 refine Vc.nil ?_
 refine Xah ?_
 refine Xap ?_
 exact kR
 refine kf b3 ?_
 refine Xaf ?_
 refine Xae ?_
 refine Xac ?_
 refine kO hT hC ?_
 refine Vc.nil ?_
 refine Xah ?_
 exact kR
def Ylh (r : (List Int)) : AV := .own 16
def Ylg (r : (List Int)) : Xa8 := [(16, .ints .i64 r)]
theorem Ynq {p0 r} (h : Xq7 p0 = some r) : AC Tryz.prog 215 [.sv (.ints .i64 p0)] [] (Ylh r) (Ylg r) := by
 refine Xag hT Tryz.func215 rfl fun C hC => ?_
 unfold Xq7 at h
 refine Xac ?_
 refine kO hT hC ?_
 refine kN ?_
 obtain ⟨hq, h⟩ := Xa5 h
 refine Xw3 hT hC rfl rfl rfl rfl ⟨hq.1, hq.2.1, hq.2.2, by decide⟩ ?_
 refine kO hT hC ?_
 refine Vc.nil ?_
 refine Xaq ?_
 refine Xac ?_
 refine kO hT hC ?_
 refine Vc.nil ?_
 refine kL [0,3,12] [176] [_,_,_] [_] ?_
 refine kX h (fun v31 => ([(12, .sv (.int .i64 v31.1))], [(176, some (.ints .i64 v31.2))])) (fun v62 => ([(0, .any), (12, .any)], [(176, some (.ints .i64 v62))])) (kW hC []) (fun v31 s h => ?_) fun v62 h => ?_
 unfold Xps at h
 refine Xac ?_
 refine kO hT hC ?_
 refine Vc.nil ?_
 refine Xaq ?_
 refine kS h ?_ ?_ <;> intro b27 h
 refine kt b27 ?_
 refine Xaf ?_
 refine Xae ?_
 refine Xaq ?_
 refine Xao ?_
 refine Xac ?_
 iterate 2 refine kO hT hC ?_
 refine kN ?_
 refine kO hT hC ?_
 refine Vc.nil ?_
 refine kL [0,3,4,12,15] [176] [_,_,_,_,_] [_] ?_
 refine kX h (fun v72 => ([(15, .sv (.int .i64 v72.1))], [(176, some (.ints .i64 v72.2))])) (fun v82 => ([(4, .any), (15, .any)], [(176, some (.ints .i64 v82))])) (kW hC []) (fun v72 s h => ?_) fun v82 h => ?_
 unfold Xpt at h
 refine Xac ?_
 refine kO hT hC ?_
 refine Vc.nil ?_
 refine Xaq ?_
 refine kS h ?_ ?_ <;> intro b36 h
 refine kt b36 ?_
 refine Xaf ?_
 refine Xae ?_
 refine Xaq ?_
 refine Xao ?_
 refine Xac ?_
 iterate 2 refine kO hT hC ?_
 refine kN ?_
 refine kO hT hC ?_
 refine Vc.nil ?_
 refine kL [0,3,4,5,12,15,18] [176] [_,_,_,_,_,_,_] [_] ?_
 refine kX h (fun v85 => ([(18, .sv (.int .i64 v85.1))], [(176, some (.ints .i64 v85.2))])) (fun v88 => ([(5, .any), (18, .any)], [(176, some (.ints .i64 v88))])) (kW hC []) (fun v85 s h => ?_) fun v88 h => ?_
 unfold Xjr at h
 refine Xac ?_
 refine kO hT hC ?_
 refine Vc.nil ?_
 refine Xaq ?_
 refine kS h ?_ ?_ <;> intro b39 h
 refine kt b39 ?_
 refine Xaf ?_
 refine Xae ?_
 refine Xaq ?_
 refine Xao ?_
 refine Xac ?_
 iterate 2 refine kO hT hC ?_
 refine Vc.nil ?_
 refine Xcz hm ?_
 iterate 10 refine kO hT hC ?_
 iterate 2 refine kQ hT hC h fun h => ?_
 iterate 2 refine kO hT hC ?_
 refine kC hC [] Tryz.call231 h (fun _ => Xsy) fun q89 h => ?_
 iterate 5 refine kO hT hC ?_
 refine kQ hT hC h fun h => ?_
 iterate 3 refine kO hT hC ?_
 iterate 2 refine kQ hT hC h fun h => ?_
 refine kD ?_
 refine Xar ?_
 refine Xae ?_
 refine Xab ?_
 iterate 2 refine kO hT hC ?_
 refine Vc.nil ?_
 exact kG
 refine kf b39 ?_
 refine Xas ?_
 refine Xaz ?_
 exact ku
 refine Xar ?_
 refine Xae ?_
 refine Xab ?_
 iterate 2 refine kO hT hC ?_
 refine Vc.nil ?_
 exact kG
 refine kf b36 ?_
 refine Xas ?_
 refine Xaz ?_
 exact ku
 refine Xar ?_
 refine Xae ?_
 refine Xab ?_
 iterate 2 refine kO hT hC ?_
 refine Vc.nil ?_
 exact kG
 refine kf b27 ?_
 refine Xas ?_
 refine Xaz ?_
 exact ku
 refine Xae ?_
 refine Xac ?_
 obtain ⟨hq, h⟩ := Xa5 h
 refine Xw3 hT hC rfl rfl rfl rfl ⟨hq.1, hq.2.1, hq.2.2, by decide⟩ ?_
 refine kO hT hC ?_
 refine Vc.nil ?_
 refine Xaq ?_
 refine Xac ?_
 refine kO hT hC ?_
 refine Vc.nil ?_
 refine kL [3,7,50] [176,784] [_,_,_] [_,_] ?_
 refine kX h (fun v123 => ([(50, .sv (.int .i64 v123.1))], [(784, some (.ints .i64 v123.2))])) (fun v154 => ([(3, .any), (50, .any)], [(784, some (.ints .i64 v154)), (176, none)])) (kW hC []) (fun v123 s h => ?_) fun v154 h => ?_
 unfold Xn4 at h
 refine Xac ?_
 refine kO hT hC ?_
 refine Vc.nil ?_
 refine Xaq ?_
 refine kS h ?_ ?_ <;> intro b66 h
 refine kt b66 ?_
 refine Xaf ?_
 refine Xae ?_
 refine Xaq ?_
 refine Xao ?_
 refine Xac ?_
 iterate 2 refine kO hT hC ?_
 refine kN ?_
 refine kO hT hC ?_
 refine Vc.nil ?_
 refine kL [3,7,8,50,53] [176,784] [_,_,_,_,_] [_,_] ?_
 refine kX h (fun v164 => ([(53, .sv (.int .i64 v164.1))], [(784, some (.ints .i64 v164.2))])) (fun v174 => ([(8, .any), (53, .any)], [(784, some (.ints .i64 v174))])) (kW hC []) (fun v164 s h => ?_) fun v174 h => ?_
 unfold Xn5 at h
 refine Xac ?_
 refine kO hT hC ?_
 refine Vc.nil ?_
 refine Xaq ?_
 refine kS h ?_ ?_ <;> intro b75 h
 refine kt b75 ?_
 refine Xaf ?_
 refine Xae ?_
 refine Xaq ?_
 refine Xao ?_
 refine Xac ?_
 iterate 2 refine kO hT hC ?_
 refine kN ?_
 refine kO hT hC ?_
 refine Vc.nil ?_
 refine kL [3,7,8,9,50,53,56] [176,784] [_,_,_,_,_,_,_] [_,_] ?_
 refine kX h (fun v177 => ([(56, .sv (.int .i64 v177.1))], [(784, some (.ints .i64 v177.2))])) (fun v180 => ([(9, .any), (56, .any)], [(784, some (.ints .i64 v180))])) (kW hC []) (fun v177 s h => ?_) fun v180 h => ?_
 unfold Xh9 at h
 refine Xac ?_
 refine kO hT hC ?_
 refine Vc.nil ?_
 refine Xaq ?_
 refine kS h ?_ ?_ <;> intro b78 h
 refine kt b78 ?_
 refine Xaf ?_
 refine Xae ?_
 refine Xaq ?_
 refine Xao ?_
 refine Xac ?_
 iterate 2 refine kO hT hC ?_
 refine Vc.nil ?_
 refine Xcz hm ?_
 iterate 10 refine kO hT hC ?_
 iterate 2 refine kQ hT hC h fun h => ?_
 iterate 2 refine kO hT hC ?_
 refine kC hC [] Tryz.call231 h (fun _ => Xsy) fun q181 h => ?_
 iterate 5 refine kO hT hC ?_
 iterate 2 refine kQ hT hC h fun h => ?_
 iterate 2 refine kO hT hC ?_
 iterate 2 refine kQ hT hC h fun h => ?_
 refine kD ?_
 refine Xar ?_
 refine Xae ?_
 refine Xab ?_
 iterate 2 refine kO hT hC ?_
 refine Vc.nil ?_
 exact kG
 refine kf b78 ?_
 refine Xas ?_
 refine Xaz ?_
 exact ku
 refine Xar ?_
 refine Xae ?_
 refine Xab ?_
 iterate 2 refine kO hT hC ?_
 refine Vc.nil ?_
 exact kG
 refine kf b75 ?_
 refine Xas ?_
 refine Xaz ?_
 exact ku
 refine Xar ?_
 refine Xae ?_
 refine Xab ?_
 iterate 2 refine kO hT hC ?_
 refine Vc.nil ?_
 exact kG
 refine kf b66 ?_
 refine Xas ?_
 refine Xaz ?_
 exact ku
 refine Xae ?_
 refine Xac ?_
 iterate 2 refine kO hT hC ?_
 refine Vc.nil ?_
 refine Xah ?_
 obtain rfl := kj h
 exact Xbt (τ := ⟨[(2, .own 16)], [(16, some (.ints .i64 v154))]⟩) (kW hC [(16, 784)]) rfl ⟨rfl, trivial⟩
def Yia (r : Int) : AV := .sv (.int .i64 r)
def Yh9 (r : Int) : Xa8 := []
theorem Xpp {p0 p1 r} (h : Xmu p0 p1 = some r) : AC Tryz.prog 219 [.sv (.int .i64 p0), .sv (.int .i64 p1)] [] (Yia r) (Yh9 r) := by
 refine Xag hT Tryz.func219 rfl fun C hC => ?_
 unfold Xmu at h
 refine Xac ?_
 refine kO hT hC ?_
 refine kN ?_
 iterate 2 refine kO hT hC ?_
 refine kQ hT hC h fun h => ?_
 refine kO hT hC ?_
 refine Vc.nil ?_
 refine kL [0,1,5] [] [_,_,_] [] ?_
 refine kA h (fun v1 => ([(5, .sv (.int .i64 v1)), (0, .any), (1, .any)], [])) (fun v1 h => ?_) fun v1 h => ?_
 refine Xac ?_
 iterate 2 refine kO hT hC ?_
 refine kQ hT hC h fun h => ?_
 refine kO hT hC ?_
 refine Vc.nil ?_
 refine kS h ?_ ?_ <;> intro b1 h
 refine kt b1 ?_
 refine Xab ?_
 iterate 3 refine kO hT hC ?_
 refine Vc.nil ?_
 exact kM
 refine kf b1 ?_
 refine Xaf ?_
 exact kM
 refine Xac ?_
 iterate 2 refine kO hT hC ?_
 refine Vc.nil ?_
 refine Xah ?_
 exact kR
def Yau (r : ((List Int) × (List Int))) : AV := .own 0
def Yat (r : ((List Int) × (List Int))) : Xa8 := [(0, .ints .i64 r.2)]
theorem Xq6 {p0 r} (h : Xi2 p0 = some r) : AC Tryz.prog 214 [.own 0] [(0, .ints .i64 p0)] (Yau r) (Yat r) := by
 refine Xag hT Tryz.func214 rfl fun C hC => ?_
 unfold Xi2 at h
 refine Xac ?_
 refine kO hT hC ?_
 refine Vc.nil ?_
 refine Xaq ?_
 refine Xac ?_
 iterate 3 refine kO hT hC ?_
 refine Vc.nil ?_
 refine kL [0,5,6,7] [0] [_,_,_,_] [_] ?_
 refine kX h (fun v3 => ([(7, .sv (.int .i64 v3.1))], [(0, some (.ints .i64 v3.2))])) (fun v6 => ([(5, .any), (6, .any), (7, .any)], [(0, some (.ints .i64 v6))])) (kW hC []) (fun v3 s h => ?_) fun v6 h => ?_
 unfold Xm7 at h
 refine Xac ?_
 refine kO hT hC ?_
 refine Vc.nil ?_
 refine Xaq ?_
 refine kS h ?_ ?_ <;> intro b3 h
 refine kt b3 ?_
 refine Xaf ?_
 refine Xae ?_
 refine Xaq ?_
 refine Xao ?_
 refine Xac ?_
 refine kO hT hC ?_
 iterate 2 refine kQ hT hC h fun h => ?_
 iterate 2 refine kO hT hC ?_
 refine Vc.nil ?_
 refine Xab ?_
 iterate 4 refine kO hT hC ?_
 refine kC hC [] Tryz.call219 h (fun _ => Xpp) fun q7 h => ?_
 iterate 2 refine kQ hT hC h fun h => ?_
 refine Vc.nil ?_
 refine Xar ?_
 refine Xae ?_
 refine Xab ?_
 iterate 2 refine kO hT hC ?_
 refine Vc.nil ?_
 exact kG
 refine kf b3 ?_
 refine Xas ?_
 refine Xaz ?_
 exact ku
 refine Xae ?_
 refine Xac ?_
 iterate 2 refine kO hT hC ?_
 refine Vc.nil ?_
 refine Xah ?_
 obtain rfl := kj h
 exact Xbt (Xgk.refl _) rfl ⟨rfl, trivial⟩
def Xu6 (r : (List Int)) : AV := .own 16
def Xu5 (r : (List Int)) : Xa8 := [(16, .ints .i64 r)]
theorem Xxe {p0 r} (h : Xh3 p0 = some r) : AC Tryz.prog 188 [.sv (.ints .i64 p0)] [] (Xu6 r) (Xu5 r) := by
 refine Xag hT Tryz.func188 rfl fun C hC => ?_
 unfold Xh3 at h
 refine Xac ?_
 refine kO hT hC ?_
 refine Vc.nil ?_
 refine Xaq ?_
 refine Xac ?_
 refine kO hT hC ?_
 refine kC hC [] Tryz.call192 h (fun _ => Xhj) fun q1 h => ?_
 refine kO hT hC ?_
 refine Vc.nil ?_
 refine kS h ?_ ?_ <;> intro b1 h
 refine kt b1 ?_
 refine Xac ?_
 iterate 2 refine kO hT hC ?_
 refine Vc.nil ?_
 refine Xah ?_
 refine Xap ?_
 obtain rfl := kj h
 exact Xbt (τ := ⟨[(2, .own 16)], [(16, some (.ints .i64 ([] : List Int)))]⟩) (kW hC [(16, 96)]) rfl ⟨rfl, trivial⟩
 refine kf b1 ?_
 refine Xaf ?_
 refine Xae ?_
 refine Xac ?_
 refine kO hT hC ?_
 refine kC hC [(16, 128)] Tryz.call215 h (fun _ => Ynq) fun q2 h => ?_
 refine kC hC [(0, 128)] Tryz.call214 h (fun _ => Xq6) fun q3 h => ?_
 refine kO hT hC ?_
 refine Vc.nil ?_
 refine Xah ?_
 obtain rfl := kj h
 exact Xbt (τ := ⟨[(2, .own 16)], [(16, some (.ints .i64 q3.2))]⟩) (kW hC [(16, 128)]) rfl ⟨rfl, trivial⟩
def Yd2 (r : Int) : AV := .sv (.int .i64 r)
def Yd1 (r : Int) : Xa8 := []
theorem Yhv {p0 r} (h : Xtw p0 = some r) : AC Tryz.prog 232 [.sv (.int .i64 p0)] [] (Yd2 r) (Yd1 r) := by
 refine Xag hT Tryz.func232 rfl fun C hC => ?_
 unfold Xtw at h
 refine Xac ?_
 refine kO hT hC ?_
 refine Vc.nil ?_
 refine Xaq ?_
 refine Xac ?_
 refine kO hT hC ?_
 refine kC hC [] Tryz.call64 h (fun _ => Xam) fun q1 h => ?_
 refine kO hT hC ?_
 refine Vc.nil ?_
 refine kS h ?_ ?_ <;> intro b1 h
 refine kt b1 ?_
 refine Xac ?_
 refine kO hT hC ?_
 refine Vc.nil ?_
 refine Xah ?_
 refine Xap ?_
 exact kR
 refine kf b1 ?_
 refine Xaf ?_
 refine Xae ?_
 refine Xac ?_
 refine kO hT hC ?_
 iterate 2 refine kQ hT hC h fun h => ?_
 refine kO hT hC ?_
 iterate 2 refine kQ hT hC h fun h => ?_
 iterate 2 refine kO hT hC ?_
 refine Vc.nil ?_
 refine Xaq ?_
 refine Xao ?_
 refine kL [3,4] [] [_,_] [] ?_
 refine kA h (fun v2 => ([(14, .sv (.bool v2))], [])) (fun v2 h => ?_) fun v2 h => ?_
 refine Xab ?_
 iterate 3 refine kO hT hC ?_
 refine kS h ?_ ?_ <;> intro b2 h
 iterate 2 refine kI hT hC b2 ?_
 refine kP hC true b2 ?_
 refine kO hT hC ?_
 refine Vc.nil ?_
 exact kM
 iterate 2 refine kF hC b2 ?_
 refine kP hC false b2 ?_
 refine kO hT hC ?_
 refine Vc.nil ?_
 exact kM
 refine kS h ?_ ?_ <;> intro b3 h
 refine kt b3 ?_
 refine Xac ?_
 refine kO hT hC ?_
 refine Vc.nil ?_
 refine Xah ?_
 refine Xcr ?_
 refine Xap ?_
 exact kR
 refine kf b3 ?_
 refine kL [3,4] [] [_,_] [] ?_
 refine kA h (fun v3 => ([(21, .sv (.bool v3)), (3, .any), (4, .any)], [])) (fun v3 h => ?_) fun v3 h => ?_
 refine Xab ?_
 iterate 3 refine kO hT hC ?_
 refine kS h ?_ ?_ <;> intro b4 h
 iterate 2 refine kI hT hC b4 ?_
 refine kP hC true b4 ?_
 refine kO hT hC ?_
 refine Vc.nil ?_
 exact kM
 iterate 2 refine kF hC b4 ?_
 refine kP hC false b4 ?_
 refine kO hT hC ?_
 refine Vc.nil ?_
 exact kM
 refine kS h ?_ ?_ <;> intro b5 h
 refine kt b5 ?_
 refine Xac ?_
 refine kO hT hC ?_
 refine Vc.nil ?_
 refine Xah ?_
 refine Xcr ?_
 refine Xap ?_
 exact kR
 refine kf b5 ?_
 refine Xaf ?_
 refine Xar ?_
 refine Xae ?_
 refine Xac ?_
 refine kO hT hC ?_
 refine Vc.nil ?_
 refine Xah ?_
 exact kR
def Yac (r : Int) : AV := .sv (.int .i64 r)
def Yab (r : Int) : Xa8 := []
theorem Yd9 {p0 p1 r} (h : Xlk p0 p1 = some r) : AC Tryz.prog 216 [.sv (.int .i64 p0), .sv (.int .i64 p1)] [] (Yac r) (Yab r) := by
 refine Xag hT Tryz.func216 rfl fun C hC => ?_
 unfold Xlk at h
 refine Xac ?_
 refine kO hT hC ?_
 refine Vc.nil ?_
 refine Xaq ?_
 refine kL [0,1] [] [_,_] [] ?_
 refine kA h (fun v1 => ([(13, .sv (.bool v1))], [])) (fun v1 h => ?_) fun v1 h => ?_
 refine Xab ?_
 refine kO hT hC ?_
 refine kC hC [] Tryz.call64 h (fun _ => Xam) fun q2 h => ?_
 iterate 2 refine kO hT hC ?_
 refine kS h ?_ ?_ <;> intro b1 h
 refine kI hT hC (kn b1) ?_
 refine kE hC (kn b1) [] Tryz.call64 h (fun _ => Xam) fun q3 h => ?_
 refine kI hT hC (kn b1) ?_
 refine kP hC false (kn b1) ?_
 refine Vc.nil ?_
 exact kM
 iterate 3 refine kF hC (kn b1) ?_
 refine kP hC true (kn b1) ?_
 refine Vc.nil ?_
 exact kM
 refine kS h ?_ ?_ <;> intro b2 h
 refine kt b2 ?_
 refine Xac ?_
 refine kO hT hC ?_
 refine Vc.nil ?_
 refine Xah ?_
 refine Xap ?_
 exact kR
 refine kf b2 ?_
 refine Xaf ?_
 refine Xae ?_
 refine Xac ?_
 iterate 9 refine kO hT hC ?_
 refine Vc.nil ?_
 refine Xd7 hm ?_
 refine kO hT hC ?_
 refine kQ hT hC h fun h => ?_
 refine kO hT hC ?_
 refine kC hC [] Tryz.call232 h (fun _ => Yhv) fun q4 h => ?_
 iterate 2 refine kQ hT hC h fun h => ?_
 obtain ⟨hq, h⟩ := Xa5 h
 refine Yz1 hT hC rfl rfl rfl rfl rfl rfl hq ?_
 refine kO hT hC ?_
 iterate 2 refine kQ hT hC h fun h => ?_
 refine kO hT hC ?_
 refine kD ?_
 refine Xah ?_
 exact kR
def Xvg (r : Int) : AV := .sv (.int .i64 r)
def Xvf (r : Int) : Xa8 := []
theorem Xxl {p0 p1 p2 r} (h : Xh5 p0 p1 p2 = some r) : AC Tryz.prog 189 [.sv (.int .i64 p0), .sv (.int .i64 p1), .sv (.int .i64 p2)] [] (Xvg r) (Xvf r) := by
 refine Xag hT Tryz.func189 rfl fun C hC => ?_
 unfold Xh5 at h
 refine Xac ?_
 refine kO hT hC ?_
 refine Vc.nil ?_
 refine Xaq ?_
 refine Xac ?_
 refine kO hT hC ?_
 refine kC hC [] Tryz.call64 h (fun _ => Xam) fun q1 h => ?_
 refine kO hT hC ?_
 refine Vc.nil ?_
 refine kS h ?_ ?_ <;> intro b1 h
 refine kt b1 ?_
 refine Xac ?_
 refine kO hT hC ?_
 refine Vc.nil ?_
 refine Xah ?_
 refine Xap ?_
 exact kR
 refine kf b1 ?_
 refine Xaf ?_
 refine Xae ?_
 refine Xac ?_
 iterate 3 refine kO hT hC ?_
 refine kC hC [] Tryz.call216 h (fun _ => Yd9) fun q2 h => ?_
 iterate 2 refine kO hT hC ?_
 refine Vc.nil ?_
 refine Xah ?_
 exact kR
def Xtv (r : (Int × Int × Int × Int)) : AV := .agg [.sv (.int .i64 r.1), .sv (.int .i64 r.2.1), .sv (.int .i64 r.2.2.1), .sv (.int .i64 r.2.2.2)]
def Xtu (r : (Int × Int × Int × Int)) : Xa8 := []
theorem Xnq {p0 p1 p2 p3 r} (h : Xd4 p0 p1 p2 p3 = some r) : AC Tryz.prog 218 [.sv (.int .i64 p0), .sv (.int .i64 p1), .sv (.int .i64 p2), .sv (.int .i64 p3)] [] (Xtv r) (Xtu r) := by
 refine Xag hT Tryz.func218 rfl fun C hC => ?_
 unfold Xd4 at h
 refine Xac ?_
 refine kO hT hC ?_
 refine kN ?_
 iterate 7 refine kO hT hC ?_
 refine kC hC [] Tryz.call219 h (fun _ => Xpp) fun q1 h => ?_
 iterate 4 refine kO hT hC ?_
 refine kC hC [] Tryz.call219 h (fun _ => Xpp) fun q2 h => ?_
 iterate 5 refine kO hT hC ?_
 refine kN ?_
 iterate 14 refine kO hT hC ?_
 refine Vc.nil ?_
 refine Xah ?_
 exact kR
def Xkn (r : (List Int)) : AV := .own 16
def Xkm (r : (List Int)) : Xa8 := [(16, .ints .i64 r)]
theorem Xlp {p0 r} (h : Xcn p0 = some r) : AC Tryz.prog 217 [.sv (.ints .i64 p0), .fn 218 []] [] (Xkn r) (Xkm r) := by
 refine Xag hT Tryz.func217 rfl fun C hC => ?_
 unfold Xcn at h
 refine Xac ?_
 refine kO hT hC ?_
 refine kN ?_
 refine kO hT hC ?_
 refine kC hC [(16, 208)] Tryz.call115 h (fun _ => Xl4) fun q1 h => ?_
 refine kO hT hC ?_
 refine Vc.nil ?_
 refine Xaq ?_
 refine Xac ?_
 refine kO hT hC ?_
 refine Vc.nil ?_
 refine kL [1,5,6] [208] [_,_,_] [_] ?_
 refine kX h (fun v4 => ([(6, .sv (.int .i64 v4.1))], [(208, some (.ints .i64 v4.2))])) (fun v7 => ([(6, .any)], [(208, some (.ints .i64 v7))])) (kW hC []) (fun v4 s h => ?_) fun v7 h => ?_
 unfold Xfm at h
 refine Xaq ?_
 refine Xac ?_
 iterate 2 refine kO hT hC ?_
 refine Vc.nil ?_
 refine kS h ?_ ?_ <;> intro b3 h
 refine kt b3 ?_
 refine Xaf ?_
 refine Xae ?_
 refine Xaq ?_
 refine Xao ?_
 refine Xd7 hm ?_
 iterate 3 refine kO hT hC ?_
 iterate 2 refine kQ hT hC h fun h => ?_
 iterate 3 refine kO hT hC ?_
 iterate 2 refine kQ hT hC h fun h => ?_
 iterate 3 refine kO hT hC ?_
 iterate 2 refine kQ hT hC h fun h => ?_
 iterate 3 refine kO hT hC ?_
 iterate 2 refine kQ hT hC h fun h => ?_
 refine kC hC [] Tryz.call218 h (fun _ => Xnq) fun q8 h => ?_
 iterate 2 refine kO hT hC ?_
 refine kD ?_
 refine Xcz hm ?_
 iterate 4 refine kO hT hC ?_
 refine kQ hT hC h fun h => ?_
 refine Yzy hT hC rfl rfl rfl rfl rfl rfl rfl rfl rfl ?_
 obtain ⟨hq, h⟩ := Xa5 h
 refine Yw1 hT hC rfl rfl rfl rfl rfl rfl rfl rfl rfl ⟨⟨trivial, hq.1⟩, hq.2⟩ ?_
 refine kD ?_
 refine Xar ?_
 refine Xae ?_
 refine Xab ?_
 iterate 3 refine kO hT hC ?_
 refine Vc.nil ?_
 exact kG
 refine kf b3 ?_
 refine Xas ?_
 refine Xaz ?_
 exact ku
 refine Xae ?_
 refine Xaq ?_
 refine Xac ?_
 refine kO hT hC ?_
 refine Vc.nil ?_
 refine kL [1,5,46] [208] [_,_,_] [_] ?_
 refine kX h (fun v17 => ([(46, .sv (.int .i64 v17.1))], [(208, some (.ints .i64 v17.2))])) (fun v25 => ([(1, .any), (46, .any)], [(208, some (.ints .i64 v25))])) (kW hC []) (fun v17 s h => ?_) fun v25 h => ?_
 unfold Xe9 at h
 refine Xac ?_
 refine kO hT hC ?_
 refine Vc.nil ?_
 refine Xaq ?_
 refine kS h ?_ ?_ <;> intro b12 h
 refine kt b12 ?_
 refine Xaf ?_
 refine Xae ?_
 refine Xaq ?_
 refine Xao ?_
 refine Xac ?_
 iterate 2 refine kO hT hC ?_
 refine Vc.nil ?_
 refine Xd7 hm ?_
 iterate 3 refine kO hT hC ?_
 iterate 2 refine kQ hT hC h fun h => ?_
 iterate 3 refine kO hT hC ?_
 iterate 2 refine kQ hT hC h fun h => ?_
 iterate 3 refine kO hT hC ?_
 iterate 2 refine kQ hT hC h fun h => ?_
 iterate 3 refine kO hT hC ?_
 iterate 2 refine kQ hT hC h fun h => ?_
 refine kC hC [] Tryz.call218 h (fun _ => Xnq) fun q26 h => ?_
 iterate 2 refine kO hT hC ?_
 refine kD ?_
 refine Xac ?_
 iterate 2 refine kO hT hC ?_
 refine Vc.nil ?_
 refine kL [1,5,8,46,70,71] [208] [_,_,_,_,_,_] [_] ?_
 refine kX h (fun v28 => ([(71, .sv (.int .i64 v28.1))], [(208, some (.ints .i64 v28.2))])) (fun v30 => ([(8, .any), (70, .any), (71, .any)], [(208, some (.ints .i64 v30))])) (kW hC []) (fun v28 s h => ?_) fun v30 h => ?_
 unfold Xfa at h
 refine Xac ?_
 refine kO hT hC ?_
 refine Vc.nil ?_
 refine Xaq ?_
 refine kS h ?_ ?_ <;> intro b15 h
 refine kt b15 ?_
 refine Xaf ?_
 refine Xae ?_
 refine Xaq ?_
 refine Xao ?_
 refine Xac ?_
 refine kO hT hC ?_
 obtain ⟨hq, h⟩ := Xa5 h
 refine Yzz hT hC rfl rfl rfl rfl rfl rfl rfl hq ?_
 iterate 2 refine kO hT hC ?_
 refine Vc.nil ?_
 refine Xab ?_
 iterate 6 refine kO hT hC ?_
 iterate 2 refine kQ hT hC h fun h => ?_
 refine Vc.nil ?_
 refine Xar ?_
 refine Xae ?_
 refine Xab ?_
 iterate 2 refine kO hT hC ?_
 refine Vc.nil ?_
 exact kG
 refine kf b15 ?_
 refine Xas ?_
 refine Xaz ?_
 exact ku
 refine Xar ?_
 refine Xae ?_
 refine Xab ?_
 iterate 2 refine kO hT hC ?_
 refine Vc.nil ?_
 exact kG
 refine kf b12 ?_
 refine Xas ?_
 refine Xaz ?_
 exact ku
 refine Xae ?_
 refine Xac ?_
 iterate 2 refine kO hT hC ?_
 refine Vc.nil ?_
 refine Xah ?_
 obtain rfl := kj h
 exact Xbt (τ := ⟨[(4, .own 16)], [(16, some (.ints .i64 v25))]⟩) (kW hC [(16, 208)]) rfl ⟨rfl, trivial⟩
def Xxh (r : (List Int)) : AV := .own 16
def Xxg (r : (List Int)) : Xa8 := [(16, .ints .i64 r)]
theorem Xz0 {p0 r} (h : Xjg p0 = some r) : AC Tryz.prog 190 [.sv (.ints .i64 p0)] [] (Xxh r) (Xxg r) := by
 refine Xag hT Tryz.func190 rfl fun C hC => ?_
 unfold Xjg at h
 refine Xac ?_
 refine kO hT hC ?_
 refine Vc.nil ?_
 refine Xaq ?_
 refine Xac ?_
 refine kO hT hC ?_
 refine kC hC [] Tryz.call192 h (fun _ => Xhj) fun q1 h => ?_
 refine kO hT hC ?_
 refine Vc.nil ?_
 refine kS h ?_ ?_ <;> intro b1 h
 refine kt b1 ?_
 refine Xac ?_
 iterate 2 refine kO hT hC ?_
 refine Vc.nil ?_
 refine Xah ?_
 refine Xap ?_
 obtain rfl := kj h
 exact Xbt (τ := ⟨[(2, .own 16)], [(16, some (.ints .i64 ([] : List Int)))]⟩) (kW hC [(16, 96)]) rfl ⟨rfl, trivial⟩
 refine kf b1 ?_
 refine Xaf ?_
 refine Xae ?_
 refine Xac ?_
 refine kO hT hC ?_
 refine kC hC [(16, 128)] Tryz.call217 h (fun _ => Xlp) fun q2 h => ?_
 refine kC hC [(0, 128)] Tryz.call214 h (fun _ => Xq6) fun q3 h => ?_
 refine kO hT hC ?_
 refine Vc.nil ?_
 refine Xah ?_
 obtain rfl := kj h
 exact Xbt (τ := ⟨[(2, .own 16)], [(16, some (.ints .i64 q3.2))]⟩) (kW hC [(16, 128)]) rfl ⟨rfl, trivial⟩
def Yao (r : (List Int)) : AV := .own 16
def Yan (r : (List Int)) : Xa8 := [(16, .ints .i64 r)]
theorem Ye0 {p0 r} (h : Xlo p0 = some r) : AC Tryz.prog 191 [.sv (.int .i64 p0)] [] (Yao r) (Yan r) := by
 refine Xag hT Tryz.func191 rfl fun C hC => ?_
 unfold Xlo at h
 refine Xac ?_
 refine kO hT hC ?_
 refine kN ?_
 iterate 2 refine kO hT hC ?_
 refine Vc.nil ?_
 refine Xaq ?_
 refine Xac ?_
 refine kO hT hC ?_
 refine Vc.nil ?_
 refine kL [0,3,7] [96] [_,_,_] [_] ?_
 refine kX h (fun v7 => ([(7, .sv (.int .i64 v7.1))], [(96, some (.ints .i64 v7.2))])) (fun v14 => ([(0, .any), (7, .any)], [(96, some (.ints .i64 v14))])) (kW hC []) (fun v7 s h => ?_) fun v14 h => ?_
 unfold Xik at h
 refine Xac ?_
 refine kO hT hC ?_
 refine Vc.nil ?_
 refine Xaq ?_
 refine kS h ?_ ?_ <;> intro b9 h
 refine kt b9 ?_
 refine Xaf ?_
 refine Xae ?_
 refine Xaq ?_
 refine Xao ?_
 refine Xac ?_
 iterate 2 refine kO hT hC ?_
 refine kN ?_
 refine kO hT hC ?_
 refine Vc.nil ?_
 refine kL [0,3,4,7,10] [96] [_,_,_,_,_] [_] ?_
 refine kX h (fun v16 => ([(10, .sv (.int .i64 v16.1))], [(96, some (.ints .i64 v16.2))])) (fun v18 => ([(4, .any), (10, .any)], [(96, some (.ints .i64 v18))])) (kW hC []) (fun v16 s h => ?_) fun v18 h => ?_
 unfold Xl5 at h
 refine Xac ?_
 refine kO hT hC ?_
 refine Vc.nil ?_
 refine Xaq ?_
 refine kS h ?_ ?_ <;> intro b12 h
 refine kt b12 ?_
 refine Xaf ?_
 refine Xae ?_
 refine Xaq ?_
 refine Xao ?_
 refine Xac ?_
 iterate 2 refine kO hT hC ?_
 refine Vc.nil ?_
 refine Xab ?_
 iterate 3 refine kO hT hC ?_
 refine kQ hT hC h fun h => ?_
 iterate 6 refine kO hT hC ?_
 refine kQ hT hC h fun h => ?_
 iterate 3 refine kO hT hC ?_
 refine kT hT hC h fun h => ?_
 refine kO hT hC ?_
 refine Vc.nil ?_
 refine Xar ?_
 refine Xae ?_
 refine Xab ?_
 iterate 2 refine kO hT hC ?_
 refine Vc.nil ?_
 obtain rfl := kj h
 exact Ya8 (kW hC [(96, 432)])
 refine kf b12 ?_
 refine Xas ?_
 refine Xaz ?_
 exact ku
 refine Xar ?_
 refine Xae ?_
 refine Xab ?_
 iterate 2 refine kO hT hC ?_
 refine Vc.nil ?_
 exact kG
 refine kf b9 ?_
 refine Xas ?_
 refine Xaz ?_
 exact ku
 refine Xae ?_
 refine Xac ?_
 iterate 2 refine kO hT hC ?_
 refine Vc.nil ?_
 refine Xah ?_
 obtain rfl := kj h
 exact Xbt (τ := ⟨[(2, .own 16)], [(16, some (.ints .i64 v14))]⟩) (kW hC [(16, 96)]) rfl ⟨rfl, trivial⟩
def Xty (r : ((List Int) × Bool)) : AV := .tup [.own 16, .sv (.bool r.2)]
def Xtx (r : ((List Int) × Bool)) : Xa8 := [(16, .ints .i64 r.1)]
theorem Xva {p0 p1 r} (h : Xgn p0 p1 = some r) : AC Tryz.prog 161 [.sv (.ints .i64 p0), .agg [.sv (.bool p1.Key), .sv (.int .i64 p1.Qp), .sv (.bool p1.Large), .sv (.bool p1.Exact)]] [] (Xty r) (Xtx r) := by
 refine Xag hT Tryz.func161 rfl fun C hC => ?_
 unfold Xgn at h
 refine Xac ?_
 iterate 3 refine kO hT hC ?_
 refine Vc.nil ?_
 refine Xaq ?_
 refine kL [0,3] [48] [_,_] [_] ?_
 refine kA h (fun v1 => ([(26, .sv (.bool v1))], [])) (fun v1 h => ?_) fun v1 h => ?_
 refine Xab ?_
 refine kO hT hC ?_
 refine kC hC [] Tryz.call184 h (fun _ => Xkj) fun q2 h => ?_
 iterate 2 refine kO hT hC ?_
 refine kS h ?_ ?_ <;> intro b1 h
 refine kI hT hC (kn b1) ?_
 refine kE hC (kn b1) [] Tryz.call119 h (fun _ => Xk5) fun q3 h => ?_
 refine kI hT hC (kn b1) ?_
 refine kP hC false (kn b1) ?_
 refine Vc.nil ?_
 exact kM
 iterate 3 refine kF hC (kn b1) ?_
 refine kP hC true (kn b1) ?_
 refine Vc.nil ?_
 exact kM
 refine kS h ?_ ?_ <;> intro b2 h
 refine kt b2 ?_
 refine Xac ?_
 iterate 3 refine kO hT hC ?_
 refine Vc.nil ?_
 refine Xah ?_
 refine Xap ?_
 obtain rfl := kj h
 exact Xbt (τ := ⟨[(4, .own 16), (5, .sv (.bool false))], [(16, some (.ints .i64 ([] : List Int)))]⟩) (kW hC [(16, 432)]) rfl ⟨rfl, trivial⟩
 refine kf b2 ?_
 refine Xaf ?_
 refine Xae ?_
 refine Xaq ?_
 refine Xac ?_
 iterate 2 refine kO hT hC ?_
 refine Vc.nil ?_
 refine kS h ?_ ?_ <;> intro b3 h
 refine kt b3 ?_
 refine Xac ?_
 refine kO hT hC ?_
 refine kC hC [(16, 496)] Tryz.call186 h (fun _ => Xki) fun q4 h => ?_
 iterate 4 refine kO hT hC ?_
 refine Vc.nil ?_
 refine Xah ?_
 refine Xap ?_
 obtain rfl := kj h
 exact Xbt (τ := ⟨[(4, .own 16), (5, .sv (.bool q4.2))], [(16, some (.ints .i64 q4.1))]⟩) (kW hC [(16, 496)]) rfl ⟨rfl, trivial⟩
 refine kf b3 ?_
 refine Xaf ?_
 refine Xae ?_
 refine Xaq ?_
 refine Xac ?_
 iterate 2 refine kO hT hC ?_
 refine Vc.nil ?_
 refine kS h ?_ ?_ <;> intro b4 h
 refine kt b4 ?_
 refine Xac ?_
 refine kO hT hC ?_
 refine kC hC [(16, 608)] Tryz.call186 h (fun _ => Xki) fun q5 h => ?_
 iterate 5 refine kO hT hC ?_
 refine Vc.nil ?_
 refine Xaq ?_
 refine Xac ?_
 iterate 3 refine kO hT hC ?_
 refine Vc.nil ?_
 refine kL [3,6,41,42,43] [48,608] [_,_,_,_,_] [_,_] ?_
 refine kX h (fun v8 => ([(43, .sv (.int .i64 v8.1))], [(608, some (.ints .i64 v8.2))])) (fun v11 => ([(3, .any), (41, .any), (42, .any), (43, .any)], [(608, some (.ints .i64 v11)), (48, none)])) (kW hC []) (fun v8 s h => ?_) fun v11 h => ?_
 unfold Xei at h
 refine Xac ?_
 refine kO hT hC ?_
 refine Vc.nil ?_
 refine Xaq ?_
 refine kS h ?_ ?_ <;> intro b7 h
 refine kt b7 ?_
 refine Xaf ?_
 refine Xae ?_
 refine Xaq ?_
 refine Xao ?_
 refine Xac ?_
 refine kO hT hC ?_
 iterate 2 refine kQ hT hC h fun h => ?_
 iterate 2 refine kO hT hC ?_
 refine Vc.nil ?_
 refine Xab ?_
 iterate 5 refine kO hT hC ?_
 refine kC hC [] Tryz.call187 h (fun _ => Xxi) fun q12 h => ?_
 iterate 2 refine kQ hT hC h fun h => ?_
 refine Vc.nil ?_
 refine Xar ?_
 refine Xae ?_
 refine Xab ?_
 iterate 2 refine kO hT hC ?_
 refine Vc.nil ?_
 exact kG
 refine kf b7 ?_
 refine Xas ?_
 refine Xaz ?_
 exact ku
 refine Xae ?_
 refine Xac ?_
 refine kO hT hC ?_
 refine kC hC [(16, 912)] Tryz.call188 h (fun _ => Xxe) fun q14 h => ?_
 iterate 2 refine kO hT hC ?_
 refine Vc.nil ?_
 refine Xah ?_
 refine Xap ?_
 obtain rfl := kj h
 exact Xbt (τ := ⟨[(4, .own 16), (5, .sv (.bool true))], [(16, some (.ints .i64 q14))]⟩) (kW hC [(16, 912)]) rfl ⟨rfl, trivial⟩
 refine kf b4 ?_
 refine Xaf ?_
 refine Xae ?_
 refine Xac ?_
 obtain ⟨hq, h⟩ := Xa5 h
 refine Xw3 hT hC rfl rfl rfl rfl ⟨hq.1, hq.2.1, hq.2.2, by decide⟩ ?_
 refine kO hT hC ?_
 refine Vc.nil ?_
 refine Xaq ?_
 refine Xac ?_
 refine kO hT hC ?_
 refine Vc.nil ?_
 refine kL [0,3,10,59] [48,928] [_,_,_,_] [_,_] ?_
 refine kX h (fun v32 => ([(59, .sv (.int .i64 v32.1))], [(928, some (.ints .i64 v32.2))])) (fun v50 => ([(0, .any), (3, .any), (59, .any)], [(928, some (.ints .i64 v50)), (48, none)])) (kW hC []) (fun v32 s h => ?_) fun v50 h => ?_
 unfold Xiq at h
 refine Xac ?_
 refine kO hT hC ?_
 refine Vc.nil ?_
 refine Xaq ?_
 refine kS h ?_ ?_ <;> intro b22 h
 refine kt b22 ?_
 refine Xaf ?_
 refine Xae ?_
 refine Xaq ?_
 refine Xao ?_
 refine Xac ?_
 iterate 2 refine kO hT hC ?_
 refine kN ?_
 iterate 6 refine kO hT hC ?_
 refine kQ hT hC h fun h => ?_
 refine kC hC [(16, 1120)] Tryz.call186 h (fun _ => Xki) fun q51 h => ?_
 iterate 5 refine kO hT hC ?_
 refine Vc.nil ?_
 refine Xaq ?_
 refine Xac ?_
 iterate 3 refine kO hT hC ?_
 refine Vc.nil ?_
 refine kL [0,3,10,11,12,59,73,74,75] [48,928,1120] [_,_,_,_,_,_,_,_,_] [_,_,_] ?_
 refine kX h (fun v54 => ([(75, .sv (.int .i64 v54.1))], [(1120, some (.ints .i64 v54.2))])) (fun v57 => ([(73, .any), (74, .any), (75, .any)], [(1120, some (.ints .i64 v57))])) (kW hC []) (fun v54 s h => ?_) fun v57 h => ?_
 unfold Xd5 at h
 refine Xac ?_
 refine kO hT hC ?_
 refine Vc.nil ?_
 refine Xaq ?_
 refine kS h ?_ ?_ <;> intro b25 h
 refine kt b25 ?_
 refine Xaf ?_
 refine Xae ?_
 refine Xaq ?_
 refine Xao ?_
 refine Xac ?_
 refine kO hT hC ?_
 iterate 2 refine kQ hT hC h fun h => ?_
 iterate 2 refine kO hT hC ?_
 refine Vc.nil ?_
 refine Xab ?_
 iterate 6 refine kO hT hC ?_
 refine kC hC [] Tryz.call189 h (fun _ => Xxl) fun q58 h => ?_
 iterate 2 refine kQ hT hC h fun h => ?_
 refine Vc.nil ?_
 refine Xar ?_
 refine Xae ?_
 refine Xab ?_
 iterate 2 refine kO hT hC ?_
 refine Vc.nil ?_
 exact kG
 refine kf b25 ?_
 refine Xas ?_
 refine Xaz ?_
 exact ku
 refine Xae ?_
 refine Xac ?_
 refine kO hT hC ?_
 refine kC hC [(16, 1440)] Tryz.call190 h (fun _ => Xz0) fun q60 h => ?_
 refine kO hT hC ?_
 refine kN ?_
 refine kO hT hC ?_
 refine kC hC [(16, 1472)] Tryz.call191 h (fun _ => Ye0) fun q61 h => ?_
 iterate 2 refine kO hT hC ?_
 refine Vc.nil ?_
 refine kL [0,3,10,16,59,92,93,94] [48,928,1440,1472] [_,_,_,_,_,_,_,_] [_,_,_,_] ?_
 refine kX h (fun v63 => ([(94, .sv (.int .i64 v63.1))], [(928, some (.ints .i64 v63.2))])) (fun v65 => ([(16, .any), (92, .any), (93, .any), (94, .any)], [(928, some (.ints .i64 v65)), (1440, none), (1472, none)])) (kW hC []) (fun v63 s h => ?_) fun v65 h => ?_
 unfold Xfs at h
 refine Xac ?_
 refine kO hT hC ?_
 refine Vc.nil ?_
 refine Xaq ?_
 refine kS h ?_ ?_ <;> intro b28 h
 refine kt b28 ?_
 refine Xaf ?_
 refine Xae ?_
 refine Xaq ?_
 refine Xao ?_
 refine Xac ?_
 refine kO hT hC ?_
 iterate 2 refine kQ hT hC h fun h => ?_
 iterate 2 refine kO hT hC ?_
 refine Vc.nil ?_
 refine Xab ?_
 iterate 4 refine kO hT hC ?_
 iterate 4 refine kQ hT hC h fun h => ?_
 refine Vc.nil ?_
 refine Xar ?_
 refine Xae ?_
 refine Xab ?_
 iterate 2 refine kO hT hC ?_
 refine Vc.nil ?_
 exact kG
 refine kf b28 ?_
 refine Xas ?_
 refine Xaz ?_
 exact ku
 refine Xar ?_
 refine Xae ?_
 refine Xab ?_
 iterate 2 refine kO hT hC ?_
 refine Vc.nil ?_
 exact kG
 refine kf b22 ?_
 refine Xas ?_
 refine Xaz ?_
 exact ku
 refine Xae ?_
 refine Xac ?_
 iterate 3 refine kO hT hC ?_
 refine Vc.nil ?_
 refine Xah ?_
 obtain rfl := kj h
 exact Xbt (τ := ⟨[(4, .own 16), (5, .sv (.bool true))], [(16, some (.ints .i64 v50))]⟩) (kW hC [(16, 928)]) rfl ⟨rfl, trivial⟩
def Yd0 (r : (List Int)) : AV := .own 16
def Ydz (r : (List Int)) : Xa8 := [(16, .ints .i64 r)]
theorem Xsv {p0 p1 r} (h : Xkd p0 p1 = some r) : AC Tryz.prog 162 [.sv (.ints .i64 p0), .sv (.ints .i64 p1)] [] (Yd0 r) (Ydz r) := by
 refine Xag hT Tryz.func162 rfl fun C hC => ?_
 unfold Xkd at h
 refine Xac ?_
 refine kO hT hC ?_
 refine kN ?_
 iterate 2 refine kO hT hC ?_
 refine Vc.nil ?_
 refine Xaq ?_
 refine kL [0,1,5] [128] [_,_,_] [_] ?_
 refine kA h (fun v1 => ([(16, .sv (.bool v1))], [])) (fun v1 h => ?_) fun v1 h => ?_
 refine Xab ?_
 refine kO hT hC ?_
 refine kC hC [] Tryz.call192 h (fun _ => Xhj) fun q2 h => ?_
 iterate 2 refine kO hT hC ?_
 refine kS h ?_ ?_ <;> intro b1 h
 refine kI hT hC (kn b1) ?_
 refine kE hC (kn b1) [] Tryz.call192 h (fun _ => Xhj) fun q3 h => ?_
 refine kI hT hC (kn b1) ?_
 refine kP hC false (kn b1) ?_
 refine Vc.nil ?_
 exact kM
 iterate 3 refine kF hC (kn b1) ?_
 refine kP hC true (kn b1) ?_
 refine Vc.nil ?_
 exact kM
 refine kS h ?_ ?_ <;> intro b2 h
 refine kt b2 ?_
 refine Xac ?_
 iterate 2 refine kO hT hC ?_
 refine Vc.nil ?_
 refine Xah ?_
 refine Xap ?_
 obtain rfl := kj h
 exact Xbt (τ := ⟨[(4, .own 16)], [(16, some (.ints .i64 ([] : List Int)))]⟩) (kW hC [(16, 128)]) rfl ⟨rfl, trivial⟩
 refine kf b2 ?_
 refine Xaf ?_
 refine Xae ?_
 refine Xaq ?_
 refine Xac ?_
 iterate 3 refine kO hT hC ?_
 refine Vc.nil ?_
 refine kL [1,5,18,19,20] [128] [_,_,_,_,_] [_] ?_
 refine kX h (fun v6 => ([(20, .sv (.int .i64 v6.1))], [(128, some (.ints .i64 v6.2))])) (fun v9 => ([(1, .any), (18, .any), (19, .any), (20, .any)], [(128, some (.ints .i64 v9))])) (kW hC []) (fun v6 s h => ?_) fun v9 h => ?_
 unfold Xk6 at h
 refine Xac ?_
 refine kO hT hC ?_
 refine Vc.nil ?_
 refine Xaq ?_
 refine kS h ?_ ?_ <;> intro b5 h
 refine kt b5 ?_
 refine Xaf ?_
 refine Xae ?_
 refine Xaq ?_
 refine Xao ?_
 refine Xac ?_
 refine kO hT hC ?_
 refine kQ hT hC h fun h => ?_
 iterate 3 refine kO hT hC ?_
 refine Vc.nil ?_
 refine Xab ?_
 iterate 4 refine kO hT hC ?_
 refine kQ hT hC h fun h => ?_
 iterate 2 refine kO hT hC ?_
 refine kC hC [] Tryz.call193 h (fun _ => Xjd) fun q10 h => ?_
 refine kO hT hC ?_
 refine kT hT hC h fun h => ?_
 refine kO hT hC ?_
 refine Vc.nil ?_
 refine Xar ?_
 refine Xae ?_
 refine Xab ?_
 iterate 2 refine kO hT hC ?_
 refine Vc.nil ?_
 obtain rfl := kj h
 exact Ya8 (kW hC [(128, 544)])
 refine kf b5 ?_
 refine Xas ?_
 refine Xaz ?_
 exact ku
 refine Xae ?_
 refine Xac ?_
 iterate 2 refine kO hT hC ?_
 refine Vc.nil ?_
 refine Xah ?_
 obtain rfl := kj h
 exact Xbt (τ := ⟨[(4, .own 16)], [(16, some (.ints .i64 v9))]⟩) (kW hC [(16, 128)]) rfl ⟨rfl, trivial⟩
end
end Go.Proofs.YtjgbfopmjpkkhaaGreat.A
