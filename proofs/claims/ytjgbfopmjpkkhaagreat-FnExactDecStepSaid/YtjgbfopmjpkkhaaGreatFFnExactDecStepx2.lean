/- Contracts of the functions that the law FnExactDecStep reaches, part 2: each comes to what its pure function tells. Written by a program of this session. Conditions: as each statement tells. -/
import Derived.Test.YtjgbfopmjpkkhaaGreatFFnExactDecStepx1
namespace Go.Proofs.YtjgbfopmjpkkhaaGreat.A
open Go Go.Proofs Go.Proofs.YtjgbfopmjpkkhaaGreatAL Go.RowKit
set_option linter.unusedVariables false
set_option linter.unusedSimpArgs false
set_option maxRecDepth 100000
set_option maxHeartbeats 2000000
noncomputable section
def Xtf (r : ((List Int) × Bool)) : AV := .tup [.own 16, .sv (.bool r.2)]
def Xte (r : ((List Int) × Bool)) : Xa4 := [(16, .ints .i64 r.1)]
theorem Xuj {p0 p1 r} (h : Xf8 p0 p1 = some r) : AC Tryz.prog 161 [.sv (.ints .i64 p0), .agg [.sv (.bool p1.Key), .sv (.int .i64 p1.Qp), .sv (.bool p1.Large), .sv (.bool p1.Exact)]] [] (Xtf r) (Xte r) := by
 refine Xag hT Tryz.func161 rfl fun C hC => ?_
 unfold Xf8 at h
 refine Xab ?_
 iterate 3 refine kO hT hC ?_
 refine Vc.nil ?_
 refine Xao ?_
 refine kL [0,3] [48] [_,_] [_] ?_
 refine kA h (fun v1 => ([(26, .sv (.bool v1))], [])) (fun v1 h => ?_) fun v1 h => ?_
 refine Xac ?_
 refine kO hT hC ?_
 refine kC hC [] Tryz.call184 h (fun _ => Xj4) fun q2 h => ?_
 iterate 2 refine kO hT hC ?_
 refine kS h ?_ ?_ <;> intro b1 h
 refine kI hT hC (kn b1) ?_
 refine kE hC (kn b1) [] Tryz.call119 h (fun _ => Xkp) fun q3 h => ?_
 refine kI hT hC (kn b1) ?_
 refine kP hC false (kn b1) ?_
 refine Vc.nil ?_
 exact kM
 iterate 3 refine kF hC (kn b1) ?_
 refine kP hC true (kn b1) ?_
 refine Vc.nil ?_
 exact kM
 refine kS h ?_ ?_ <;> intro b2 h
 refine kt b2 ?_
 refine Xab ?_
 iterate 3 refine kO hT hC ?_
 refine Vc.nil ?_
 refine Xah ?_
 refine Xal ?_
 obtain rfl := kj h
 exact Xbv (τ := ⟨[(4, .own 16), (5, .sv (.bool false))], [(16, some (.ints .i64 ([] : List Int)))]⟩) (kW hC [(16, 432)]) rfl ⟨rfl, trivial⟩
 refine kf b2 ?_
 refine Xaf ?_
 refine Xae ?_
 refine Xao ?_
 refine Xab ?_
 iterate 2 refine kO hT hC ?_
 refine Vc.nil ?_
 refine kS h ?_ ?_ <;> intro b3 h
 refine kt b3 ?_
 refine Xab ?_
 refine kO hT hC ?_
 refine kC hC [(16, 496)] Tryz.call186 h (fun _ => Xj3) fun q4 h => ?_
 iterate 4 refine kO hT hC ?_
 refine Vc.nil ?_
 refine Xah ?_
 refine Xal ?_
 obtain rfl := kj h
 exact Xbv (τ := ⟨[(4, .own 16), (5, .sv (.bool q4.2))], [(16, some (.ints .i64 q4.1))]⟩) (kW hC [(16, 496)]) rfl ⟨rfl, trivial⟩
 refine kf b3 ?_
 refine Xaf ?_
 refine Xae ?_
 refine Xao ?_
 refine Xab ?_
 iterate 2 refine kO hT hC ?_
 refine Vc.nil ?_
 refine kS h ?_ ?_ <;> intro b4 h
 refine kt b4 ?_
 refine Xab ?_
 refine kO hT hC ?_
 refine kC hC [(16, 608)] Tryz.call186 h (fun _ => Xj3) fun q5 h => ?_
 iterate 5 refine kO hT hC ?_
 refine Vc.nil ?_
 refine Xao ?_
 refine Xab ?_
 iterate 3 refine kO hT hC ?_
 refine Vc.nil ?_
 refine kL [3,6,41,42,43] [48,608] [_,_,_,_,_] [_,_] ?_
 refine kX h (fun v8 => ([(43, .sv (.int .i64 v8.1))], [(608, some (.ints .i64 v8.2))])) (fun v11 => ([(3, .any), (41, .any), (42, .any), (43, .any)], [(608, some (.ints .i64 v11)), (48, none)])) (kW hC []) (fun v8 s h => ?_) fun v11 h => ?_
 unfold Xd9 at h
 refine Xab ?_
 refine kO hT hC ?_
 refine Vc.nil ?_
 refine Xao ?_
 refine kS h ?_ ?_ <;> intro b7 h
 refine kt b7 ?_
 refine Xaf ?_
 refine Xae ?_
 refine Xao ?_
 refine Xaq ?_
 refine Xab ?_
 refine kO hT hC ?_
 iterate 2 refine kQ hT hC h fun h => ?_
 iterate 2 refine kO hT hC ?_
 refine Vc.nil ?_
 refine Xac ?_
 iterate 5 refine kO hT hC ?_
 refine kC hC [] Tryz.call187 h (fun _ => Xwo) fun q12 h => ?_
 iterate 2 refine kQ hT hC h fun h => ?_
 refine Vc.nil ?_
 refine Xat ?_
 refine Xae ?_
 refine Xac ?_
 iterate 2 refine kO hT hC ?_
 refine Vc.nil ?_
 exact kG
 refine kf b7 ?_
 refine Xau ?_
 refine Xaz ?_
 exact ku
 refine Xae ?_
 refine Xab ?_
 refine kO hT hC ?_
 refine kC hC [(16, 912)] Tryz.call188 h (fun _ => Xwl) fun q14 h => ?_
 iterate 2 refine kO hT hC ?_
 refine Vc.nil ?_
 refine Xah ?_
 refine Xal ?_
 obtain rfl := kj h
 exact Xbv (τ := ⟨[(4, .own 16), (5, .sv (.bool true))], [(16, some (.ints .i64 q14))]⟩) (kW hC [(16, 912)]) rfl ⟨rfl, trivial⟩
 refine kf b4 ?_
 refine Xaf ?_
 refine Xae ?_
 refine Xab ?_
 obtain ⟨hq, h⟩ := Xa5 h
 refine Yh5 hT hC rfl rfl rfl rfl ⟨hq.1, hq.2.1, hq.2.2, by decide⟩ ?_
 refine kO hT hC ?_
 refine Vc.nil ?_
 refine Xao ?_
 refine Xab ?_
 refine kO hT hC ?_
 refine Vc.nil ?_
 refine kL [0,3,10,59] [48,928] [_,_,_,_] [_,_] ?_
 refine kX h (fun v32 => ([(59, .sv (.int .i64 v32.1))], [(928, some (.ints .i64 v32.2))])) (fun v50 => ([(0, .any), (3, .any), (59, .any)], [(928, some (.ints .i64 v50)), (48, none)])) (kW hC []) (fun v32 s h => ?_) fun v50 h => ?_
 unfold Xib at h
 refine Xab ?_
 refine kO hT hC ?_
 refine Vc.nil ?_
 refine Xao ?_
 refine kS h ?_ ?_ <;> intro b22 h
 refine kt b22 ?_
 refine Xaf ?_
 refine Xae ?_
 refine Xao ?_
 refine Xaq ?_
 refine Xab ?_
 iterate 2 refine kO hT hC ?_
 refine kN ?_
 iterate 6 refine kO hT hC ?_
 refine kQ hT hC h fun h => ?_
 refine kC hC [(16, 1120)] Tryz.call186 h (fun _ => Xj3) fun q51 h => ?_
 iterate 5 refine kO hT hC ?_
 refine Vc.nil ?_
 refine Xao ?_
 refine Xab ?_
 iterate 3 refine kO hT hC ?_
 refine Vc.nil ?_
 refine kL [0,3,10,11,12,59,73,74,75] [48,928,1120] [_,_,_,_,_,_,_,_,_] [_,_,_] ?_
 refine kX h (fun v54 => ([(75, .sv (.int .i64 v54.1))], [(1120, some (.ints .i64 v54.2))])) (fun v57 => ([(73, .any), (74, .any), (75, .any)], [(1120, some (.ints .i64 v57))])) (kW hC []) (fun v54 s h => ?_) fun v57 h => ?_
 unfold Xdv at h
 refine Xab ?_
 refine kO hT hC ?_
 refine Vc.nil ?_
 refine Xao ?_
 refine kS h ?_ ?_ <;> intro b25 h
 refine kt b25 ?_
 refine Xaf ?_
 refine Xae ?_
 refine Xao ?_
 refine Xaq ?_
 refine Xab ?_
 refine kO hT hC ?_
 iterate 2 refine kQ hT hC h fun h => ?_
 iterate 2 refine kO hT hC ?_
 refine Vc.nil ?_
 refine Xac ?_
 iterate 6 refine kO hT hC ?_
 refine kC hC [] Tryz.call189 h (fun _ => Xwr) fun q58 h => ?_
 iterate 2 refine kQ hT hC h fun h => ?_
 refine Vc.nil ?_
 refine Xat ?_
 refine Xae ?_
 refine Xac ?_
 iterate 2 refine kO hT hC ?_
 refine Vc.nil ?_
 exact kG
 refine kf b25 ?_
 refine Xau ?_
 refine Xaz ?_
 exact ku
 refine Xae ?_
 refine Xab ?_
 refine kO hT hC ?_
 refine kC hC [(16, 1440)] Tryz.call190 h (fun _ => Xys) fun q60 h => ?_
 refine kO hT hC ?_
 refine kN ?_
 refine kO hT hC ?_
 refine kC hC [(16, 1472)] Tryz.call191 h (fun _ => Yc2) fun q61 h => ?_
 iterate 2 refine kO hT hC ?_
 refine Vc.nil ?_
 refine kL [0,3,10,16,59,92,93,94] [48,928,1440,1472] [_,_,_,_,_,_,_,_] [_,_,_,_] ?_
 refine kX h (fun v63 => ([(94, .sv (.int .i64 v63.1))], [(928, some (.ints .i64 v63.2))])) (fun v65 => ([(16, .any), (92, .any), (93, .any), (94, .any)], [(928, some (.ints .i64 v65)), (1440, none), (1472, none)])) (kW hC []) (fun v63 s h => ?_) fun v65 h => ?_
 unfold Xfh at h
 refine Xab ?_
 refine kO hT hC ?_
 refine Vc.nil ?_
 refine Xao ?_
 refine kS h ?_ ?_ <;> intro b28 h
 refine kt b28 ?_
 refine Xaf ?_
 refine Xae ?_
 refine Xao ?_
 refine Xaq ?_
 refine Xab ?_
 refine kO hT hC ?_
 iterate 2 refine kQ hT hC h fun h => ?_
 iterate 2 refine kO hT hC ?_
 refine Vc.nil ?_
 refine Xac ?_
 iterate 4 refine kO hT hC ?_
 iterate 4 refine kQ hT hC h fun h => ?_
 refine Vc.nil ?_
 refine Xat ?_
 refine Xae ?_
 refine Xac ?_
 iterate 2 refine kO hT hC ?_
 refine Vc.nil ?_
 exact kG
 refine kf b28 ?_
 refine Xau ?_
 refine Xaz ?_
 exact ku
 refine Xat ?_
 refine Xae ?_
 refine Xac ?_
 iterate 2 refine kO hT hC ?_
 refine Vc.nil ?_
 exact kG
 refine kf b22 ?_
 refine Xau ?_
 refine Xaz ?_
 exact ku
 refine Xae ?_
 refine Xab ?_
 iterate 3 refine kO hT hC ?_
 refine Vc.nil ?_
 refine Xah ?_
 obtain rfl := kj h
 exact Xbv (τ := ⟨[(4, .own 16), (5, .sv (.bool true))], [(16, some (.ints .i64 v50))]⟩) (kW hC [(16, 928)]) rfl ⟨rfl, trivial⟩
def Yb5 (r : (List Int)) : AV := .own 16
def Yb4 (r : (List Int)) : Xa4 := [(16, .ints .i64 r)]
theorem Xr9 {p0 p1 r} (h : Xjy p0 p1 = some r) : AC Tryz.prog 162 [.sv (.ints .i64 p0), .sv (.ints .i64 p1)] [] (Yb5 r) (Yb4 r) := by
 refine Xag hT Tryz.func162 rfl fun C hC => ?_
 unfold Xjy at h
 refine Xab ?_
 refine kO hT hC ?_
 refine kN ?_
 iterate 2 refine kO hT hC ?_
 refine Vc.nil ?_
 refine Xao ?_
 refine kL [0,1,5] [128] [_,_,_] [_] ?_
 refine kA h (fun v1 => ([(16, .sv (.bool v1))], [])) (fun v1 h => ?_) fun v1 h => ?_
 refine Xac ?_
 refine kO hT hC ?_
 refine kC hC [] Tryz.call192 h (fun _ => Xg2) fun q2 h => ?_
 iterate 2 refine kO hT hC ?_
 refine kS h ?_ ?_ <;> intro b1 h
 refine kI hT hC (kn b1) ?_
 refine kE hC (kn b1) [] Tryz.call192 h (fun _ => Xg2) fun q3 h => ?_
 refine kI hT hC (kn b1) ?_
 refine kP hC false (kn b1) ?_
 refine Vc.nil ?_
 exact kM
 iterate 3 refine kF hC (kn b1) ?_
 refine kP hC true (kn b1) ?_
 refine Vc.nil ?_
 exact kM
 refine kS h ?_ ?_ <;> intro b2 h
 refine kt b2 ?_
 refine Xab ?_
 iterate 2 refine kO hT hC ?_
 refine Vc.nil ?_
 refine Xah ?_
 refine Xal ?_
 obtain rfl := kj h
 exact Xbv (τ := ⟨[(4, .own 16)], [(16, some (.ints .i64 ([] : List Int)))]⟩) (kW hC [(16, 128)]) rfl ⟨rfl, trivial⟩
 refine kf b2 ?_
 refine Xaf ?_
 refine Xae ?_
 refine Xao ?_
 refine Xab ?_
 iterate 3 refine kO hT hC ?_
 refine Vc.nil ?_
 refine kL [1,5,18,19,20] [128] [_,_,_,_,_] [_] ?_
 refine kX h (fun v6 => ([(20, .sv (.int .i64 v6.1))], [(128, some (.ints .i64 v6.2))])) (fun v9 => ([(1, .any), (18, .any), (19, .any), (20, .any)], [(128, some (.ints .i64 v9))])) (kW hC []) (fun v6 s h => ?_) fun v9 h => ?_
 unfold Xkq at h
 refine Xab ?_
 refine kO hT hC ?_
 refine Vc.nil ?_
 refine Xao ?_
 refine kS h ?_ ?_ <;> intro b5 h
 refine kt b5 ?_
 refine Xaf ?_
 refine Xae ?_
 refine Xao ?_
 refine Xaq ?_
 refine Xab ?_
 refine kO hT hC ?_
 refine kQ hT hC h fun h => ?_
 iterate 3 refine kO hT hC ?_
 refine Vc.nil ?_
 refine Xac ?_
 iterate 4 refine kO hT hC ?_
 refine kQ hT hC h fun h => ?_
 iterate 2 refine kO hT hC ?_
 refine kC hC [] Tryz.call193 h (fun _ => Xiz) fun q10 h => ?_
 refine kO hT hC ?_
 refine kT hT hC h fun h => ?_
 refine kO hT hC ?_
 refine Vc.nil ?_
 refine Xat ?_
 refine Xae ?_
 refine Xac ?_
 iterate 2 refine kO hT hC ?_
 refine Vc.nil ?_
 obtain rfl := kj h
 exact Ygx (kW hC [(128, 544)])
 refine kf b5 ?_
 refine Xau ?_
 refine Xaz ?_
 exact ku
 refine Xae ?_
 refine Xab ?_
 iterate 2 refine kO hT hC ?_
 refine Vc.nil ?_
 refine Xah ?_
 obtain rfl := kj h
 exact Xbv (τ := ⟨[(4, .own 16)], [(16, some (.ints .i64 v9))]⟩) (kW hC [(16, 128)]) rfl ⟨rfl, trivial⟩
def Xyr (r : (Xjw × Bool)) : AV := .tup [.agg [.own 16, .own 17, .sv (.int .i64 r.1.Corner)], .sv (.bool r.2)]
def Xyq (r : (Xjw × Bool)) : Xa4 := [(16, .ints .i64 r.1.Above), (17, .ints .i64 r.1.Left)]
theorem Ybz {p0 p1 p2 r} (h : Xk0 p0 p1 p2 = some r) : AC Tryz.prog 163 [.agg [.sv (.int .i64 p0.Wide), .sv (.int .i64 p0.High), .sv (.str p0.Dots)], .sv (.int .i64 p1), .sv (.int .i64 p2)] [] (Xyr r) (Xyq r) := by
 refine Xag hT Tryz.func163 rfl fun C hC => ?_
 unfold Xk0 at h
 refine Xab ?_
 iterate 3 refine kO hT hC ?_
 refine Vc.nil ?_
 refine Xao ?_
 refine kL [1,2,3,6] [48,96] [_,_,_,_] [_,_] ?_
 refine kA h (fun v1 => ([(19, .sv (.bool v1))], [])) (fun v1 h => ?_) fun v1 h => ?_
 refine Xac ?_
 refine kO hT hC ?_
 refine kC hC [] Tryz.call55 h (fun _ => Xea) fun q2 h => ?_
 iterate 2 refine kO hT hC ?_
 refine kS h ?_ ?_ <;> intro b1 h
 iterate 3 refine kI hT hC (kn b1) ?_
 refine kE hC (kn b1) [] Tryz.call158 h (fun _ => Xls) fun q3 h => ?_
 refine kI hT hC (kn b1) ?_
 refine kP hC false (kn b1) ?_
 refine Vc.nil ?_
 exact kM
 iterate 5 refine kF hC (kn b1) ?_
 refine kP hC true (kn b1) ?_
 refine Vc.nil ?_
 exact kM
 refine kS h ?_ ?_ <;> intro b2 h
 refine kt b2 ?_
 refine Xab ?_
 iterate 3 refine kO hT hC ?_
 refine Vc.nil ?_
 refine Xah ?_
 refine Xal ?_
 obtain rfl := kj h
 refine Xbv (τ := ⟨[(6, .ptr 2000000 0), (7, .sv (.bool false))], [(16, some (.ints .i64 [])), (17, some (.ints .i64 [])), (2000000, some (.box [.own 16, .own 17, .sv (.int .i64 0)]))]⟩) ?_ rfl ⟨rfl, rfl, trivial⟩
 refine Xfw hC 96 0 1105 (.ints .i64 []) rfl rfl rfl rfl rfl trivial ?_
 refine Xfw hC 96 1 1106 (.ints .i64 []) rfl rfl rfl rfl rfl trivial ?_
 apply Xbz hC [(16, 1105), (17, 1106), (2000000, 96)]
 exact co
 rfl
 decide
 rfl
 refine kf b2 ?_
 refine Xaf ?_
 refine Xae ?_
 refine Xab ?_
 iterate 3 refine kO hT hC ?_
 refine Vc.nil ?_
 refine Xao ?_
 refine Xab ?_
 refine kO hT hC ?_
 refine Vc.nil ?_
 refine kL [1,2,3,6,8,22] [48,96,128] [_,_,_,_,_,_] [_,_,_] ?_
 obtain ⟨v15, hl, h⟩ := Xa7 h
 refine Yr2 (fun v9 => ([(22, .sv (.int .i64 v9.1))], [(128, some (.box [.own 1129, .own 1130, .sv (.int .i64 (-1))])), (1129, some (.ints .i64 v9.2.1)), (1130, some (.ints .i64 v9.2.2))])) (fun v15 => ([(22, .any)], [(128, some (.box [.own 1133, .own 1134, .sv (.int .i64 (-1))])), (1133, some (.ints .i64 v15.1)), (1134, some (.ints .i64 v15.2))])) hl ?_ ?_ ?_
 refine Xfw hC 128 0 1135 (.ints .i64 []) rfl rfl rfl rfl rfl trivial ?_
 refine Xfw hC 128 1 1136 (.ints .i64 []) rfl rfl rfl rfl rfl trivial ?_
 try dsimp only
 apply Xbz hC [(1129, 1135), (1130, 1136)]
 exact co
 rfl
 decide
 rfl
 intro v9 s hs
 have h := hs
 unfold Xi1 at h
 refine Xab ?_
 refine kO hT hC ?_
 refine Vc.nil ?_
 refine Xao ?_
 refine kS h ?_ ?_ <;> intro b9 h
 refine kt b9 ?_
 refine Xaf ?_
 refine Xae ?_
 refine kL [1,2,3,6,8,22] [48,96,128,1129,1130] [_,_,_,_,_,_] [_,_,_,_,_] ?_
 refine kA h (fun v16 => ([], [(1129, some (.ints .i64 v16.1)), (1130, some (.ints .i64 v16.2))])) (fun v16 h => ?_) fun v16 h => ?_
 refine Xaq ?_
 refine Xab ?_
 iterate 2 refine kO hT hC ?_
 refine Vc.nil ?_
 refine kL [1,2,3,6,8,9,22] [48,96,128,1129,1130] [_,_,_,_,_,_,_] [_,_,_,_,_] ?_
 refine kA h (fun v17 => ([], [(1129, some (.ints .i64 v17))])) (fun v17 h => ?_) fun v17 h => ?_
 refine Xab ?_
 iterate 2 refine kO hT hC ?_
 refine Vc.nil ?_
 refine kS h ?_ ?_ <;> intro b10 h
 refine kt b10 ?_
 refine Xcn hm ?_
 iterate 8 refine kO hT hC ?_
 refine kC hC [] Tryz.call185 h (fun _ => Xi3) fun q18 h => ?_
 refine kO hT hC ?_
 refine kT hT hC h fun h => ?_
 iterate 2 refine kO hT hC ?_
 refine kD ?_
 obtain rfl := kj h
 exact Xip (kW hC [(1129, 592)])
 refine kf b10 ?_
 refine Xaf ?_
 exact kM
 refine Xab ?_
 iterate 2 refine kO hT hC ?_
 refine Vc.nil ?_
 refine kS h ?_ ?_ <;> intro b11 h
 refine kt b11 ?_
 refine Xcn hm ?_
 iterate 8 refine kO hT hC ?_
 refine kC hC [] Tryz.call185 h (fun _ => Xi3) fun q19 h => ?_
 refine kO hT hC ?_
 refine kT hT hC h fun h => ?_
 iterate 2 refine kO hT hC ?_
 refine kD ?_
 refine Xat ?_
 obtain rfl := kj h
 exact Xip (kW hC [(1130, 816)])
 refine kf b11 ?_
 refine Xaf ?_
 refine Xat ?_
 exact kM
 refine Xac ?_
 iterate 2 refine kO hT hC ?_
 refine Vc.nil ?_
 exact kG
 refine kf b9 ?_
 refine Xau ?_
 refine Xaz ?_
 obtain rfl := kj h
 exact Yo7 (Yu9 (kW hC [(1133, 1129), (1134, 1130)]))
 refine Xae ?_
 refine kL [1,2,3,6,8] [48,96,128,1133,1134] [_,_,_,_,_] [_,_,_,_,_] ?_
 refine kA h (fun v21 => ([(1, .any), (2, .any), (3, .any)], [(128, some (.box [.own 1133, .own 1134, .sv (.int .i64 v21)])), (48, none)])) (fun v21 h => ?_) fun v21 h => ?_
 refine kL [1,2,3,6,8] [48,96,128,1133,1134] [_,_,_,_,_] [_,_,_,_,_] ?_
 refine kA h (fun v22 => ([(59, .sv (.bool v22))], [])) (fun v22 h => ?_) fun v22 h => ?_
 refine Xac ?_
 iterate 3 refine kO hT hC ?_
 refine kS h ?_ ?_ <;> intro b12 h
 iterate 2 refine kI hT hC b12 ?_
 refine kP hC true b12 ?_
 refine Vc.nil ?_
 exact kM
 iterate 2 refine kF hC b12 ?_
 refine kP hC false b12 ?_
 refine Vc.nil ?_
 exact kM
 refine kS h ?_ ?_ <;> intro b13 h
 refine kt b13 ?_
 refine Xac ?_
 iterate 5 refine kO hT hC ?_
 refine kC hC [] Tryz.call185 h (fun _ => Xi3) fun q23 h => ?_
 iterate 2 refine kO hT hC ?_
 refine Vc.nil ?_
 exact kM
 refine kf b13 ?_
 refine Xaf ?_
 exact kM
 refine Xab ?_
 iterate 3 refine kO hT hC ?_
 refine Vc.nil ?_
 refine Xah ?_
 obtain rfl := kj h
 exact Xbv (τ := ⟨[(6, .ptr 2000000 0), (7, .sv (.bool true))], [(16, some (.ints .i64 v15.1)), (17, some (.ints .i64 v15.2)), (2000000, some (.box [.own 16, .own 17, .sv (.int .i64 v21)]))]⟩) (kW hC [(16, 1133), (17, 1134), (2000000, 96)]) rfl ⟨rfl, rfl, trivial⟩
def Xpk (r : Bool) : AV := .sv (.bool r)
def Xpj (r : Bool) : Xa4 := []
theorem Yb0 {p0 r} (h : Xk1 p0 = some r) : AC Tryz.prog 194 [.agg [.sv (.ints .i64 p0.Above), .sv (.ints .i64 p0.Left), .sv (.int .i64 p0.Corner)]] [] (Xpk r) (Xpj r) := by
 refine Xag hT Tryz.func194 rfl fun C hC => ?_
 unfold Xk1 at h
 refine Xab ?_
 iterate 2 refine kO hT hC ?_
 refine Vc.nil ?_
 refine Xao ?_
 refine Xab ?_
 iterate 7 refine kO hT hC ?_
 refine Vc.nil ?_
 refine kL [1,9,10,11] [16,144] [_,_,_,_] [_,_] ?_
 obtain ⟨o11, hl, h⟩ := Xa7 h
 refine Xen (fun v4 => ([(11, .sv (.int .i64 v4))], [])) (fun v8 => ([(9, .any), (10, .any), (11, .any)], [(144, none)])) (fun r => Xmc C T Tryz.f194.results.toList (Xpk r) (Xpj r)) hl ?_ ?_ ?_ ?_
 apply Xbz hC []
 exact co
 rfl
 decide
 rfl
 intro v4 s hs
 have h := hs
 unfold Xev at h
 refine Xab ?_
 refine kO hT hC ?_
 refine Vc.nil ?_
 refine Xao ?_
 refine kS h ?_ ?_ <;> intro b7 h
 refine kt b7 ?_
 refine Xaf ?_
 refine Xae ?_
 refine Xao ?_
 refine Xaq ?_
 refine Xab ?_
 iterate 2 refine kQ hT hC h fun h => ?_
 refine kO hT hC ?_
 refine Vc.nil ?_
 refine kL [1,4,9,10,11] [16,144] [_,_,_,_,_] [_,_] ?_
 refine kA h (fun v9 => ([(22, .sv (.bool v9)), (4, .any)], [])) (fun v9 h => ?_) fun v9 h => ?_
 refine Xac ?_
 iterate 4 refine kO hT hC ?_
 refine kS h ?_ ?_ <;> intro b8 h
 refine kI hT hC b8 ?_
 refine kE hC b8 [] Tryz.call192 h (fun _ => Xg2) fun q10 h => ?_
 refine kI hT hC b8 ?_
 refine kP hC true b8 ?_
 refine Vc.nil ?_
 exact kM
 iterate 3 refine kF hC b8 ?_
 refine kP hC false b8 ?_
 refine Vc.nil ?_
 exact kM
 refine kS h ?_ ?_ <;> intro b9 h
 refine kt b9 ?_
 refine Xab ?_
 refine kO hT hC ?_
 refine Vc.nil ?_
 refine Xah ?_
 refine Xcs ?_
 refine Xal ?_
 obtain rfl := kj h
 refine Xmq ?_
 refine Xmo ?_
 exact Xbv (Xhl.refl _) rfl trivial
 refine kf b9 ?_
 refine Xaf ?_
 refine Xat ?_
 refine Xae ?_
 refine Xac ?_
 iterate 2 refine kO hT hC ?_
 refine Vc.nil ?_
 exact kG
 refine kf b7 ?_
 refine Xau ?_
 refine Xaz ?_
 exact kb
 intro v8 e
 subst e
 refine Xae ?_
 refine Xab ?_
 iterate 2 refine kO hT hC ?_
 refine kC hC [] Tryz.call64 h (fun _ => Xam) fun q12 h => ?_
 refine kO hT hC ?_
 refine Vc.nil ?_
 refine Xah ?_
 exact kR
 intro r' σ' e hE
 subst e
 obtain rfl := kj h
 refine Xal ?_
 exact hE
def Yc1 (r : (List Int)) : AV := .sv (.ints .i64 r)
def Yc0 (r : (List Int)) : Xa4 := []
theorem Xsj {p0 r} (h : Xj6 p0 = some r) : AC Tryz.prog 195 [.sv (.ints .i64 p0)] [] (Yc1 r) (Yc0 r) := by
 refine Xag hT Tryz.func195 rfl fun C hC => ?_
 unfold Xj6 at h
 refine Xab ?_
 refine kO hT hC ?_
 refine Vc.nil ?_
 refine Xao ?_
 refine Xab ?_
 iterate 3 refine kO hT hC ?_
 refine Vc.nil ?_
 refine kS h ?_ ?_ <;> intro b1 h
 refine kt b1 ?_
 refine Xab ?_
 iterate 2 refine kO hT hC ?_
 refine Vc.nil ?_
 refine Xah ?_
 refine Xal ?_
 obtain rfl := kj h
 exact Xbv (τ := ⟨[(2, .sv (.ints .i64 ([128, 128, 128, 128, 128, 128, 128, 128])))], []⟩) (kW hC []) rfl trivial
 refine kf b1 ?_
 refine Xaf ?_
 refine Xae ?_
 refine Xab ?_
 iterate 2 refine kO hT hC ?_
 refine Vc.nil ?_
 refine Xah ?_
 exact kR
def Xyu (r : (List Int)) : AV := .own 16
def Xyt (r : (List Int)) : Xa4 := [(16, .ints .i64 r)]
theorem Yb1 {p0 p1 r} (h : Xii p0 p1 = some r) : AC Tryz.prog 164 [.sv (.int .i64 p0), .agg [.sv (.ints .i64 p1.Above), .sv (.ints .i64 p1.Left), .sv (.int .i64 p1.Corner)]] [] (Xyu r) (Xyt r) := by
 refine Xag hT Tryz.func164 rfl fun C hC => ?_
 unfold Xii at h
 refine Xab ?_
 iterate 2 refine kO hT hC ?_
 refine kN ?_
 iterate 2 refine kO hT hC ?_
 refine Vc.nil ?_
 refine Xao ?_
 refine kL [0,3,5] [48,208] [_,_,_] [_,_] ?_
 refine kA h (fun v1 => ([(21, .sv (.bool v1))], [])) (fun v1 h => ?_) fun v1 h => ?_
 refine Xac ?_
 refine kO hT hC ?_
 refine kC hC [] Tryz.call194 h (fun _ => Yb0) fun q2 h => ?_
 iterate 2 refine kO hT hC ?_
 refine kS h ?_ ?_ <;> intro b1 h
 refine kI hT hC (kn b1) ?_
 refine kE hC (kn b1) [] Tryz.call64 h (fun _ => Xam) fun q3 h => ?_
 refine kI hT hC (kn b1) ?_
 refine kP hC false (kn b1) ?_
 refine Vc.nil ?_
 exact kM
 iterate 3 refine kF hC (kn b1) ?_
 refine kP hC true (kn b1) ?_
 refine Vc.nil ?_
 exact kM
 refine kS h ?_ ?_ <;> intro b2 h
 refine kt b2 ?_
 refine Xab ?_
 iterate 2 refine kO hT hC ?_
 refine Vc.nil ?_
 refine Xah ?_
 refine Xal ?_
 obtain rfl := kj h
 exact Xbv (τ := ⟨[(4, .own 16)], [(16, some (.ints .i64 ([] : List Int)))]⟩) (kW hC [(16, 208)]) rfl ⟨rfl, trivial⟩
 refine kf b2 ?_
 refine Xaf ?_
 refine Xae ?_
 refine Xab ?_
 refine kO hT hC ?_
 refine Vc.nil ?_
 refine kL [0,3,5,6] [48,208] [_,_,_,_] [_,_] ?_
 refine kA h (fun v4 => ([(6, .sv (.int .i64 v4))], [])) (fun v4 h => ?_) fun v4 h => ?_
 refine Xab ?_
 iterate 8 refine kO hT hC ?_
 refine kN ?_
 iterate 2 refine kO hT hC ?_
 refine Vc.nil ?_
 refine kS h ?_ ?_ <;> intro b3 h
 refine kt b3 ?_
 refine Xcn hm ?_
 iterate 2 refine kO hT hC ?_
 refine kC hC [] Tryz.call121 h (fun _ => Xef) fun q5 h => ?_
 iterate 2 refine kO hT hC ?_
 refine kC hC [] Tryz.call121 h (fun _ => Xef) fun q6 h => ?_
 iterate 2 refine kO hT hC ?_
 refine kQ hT hC h fun h => ?_
 iterate 2 refine kO hT hC ?_
 refine kQ hT hC h fun h => ?_
 refine kO hT hC ?_
 refine kD ?_
 exact kM
 refine kf b3 ?_
 refine Xaf ?_
 exact kM
 refine Xeg hm ?_
 iterate 2 refine kO hT hC ?_
 refine kC hC [] Tryz.call195 h (fun _ => Xsj) fun q7 h => ?_
 iterate 2 refine kO hT hC ?_
 refine kC hC [] Tryz.call195 h (fun _ => Xsj) fun q8 h => ?_
 iterate 5 refine kO hT hC ?_
 refine kD ?_
 refine kL [0,5,6,8,9,10] [208] [_,_,_,_,_,_] [_] ?_
 refine kA h (fun v9 => ([(10, .sv (.int .i64 v9))], [])) (fun v9 h => ?_) fun v9 h => ?_
 refine Xab ?_
 iterate 2 refine kO hT hC ?_
 refine Vc.nil ?_
 refine kS h ?_ ?_ <;> intro b4 h
 refine kt b4 ?_
 refine Xac ?_
 refine kO hT hC ?_
 refine Vc.nil ?_
 exact kM
 refine kf b4 ?_
 refine Xaf ?_
 exact kM
 refine Xao ?_
 refine Xab ?_
 refine kO hT hC ?_
 refine Vc.nil ?_
 refine kL [0,5,6,8,9,10,54] [208] [_,_,_,_,_,_,_] [_] ?_
 refine kX h (fun v22 => ([(54, .sv (.int .i64 v22.1))], [(208, some (.ints .i64 v22.2))])) (fun v35 => ([(0, .any), (6, .any), (8, .any), (9, .any), (10, .any), (54, .any)], [(208, some (.ints .i64 v35))])) (kW hC []) (fun v22 s h => ?_) fun v35 h => ?_
 unfold Xlk at h
 refine Xab ?_
 refine kO hT hC ?_
 refine Vc.nil ?_
 refine Xao ?_
 refine kS h ?_ ?_ <;> intro b31 h
 refine kt b31 ?_
 refine Xaf ?_
 refine Xae ?_
 refine Xao ?_
 refine Xaq ?_
 refine Xab ?_
 iterate 2 refine kO hT hC ?_
 refine kN ?_
 refine kO hT hC ?_
 refine Vc.nil ?_
 refine kL [0,5,6,8,9,10,11,54,57] [208] [_,_,_,_,_,_,_,_,_] [_] ?_
 refine kX h (fun v39 => ([(57, .sv (.int .i64 v39.1))], [(208, some (.ints .i64 v39.2))])) (fun v43 => ([(11, .any), (57, .any)], [(208, some (.ints .i64 v43))])) (kW hC []) (fun v39 s h => ?_) fun v43 h => ?_
 unfold Xfn at h
 refine Xab ?_
 refine kO hT hC ?_
 refine Vc.nil ?_
 refine Xao ?_
 refine kS h ?_ ?_ <;> intro b40 h
 refine kt b40 ?_
 refine Xaf ?_
 refine Xae ?_
 refine kL [0,5,6,8,9,10,11,54,57] [208] [_,_,_,_,_,_,_,_,_] [_] ?_
 refine kA h (fun v44 => ([(5, .own 1700)], [(1700, some (.ints .i64 v44)), (208, none)])) (fun v44 h => ?_) fun v44 h => ?_
 refine Xaq ?_
 refine Xab ?_
 iterate 2 refine kO hT hC ?_
 refine kN ?_
 refine kO hT hC ?_
 refine Vc.nil ?_
 refine Xaq ?_
 refine Xab ?_
 iterate 2 refine kO hT hC ?_
 refine Vc.nil ?_
 refine kS h ?_ ?_ <;> intro b41 h
 refine kt b41 ?_
 refine Xac ?_
 iterate 3 refine kO hT hC ?_
 refine kT hT hC h fun h => ?_
 refine kO hT hC ?_
 refine Vc.nil ?_
 iterate 2 refine Xat ?_
 obtain rfl := kj h
 exact Xip (kW hC [(1700, 1296)])
 refine kf b41 ?_
 refine Xab ?_
 iterate 2 refine kO hT hC ?_
 refine Vc.nil ?_
 refine kS h ?_ ?_ <;> intro b42 h
 refine kt b42 ?_
 refine Xac ?_
 iterate 3 refine kO hT hC ?_
 refine kQ hT hC h fun h => ?_
 iterate 2 refine kO hT hC ?_
 refine kT hT hC h fun h => ?_
 refine kO hT hC ?_
 refine Vc.nil ?_
 iterate 2 refine Xat ?_
 obtain rfl := kj h
 exact Xip (kW hC [(1700, 1440)])
 refine kf b42 ?_
 refine Xab ?_
 iterate 2 refine kO hT hC ?_
 refine Vc.nil ?_
 refine kS h ?_ ?_ <;> intro b43 h
 refine kt b43 ?_
 refine Xac ?_
 iterate 3 refine kO hT hC ?_
 refine kQ hT hC h fun h => ?_
 iterate 2 refine kO hT hC ?_
 refine kT hT hC h fun h => ?_
 refine kO hT hC ?_
 refine Vc.nil ?_
 iterate 2 refine Xat ?_
 obtain rfl := kj h
 exact Xip (kW hC [(1700, 1584)])
 refine kf b43 ?_
 refine Xcn hm ?_
 iterate 3 refine kO hT hC ?_
 refine kQ hT hC h fun h => ?_
 iterate 3 refine kO hT hC ?_
 refine kQ hT hC h fun h => ?_
 iterate 4 refine kO hT hC ?_
 refine kC hC [] Tryz.call193 h (fun _ => Xiz) fun q45 h => ?_
 refine kO hT hC ?_
 refine kT hT hC h fun h => ?_
 refine kO hT hC ?_
 refine kD ?_
 iterate 2 refine Xat ?_
 obtain rfl := kj h
 exact Xip (kW hC [(1700, 1200)])
 refine Xac ?_
 iterate 2 refine kO hT hC ?_
 refine Vc.nil ?_
 obtain rfl := kj h
 exact Ygx (kW hC [(208, 1700)])
 refine kf b40 ?_
 refine Xau ?_
 refine Xaz ?_
 exact ku
 refine Xat ?_
 refine Xae ?_
 refine Xac ?_
 iterate 2 refine kO hT hC ?_
 refine Vc.nil ?_
 exact kG
 refine kf b31 ?_
 refine Xau ?_
 refine Xaz ?_
 exact ku
 refine Xae ?_
 refine Xab ?_
 iterate 2 refine kO hT hC ?_
 refine Vc.nil ?_
 refine Xah ?_
 obtain rfl := kj h
 exact Xbv (τ := ⟨[(4, .own 16)], [(16, some (.ints .i64 v35))]⟩) (kW hC [(16, 208)]) rfl ⟨rfl, trivial⟩
def Xth (r : ((List Int) × Bool)) : AV := .tup [.own 16, .sv (.bool r.2)]
def Xtg (r : ((List Int) × Bool)) : Xa4 := [(16, .ints .i64 r.1)]
theorem Xuq {p0 p1 p2 p3 p4 p5 p6 p7 r} (h : Xc2 p0 p1 p2 p3 p4 p5 p6 p7 = some r) : AC Tryz.prog 125 [.agg [.sv (.int .i64 p0.Wide), .sv (.int .i64 p0.High), .sv (.str p0.Dots)], .agg [.sv (.int .i64 p1.Wide), .sv (.int .i64 p1.High), .sv (.str p1.Dots)], .sv (.int .i64 p2), .sv (.int .i64 p3), .agg [.sv (.bool p4.Key), .sv (.int .i64 p4.Qp), .sv (.bool p4.Large), .sv (.bool p4.Exact)], .sv (.int .i64 p5), .sv (.int .i64 p6), .agg [.sv (.int .i64 p7.Kind), .sv (.int .i64 p7.Mode), .sv (.int .i64 p7.Dx), .sv (.int .i64 p7.Dy), .sv (.ints .i64 p7.Levels)]] [] (Xth r) (Xtg r) := by
 refine Xag hT Tryz.func125 rfl fun C hC => ?_
 unfold Xc2 at h
 refine Xab ?_
 iterate 6 refine kO hT hC ?_
 refine Vc.nil ?_
 refine Xao ?_
 refine kL [2,3,5,6,8,9,12,15] [128,144,192,240] [_,_,_,_,_,_,_,_] [_,_,_,_] ?_
 refine kA h (fun v1 => ([(67, .sv (.bool v1))], [])) (fun v1 h => ?_) fun v1 h => ?_
 refine Xac ?_
 refine kO hT hC ?_
 refine kC hC [] Tryz.call55 h (fun _ => Xea) fun q2 h => ?_
 iterate 2 refine kO hT hC ?_
 refine kS h ?_ ?_ <;> intro b1 h
 iterate 3 refine kI hT hC (kn b1) ?_
 refine kE hC (kn b1) [] Tryz.call158 h (fun _ => Xls) fun q3 h => ?_
 refine kI hT hC (kn b1) ?_
 refine kP hC false (kn b1) ?_
 refine kO hT hC ?_
 refine kS h ?_ ?_ <;> intro b2 h
 refine kI hT hC (kn b2) ?_
 refine kE hC (kn b2) [] Tryz.call64 h (fun _ => Xam) fun q4 h => ?_
 refine kI hT hC (kn b2) ?_
 refine kP hC false (kn b2) ?_
 refine kO hT hC ?_
 refine kS h ?_ ?_ <;> intro b3 h
 refine kI hT hC (kn b3) ?_
 refine kE hC (kn b3) [] Tryz.call64 h (fun _ => Xam) fun q5 h => ?_
 refine kI hT hC (kn b3) ?_
 refine kP hC false (kn b3) ?_
 refine kO hT hC ?_
 refine kS h ?_ ?_ <;> intro b4 h
 refine kI hT hC (kn b4) ?_
 refine kE hC (kn b4) [] Tryz.call157 h (fun _ => Xpl) fun q6 h => ?_
 refine kI hT hC (kn b4) ?_
 refine kP hC false (kn b4) ?_
 refine kO hT hC ?_
 refine kS h ?_ ?_ <;> intro b5 h
 refine kI hT hC (kn b5) ?_
 refine kE hC (kn b5) [] Tryz.call119 h (fun _ => Xkp) fun q7 h => ?_
 refine kI hT hC (kn b5) ?_
 refine kP hC false (kn b5) ?_
 refine kO hT hC ?_
 refine kS h ?_ ?_ <;> intro b6 h
 iterate 2 refine kI hT hC (kn b6) ?_
 refine kE hC (kn b6) [] Tryz.call159 h (fun _ => Xur) fun q8 h => ?_
 refine kI hT hC (kn b6) ?_
 refine kP hC false (kn b6) ?_
 refine kO hT hC ?_
 refine kS h ?_ ?_ <;> intro b7 h
 iterate 4 refine kI hT hC (kn b7) ?_
 refine kS h ?_ ?_ <;> intro b8 h
 refine kI hT hC b8 ?_
 refine kE hC b8 [] Tryz.call55 h (fun _ => Xea) fun q9 h => ?_
 refine kI hT hC b8 ?_
 refine Xa0 hC rfl rfl rfl rfl (kn b7) rfl rfl (b := true) b8 rfl rfl rfl trivial ?_
 refine kP hC false (kn b7) ?_
 refine Vc.nil ?_
 exact kM
 iterate 3 refine kF hC b8 ?_
 refine Xa0 hC rfl rfl rfl rfl (kn b7) rfl rfl (b := false) b8 rfl rfl rfl trivial ?_
 refine kP hC false (kn b7) ?_
 refine Vc.nil ?_
 exact kM
 iterate 4 refine kF hC (kn b7) ?_
 iterate 3 refine Xdh hC rfl rfl rfl rfl rfl rfl ?_
 refine kF hC (kn b7) ?_
 refine kP hC true (kn b7) ?_
 refine Vc.nil ?_
 exact kM
 iterate 4 refine kF hC (kn b6) ?_
 refine kP hC true (kn b6) ?_
 refine kO hT hC ?_
 iterate 4 refine kF hC rfl ?_
 iterate 3 refine Xdh hC rfl rfl rfl rfl rfl rfl ?_
 refine kF hC rfl ?_
 refine kO hT hC ?_
 refine Vc.nil ?_
 exact kM
 iterate 3 refine kF hC (kn b5) ?_
 refine kP hC true (kn b5) ?_
 refine kO hT hC ?_
 iterate 4 refine kF hC rfl ?_
 iterate 2 refine kO hT hC ?_
 iterate 4 refine kF hC rfl ?_
 iterate 3 refine Xdh hC rfl rfl rfl rfl rfl rfl ?_
 refine kF hC rfl ?_
 refine kO hT hC ?_
 refine Vc.nil ?_
 exact kM
 iterate 3 refine kF hC (kn b4) ?_
 refine kP hC true (kn b4) ?_
 refine kO hT hC ?_
 iterate 3 refine kF hC rfl ?_
 iterate 2 refine kO hT hC ?_
 iterate 4 refine kF hC rfl ?_
 iterate 2 refine kO hT hC ?_
 iterate 4 refine kF hC rfl ?_
 iterate 3 refine Xdh hC rfl rfl rfl rfl rfl rfl ?_
 refine kF hC rfl ?_
 refine kO hT hC ?_
 refine Vc.nil ?_
 exact kM
 iterate 3 refine kF hC (kn b3) ?_
 refine kP hC true (kn b3) ?_
 refine kO hT hC ?_
 iterate 3 refine kF hC rfl ?_
 iterate 2 refine kO hT hC ?_
 iterate 3 refine kF hC rfl ?_
 iterate 2 refine kO hT hC ?_
 iterate 4 refine kF hC rfl ?_
 iterate 2 refine kO hT hC ?_
 iterate 4 refine kF hC rfl ?_
 iterate 3 refine Xdh hC rfl rfl rfl rfl rfl rfl ?_
 refine kF hC rfl ?_
 refine kO hT hC ?_
 refine Vc.nil ?_
 exact kM
 iterate 3 refine kF hC (kn b2) ?_
 refine kP hC true (kn b2) ?_
 refine kO hT hC ?_
 iterate 3 refine kF hC rfl ?_
 iterate 2 refine kO hT hC ?_
 iterate 3 refine kF hC rfl ?_
 iterate 2 refine kO hT hC ?_
 iterate 3 refine kF hC rfl ?_
 iterate 2 refine kO hT hC ?_
 iterate 4 refine kF hC rfl ?_
 iterate 2 refine kO hT hC ?_
 iterate 4 refine kF hC rfl ?_
 iterate 3 refine Xdh hC rfl rfl rfl rfl rfl rfl ?_
 refine kF hC rfl ?_
 refine kO hT hC ?_
 refine Vc.nil ?_
 exact kM
 iterate 5 refine kF hC (kn b1) ?_
 refine kP hC true (kn b1) ?_
 refine kO hT hC ?_
 iterate 3 refine kF hC rfl ?_
 iterate 2 refine kO hT hC ?_
 iterate 3 refine kF hC rfl ?_
 iterate 2 refine kO hT hC ?_
 iterate 3 refine kF hC rfl ?_
 iterate 2 refine kO hT hC ?_
 iterate 3 refine kF hC rfl ?_
 iterate 2 refine kO hT hC ?_
 iterate 4 refine kF hC rfl ?_
 iterate 2 refine kO hT hC ?_
 iterate 4 refine kF hC rfl ?_
 iterate 3 refine Xdh hC rfl rfl rfl rfl rfl rfl ?_
 refine kF hC rfl ?_
 refine kO hT hC ?_
 refine Vc.nil ?_
 exact kM
 refine kS h ?_ ?_ <;> intro b9 h
 refine kt b9 ?_
 refine Xab ?_
 iterate 3 refine kO hT hC ?_
 refine Vc.nil ?_
 refine Xah ?_
 refine Xal ?_
 obtain rfl := kj h
 exact Xbv (τ := ⟨[(16, .own 16), (17, .sv (.bool false))], [(16, some (.ints .i64 ([] : List Int)))]⟩) (kW hC [(16, 1088)]) rfl ⟨rfl, trivial⟩
 refine kf b9 ?_
 refine Xaf ?_
 refine Xae ?_
 refine Xao ?_
 refine Xab ?_
 iterate 3 refine kO hT hC ?_
 refine Vc.nil ?_
 refine kS h ?_ ?_ <;> intro b10 h
 refine kt b10 ?_
 refine Xab ?_
 iterate 7 refine kO hT hC ?_
 refine kC hC [(16, 1264)] Tryz.call160 h (fun _ => Xnv) fun q10 h => ?_
 iterate 2 refine kO hT hC ?_
 refine Vc.nil ?_
 refine Xah ?_
 refine Xal ?_
 obtain rfl := kj h
 exact Xbv (τ := ⟨[(16, .own 16), (17, .sv (.bool true))], [(16, some (.ints .i64 q10))]⟩) (kW hC [(16, 1264)]) rfl ⟨rfl, trivial⟩
 refine kf b10 ?_
 refine Xaf ?_
 refine Xae ?_
 refine Xab ?_
 iterate 3 refine kO hT hC ?_
 refine kC hC [(16, 1344)] Tryz.call161 h (fun _ => Xuj) fun q11 h => ?_
 iterate 5 refine kO hT hC ?_
 refine Vc.nil ?_
 refine Xao ?_
 refine Xab ?_
 iterate 3 refine kO hT hC ?_
 refine Vc.nil ?_
 refine kS h ?_ ?_ <;> intro b11 h
 refine kt b11 ?_
 refine Xab ?_
 iterate 13 refine kO hT hC ?_
 refine kC hC [(16, 1648)] Tryz.call160 h (fun _ => Xnv) fun q12 h => ?_
 refine kO hT hC ?_
 refine kC hC [(16, 1680)] Tryz.call162 h (fun _ => Xr9) fun q13 h => ?_
 iterate 2 refine kO hT hC ?_
 refine Vc.nil ?_
 refine Xah ?_
 refine Xal ?_
 obtain rfl := kj h
 exact Xbv (τ := ⟨[(16, .own 16), (17, .sv (.bool true))], [(16, some (.ints .i64 q13))]⟩) (kW hC [(16, 1680)]) rfl ⟨rfl, trivial⟩
 refine kf b11 ?_
 refine Xaf ?_
 refine Xae ?_
 refine Xab ?_
 iterate 3 refine kO hT hC ?_
 refine kC hC [(16, 1760), (17, 1761)] Tryz.call163 h (fun _ => Ybz) fun q14 h => ?_
 iterate 6 refine kO hT hC ?_
 refine kN ?_
 iterate 3 refine kO hT hC ?_
 refine kC hC [(16, 1856)] Tryz.call164 h (fun _ => Yb1) fun q15 h => ?_
 refine kO hT hC ?_
 refine kC hC [(16, 1888)] Tryz.call162 h (fun _ => Xr9) fun q16 h => ?_
 iterate 2 refine kO hT hC ?_
 refine Vc.nil ?_
 refine Xah ?_
 obtain rfl := kj h
 exact Xbv (τ := ⟨[(16, .own 16), (17, .sv (.bool true))], [(16, some (.ints .i64 q16))]⟩) (kW hC [(16, 1888)]) rfl ⟨rfl, trivial⟩
def Yjm (r : (List Int)) : AV := .own 16
def Yjl (r : (List Int)) : Xa4 := [(16, .ints .u8 r)]
theorem Xya {p0 r} (h : Xn1 p0 = some r) : AC Tryz.prog 127 [.agg [.sv (.int .i64 p0.Wide), .sv (.int .i64 p0.High), .sv (.str p0.Dots)]] [] (Yjm r) (Yjl r) := by
 refine Xag hT Tryz.func127 rfl fun C hC => ?_
 unfold Xn1 at h
 refine Xab ?_
 iterate 2 refine kO hT hC ?_
 refine kN ?_
 iterate 2 refine kO hT hC ?_
 refine kQ hT hC h fun h => ?_
 refine kO hT hC ?_
 refine Vc.nil ?_
 refine Xah ?_
 obtain rfl := kj h
 exact Xbv (τ := ⟨[(2, .own 16)], [(16, some (.ints .u8 (Xbo p0.Dots)))]⟩) (kW hC [(16, 80)]) rfl ⟨rfl, trivial⟩
def Yl3 (r : Pic) : AV := .agg [.sv (.int .i64 r.Wide), .sv (.int .i64 r.High), .sv (.str r.Dots)]
def Yl2 (r : Pic) : Xa4 := []
theorem Ynp {p0 p1 p2 p3 r} (h : Xrg p0 p1 p2 p3 = some r) : AC Tryz.prog 126 [.agg [.sv (.int .i64 p0.Wide), .sv (.int .i64 p0.High), .sv (.str p0.Dots)], .sv (.int .i64 p1), .sv (.int .i64 p2), .sv (.ints .i64 p3)] [] (Yl3 r) (Yl2 r) := by
 refine Xag hT Tryz.func126 rfl fun C hC => ?_
 unfold Xrg at h
 refine Xab ?_
 iterate 2 refine kO hT hC ?_
 refine kN ?_
 refine kO hT hC ?_
 refine kC hC [(16, 208)] Tryz.call127 h (fun _ => Xya) fun q1 h => ?_
 refine kO hT hC ?_
 refine Vc.nil ?_
 refine Xao ?_
 refine Xab ?_
 iterate 3 refine kO hT hC ?_
 refine Vc.nil ?_
 refine kL [1,2,4,8,9,14,15,16] [64,128,208] [_,_,_,_,_,_,_,_] [_,_,_] ?_
 refine kX h (fun v3 => ([(16, .sv (.int .i64 v3.1))], [(208, some (.ints .u8 v3.2))])) (fun v5 => ([(1, .any), (2, .any), (14, .any), (15, .any), (16, .any)], [(208, some (.ints .u8 v5))])) (kW hC []) (fun v3 s h => ?_) fun v5 h => ?_
 unfold Xo1 at h
 refine Xab ?_
 refine kO hT hC ?_
 refine Vc.nil ?_
 refine Xao ?_
 refine kS h ?_ ?_ <;> intro b3 h
 refine kt b3 ?_
 refine Xaf ?_
 refine Xae ?_
 refine Xao ?_
 refine Xaq ?_
 refine Xab ?_
 refine kO hT hC ?_
 refine kQ hT hC h fun h => ?_
 iterate 3 refine kO hT hC ?_
 refine Vc.nil ?_
 refine Xac ?_
 iterate 3 refine kO hT hC ?_
 refine kQ hT hC h fun h => ?_
 iterate 7 refine kO hT hC ?_
 refine kQ hT hC h fun h => ?_
 iterate 3 refine kO hT hC ?_
 iterate 2 refine kQ hT hC h fun h => ?_
 refine Vc.nil ?_
 refine Xat ?_
 refine Xae ?_
 refine Xac ?_
 iterate 2 refine kO hT hC ?_
 refine Vc.nil ?_
 exact kG
 refine kf b3 ?_
 refine Xau ?_
 refine Xaz ?_
 exact ku
 refine Xae ?_
 refine Xab ?_
 iterate 4 refine kO hT hC ?_
 refine kN ?_
 iterate 2 refine kO hT hC ?_
 refine Vc.nil ?_
 refine Xah ?_
 exact kR
def Xnz (r : (Pic × Bool)) : AV := .tup [.agg [.sv (.int .i64 r.1.Wide), .sv (.int .i64 r.1.High), .sv (.str r.1.Dots)], .sv (.bool r.2)]
def Xny (r : (Pic × Bool)) : Xa4 := []
theorem Xy5 {p0 p1 p2 p3 p4 r} (h : Xi7 p0 p1 p2 p3 p4 = some r) : AC Tryz.prog 85 [.agg [.sv (.int .i64 p0.Wide), .sv (.int .i64 p0.High), .sv (.str p0.Dots)], .agg [.sv (.int .i64 p1.Left), .sv (.int .i64 p1.Top), .sv (.int .i64 p1.Wide), .sv (.int .i64 p1.High)], .agg [.sv (.bool p2.Key), .sv (.int .i64 p2.Qp), .sv (.bool p2.Large), .sv (.bool p2.Exact)], .sv (.bool p3), .sv (Xdc.sv p4)] [] (Xnz r) (Xny r) := by
 refine Xag hT Tryz.func85 rfl fun C hC => ?_
 unfold Xi7 at h
 refine Xab ?_
 iterate 5 refine kO hT hC ?_
 refine Vc.nil ?_
 refine Xao ?_
 refine kL [3,4,5,6,7,10] [80,96,112,160] [_,_,_,_,_,_] [_,_,_,_] ?_
 refine kA h (fun v1 => ([(59, .sv (.bool v1))], [])) (fun v1 h => ?_) fun v1 h => ?_
 refine Xac ?_
 iterate 2 refine kO hT hC ?_
 refine kC hC [] Tryz.call122 h (fun _ => Xsh) fun q2 h => ?_
 iterate 2 refine kO hT hC ?_
 refine kS h ?_ ?_ <;> intro b1 h
 iterate 2 refine kI hT hC (kn b1) ?_
 refine kE hC (kn b1) [] Tryz.call122 h (fun _ => Xsh) fun q3 h => ?_
 refine kI hT hC (kn b1) ?_
 refine kP hC false (kn b1) ?_
 refine kO hT hC ?_
 refine kS h ?_ ?_ <;> intro b2 h
 iterate 2 refine kI hT hC (kn b2) ?_
 refine kE hC (kn b2) [] Tryz.call64 h (fun _ => Xam) fun q4 h => ?_
 refine kI hT hC (kn b2) ?_
 refine kP hC false (kn b2) ?_
 refine kO hT hC ?_
 refine kS h ?_ ?_ <;> intro b3 h
 iterate 2 refine kI hT hC (kn b3) ?_
 refine kE hC (kn b3) [] Tryz.call64 h (fun _ => Xam) fun q5 h => ?_
 refine kI hT hC (kn b3) ?_
 refine kP hC false (kn b3) ?_
 refine kO hT hC ?_
 refine kS h ?_ ?_ <;> intro b4 h
 refine kI hT hC (kn b4) ?_
 refine kE hC (kn b4) [] Tryz.call119 h (fun _ => Xkp) fun q6 h => ?_
 refine kI hT hC (kn b4) ?_
 refine kP hC false (kn b4) ?_
 refine kO hT hC ?_
 refine kS h ?_ ?_ <;> intro b5 h
 iterate 4 refine kI hT hC (kn b5) ?_
 refine kJ hT hC (kn b5) h fun h => ?_
 iterate 2 refine kI hT hC (kn b5) ?_
 refine kJ hT hC (kn b5) h fun h => ?_
 iterate 2 refine kI hT hC (kn b5) ?_
 refine kP hC false (kn b5) ?_
 refine Vc.nil ?_
 exact kM
 iterate 10 refine kF hC (kn b5) ?_
 refine kP hC true (kn b5) ?_
 refine Vc.nil ?_
 exact kM
 iterate 3 refine kF hC (kn b4) ?_
 refine kP hC true (kn b4) ?_
 refine kO hT hC ?_
 iterate 10 refine kF hC rfl ?_
 refine kO hT hC ?_
 refine Vc.nil ?_
 exact kM
 iterate 4 refine kF hC (kn b3) ?_
 refine kP hC true (kn b3) ?_
 refine kO hT hC ?_
 iterate 3 refine kF hC rfl ?_
 iterate 2 refine kO hT hC ?_
 iterate 10 refine kF hC rfl ?_
 refine kO hT hC ?_
 refine Vc.nil ?_
 exact kM
 iterate 4 refine kF hC (kn b2) ?_
 refine kP hC true (kn b2) ?_
 refine kO hT hC ?_
 iterate 4 refine kF hC rfl ?_
 iterate 2 refine kO hT hC ?_
 iterate 3 refine kF hC rfl ?_
 iterate 2 refine kO hT hC ?_
 iterate 10 refine kF hC rfl ?_
 refine kO hT hC ?_
 refine Vc.nil ?_
 exact kM
 iterate 4 refine kF hC (kn b1) ?_
 refine kP hC true (kn b1) ?_
 refine kO hT hC ?_
 iterate 4 refine kF hC rfl ?_
 iterate 2 refine kO hT hC ?_
 iterate 4 refine kF hC rfl ?_
 iterate 2 refine kO hT hC ?_
 iterate 3 refine kF hC rfl ?_
 iterate 2 refine kO hT hC ?_
 iterate 10 refine kF hC rfl ?_
 refine kO hT hC ?_
 refine Vc.nil ?_
 exact kM
 refine kS h ?_ ?_ <;> intro b6 h
 refine kt b6 ?_
 refine Xab ?_
 iterate 3 refine kO hT hC ?_
 refine Vc.nil ?_
 refine Xah ?_
 refine Xal ?_
 exact kR
 refine kf b6 ?_
 refine Xaf ?_
 refine Xae ?_
 refine Xao ?_
 refine kL [3,4,5,6,7,10] [80,96,112,160] [_,_,_,_,_,_] [_,_,_,_] ?_
 refine kA h (fun v7 => ([(74, .sv (.bool v7))], [])) (fun v7 h => ?_) fun v7 h => ?_
 refine Xac ?_
 iterate 4 refine kO hT hC ?_
 refine kS h ?_ ?_ <;> intro b7 h
 iterate 4 refine kF hC (kn b7) ?_
 iterate 4 refine Xdh hC rfl rfl rfl rfl rfl rfl ?_
 refine kF hC (kn b7) ?_
 refine kP hC false (kn b7) ?_
 refine Vc.nil ?_
 exact kM
 refine kI hT hC (kn b7) ?_
 refine kE hC (kn b7) [] Tryz.call55 h (fun _ => Xea) fun q8 h => ?_
 iterate 2 refine kI hT hC (kn b7) ?_
 refine kS h ?_ ?_ <;> intro b8 h
 iterate 2 refine kI hT hC (kn b8) ?_
 refine kE hC (kn b8) [] Tryz.call123 h (fun _ => Xjz) fun q9 h => ?_
 refine kI hT hC (kn b8) ?_
 refine Xa0 hC rfl rfl rfl rfl (kn b7) rfl rfl (b := false) (kn b8) rfl rfl rfl trivial ?_
 refine kP hC true (kn b7) ?_
 refine Vc.nil ?_
 exact kM
 iterate 4 refine kF hC (kn b8) ?_
 refine Xa0 hC rfl rfl rfl rfl (kn b7) rfl rfl (b := true) (kn b8) rfl rfl rfl trivial ?_
 refine kP hC true (kn b7) ?_
 refine Vc.nil ?_
 exact kM
 refine kS h ?_ ?_ <;> intro b9 h
 refine kt b9 ?_
 refine Xab ?_
 iterate 3 refine kO hT hC ?_
 refine Vc.nil ?_
 refine Xah ?_
 refine Xal ?_
 exact kR
 refine kf b9 ?_
 refine Xaf ?_
 refine Xae ?_
 refine Xeg hm ?_
 iterate 6 refine kO hT hC ?_
 refine kD ?_
 refine kL [3,4,5,6,7,10,12,13] [80,96,112,160] [_,_,_,_,_,_,_,_] [_,_,_,_] ?_
 refine kA h (fun v10 => ([(12, .sv (.int .i64 v10.1)), (13, .sv (.int .i64 v10.2.1)), (3, .any)], [(80, some (.box [.sv (.int .i64 v10.2.2.1), .sv (.int .i64 v10.2.2.2.1), .sv (.str v10.2.2.2.2)]))])) (fun v10 h => ?_) fun v10 h => ?_
 refine Xab ?_
 refine kO hT hC ?_
 refine Vc.nil ?_
 refine kS h ?_ ?_ <;> intro b10 h
 refine kt b10 ?_
 refine Xab ?_
 iterate 2 refine kO hT hC ?_
 refine kN ?_
 iterate 3 refine kO hT hC ?_
 refine Vc.nil ?_
 refine kS h ?_ ?_ <;> intro b11 h
 refine kt b11 ?_
 refine Xac ?_
 iterate 2 refine kO hT hC ?_
 refine kC hC [] Tryz.call124 h (fun _ => Yjc) fun q11 h => ?_
 iterate 4 refine kO hT hC ?_
 refine Vc.nil ?_
 exact kM
 refine kf b11 ?_
 refine Xaf ?_
 exact kM
 refine kf b10 ?_
 refine Xaf ?_
 exact kM
 refine Xab ?_
 iterate 4 refine kO hT hC ?_
 refine kC hC [] Tryz.call86 h (fun _ => Xx8) fun q12 h => ?_
 iterate 2 refine kO hT hC ?_
 refine Vc.nil ?_
 refine Xao ?_
 refine Xab ?_
 iterate 3 refine kO hT hC ?_
 refine Vc.nil ?_
 refine kL [5,6,7,10,12,13,14,95,96,97] [80,96,112,160,224] [_,_,_,_,_,_,_,_,_,_] [_,_,_,_,_] ?_
 obtain ⟨o23, hl, h⟩ := Xa7 h
 refine Xen (fun v16 => ([(97, .sv (.int .i64 v16.1))], [(224, some (.box [.sv (.int .i64 v16.2.1), .sv (.int .i64 v16.2.2.1), .sv (.str v16.2.2.2)]))])) (fun v20 => ([(5, .any), (6, .any), (7, .any), (12, .any), (13, .any), (95, .any), (96, .any), (97, .any)], [(224, some (.box [.sv (.int .i64 v20.1), .sv (.int .i64 v20.2.1), .sv (.str v20.2.2)])), (80, none), (96, none), (112, none)])) (fun r => Xmc C T Tryz.f85.results.toList (Xnz r) (Xny r)) hl ?_ ?_ ?_ ?_
 try dsimp only
 apply Xbz hC []
 exact co
 rfl
 decide
 rfl
 intro v16 s hs
 have h := hs
 unfold Xbj at h
 refine Xab ?_
 refine kO hT hC ?_
 refine Vc.nil ?_
 refine Xao ?_
 refine kS h ?_ ?_ <;> intro b16 h
 refine kt b16 ?_
 refine Xaf ?_
 refine Xae ?_
 refine Xao ?_
 refine Xaq ?_
 refine Xab ?_
 refine kO hT hC ?_
 refine kQ hT hC h fun h => ?_
 iterate 4 refine kO hT hC ?_
 refine Vc.nil ?_
 refine Xeg hm ?_
 iterate 3 refine kO hT hC ?_
 iterate 2 refine kQ hT hC h fun h => ?_
 iterate 4 refine kO hT hC ?_
 iterate 2 refine kQ hT hC h fun h => ?_
 iterate 3 refine kO hT hC ?_
 refine kD ?_
 refine Xab ?_
 iterate 8 refine kO hT hC ?_
 refine kC hC [(16, 1968)] Tryz.call125 h (fun _ => Xuq) fun q21 h => ?_
 iterate 5 refine kO hT hC ?_
 refine Vc.nil ?_
 refine Xao ?_
 refine Xab ?_
 iterate 2 refine kO hT hC ?_
 refine Vc.nil ?_
 refine kS h ?_ ?_ <;> intro b17 h
 refine kt b17 ?_
 refine Xab ?_
 iterate 3 refine kO hT hC ?_
 refine Vc.nil ?_
 refine Xah ?_
 refine Xal ?_
 refine Xcs ?_
 refine Xal ?_
 obtain rfl := kj h
 refine Xmq ?_
 refine Xmo ?_
 exact Xbv (Xhl.refl _) rfl trivial
 refine kf b17 ?_
 refine Xaf ?_
 refine Xae ?_
 refine Xac ?_
 iterate 4 refine kO hT hC ?_
 refine kC hC [] Tryz.call126 h (fun _ => Ynp) fun q22 h => ?_
 refine kO hT hC ?_
 refine Vc.nil ?_
 refine Xat ?_
 refine Xae ?_
 refine Xac ?_
 iterate 2 refine kO hT hC ?_
 refine Vc.nil ?_
 exact kG
 refine kf b16 ?_
 refine Xau ?_
 refine Xaz ?_
 exact kb
 intro v20 e
 subst e
 refine Xae ?_
 refine Xab ?_
 iterate 3 refine kO hT hC ?_
 refine Vc.nil ?_
 refine Xah ?_
 exact kR
 intro r' σ' e hE
 subst e
 obtain rfl := kj h
 refine Xal ?_
 exact hE
def Ycb (r : (Pic × Bool)) : AV := .tup [.agg [.sv (.int .i64 r.1.Wide), .sv (.int .i64 r.1.High), .sv (.str r.1.Dots)], .sv (.bool r.2)]
def Yca (r : (Pic × Bool)) : Xa4 := []
theorem Yf1 {p0 p1 p2 p3 r} (h : Xmh p0 p1 p2 p3 = some r) : AC Tryz.prog 88 [.agg [.sv (.int .i64 p0.Wide), .sv (.int .i64 p0.High), .sv (.str p0.Dots)], .agg [.sv (.int .i64 p1.Wide), .sv (.int .i64 p1.High), .sv (.str p1.Dots)], .sv (.int .i64 p2), .sv (.int .i64 p3)] [] (Ycb r) (Yca r) := by
 refine Xag hT Tryz.func88 rfl fun C hC => ?_
 unfold Xmh at h
 refine Xab ?_
 iterate 4 refine kO hT hC ?_
 refine Vc.nil ?_
 refine Xao ?_
 refine kL [2,3,4,5,8] [64,80,128] [_,_,_,_,_] [_,_,_] ?_
 refine kA h (fun v1 => ([(31, .sv (.bool v1))], [])) (fun v1 h => ?_) fun v1 h => ?_
 refine Xac ?_
 refine kO hT hC ?_
 refine kC hC [] Tryz.call55 h (fun _ => Xea) fun q2 h => ?_
 iterate 2 refine kO hT hC ?_
 refine kS h ?_ ?_ <;> intro b1 h
 refine kI hT hC (kn b1) ?_
 refine kE hC (kn b1) [] Tryz.call55 h (fun _ => Xea) fun q3 h => ?_
 refine kI hT hC (kn b1) ?_
 refine kP hC false (kn b1) ?_
 refine kO hT hC ?_
 refine kS h ?_ ?_ <;> intro b2 h
 iterate 8 refine kI hT hC (kn b2) ?_
 refine kE hC (kn b2) [] Tryz.call123 h (fun _ => Xjz) fun q4 h => ?_
 refine kI hT hC (kn b2) ?_
 refine kP hC false (kn b2) ?_
 refine Vc.nil ?_
 exact kM
 iterate 10 refine kF hC (kn b2) ?_
 refine kP hC true (kn b2) ?_
 refine Vc.nil ?_
 exact kM
 iterate 3 refine kF hC (kn b1) ?_
 refine kP hC true (kn b1) ?_
 refine kO hT hC ?_
 iterate 10 refine kF hC rfl ?_
 refine kO hT hC ?_
 refine Vc.nil ?_
 exact kM
 refine kS h ?_ ?_ <;> intro b3 h
 refine kt b3 ?_
 refine Xab ?_
 iterate 3 refine kO hT hC ?_
 refine Vc.nil ?_
 refine Xah ?_
 refine Xal ?_
 exact kR
 refine kf b3 ?_
 refine Xaf ?_
 refine Xae ?_
 refine Xab ?_
 refine kO hT hC ?_
 refine kC hC [(16, 544)] Tryz.call127 h (fun _ => Xya) fun q5 h => ?_
 refine kO hT hC ?_
 refine Vc.nil ?_
 refine Xao ?_
 refine Xab ?_
 iterate 3 refine kO hT hC ?_
 refine Vc.nil ?_
 refine kL [2,3,4,5,8,10,36,37] [64,80,128,544] [_,_,_,_,_,_,_,_] [_,_,_,_] ?_
 refine kX h (fun v7 => ([(37, .sv (.int .i64 v7.1))], [(544, some (.ints .u8 v7.2))])) (fun v9 => ([(2, .any), (3, .any), (5, .any), (36, .any), (37, .any)], [(544, some (.ints .u8 v9)), (80, none)])) (kW hC []) (fun v7 s h => ?_) fun v9 h => ?_
 unfold Xkr at h
 refine Xab ?_
 refine kO hT hC ?_
 refine Vc.nil ?_
 refine Xao ?_
 refine kS h ?_ ?_ <;> intro b6 h
 refine kt b6 ?_
 refine Xaf ?_
 refine Xae ?_
 refine Xao ?_
 refine Xaq ?_
 refine Xab ?_
 iterate 2 refine kO hT hC ?_
 refine Vc.nil ?_
 refine Xcn hm ?_
 iterate 9 refine kO hT hC ?_
 refine kQ hT hC h fun h => ?_
 iterate 11 refine kO hT hC ?_
 refine kQ hT hC h fun h => ?_
 obtain ⟨hq, h⟩ := Xa5 h
 refine Yun hT hC rfl rfl rfl rfl rfl rfl rfl rfl rfl ⟨⟨trivial, hq.1⟩, hq.2⟩ ?_
 refine kD ?_
 refine Xat ?_
 refine Xae ?_
 refine Xac ?_
 iterate 2 refine kO hT hC ?_
 refine Vc.nil ?_
 exact kG
 refine kf b6 ?_
 refine Xau ?_
 refine Xaz ?_
 exact ku
 refine Xae ?_
 refine Xab ?_
 iterate 4 refine kO hT hC ?_
 refine kN ?_
 iterate 3 refine kO hT hC ?_
 refine Vc.nil ?_
 refine Xah ?_
 exact kR
def Yga (r : Int) : AV := .sv (.int .i64 r)
def Yf9 (r : Int) : Xa4 := []
theorem Yjk {p0 p1 r} (h : Xrf p0 p1 = some r) : AC Tryz.prog 89 [.sv (.int .i64 p0), .sv (.int .i64 p1)] [] (Yga r) (Yf9 r) := by
 refine Xag hT Tryz.func89 rfl fun C hC => ?_
 unfold Xrf at h
 refine Xab ?_
 refine kO hT hC ?_
 refine kN ?_
 iterate 3 refine kO hT hC ?_
 iterate 2 refine kQ hT hC h fun h => ?_
 refine kO hT hC ?_
 refine Vc.nil ?_
 refine Xah ?_
 exact kR
def Xnh (r : (Decoder × Int × Pic × Decoder)) : AV := .tup [.agg [.sv (.bool r.1.HasSeq), .sv (.bool r.1.HasPar), .sv (.bool r.1.HasRef), .sv (.int .i64 r.1.Seq.Level), .sv (.int .i64 r.1.Seq.Bits), .own 3, .own 4, .sv (.int .i64 r.1.Par.Qp), .sv (.bool r.1.Par.Large), .sv (.bool r.1.Par.Exact), .sv (.bool r.1.Par.Confined), .sv (.int .i64 r.1.Frame), .sv (.int .i64 r.1.Got), .sv (.int .i64 r.1.Now.Wide), .sv (.int .i64 r.1.Now.High), .sv (.str r.1.Now.Dots), .sv (.int .i64 r.1.Ref.Wide), .sv (.int .i64 r.1.Ref.High), .sv (.str r.1.Ref.Dots)], .sv (.int .i64 r.2.1), .agg [.sv (.int .i64 r.2.2.1.Wide), .sv (.int .i64 r.2.2.1.High), .sv (.str r.2.2.1.Dots)]]
def Xng (r : (Decoder × Int × Pic × Decoder)) : Xa4 := [(3, .ints .i64 r.2.2.2.Seq.Cols), (4, .ints .i64 r.2.2.2.Seq.Rows)]
theorem Xnu {p0 p1 p2 r} (h : Xc1 p0 p1 p2 = some r) : AC Tryz.prog 46 [.agg [.sv (.bool p0.HasSeq), .sv (.bool p0.HasPar), .sv (.bool p0.HasRef), .sv (.int .i64 p0.Seq.Level), .sv (.int .i64 p0.Seq.Bits), .own 3, .own 4, .sv (.int .i64 p0.Par.Qp), .sv (.bool p0.Par.Large), .sv (.bool p0.Par.Exact), .sv (.bool p0.Par.Confined), .sv (.int .i64 p0.Frame), .sv (.int .i64 p0.Got), .sv (.int .i64 p0.Now.Wide), .sv (.int .i64 p0.Now.High), .sv (.str p0.Now.Dots), .sv (.int .i64 p0.Ref.Wide), .sv (.int .i64 p0.Ref.High), .sv (.str p0.Ref.Dots)], .sv (.bool p1), .sv (.str p2)] [(3, .ints .i64 p0.Seq.Cols), (4, .ints .i64 p0.Seq.Rows)] (Xnh r) (Xng r) := by
 refine Xag hT Tryz.func46 rfl fun C hC => ?_
 unfold Xc1 at h
 refine Xab ?_
 iterate 4 refine kO hT hC ?_
 refine Vc.nil ?_
 refine Xao ?_
 refine kL [1,2,3,6,8] [3,4,48,96,128] [_,_,_,_,_] [_,_,_,_,_] ?_
 refine kA h (fun v1 => ([(26, .sv (.bool v1))], [])) (fun v1 h => ?_) fun v1 h => ?_
 refine Xac ?_
 iterate 4 refine kO hT hC ?_
 refine kS h ?_ ?_ <;> intro b1 h
 iterate 3 refine kI hT hC (kn b1) ?_
 refine kP hC false (kn b1) ?_
 refine Vc.nil ?_
 exact kM
 iterate 3 refine kF hC (kn b1) ?_
 refine kP hC true (kn b1) ?_
 refine Vc.nil ?_
 exact kM
 refine kS h ?_ ?_ <;> intro b2 h
 refine kt b2 ?_
 refine Xab ?_
 iterate 5 refine kO hT hC ?_
 refine Vc.nil ?_
 refine Xah ?_
 refine Xal ?_
 obtain rfl := kj h
 exact Xbv (Xhl.refl _) rfl ⟨rfl, rfl, trivial⟩
 refine kf b2 ?_
 refine Xaf ?_
 refine Xae ?_
 refine Xab ?_
 iterate 5 refine kO hT hC ?_
 refine kC hC [] Tryz.call81 h (fun _ => Xyx) fun q2 h => ?_
 iterate 8 refine kO hT hC ?_
 refine Vc.nil ?_
 refine Xao ?_
 refine Xaq ?_
 refine Xab ?_
 iterate 3 refine kO hT hC ?_
 refine Vc.nil ?_
 refine kS h ?_ ?_ <;> intro b3 h
 refine kt b3 ?_
 refine Xab ?_
 iterate 5 refine kO hT hC ?_
 refine Vc.nil ?_
 refine Xah ?_
 refine Xcs ?_
 refine Xal ?_
 obtain rfl := kj h
 exact Xbv (Xhl.refl _) rfl ⟨rfl, rfl, trivial⟩
 refine kf b3 ?_
 refine Xab ?_
 iterate 6 refine kO hT hC ?_
 refine Vc.nil ?_
 refine kS h ?_ ?_ <;> intro b4 h
 refine kt b4 ?_
 refine Xab ?_
 iterate 5 refine kO hT hC ?_
 refine Vc.nil ?_
 refine Xah ?_
 refine Xcs ?_
 refine Xal ?_
 obtain rfl := kj h
 exact Xbv (Xhl.refl _) rfl ⟨rfl, rfl, trivial⟩
 refine kf b4 ?_
 refine kL [1,2,3,6,8,9,10] [3,4,48,96,128,144] [_,_,_,_,_,_,_] [_,_,_,_,_,_] ?_
 refine kA h (fun v3 => ([(52, .sv (.bool v3))], [])) (fun v3 h => ?_) fun v3 h => ?_
 refine Xac ?_
 iterate 4 refine kO hT hC ?_
 refine kS h ?_ ?_ <;> intro b5 h
 iterate 5 refine kI hT hC b5 ?_
 refine kP hC true b5 ?_
 refine kO hT hC ?_
 refine Vc.nil ?_
 exact kM
 iterate 5 refine kF hC b5 ?_
 refine kP hC false b5 ?_
 refine kO hT hC ?_
 refine Vc.nil ?_
 exact kM
 refine kS h ?_ ?_ <;> intro b6 h
 refine kt b6 ?_
 refine Xab ?_
 iterate 5 refine kO hT hC ?_
 refine Vc.nil ?_
 refine Xah ?_
 refine Xcs ?_
 refine Xal ?_
 obtain rfl := kj h
 exact Xbv (Xhl.refl _) rfl ⟨rfl, rfl, trivial⟩
 refine kf b6 ?_
 refine kL [1,2,3,6,8,9,10] [3,4,48,96,128,144] [_,_,_,_,_,_,_] [_,_,_,_,_,_] ?_
 refine kA h (fun v4 => ([(65, .sv (.bool v4))], [])) (fun v4 h => ?_) fun v4 h => ?_
 refine Xac ?_
 iterate 3 refine kO hT hC ?_
 refine kS h ?_ ?_ <;> intro b7 h
 iterate 3 refine kF hC (kn b7) ?_
 refine kP hC false (kn b7) ?_
 refine kO hT hC ?_
 refine Vc.nil ?_
 exact kM
 iterate 3 refine kI hT hC (kn b7) ?_
 refine kP hC true (kn b7) ?_
 refine kO hT hC ?_
 refine Vc.nil ?_
 exact kM
 refine kS h ?_ ?_ <;> intro b8 h
 refine kt b8 ?_
 refine Xab ?_
 iterate 5 refine kO hT hC ?_
 refine Vc.nil ?_
 refine Xah ?_
 refine Xcs ?_
 refine Xal ?_
 obtain rfl := kj h
 exact Xbv (Xhl.refl _) rfl ⟨rfl, rfl, trivial⟩
 refine kf b8 ?_
 refine Xaf ?_
 refine Xat ?_
 refine Xae ?_
 refine Xab ?_
 iterate 12 refine kO hT hC ?_
 refine Vc.nil ?_
 refine Xeg hm ?_
 iterate 6 refine kO hT hC ?_
 refine kC hC [] Tryz.call83 h (fun _ => Xtk) fun q5 h => ?_
 refine kO hT hC ?_
 refine kC hC [(16, 1504)] Tryz.call82 h (fun _ => Xy2) fun q6 h => ?_
 iterate 5 refine kO hT hC ?_
 refine kD ?_
 refine Xao ?_
 refine Xab ?_
 iterate 2 refine kO hT hC ?_
 refine Vc.nil ?_
 refine kS h ?_ ?_ <;> intro b9 h
 refine kt b9 ?_
 refine Xab ?_
 iterate 5 refine kO hT hC ?_
 refine Vc.nil ?_
 refine Xah ?_
 refine Xal ?_
 obtain rfl := kj h
 exact Xbv (Xhl.refl _) rfl ⟨rfl, rfl, trivial⟩
 refine kf b9 ?_
 refine Xaf ?_
 refine Xae ?_
 refine Xab ?_
 iterate 4 refine kO hT hC ?_
 refine kC hC [] Tryz.call84 h (fun _ => Xpm) fun q7 h => ?_
 iterate 6 refine kO hT hC ?_
 refine kN ?_
 iterate 8 refine kO hT hC ?_
 refine kC hC [] Tryz.call85 h (fun _ => Xy5) fun q8 h => ?_
 iterate 6 refine kO hT hC ?_
 refine Vc.nil ?_
 refine kL [3,6,8,9,15,17] [3,4,48,96,128,144,240,272] [_,_,_,_,_,_] [_,_,_,_,_,_,_,_] ?_
 refine kA h (fun v9 => ([], [(48, some (.box [.sv (.bool p0.HasSeq), .sv (.bool p0.HasPar), .sv (.bool p0.HasRef), .sv (.int .i64 p0.Seq.Level), .sv (.int .i64 p0.Seq.Bits), .own 3, .own 4, .sv (.int .i64 p0.Par.Qp), .sv (.bool p0.Par.Large), .sv (.bool p0.Par.Exact), .sv (.bool p0.Par.Confined), .sv (.int .i64 p0.Frame), .sv (.int .i64 p0.Got), .sv (.int .i64 v9.1), .sv (.int .i64 v9.2.1), .sv (.str v9.2.2), .sv (.int .i64 p0.Ref.Wide), .sv (.int .i64 p0.Ref.High), .sv (.str p0.Ref.Dots)]))])) (fun v9 h => ?_) fun v9 h => ?_
 refine Xab ?_
 iterate 3 refine kO hT hC ?_
 refine Vc.nil ?_
 refine kS h ?_ ?_ <;> intro b10 h
 refine kt b10 ?_
 refine Xac ?_
 iterate 2 refine kO hT hC ?_
 refine kC hC [] Tryz.call87 h (fun _ => Xsd) fun q10 h => ?_
 iterate 2 refine kO hT hC ?_
 refine kC hC [] Tryz.call86 h (fun _ => Xx8) fun q11 h => ?_
 iterate 2 refine kO hT hC ?_
 refine Vc.nil ?_
 exact kM
 refine kf b10 ?_
 refine Xaf ?_
 exact kM
 refine Xab ?_
 iterate 7 refine kO hT hC ?_
 refine kC hC [] Tryz.call88 h (fun _ => Yf1) fun q12 h => ?_
 iterate 5 refine kO hT hC ?_
 refine kN ?_
 iterate 5 refine kO hT hC ?_
 refine kN ?_
 iterate 4 refine kO hT hC ?_
 refine Vc.nil ?_
 refine Xao ?_
 refine Xeg hm ?_
 iterate 4 refine kO hT hC ?_
 refine kC hC [] Tryz.call65 h (fun _ => Xi8) fun q13 h => ?_
 refine kO hT hC ?_
 refine kD ?_
 refine kS h ?_ ?_ <;> intro b11 h
 refine kt b11 ?_
 refine Xab ?_
 iterate 5 refine kO hT hC ?_
 refine Vc.nil ?_
 refine Xah ?_
 refine Xal ?_
 obtain rfl := kj h
 exact Xbv (Xhl.refl _) rfl ⟨rfl, rfl, trivial⟩
 refine kf b11 ?_
 refine Xaf ?_
 refine Xae ?_
 refine Xab ?_
 iterate 4 refine kO hT hC ?_
 refine kN ?_
 iterate 2 refine kO hT hC ?_
 refine kN ?_
 iterate 3 refine kO hT hC ?_
 refine kN ?_
 iterate 2 refine kO hT hC ?_
 refine kN ?_
 iterate 5 refine kO hT hC ?_
 refine kC hC [] Tryz.call89 h (fun _ => Yjk) fun q14 h => ?_
 iterate 2 refine kO hT hC ?_
 refine Vc.nil ?_
 refine Xeg hm ?_
 iterate 6 refine kO hT hC ?_
 refine kD ?_
 refine Xah ?_
 obtain rfl := kj h
 exact Xbv (Xhl.refl _) rfl ⟨rfl, rfl, trivial⟩
def Xyp (r : (Decoder × Int × Pic)) : AV := .tup [.agg [.sv (.bool r.1.HasSeq), .sv (.bool r.1.HasPar), .sv (.bool r.1.HasRef), .sv (.int .i64 r.1.Seq.Level), .sv (.int .i64 r.1.Seq.Bits), .own 16, .own 17, .sv (.int .i64 r.1.Par.Qp), .sv (.bool r.1.Par.Large), .sv (.bool r.1.Par.Exact), .sv (.bool r.1.Par.Confined), .sv (.int .i64 r.1.Frame), .sv (.int .i64 r.1.Got), .sv (.int .i64 r.1.Now.Wide), .sv (.int .i64 r.1.Now.High), .sv (.str r.1.Now.Dots), .sv (.int .i64 r.1.Ref.Wide), .sv (.int .i64 r.1.Ref.High), .sv (.str r.1.Ref.Dots)], .sv (.int .i64 r.2.1), .agg [.sv (.int .i64 r.2.2.Wide), .sv (.int .i64 r.2.2.High), .sv (.str r.2.2.Dots)]]
def Xyo (r : (Decoder × Int × Pic)) : Xa4 := [(16, .ints .i64 r.1.Seq.Cols), (17, .ints .i64 r.1.Seq.Rows)]
theorem Xqf {p0 p1 r} (h : Xih p0 p1 = some r) : AC Tryz.prog 10 [.agg [.sv (.bool p0.HasSeq), .sv (.bool p0.HasPar), .sv (.bool p0.HasRef), .sv (.int .i64 p0.Seq.Level), .sv (.int .i64 p0.Seq.Bits), .sv (.ints .i64 p0.Seq.Cols), .sv (.ints .i64 p0.Seq.Rows), .sv (.int .i64 p0.Par.Qp), .sv (.bool p0.Par.Large), .sv (.bool p0.Par.Exact), .sv (.bool p0.Par.Confined), .sv (.int .i64 p0.Frame), .sv (.int .i64 p0.Got), .sv (.int .i64 p0.Now.Wide), .sv (.int .i64 p0.Now.High), .sv (.str p0.Now.Dots), .sv (.int .i64 p0.Ref.Wide), .sv (.int .i64 p0.Ref.High), .sv (.str p0.Ref.Dots)], .sv (.str p1)] [] (Xyp r) (Xyo r) := by
 refine Xag hT Tryz.func10 rfl fun C hC => ?_
 unfold Xih at h
 refine Xab ?_
 iterate 4 refine kO hT hC ?_
 refine kN ?_
 refine kO hT hC ?_
 refine kC hC [(16, 272), (17, 273)] Tryz.call41 h (fun _ => Xtl) fun q1 h => ?_
 refine kO hT hC ?_
 refine Vc.nil ?_
 refine Xao ?_
 refine Xab ?_
 refine kO hT hC ?_
 refine kC hC [] Tryz.call33 h (fun _ => Yje) fun q2 h => ?_
 refine kO hT hC ?_
 refine Vc.nil ?_
 refine kS h ?_ ?_ <;> intro b1 h
 refine kt b1 ?_
 refine Xab ?_
 iterate 5 refine kO hT hC ?_
 refine Vc.nil ?_
 refine Xah ?_
 refine Xal ?_
 obtain rfl := kj h
 exact Xbv (τ := ⟨[(4, .ptr 2000000 0), (5, .sv (.int .i64 1)), (6, .ptr 2000002 0)], [(16, some (.ints .i64 q1.Seq.Cols)), (17, some (.ints .i64 q1.Seq.Rows)), (2000000, some (.box [.sv (.bool q1.HasSeq), .sv (.bool q1.HasPar), .sv (.bool q1.HasRef), .sv (.int .i64 q1.Seq.Level), .sv (.int .i64 q1.Seq.Bits), .own 16, .own 17, .sv (.int .i64 q1.Par.Qp), .sv (.bool q1.Par.Large), .sv (.bool q1.Par.Exact), .sv (.bool q1.Par.Confined), .sv (.int .i64 q1.Frame), .sv (.int .i64 q1.Got), .sv (.int .i64 q1.Now.Wide), .sv (.int .i64 q1.Now.High), .sv (.str q1.Now.Dots), .sv (.int .i64 q1.Ref.Wide), .sv (.int .i64 q1.Ref.High), .sv (.str q1.Ref.Dots)])), (2000002, some (.box [.sv (.int .i64 0), .sv (.int .i64 0), .sv (.str ⟨#[]⟩)]))]⟩) (kW hC [(16, 272), (17, 273), (2000000, 64), (2000002, 96)]) rfl ⟨rfl, rfl, trivial⟩
 refine kf b1 ?_
 refine Xaf ?_
 refine Xae ?_
 refine Xab ?_
 refine kO hT hC ?_
 refine kC hC [] Tryz.call42 h (fun _ => Yf8) fun q3 h => ?_
 iterate 7 refine kO hT hC ?_
 refine Vc.nil ?_
 refine Xao ?_
 refine Xab ?_
 iterate 2 refine kO hT hC ?_
 refine Vc.nil ?_
 refine kS h ?_ ?_ <;> intro b2 h
 refine kt b2 ?_
 refine Xab ?_
 iterate 5 refine kO hT hC ?_
 refine Vc.nil ?_
 refine Xah ?_
 refine Xal ?_
 obtain rfl := kj h
 exact Xbv (τ := ⟨[(4, .ptr 2000000 0), (5, .sv (.int .i64 2)), (6, .ptr 2000002 0)], [(16, some (.ints .i64 q1.Seq.Cols)), (17, some (.ints .i64 q1.Seq.Rows)), (2000000, some (.box [.sv (.bool q1.HasSeq), .sv (.bool q1.HasPar), .sv (.bool q1.HasRef), .sv (.int .i64 q1.Seq.Level), .sv (.int .i64 q1.Seq.Bits), .own 16, .own 17, .sv (.int .i64 q1.Par.Qp), .sv (.bool q1.Par.Large), .sv (.bool q1.Par.Exact), .sv (.bool q1.Par.Confined), .sv (.int .i64 q1.Frame), .sv (.int .i64 q1.Got), .sv (.int .i64 q1.Now.Wide), .sv (.int .i64 q1.Now.High), .sv (.str q1.Now.Dots), .sv (.int .i64 q1.Ref.Wide), .sv (.int .i64 q1.Ref.High), .sv (.str q1.Ref.Dots)])), (2000002, some (.box [.sv (.int .i64 0), .sv (.int .i64 0), .sv (.str ⟨#[]⟩)]))]⟩) (kW hC [(16, 272), (17, 273), (2000000, 64), (2000002, 96)]) rfl ⟨rfl, rfl, trivial⟩
 refine kf b2 ?_
 refine Xaf ?_
 refine Xae ?_
 refine Xao ?_
 refine Xab ?_
 refine kO hT hC ?_
 refine Vc.nil ?_
 refine Xaq ?_
 refine Xab ?_
 iterate 2 refine kO hT hC ?_
 refine Vc.nil ?_
 refine kS h ?_ ?_ <;> intro b3 h
 refine kt b3 ?_
 refine Xab ?_
 refine kO hT hC ?_
 refine kC hC [(16, 608), (17, 609)] Tryz.call43 h (fun _ => Ycd) fun q4 h => ?_
 iterate 8 refine kO hT hC ?_
 refine Vc.nil ?_
 refine Xao ?_
 refine kL [2,4,6,8,10,11,12] [32,64,96,160,272,273,608,609] [_,_,_,_,_,_,_] [_,_,_,_,_,_,_,_] ?_
 refine kA h (fun v5 => ([(49, .sv (.bool v5)), (8, .any), (11, .any), (12, .any)], [])) (fun v5 h => ?_) fun v5 h => ?_
 refine Xac ?_
 iterate 3 refine kO hT hC ?_
 refine kS h ?_ ?_ <;> intro b4 h
 iterate 4 refine kI hT hC (kn b4) ?_
 refine kP hC false (kn b4) ?_
 refine Vc.nil ?_
 exact kM
 iterate 4 refine kF hC (kn b4) ?_
 refine kP hC true (kn b4) ?_
 refine Vc.nil ?_
 exact kM
 refine kS h ?_ ?_ <;> intro b5 h
 refine kt b5 ?_
 refine Xab ?_
 iterate 5 refine kO hT hC ?_
 refine Vc.nil ?_
 refine Xah ?_
 refine Xal ?_
 refine Xcs ?_
 refine Xal ?_
 obtain rfl := kj h
 exact Xbv (τ := ⟨[(4, .ptr 2000000 0), (5, .sv (.int .i64 3)), (6, .ptr 2000002 0)], [(16, some (.ints .i64 q1.Seq.Cols)), (17, some (.ints .i64 q1.Seq.Rows)), (2000000, some (.box [.sv (.bool q1.HasSeq), .sv (.bool q1.HasPar), .sv (.bool q1.HasRef), .sv (.int .i64 q1.Seq.Level), .sv (.int .i64 q1.Seq.Bits), .own 16, .own 17, .sv (.int .i64 q1.Par.Qp), .sv (.bool q1.Par.Large), .sv (.bool q1.Par.Exact), .sv (.bool q1.Par.Confined), .sv (.int .i64 q1.Frame), .sv (.int .i64 q1.Got), .sv (.int .i64 q1.Now.Wide), .sv (.int .i64 q1.Now.High), .sv (.str q1.Now.Dots), .sv (.int .i64 q1.Ref.Wide), .sv (.int .i64 q1.Ref.High), .sv (.str q1.Ref.Dots)])), (2000002, some (.box [.sv (.int .i64 0), .sv (.int .i64 0), .sv (.str ⟨#[]⟩)]))]⟩) (kW hC [(16, 272), (17, 273), (2000000, 64), (2000002, 96)]) rfl ⟨rfl, rfl, trivial⟩
 refine kf b5 ?_
 refine Xaf ?_
 refine Xae ?_
 refine Xab ?_
 refine kC hC [] Tryz.call44 h (fun _ => Yfs) fun q6 h => ?_
 refine kO hT hC ?_
 refine kN ?_
 iterate 2 refine kO hT hC ?_
 refine kN ?_
 iterate 3 refine kO hT hC ?_
 refine kN ?_
 iterate 5 refine kO hT hC ?_
 refine Vc.nil ?_
 refine Xah ?_
 refine Xcs ?_
 refine Xal ?_
 obtain rfl := kj h
 exact Xbv (τ := ⟨[(4, .ptr 2000000 0), (5, .sv (.int .i64 0)), (6, .ptr 2000002 0)], [(16, some (.ints .i64 q4.1.Cols)), (17, some (.ints .i64 q4.1.Rows)), (2000000, some (.box [.sv (.bool true), .sv (.bool q6.HasPar), .sv (.bool q6.HasRef), .sv (.int .i64 q4.1.Level), .sv (.int .i64 q4.1.Bits), .own 16, .own 17, .sv (.int .i64 q6.Par.Qp), .sv (.bool q6.Par.Large), .sv (.bool q6.Par.Exact), .sv (.bool q6.Par.Confined), .sv (.int .i64 q6.Frame), .sv (.int .i64 q6.Got), .sv (.int .i64 q6.Now.Wide), .sv (.int .i64 q6.Now.High), .sv (.str q6.Now.Dots), .sv (.int .i64 q6.Ref.Wide), .sv (.int .i64 q6.Ref.High), .sv (.str q6.Ref.Dots)])), (2000002, some (.box [.sv (.int .i64 0), .sv (.int .i64 0), .sv (.str ⟨#[]⟩)]))]⟩) (kW hC [(16, 608), (17, 609), (2000000, 64), (2000002, 96)]) rfl ⟨rfl, rfl, trivial⟩
 refine kf b3 ?_
 refine Xab ?_
 iterate 2 refine kO hT hC ?_
 refine Vc.nil ?_
 refine kS h ?_ ?_ <;> intro b6 h
 refine kt b6 ?_
 refine Xab ?_
 refine kO hT hC ?_
 refine kC hC [] Tryz.call45 h (fun _ => Ycc) fun q7 h => ?_
 iterate 8 refine kO hT hC ?_
 refine Vc.nil ?_
 refine Xao ?_
 refine kL [2,4,6,8,13,14,15] [32,64,96,208,272,273] [_,_,_,_,_,_,_] [_,_,_,_,_,_] ?_
 refine kA h (fun v8 => ([(73, .sv (.bool v8)), (8, .any), (14, .any), (15, .any)], [])) (fun v8 h => ?_) fun v8 h => ?_
 refine Xac ?_
 iterate 3 refine kO hT hC ?_
 refine kS h ?_ ?_ <;> intro b7 h
 iterate 4 refine kI hT hC (kn b7) ?_
 refine kP hC false (kn b7) ?_
 refine Vc.nil ?_
 exact kM
 iterate 4 refine kF hC (kn b7) ?_
 refine kP hC true (kn b7) ?_
 refine Vc.nil ?_
 exact kM
 refine kS h ?_ ?_ <;> intro b8 h
 refine kt b8 ?_
 refine Xab ?_
 iterate 5 refine kO hT hC ?_
 refine Vc.nil ?_
 refine Xah ?_
 refine Xal ?_
 refine Xcs ?_
 refine Xal ?_
 obtain rfl := kj h
 exact Xbv (τ := ⟨[(4, .ptr 2000000 0), (5, .sv (.int .i64 3)), (6, .ptr 2000002 0)], [(16, some (.ints .i64 q1.Seq.Cols)), (17, some (.ints .i64 q1.Seq.Rows)), (2000000, some (.box [.sv (.bool q1.HasSeq), .sv (.bool q1.HasPar), .sv (.bool q1.HasRef), .sv (.int .i64 q1.Seq.Level), .sv (.int .i64 q1.Seq.Bits), .own 16, .own 17, .sv (.int .i64 q1.Par.Qp), .sv (.bool q1.Par.Large), .sv (.bool q1.Par.Exact), .sv (.bool q1.Par.Confined), .sv (.int .i64 q1.Frame), .sv (.int .i64 q1.Got), .sv (.int .i64 q1.Now.Wide), .sv (.int .i64 q1.Now.High), .sv (.str q1.Now.Dots), .sv (.int .i64 q1.Ref.Wide), .sv (.int .i64 q1.Ref.High), .sv (.str q1.Ref.Dots)])), (2000002, some (.box [.sv (.int .i64 0), .sv (.int .i64 0), .sv (.str ⟨#[]⟩)]))]⟩) (kW hC [(16, 272), (17, 273), (2000000, 64), (2000002, 96)]) rfl ⟨rfl, rfl, trivial⟩
 refine kf b8 ?_
 refine Xaf ?_
 refine Xae ?_
 refine Xao ?_
 refine kL [2,4,6,13] [32,64,96,208,272,273] [_,_,_,_] [_,_,_,_,_,_] ?_
 refine kA h (fun v9 => ([(83, .sv (.bool v9))], [])) (fun v9 h => ?_) fun v9 h => ?_
 refine Xac ?_
 iterate 4 refine kO hT hC ?_
 refine kS h ?_ ?_ <;> intro b9 h
 iterate 3 refine kI hT hC (kn b9) ?_
 refine kP hC false (kn b9) ?_
 refine Vc.nil ?_
 exact kM
 iterate 3 refine kF hC (kn b9) ?_
 refine kP hC true (kn b9) ?_
 refine Vc.nil ?_
 exact kM
 refine kS h ?_ ?_ <;> intro b10 h
 refine kt b10 ?_
 refine Xab ?_
 iterate 5 refine kO hT hC ?_
 refine Vc.nil ?_
 refine Xah ?_
 refine Xal ?_
 refine Xcs ?_
 refine Xal ?_
 obtain rfl := kj h
 exact Xbv (τ := ⟨[(4, .ptr 2000000 0), (5, .sv (.int .i64 4)), (6, .ptr 2000002 0)], [(16, some (.ints .i64 q1.Seq.Cols)), (17, some (.ints .i64 q1.Seq.Rows)), (2000000, some (.box [.sv (.bool q1.HasSeq), .sv (.bool q1.HasPar), .sv (.bool q1.HasRef), .sv (.int .i64 q1.Seq.Level), .sv (.int .i64 q1.Seq.Bits), .own 16, .own 17, .sv (.int .i64 q1.Par.Qp), .sv (.bool q1.Par.Large), .sv (.bool q1.Par.Exact), .sv (.bool q1.Par.Confined), .sv (.int .i64 q1.Frame), .sv (.int .i64 q1.Got), .sv (.int .i64 q1.Now.Wide), .sv (.int .i64 q1.Now.High), .sv (.str q1.Now.Dots), .sv (.int .i64 q1.Ref.Wide), .sv (.int .i64 q1.Ref.High), .sv (.str q1.Ref.Dots)])), (2000002, some (.box [.sv (.int .i64 0), .sv (.int .i64 0), .sv (.str ⟨#[]⟩)]))]⟩) (kW hC [(16, 272), (17, 273), (2000000, 64), (2000002, 96)]) rfl ⟨rfl, rfl, trivial⟩
 refine kf b10 ?_
 refine Xaf ?_
 refine Xae ?_
 refine Xab ?_
 iterate 2 refine kO hT hC ?_
 refine kN ?_
 iterate 3 refine kO hT hC ?_
 refine kN ?_
 iterate 5 refine kO hT hC ?_
 refine Vc.nil ?_
 refine Xah ?_
 refine Xcs ?_
 refine Xal ?_
 obtain rfl := kj h
 exact Xbv (τ := ⟨[(4, .ptr 2000000 0), (5, .sv (.int .i64 0)), (6, .ptr 2000002 0)], [(16, some (.ints .i64 q1.Seq.Cols)), (17, some (.ints .i64 q1.Seq.Rows)), (2000000, some (.box [.sv (.bool q1.HasSeq), .sv (.bool true), .sv (.bool q1.HasRef), .sv (.int .i64 q1.Seq.Level), .sv (.int .i64 q1.Seq.Bits), .own 16, .own 17, .sv (.int .i64 q7.1.Qp), .sv (.bool q7.1.Large), .sv (.bool q7.1.Exact), .sv (.bool q7.1.Confined), .sv (.int .i64 q1.Frame), .sv (.int .i64 q1.Got), .sv (.int .i64 q1.Now.Wide), .sv (.int .i64 q1.Now.High), .sv (.str q1.Now.Dots), .sv (.int .i64 q1.Ref.Wide), .sv (.int .i64 q1.Ref.High), .sv (.str q1.Ref.Dots)])), (2000002, some (.box [.sv (.int .i64 0), .sv (.int .i64 0), .sv (.str ⟨#[]⟩)]))]⟩) (kW hC [(16, 272), (17, 273), (2000000, 64), (2000002, 96)]) rfl ⟨rfl, rfl, trivial⟩
 refine kf b6 ?_
 refine Xaf ?_
 refine Xat ?_
 refine Xae ?_
 refine Xab ?_
 iterate 4 refine kO hT hC ?_
 refine kC hC [(3, 272), (4, 273)] Tryz.call46 h (fun _ => Xnu) fun q11 h => ?_
 iterate 6 refine kO hT hC ?_
 refine Vc.nil ?_
 refine Xah ?_
 obtain rfl := kj h
 exact Xbv (τ := ⟨[(4, .ptr 2000000 0), (5, .sv (.int .i64 q11.2.1)), (6, .ptr 2000002 0)], [(16, some (.ints .i64 q11.2.2.2.Seq.Cols)), (17, some (.ints .i64 q11.2.2.2.Seq.Rows)), (2000000, some (.box [.sv (.bool q11.1.HasSeq), .sv (.bool q11.1.HasPar), .sv (.bool q11.1.HasRef), .sv (.int .i64 q11.1.Seq.Level), .sv (.int .i64 q11.1.Seq.Bits), .own 16, .own 17, .sv (.int .i64 q11.1.Par.Qp), .sv (.bool q11.1.Par.Large), .sv (.bool q11.1.Par.Exact), .sv (.bool q11.1.Par.Confined), .sv (.int .i64 q11.1.Frame), .sv (.int .i64 q11.1.Got), .sv (.int .i64 q11.1.Now.Wide), .sv (.int .i64 q11.1.Now.High), .sv (.str q11.1.Now.Dots), .sv (.int .i64 q11.1.Ref.Wide), .sv (.int .i64 q11.1.Ref.High), .sv (.str q11.1.Ref.Dots)])), (2000002, some (.box [.sv (.int .i64 q11.2.2.1.Wide), .sv (.int .i64 q11.2.2.1.High), .sv (.str q11.2.2.1.Dots)]))]⟩) (kW hC [(16, 272), (17, 273), (2000000, 64), (2000002, 96)]) rfl ⟨rfl, rfl, trivial⟩
def Xqp (r : Bool) : AV := .sv (.bool r)
def Xqo (r : Bool) : Xa4 := []
theorem Xsk {p0 p1 r} (h : Xj9 p0 p1 = some r) : AC Tryz.prog 18 [.sv (.ints .i64 p0), .sv (.ints .i64 p1)] [] (Xqp r) (Xqo r) := by
 refine Xag hT Tryz.func18 rfl fun C hC => ?_
 unfold Xj9 at h
 refine Xab ?_
 refine kO hT hC ?_
 refine Vc.nil ?_
 refine Xao ?_
 refine Xab ?_
 iterate 5 refine kO hT hC ?_
 refine Vc.nil ?_
 refine kS h ?_ ?_ <;> intro b1 h
 refine kt b1 ?_
 refine Xab ?_
 refine kO hT hC ?_
 refine Vc.nil ?_
 refine Xah ?_
 refine Xal ?_
 exact kR
 refine kf b1 ?_
 refine Xaf ?_
 refine Xae ?_
 refine Xao ?_
 refine Xab ?_
 refine kO hT hC ?_
 refine Vc.nil ?_
 refine kL [0,1,5] [] [_,_,_] [] ?_
 obtain ⟨o5, hl, h⟩ := Xa7 h
 refine Xen (fun v2 => ([(5, .sv (.int .i64 v2))], [])) (fun v4 => ([(0, .any), (1, .any), (5, .any)], [])) (fun r => Xmc C T Tryz.f18.results.toList (Xqp r) (Xqo r)) hl ?_ ?_ ?_ ?_
 apply Xbz hC []
 exact co
 rfl
 decide
 rfl
 intro v2 s hs
 have h := hs
 unfold Xhx at h
 refine Xao ?_
 refine Xab ?_
 iterate 4 refine kO hT hC ?_
 refine Vc.nil ?_
 refine kS h ?_ ?_ <;> intro b6 h
 refine kt b6 ?_
 refine Xaf ?_
 refine Xae ?_
 refine Xao ?_
 refine Xaq ?_
 refine Xeg hm ?_
 iterate 2 refine kO hT hC ?_
 refine kQ hT hC h fun h => ?_
 iterate 3 refine kO hT hC ?_
 refine kQ hT hC h fun h => ?_
 iterate 2 refine kO hT hC ?_
 refine kD ?_
 refine kS h ?_ ?_ <;> intro b7 h
 refine kt b7 ?_
 refine Xab ?_
 refine kO hT hC ?_
 refine Vc.nil ?_
 refine Xah ?_
 refine Xcs ?_
 refine Xal ?_
 obtain rfl := kj h
 refine Xmq ?_
 refine Xmo ?_
 exact Xbv (Xhl.refl _) rfl trivial
 refine kf b7 ?_
 refine Xaf ?_
 refine Xat ?_
 refine Xae ?_
 refine Xac ?_
 iterate 3 refine kO hT hC ?_
 refine Vc.nil ?_
 exact kG
 refine kf b6 ?_
 refine Xau ?_
 refine Xaz ?_
 exact kb
 intro v4 e
 subst e
 refine Xae ?_
 refine Xab ?_
 refine kO hT hC ?_
 refine Vc.nil ?_
 refine Xah ?_
 exact kR
 intro r' σ' e hE
 subst e
 obtain rfl := kj h
 refine Xal ?_
 exact hE
def Ygm (r : Bool) : AV := .sv (.bool r)
def Ygl (r : Bool) : Xa4 := []
theorem Yjz {p0 p1 r} (h : Xn7 p0 p1 = some r) : AC Tryz.prog 47 [.agg [.sv (.int .i64 p0.Level), .sv (.int .i64 p0.Bits), .sv (.ints .i64 p0.Cols), .sv (.ints .i64 p0.Rows)], .agg [.sv (.int .i64 p1.Level), .sv (.int .i64 p1.Bits), .sv (.ints .i64 p1.Cols), .sv (.ints .i64 p1.Rows)]] [] (Ygm r) (Ygl r) := by
 refine Xag hT Tryz.func47 rfl fun C hC => ?_
 unfold Xn7 at h
 refine Xab ?_
 iterate 3 refine kO hT hC ?_
 refine Vc.nil ?_
 refine Xao ?_
 refine Xab ?_
 iterate 5 refine kO hT hC ?_
 refine Vc.nil ?_
 refine kS h ?_ ?_ <;> intro b1 h
 refine kt b1 ?_
 refine Xab ?_
 refine kO hT hC ?_
 refine Vc.nil ?_
 refine Xah ?_
 refine Xal ?_
 exact kR
 refine kf b1 ?_
 refine Xaf ?_
 refine Xae ?_
 refine Xao ?_
 refine Xab ?_
 iterate 5 refine kO hT hC ?_
 refine Vc.nil ?_
 refine kS h ?_ ?_ <;> intro b2 h
 refine kt b2 ?_
 refine Xab ?_
 refine kO hT hC ?_
 refine Vc.nil ?_
 refine Xah ?_
 refine Xal ?_
 exact kR
 refine kf b2 ?_
 refine Xaf ?_
 refine Xae ?_
 refine Xao ?_
 refine Xab ?_
 iterate 4 refine kO hT hC ?_
 refine kC hC [] Tryz.call18 h (fun _ => Xsk) fun q1 h => ?_
 refine kO hT hC ?_
 refine Vc.nil ?_
 refine kS h ?_ ?_ <;> intro b3 h
 refine kt b3 ?_
 refine Xab ?_
 refine kO hT hC ?_
 refine Vc.nil ?_
 refine Xah ?_
 refine Xal ?_
 exact kR
 refine kf b3 ?_
 refine Xaf ?_
 refine Xae ?_
 refine Xao ?_
 refine Xab ?_
 iterate 4 refine kO hT hC ?_
 refine kC hC [] Tryz.call18 h (fun _ => Xsk) fun q2 h => ?_
 refine kO hT hC ?_
 refine Vc.nil ?_
 refine kS h ?_ ?_ <;> intro b4 h
 refine kt b4 ?_
 refine Xab ?_
 refine kO hT hC ?_
 refine Vc.nil ?_
 refine Xah ?_
 refine Xal ?_
 exact kR
 refine kf b4 ?_
 refine Xaf ?_
 refine Xae ?_
 refine Xab ?_
 refine kO hT hC ?_
 refine Vc.nil ?_
 refine Xah ?_
 exact kR
def Ygi (r : Bool) : AV := .sv (.bool r)
def Ygh (r : Bool) : Xa4 := []
theorem Yjy {p0 p1 r} (h : Xn6 p0 p1 = some r) : AC Tryz.prog 48 [.agg [.sv (.int .i64 p0.Qp), .sv (.bool p0.Large), .sv (.bool p0.Exact), .sv (.bool p0.Confined)], .agg [.sv (.int .i64 p1.Qp), .sv (.bool p1.Large), .sv (.bool p1.Exact), .sv (.bool p1.Confined)]] [] (Ygi r) (Ygh r) := by
 refine Xag hT Tryz.func48 rfl fun C hC => ?_
 unfold Xn6 at h
 refine Xab ?_
 iterate 3 refine kO hT hC ?_
 refine Vc.nil ?_
 refine Xao ?_
 refine Xab ?_
 iterate 5 refine kO hT hC ?_
 refine Vc.nil ?_
 refine kS h ?_ ?_ <;> intro b1 h
 refine kt b1 ?_
 refine Xab ?_
 refine kO hT hC ?_
 refine Vc.nil ?_
 refine Xah ?_
 refine Xal ?_
 exact kR
 refine kf b1 ?_
 refine Xaf ?_
 refine Xae ?_
 refine Xao ?_
 refine Xab ?_
 iterate 5 refine kO hT hC ?_
 refine Vc.nil ?_
 refine kS h ?_ ?_ <;> intro b2 h
 refine kt b2 ?_
 refine Xab ?_
 refine kO hT hC ?_
 refine Vc.nil ?_
 refine Xah ?_
 refine Xal ?_
 exact kR
 refine kf b2 ?_
 refine Xaf ?_
 refine Xae ?_
 refine Xao ?_
 refine Xab ?_
 iterate 5 refine kO hT hC ?_
 refine Vc.nil ?_
 refine kS h ?_ ?_ <;> intro b3 h
 refine kt b3 ?_
 refine Xab ?_
 refine kO hT hC ?_
 refine Vc.nil ?_
 refine Xah ?_
 refine Xal ?_
 exact kR
 refine kf b3 ?_
 refine Xaf ?_
 refine Xae ?_
 refine Xao ?_
 refine Xab ?_
 iterate 5 refine kO hT hC ?_
 refine Vc.nil ?_
 refine kS h ?_ ?_ <;> intro b4 h
 refine kt b4 ?_
 refine Xab ?_
 refine kO hT hC ?_
 refine Vc.nil ?_
 refine Xah ?_
 refine Xal ?_
 exact kR
 refine kf b4 ?_
 refine Xaf ?_
 refine Xae ?_
 refine Xab ?_
 refine kO hT hC ?_
 refine Vc.nil ?_
 refine Xah ?_
 exact kR
def Ygk (r : Bool) : AV := .sv (.bool r)
def Ygj (r : Bool) : Xa4 := []
theorem Xjf {p0 p1 r} (h : Xg4 p0 p1 = some r) : AC Tryz.prog 12 [.agg [.sv (.int .i64 p0.Wide), .sv (.int .i64 p0.High), .sv (.str p0.Dots)], .agg [.sv (.int .i64 p1.Wide), .sv (.int .i64 p1.High), .sv (.str p1.Dots)]] [] (Ygk r) (Ygj r) := by
 refine Xag hT Tryz.func12 rfl fun C hC => ?_
 unfold Xg4 at h
 refine Xab ?_
 iterate 3 refine kO hT hC ?_
 refine Vc.nil ?_
 refine Xao ?_
 refine Xab ?_
 iterate 5 refine kO hT hC ?_
 refine Vc.nil ?_
 refine kS h ?_ ?_ <;> intro b1 h
 refine kt b1 ?_
 refine Xab ?_
 refine kO hT hC ?_
 refine Vc.nil ?_
 refine Xah ?_
 refine Xal ?_
 exact kR
 refine kf b1 ?_
 refine Xaf ?_
 refine Xae ?_
 refine Xao ?_
 refine Xab ?_
 iterate 5 refine kO hT hC ?_
 refine Vc.nil ?_
 refine kS h ?_ ?_ <;> intro b2 h
 refine kt b2 ?_
 refine Xab ?_
 refine kO hT hC ?_
 refine Vc.nil ?_
 refine Xah ?_
 refine Xal ?_
 exact kR
 refine kf b2 ?_
 refine Xaf ?_
 refine Xae ?_
 refine Xao ?_
 refine Xab ?_
 iterate 5 refine kO hT hC ?_
 refine Vc.nil ?_
 refine kS h ?_ ?_ <;> intro b3 h
 refine kt b3 ?_
 refine Xab ?_
 refine kO hT hC ?_
 refine Vc.nil ?_
 refine Xah ?_
 refine Xal ?_
 exact kR
 refine kf b3 ?_
 refine Xaf ?_
 refine Xae ?_
 refine Xab ?_
 refine kO hT hC ?_
 refine Vc.nil ?_
 refine Xah ?_
 exact kR
def Xu6 (r : Bool) : AV := .sv (.bool r)
def Xu5 (r : Bool) : Xa4 := []
theorem Xg3 {p0 p1 r} (h : Xdm p0 p1 = some r) : AC Tryz.prog 11 [.agg [.sv (.bool p0.HasSeq), .sv (.bool p0.HasPar), .sv (.bool p0.HasRef), .sv (.int .i64 p0.Seq.Level), .sv (.int .i64 p0.Seq.Bits), .sv (.ints .i64 p0.Seq.Cols), .sv (.ints .i64 p0.Seq.Rows), .sv (.int .i64 p0.Par.Qp), .sv (.bool p0.Par.Large), .sv (.bool p0.Par.Exact), .sv (.bool p0.Par.Confined), .sv (.int .i64 p0.Frame), .sv (.int .i64 p0.Got), .sv (.int .i64 p0.Now.Wide), .sv (.int .i64 p0.Now.High), .sv (.str p0.Now.Dots), .sv (.int .i64 p0.Ref.Wide), .sv (.int .i64 p0.Ref.High), .sv (.str p0.Ref.Dots)], .agg [.sv (.bool p1.HasSeq), .sv (.bool p1.HasPar), .sv (.bool p1.HasRef), .sv (.int .i64 p1.Seq.Level), .sv (.int .i64 p1.Seq.Bits), .sv (.ints .i64 p1.Seq.Cols), .sv (.ints .i64 p1.Seq.Rows), .sv (.int .i64 p1.Par.Qp), .sv (.bool p1.Par.Large), .sv (.bool p1.Par.Exact), .sv (.bool p1.Par.Confined), .sv (.int .i64 p1.Frame), .sv (.int .i64 p1.Got), .sv (.int .i64 p1.Now.Wide), .sv (.int .i64 p1.Now.High), .sv (.str p1.Now.Dots), .sv (.int .i64 p1.Ref.Wide), .sv (.int .i64 p1.Ref.High), .sv (.str p1.Ref.Dots)]] [] (Xu6 r) (Xu5 r) := by
 refine Xag hT Tryz.func11 rfl fun C hC => ?_
 unfold Xdm at h
 refine Xab ?_
 iterate 3 refine kO hT hC ?_
 refine Vc.nil ?_
 refine Xao ?_
 refine Xab ?_
 iterate 5 refine kO hT hC ?_
 refine Vc.nil ?_
 refine kS h ?_ ?_ <;> intro b1 h
 refine kt b1 ?_
 refine Xab ?_
 refine kO hT hC ?_
 refine Vc.nil ?_
 refine Xah ?_
 refine Xal ?_
 exact kR
 refine kf b1 ?_
 refine Xaf ?_
 refine Xae ?_
 refine Xao ?_
 refine Xab ?_
 iterate 5 refine kO hT hC ?_
 refine Vc.nil ?_
 refine kS h ?_ ?_ <;> intro b2 h
 refine kt b2 ?_
 refine Xab ?_
 refine kO hT hC ?_
 refine Vc.nil ?_
 refine Xah ?_
 refine Xal ?_
 exact kR
 refine kf b2 ?_
 refine Xaf ?_
 refine Xae ?_
 refine Xao ?_
 refine Xab ?_
 iterate 5 refine kO hT hC ?_
 refine Vc.nil ?_
 refine kS h ?_ ?_ <;> intro b3 h
 refine kt b3 ?_
 refine Xab ?_
 refine kO hT hC ?_
 refine Vc.nil ?_
 refine Xah ?_
 refine Xal ?_
 exact kR
 refine kf b3 ?_
 refine Xaf ?_
 refine Xae ?_
 refine Xao ?_
 refine Xab ?_
 iterate 4 refine kO hT hC ?_
 refine kC hC [] Tryz.call47 h (fun _ => Yjz) fun q1 h => ?_
 refine kO hT hC ?_
 refine Vc.nil ?_
 refine kS h ?_ ?_ <;> intro b4 h
 refine kt b4 ?_
 refine Xab ?_
 refine kO hT hC ?_
 refine Vc.nil ?_
 refine Xah ?_
 refine Xal ?_
 exact kR
 refine kf b4 ?_
 refine Xaf ?_
 refine Xae ?_
 refine Xao ?_
 refine Xab ?_
 iterate 4 refine kO hT hC ?_
 refine kC hC [] Tryz.call48 h (fun _ => Yjy) fun q2 h => ?_
 refine kO hT hC ?_
 refine Vc.nil ?_
 refine kS h ?_ ?_ <;> intro b5 h
 refine kt b5 ?_
 refine Xab ?_
 refine kO hT hC ?_
 refine Vc.nil ?_
 refine Xah ?_
 refine Xal ?_
 exact kR
 refine kf b5 ?_
 refine Xaf ?_
 refine Xae ?_
 refine Xao ?_
 refine Xab ?_
 iterate 5 refine kO hT hC ?_
 refine Vc.nil ?_
 refine kS h ?_ ?_ <;> intro b6 h
 refine kt b6 ?_
 refine Xab ?_
 refine kO hT hC ?_
 refine Vc.nil ?_
 refine Xah ?_
 refine Xal ?_
 exact kR
 refine kf b6 ?_
 refine Xaf ?_
 refine Xae ?_
 refine Xao ?_
 refine Xab ?_
 iterate 5 refine kO hT hC ?_
 refine Vc.nil ?_
 refine kS h ?_ ?_ <;> intro b7 h
 refine kt b7 ?_
 refine Xab ?_
 refine kO hT hC ?_
 refine Vc.nil ?_
 refine Xah ?_
 refine Xal ?_
 exact kR
 refine kf b7 ?_
 refine Xaf ?_
 refine Xae ?_
 refine Xao ?_
 refine Xab ?_
 iterate 4 refine kO hT hC ?_
 refine kC hC [] Tryz.call12 h (fun _ => Xjf) fun q3 h => ?_
 refine kO hT hC ?_
 refine Vc.nil ?_
 refine kS h ?_ ?_ <;> intro b8 h
 refine kt b8 ?_
 refine Xab ?_
 refine kO hT hC ?_
 refine Vc.nil ?_
 refine Xah ?_
 refine Xal ?_
 exact kR
 refine kf b8 ?_
 refine Xaf ?_
 refine Xae ?_
 refine Xao ?_
 refine Xab ?_
 iterate 4 refine kO hT hC ?_
 refine kC hC [] Tryz.call12 h (fun _ => Xjf) fun q4 h => ?_
 refine kO hT hC ?_
 refine Vc.nil ?_
 refine kS h ?_ ?_ <;> intro b9 h
 refine kt b9 ?_
 refine Xab ?_
 refine kO hT hC ?_
 refine Vc.nil ?_
 refine Xah ?_
 refine Xal ?_
 exact kR
 refine kf b9 ?_
 refine Xaf ?_
 refine Xae ?_
 refine Xab ?_
 refine kO hT hC ?_
 refine Vc.nil ?_
 refine Xah ?_
 exact kR
def Xw7 (r : (Int × (List Int))) : AV := .sv (.int .i64 r.1)
def Xw6 (r : (Int × (List Int))) : Xa4 := [(0, .ints .i64 r.2)]
theorem Xpq {p0 p1 r} (h : Xg6 p0 p1 = some r) : AC Tryz.prog 20 [.own 0, .sv (.int .i64 p1)] [(0, .ints .i64 p0)] (Xw7 r) (Xw6 r) := by
 refine Xag hT Tryz.func20 rfl fun C hC => ?_
 unfold Xg6 at h
 refine Xab ?_
 refine kO hT hC ?_
 refine Vc.nil ?_
 refine Xao ?_
 refine Xab ?_
 refine kO hT hC ?_
 refine Vc.nil ?_
 refine kL [0,1,5] [0] [_,_,_] [_] ?_
 refine kX h (fun v2 => ([(1, .sv (.int .i64 v2.1)), (5, .sv (.int .i64 v2.2.1))], [(0, some (.ints .i64 v2.2.2))])) (fun v4 => ([(1, .sv (.int .i64 v4.1)), (0, .any), (5, .any)], [(0, some (.ints .i64 v4.2))])) (kW hC []) (fun v2 s h => ?_) fun v4 h => ?_
 unfold Xft at h
 refine Xao ?_
 refine Xab ?_
 iterate 4 refine kO hT hC ?_
 refine Vc.nil ?_
 refine kS h ?_ ?_ <;> intro b3 h
 refine kt b3 ?_
 refine Xaf ?_
 refine Xae ?_
 refine Xao ?_
 refine Xaq ?_
 refine Xab ?_
 iterate 3 refine kO hT hC ?_
 iterate 2 refine kQ hT hC h fun h => ?_
 refine Vc.nil ?_
 refine Xac ?_
 iterate 3 refine kO hT hC ?_
 refine Vc.nil ?_
 refine Xat ?_
 refine Xae ?_
 refine Xac ?_
 iterate 3 refine kO hT hC ?_
 refine Vc.nil ?_
 exact kG
 refine kf b3 ?_
 refine Xau ?_
 refine Xaz ?_
 exact ku
 refine Xae ?_
 refine Xab ?_
 iterate 2 refine kO hT hC ?_
 refine Vc.nil ?_
 refine Xah ?_
 obtain rfl := kj h
 exact Xbv (Xhl.refl _) rfl ⟨rfl, trivial⟩
def Xzo (r : (Int × Seq)) : AV := .sv (.int .i64 r.1)
def Xzn (r : (Int × Seq)) : Xa4 := [(2, .ints .i64 r.2.Cols), (3, .ints .i64 r.2.Rows)]
theorem Ydb {p0 p1 r} (h : Xk9 p0 p1 = some r) : AC Tryz.prog 49 [.agg [.sv (.int .i64 p0.Level), .sv (.int .i64 p0.Bits), .own 2, .own 3], .sv (.int .i64 p1)] [(2, .ints .i64 p0.Cols), (3, .ints .i64 p0.Rows)] (Xzo r) (Xzn r) := by
 refine Xag hT Tryz.func49 rfl fun C hC => ?_
 unfold Xk9 at h
 refine Xab ?_
 iterate 2 refine kO hT hC ?_
 refine kN ?_
 iterate 3 refine kO hT hC ?_
 refine kC hC [(0, 2)] Tryz.call20 h (fun _ => Xpq) fun q1 h => ?_
 refine kO hT hC ?_
 refine kN ?_
 iterate 3 refine kO hT hC ?_
 refine kC hC [(0, 3)] Tryz.call20 h (fun _ => Xpq) fun q2 h => ?_
 refine kO hT hC ?_
 refine kN ?_
 iterate 2 refine kO hT hC ?_
 refine Vc.nil ?_
 refine Xah ?_
 obtain rfl := kj h
 exact Xbv (Xhl.refl _) rfl ⟨rfl, rfl, trivial⟩
def Xr4 (r : (Int × Decoder)) : AV := .sv (.int .i64 r.1)
def Xr3 (r : (Int × Decoder)) : Xa4 := [(2, .ints .i64 r.2.Seq.Cols), (3, .ints .i64 r.2.Seq.Rows)]
theorem Xmn {p0 p1 r} (h : Xd5 p0 p1 = some r) : AC Tryz.prog 13 [.agg [.sv (.bool p0.HasSeq), .sv (.bool p0.HasPar), .sv (.bool p0.HasRef), .sv (.int .i64 p0.Seq.Level), .sv (.int .i64 p0.Seq.Bits), .own 2, .own 3, .sv (.int .i64 p0.Par.Qp), .sv (.bool p0.Par.Large), .sv (.bool p0.Par.Exact), .sv (.bool p0.Par.Confined), .sv (.int .i64 p0.Frame), .sv (.int .i64 p0.Got), .sv (.int .i64 p0.Now.Wide), .sv (.int .i64 p0.Now.High), .sv (.str p0.Now.Dots), .sv (.int .i64 p0.Ref.Wide), .sv (.int .i64 p0.Ref.High), .sv (.str p0.Ref.Dots)], .sv (.int .i64 p1)] [(2, .ints .i64 p0.Seq.Cols), (3, .ints .i64 p0.Seq.Rows)] (Xr4 r) (Xr3 r) := by
 refine Xag hT Tryz.func13 rfl fun C hC => ?_
 unfold Xd5 at h
 refine Xab ?_
 iterate 2 refine kO hT hC ?_
 refine kN ?_
 iterate 3 refine kO hT hC ?_
 refine kC hC [(2, 2), (3, 3)] Tryz.call49 h (fun _ => Ydb) fun q1 h => ?_
 refine kO hT hC ?_
 refine kN ?_
 iterate 2 refine kO hT hC ?_
 refine Vc.nil ?_
 refine Xah ?_
 obtain rfl := kj h
 exact Xbv (Xhl.refl _) rfl ⟨rfl, rfl, trivial⟩
def Xn9 (r : Int) : AV := .sv (.int .i64 r)
def Xn8 (r : Int) : Xa4 := []
theorem Xpo {p0 p1 r} (h : Xg5 p0 p1 = some r) : AC Tryz.prog 22 [.sv (.ints .i64 p0), .sv (.int .i64 p1)] [] (Xn9 r) (Xn8 r) := by
 refine Xag hT Tryz.func22 rfl fun C hC => ?_
 unfold Xg5 at h
 refine Xab ?_
 refine kO hT hC ?_
 refine Vc.nil ?_
 refine Xao ?_
 refine Xab ?_
 refine kO hT hC ?_
 refine Vc.nil ?_
 refine kL [0,1,5] [] [_,_,_] [] ?_
 obtain ⟨o5, hl, h⟩ := Xa7 h
 refine Xen (fun v2 => ([(1, .sv (.int .i64 v2.1)), (5, .sv (.int .i64 v2.2))], [])) (fun v4 => ([(1, .sv (.int .i64 v4)), (0, .any), (5, .any)], [])) (fun r => Xmc C T Tryz.f22.results.toList (Xn9 r) (Xn8 r)) hl ?_ ?_ ?_ ?_
 try dsimp only
 apply Xbz hC []
 exact co
 rfl
 decide
 rfl
 intro v2 s hs
 have h := hs
 unfold Xfs at h
 refine Xao ?_
 refine Xab ?_
 iterate 4 refine kO hT hC ?_
 refine Vc.nil ?_
 refine kS h ?_ ?_ <;> intro b5 h
 refine kt b5 ?_
 refine Xaf ?_
 refine Xae ?_
 refine Xao ?_
 refine Xaq ?_
 refine Xao ?_
 refine Xab ?_
 iterate 2 refine kO hT hC ?_
 refine kQ hT hC h fun h => ?_
 iterate 3 refine kO hT hC ?_
 refine Vc.nil ?_
 refine kS h ?_ ?_ <;> intro b6 h
 refine kt b6 ?_
 refine Xab ?_
 refine kO hT hC ?_
 refine Vc.nil ?_
 refine Xah ?_
 refine Xal ?_
 refine Xcs ?_
 refine Xal ?_
 obtain rfl := kj h
 refine Xmq ?_
 refine Xmo ?_
 exact Xbv (Xhl.refl _) rfl trivial
 refine kf b6 ?_
 refine Xaf ?_
 refine Xae ?_
 refine Xac ?_
 iterate 3 refine kO hT hC ?_
 refine Vc.nil ?_
 refine Xat ?_
 refine Xae ?_
 refine Xac ?_
 iterate 3 refine kO hT hC ?_
 refine Vc.nil ?_
 exact kG
 refine kf b5 ?_
 refine Xau ?_
 refine Xaz ?_
 exact kb
 intro v4 e
 subst e
 refine Xae ?_
 refine Xab ?_
 iterate 2 refine kO hT hC ?_
 refine Vc.nil ?_
 refine Xah ?_
 exact kR
 intro r' σ' e hE
 subst e
 obtain rfl := kj h
 refine Xal ?_
 exact hE
def Xzm (r : Int) : AV := .sv (.int .i64 r)
def Xzl (r : Int) : Xa4 := []
theorem Yc9 {p0 p1 r} (h : Xk8 p0 p1 = some r) : AC Tryz.prog 50 [.agg [.sv (.int .i64 p0.Level), .sv (.int .i64 p0.Bits), .sv (.ints .i64 p0.Cols), .sv (.ints .i64 p0.Rows)], .sv (.int .i64 p1)] [] (Xzm r) (Xzl r) := by
 refine Xag hT Tryz.func50 rfl fun C hC => ?_
 unfold Xk8 at h
 refine Xab ?_
 iterate 2 refine kO hT hC ?_
 refine kN ?_
 iterate 3 refine kO hT hC ?_
 refine kC hC [] Tryz.call22 h (fun _ => Xpo) fun q1 h => ?_
 refine kO hT hC ?_
 refine Vc.nil ?_
 refine Xao ?_
 refine Xab ?_
 iterate 2 refine kO hT hC ?_
 refine Vc.nil ?_
 refine kS h ?_ ?_ <;> intro b1 h
 refine kt b1 ?_
 refine Xab ?_
 refine kO hT hC ?_
 refine Vc.nil ?_
 refine Xah ?_
 refine Xal ?_
 exact kR
 refine kf b1 ?_
 refine Xaf ?_
 refine Xae ?_
 refine Xab ?_
 iterate 3 refine kO hT hC ?_
 refine kC hC [] Tryz.call22 h (fun _ => Xpo) fun q2 h => ?_
 refine kO hT hC ?_
 refine Vc.nil ?_
 refine Xao ?_
 refine Xab ?_
 iterate 2 refine kO hT hC ?_
 refine Vc.nil ?_
 refine kS h ?_ ?_ <;> intro b2 h
 refine kt b2 ?_
 refine Xab ?_
 refine kO hT hC ?_
 refine Vc.nil ?_
 refine Xah ?_
 refine Xal ?_
 exact kR
 refine kf b2 ?_
 refine Xaf ?_
 refine Xae ?_
 refine Xab ?_
 iterate 2 refine kO hT hC ?_
 refine Vc.nil ?_
 refine Xah ?_
 exact kR
def Xr2 (r : Int) : AV := .sv (.int .i64 r)
def Xr1 (r : Int) : Xa4 := []
theorem Xmm {p0 p1 r} (h : Xd4 p0 p1 = some r) : AC Tryz.prog 14 [.agg [.sv (.bool p0.HasSeq), .sv (.bool p0.HasPar), .sv (.bool p0.HasRef), .sv (.int .i64 p0.Seq.Level), .sv (.int .i64 p0.Seq.Bits), .sv (.ints .i64 p0.Seq.Cols), .sv (.ints .i64 p0.Seq.Rows), .sv (.int .i64 p0.Par.Qp), .sv (.bool p0.Par.Large), .sv (.bool p0.Par.Exact), .sv (.bool p0.Par.Confined), .sv (.int .i64 p0.Frame), .sv (.int .i64 p0.Got), .sv (.int .i64 p0.Now.Wide), .sv (.int .i64 p0.Now.High), .sv (.str p0.Now.Dots), .sv (.int .i64 p0.Ref.Wide), .sv (.int .i64 p0.Ref.High), .sv (.str p0.Ref.Dots)], .sv (.int .i64 p1)] [] (Xr2 r) (Xr1 r) := by
 refine Xag hT Tryz.func14 rfl fun C hC => ?_
 unfold Xd4 at h
 refine Xab ?_
 iterate 2 refine kO hT hC ?_
 refine kN ?_
 iterate 3 refine kO hT hC ?_
 refine kC hC [] Tryz.call50 h (fun _ => Yc9) fun q1 h => ?_
 refine kO hT hC ?_
 refine Vc.nil ?_
 refine Xao ?_
 refine Xab ?_
 iterate 2 refine kO hT hC ?_
 refine Vc.nil ?_
 refine kS h ?_ ?_ <;> intro b1 h
 refine kt b1 ?_
 refine Xab ?_
 refine kO hT hC ?_
 refine Vc.nil ?_
 refine Xah ?_
 refine Xal ?_
 exact kR
 refine kf b1 ?_
 refine Xaf ?_
 refine Xae ?_
 refine Xab ?_
 iterate 2 refine kO hT hC ?_
 refine Vc.nil ?_
 refine Xah ?_
 exact kR
def Xo7 (r : Bool) : AV := .sv (.bool r)
def Xo6 (r : Bool) : Xa4 := []
theorem Xp9 {p0 p1 r} (h : Xfj p0 p1 = some r) : AC Tryz.prog 3 [.agg [.sv (.bool p0.HasSeq), .sv (.bool p0.HasPar), .sv (.bool p0.HasRef), .sv (.int .i64 p0.Seq.Level), .sv (.int .i64 p0.Seq.Bits), .sv (.ints .i64 p0.Seq.Cols), .sv (.ints .i64 p0.Seq.Rows), .sv (.int .i64 p0.Par.Qp), .sv (.bool p0.Par.Large), .sv (.bool p0.Par.Exact), .sv (.bool p0.Par.Confined), .sv (.int .i64 p0.Frame), .sv (.int .i64 p0.Got), .sv (.int .i64 p0.Now.Wide), .sv (.int .i64 p0.Now.High), .sv (.str p0.Now.Dots), .sv (.int .i64 p0.Ref.Wide), .sv (.int .i64 p0.Ref.High), .sv (.str p0.Ref.Dots)], .sv (.str p1)] [] (Xo7 r) (Xo6 r) := by
 refine Xag hT Tryz.func3 rfl fun C hC => ?_
 unfold Xfj at h
 refine Xab ?_
 iterate 2 refine kO hT hC ?_
 refine Vc.nil ?_
 refine Xao ?_
 refine Xab ?_
 iterate 3 refine kO hT hC ?_
 refine Vc.nil ?_
 refine kS h ?_ ?_ <;> intro b1 h
 refine kt b1 ?_
 refine Xab ?_
 refine kO hT hC ?_
 refine Vc.nil ?_
 refine Xah ?_
 refine Xal ?_
 exact kR
 refine kf b1 ?_
 refine Xaf ?_
 refine Xae ?_
 refine Xab ?_
 refine kO hT hC ?_
 refine kN ?_
 iterate 2 refine kO hT hC ?_
 refine kC hC [] Tryz.call7 h (fun _ => Xw8) fun q1 h => ?_
 refine kO hT hC ?_
 refine Vc.nil ?_
 refine Xao ?_
 refine Xab ?_
 iterate 2 refine kO hT hC ?_
 refine Vc.nil ?_
 refine kS h ?_ ?_ <;> intro b2 h
 refine kt b2 ?_
 refine Xab ?_
 refine kO hT hC ?_
 refine Vc.nil ?_
 refine Xah ?_
 refine Xal ?_
 exact kR
 refine kf b2 ?_
 refine Xaf ?_
 refine Xae ?_
 refine Xab ?_
 refine kO hT hC ?_
 refine kC hC [(16, 464), (17, 465)] Tryz.call9 h (fun _ => Xg7) fun q2 h => ?_
 refine kO hT hC ?_
 obtain ⟨q3, hq, h⟩ := Xa7 h
 refine Ypo hC [(16, 496), (17, 497)] rfl rfl rfl rfl Tryz.call8 (Yd3 hq) rfl (by decide) trivial rfl (.inr ⟨rfl, ⟨trivial, trivial, trivial⟩⟩) rfl ?_
 iterate 9 refine kO hT hC ?_
 refine kN ?_
 refine kO hT hC ?_
 refine kC hC [(16, 576), (17, 577)] Tryz.call9 h (fun _ => Xg7) fun q4 h => ?_
 iterate 2 refine kO hT hC ?_
 refine kN ?_
 iterate 2 refine kO hT hC ?_
 obtain ⟨q5, hq, h⟩ := Xa7 h
 refine Ypo hC [(16, 640), (17, 641)] rfl rfl rfl rfl Tryz.call10 (Xqf hq) rfl (by decide) trivial rfl (.inr ⟨rfl, ⟨trivial, trivial, trivial⟩⟩) rfl ?_
 iterate 9 refine kO hT hC ?_
 refine Vc.nil ?_
 refine Xao ?_
 refine kL [1,2,6,7,8,9,10,11,12] [32,96,128,144,160,192,496,497,576,577,640,641] [_,_,_,_,_,_,_,_,_] [_,_,_,_,_,_,_,_,_,_,_,_] ?_
 refine kA h (fun v6 => ([(58, .sv (.bool v6))], [])) (fun v6 h => ?_) fun v6 h => ?_
 refine Xac ?_
 iterate 2 refine kO hT hC ?_
 refine kC hC [] Tryz.call11 h (fun _ => Xg3) fun q7 h => ?_
 iterate 2 refine kO hT hC ?_
 refine kS h ?_ ?_ <;> intro b3 h
 iterate 3 refine kI hT hC (kn b3) ?_
 refine kP hC false (kn b3) ?_
 refine kO hT hC ?_
 refine kS h ?_ ?_ <;> intro b4 h
 iterate 4 refine kF hC b4 ?_
 refine kP hC true b4 ?_
 refine Vc.nil ?_
 exact kM
 iterate 2 refine kI hT hC b4 ?_
 refine kE hC b4 [] Tryz.call12 h (fun _ => Xjf) fun q8 h => ?_
 refine kI hT hC b4 ?_
 refine kP hC false b4 ?_
 refine Vc.nil ?_
 exact kM
 iterate 3 refine kF hC (kn b3) ?_
 refine kP hC true (kn b3) ?_
 refine kO hT hC ?_
 iterate 4 refine kF hC rfl ?_
 refine kO hT hC ?_
 refine Vc.nil ?_
 exact kM
 refine kS h ?_ ?_ <;> intro b5 h
 refine kt b5 ?_
 refine Xab ?_
 refine kO hT hC ?_
 refine Vc.nil ?_
 refine Xah ?_
 refine Xal ?_
 exact kR
 refine kf b5 ?_
 refine Xaf ?_
 refine Xae ?_
 refine Xao ?_
 refine Xeg hm ?_
 iterate 2 refine kO hT hC ?_
 refine kC hC [(16, 976), (17, 977)] Tryz.call9 h (fun _ => Xg7) fun q9 h => ?_
 refine kC hC [] Tryz.call11 h (fun _ => Xg3) fun q10 h => ?_
 refine kO hT hC ?_
 refine kD ?_
 refine kS h ?_ ?_ <;> intro b6 h
 refine kt b6 ?_
 refine Xab ?_
 refine kO hT hC ?_
 refine Vc.nil ?_
 refine Xah ?_
 refine Xal ?_
 exact kR
 refine kf b6 ?_
 refine Xaf ?_
 refine Xae ?_
 refine Xab ?_
 refine kO hT hC ?_
 refine kN ?_
 iterate 2 refine kO hT hC ?_
 refine kC hC [(2, 576), (3, 577)] Tryz.call13 h (fun _ => Xmn) fun q11 h => ?_
 refine kO hT hC ?_
 refine Vc.nil ?_
 refine Xao ?_
 refine kL [1,2,6,7,8,10,11,12,13] [32,96,128,160,192,496,497,640,641] [_,_,_,_,_,_,_,_,_] [_,_,_,_,_,_,_,_,_] ?_
 refine kA h (fun v12 => ([(85, .sv (.bool v12)), (11, .any), (12, .any), (13, .any)], [(192, none)])) (fun v12 h => ?_) fun v12 h => ?_
 refine Xac ?_
 iterate 3 refine kO hT hC ?_
 refine kS h ?_ ?_ <;> intro b7 h
 iterate 4 refine kF hC b7 ?_
 refine kP hC true b7 ?_
 refine kO hT hC ?_
 iterate 3 refine kF hC rfl ?_
 iterate 2 refine kO hT hC ?_
 iterate 4 refine kF hC rfl ?_
 refine kO hT hC ?_
 refine Vc.nil ?_
 exact kM
 iterate 2 refine kI hT hC b7 ?_
 refine kE hC b7 [] Tryz.call11 h (fun _ => Xg3) fun q13 h => ?_
 refine kI hT hC b7 ?_
 refine kP hC false b7 ?_
 refine kO hT hC ?_
 refine kS h ?_ ?_ <;> intro b8 h
 iterate 3 refine kI hT hC (kn b8) ?_
 refine kP hC false (kn b8) ?_
 refine kO hT hC ?_
 refine kS h ?_ ?_ <;> intro b9 h
 iterate 4 refine kF hC b9 ?_
 refine kP hC true b9 ?_
 refine Vc.nil ?_
 exact kM
 iterate 2 refine kI hT hC b9 ?_
 refine kE hC b9 [] Tryz.call12 h (fun _ => Xjf) fun q14 h => ?_
 refine kI hT hC b9 ?_
 refine kP hC false b9 ?_
 refine Vc.nil ?_
 exact kM
 iterate 3 refine kF hC (kn b8) ?_
 refine kP hC true (kn b8) ?_
 refine kO hT hC ?_
 iterate 4 refine kF hC rfl ?_
 refine kO hT hC ?_
 refine Vc.nil ?_
 exact kM
 refine kS h ?_ ?_ <;> intro b10 h
 refine kt b10 ?_
 refine Xab ?_
 refine kO hT hC ?_
 refine Vc.nil ?_
 refine Xah ?_
 refine Xal ?_
 exact kR
 refine kf b10 ?_
 refine Xaf ?_
 refine Xae ?_
 refine Xab ?_
 refine kO hT hC ?_
 refine kN ?_
 iterate 2 refine kO hT hC ?_
 refine kC hC [(2, 640), (3, 641)] Tryz.call13 h (fun _ => Xmn) fun q15 h => ?_
 refine kO hT hC ?_
 refine kN ?_
 refine kO hT hC ?_
 refine kN ?_
 iterate 2 refine kO hT hC ?_
 refine kC hC [] Tryz.call14 h (fun _ => Xmm) fun q16 h => ?_
 refine kO hT hC ?_
 refine Vc.nil ?_
 refine Xao ?_
 refine Xab ?_
 iterate 2 refine kO hT hC ?_
 refine Vc.nil ?_
 refine kS h ?_ ?_ <;> intro b11 h
 refine kt b11 ?_
 refine Xab ?_
 refine kO hT hC ?_
 refine Vc.nil ?_
 refine Xah ?_
 refine Xal ?_
 exact kR
 refine kf b11 ?_
 refine Xaf ?_
 refine Xae ?_
 refine Xao ?_
 refine Xab ?_
 iterate 3 refine kO hT hC ?_
 refine Vc.nil ?_
 refine kS h ?_ ?_ <;> intro b12 h
 refine kt b12 ?_
 refine Xab ?_
 refine kO hT hC ?_
 refine Vc.nil ?_
 refine Xah ?_
 refine Xal ?_
 exact kR
 refine kf b12 ?_
 refine Xaf ?_
 refine Xae ?_
 refine Xab ?_
 refine kO hT hC ?_
 refine kC hC [(16, 1584), (17, 1585)] Tryz.call9 h (fun _ => Xg7) fun q17 h => ?_
 refine kO hT hC ?_
 obtain ⟨q18, hq, h⟩ := Xa7 h
 refine Ypo hC [(16, 1616), (17, 1617)] rfl rfl rfl rfl Tryz.call10 (Xqf hq) rfl (by decide) trivial rfl (.inr ⟨rfl, ⟨trivial, trivial, trivial⟩⟩) rfl ?_
 iterate 9 refine kO hT hC ?_
 refine Vc.nil ?_
 refine Xao ?_
 refine kL [6,7,8,10,14,16,17,18] [96,128,160,256,288,496,497,640,641,1616,1617] [_,_,_,_,_,_,_,_] [_,_,_,_,_,_,_,_,_,_,_] ?_
 refine kA h (fun v19 => ([(119, .sv (.bool v19)), (6, .any), (7, .any), (8, .any), (16, .any), (17, .any), (18, .any)], [(96, none), (128, none), (256, none), (288, none), (496, none), (497, none), (1616, none), (1617, none)])) (fun v19 h => ?_) fun v19 h => ?_
 refine Xac ?_
 iterate 2 refine kO hT hC ?_
 refine kC hC [] Tryz.call11 h (fun _ => Xg3) fun q20 h => ?_
 iterate 2 refine kO hT hC ?_
 refine kS h ?_ ?_ <;> intro b13 h
 iterate 3 refine kI hT hC (kn b13) ?_
 refine kP hC false (kn b13) ?_
 refine kO hT hC ?_
 refine kS h ?_ ?_ <;> intro b14 h
 iterate 4 refine kF hC b14 ?_
 refine kP hC true b14 ?_
 refine Vc.nil ?_
 exact kM
 iterate 2 refine kI hT hC b14 ?_
 refine kE hC b14 [] Tryz.call12 h (fun _ => Xjf) fun q21 h => ?_
 refine kI hT hC b14 ?_
 refine kP hC false b14 ?_
 refine Vc.nil ?_
 exact kM
 iterate 3 refine kF hC (kn b13) ?_
 refine kP hC true (kn b13) ?_
 refine kO hT hC ?_
 iterate 4 refine kF hC rfl ?_
 refine kO hT hC ?_
 refine Vc.nil ?_
 exact kM
 refine kS h ?_ ?_ <;> intro b15 h
 refine kt b15 ?_
 refine Xab ?_
 refine kO hT hC ?_
 refine Vc.nil ?_
 refine Xah ?_
 refine Xal ?_
 exact kR
 refine kf b15 ?_
 refine Xaf ?_
 refine Xae ?_
 refine Xab ?_
 refine kO hT hC ?_
 refine kN ?_
 iterate 2 refine kO hT hC ?_
 refine kC hC [] Tryz.call14 h (fun _ => Xmm) fun q22 h => ?_
 refine kO hT hC ?_
 refine Vc.nil ?_
 refine Xao ?_
 refine Xab ?_
 iterate 2 refine kO hT hC ?_
 refine Vc.nil ?_
 refine kS h ?_ ?_ <;> intro b16 h
 refine kt b16 ?_
 refine Xab ?_
 refine kO hT hC ?_
 refine Vc.nil ?_
 refine Xah ?_
 refine Xal ?_
 exact kR
 refine kf b16 ?_
 refine Xaf ?_
 refine Xae ?_
 refine Xao ?_
 refine Xab ?_
 iterate 3 refine kO hT hC ?_
 refine Vc.nil ?_
 refine kS h ?_ ?_ <;> intro b17 h
 refine kt b17 ?_
 refine Xab ?_
 refine kO hT hC ?_
 refine Vc.nil ?_
 refine Xah ?_
 refine Xal ?_
 exact kR
 refine kf b17 ?_
 refine Xaf ?_
 refine Xae ?_
 refine Xab ?_
 refine kO hT hC ?_
 refine Vc.nil ?_
 refine Xah ?_
 exact kR
end
end Go.Proofs.YtjgbfopmjpkkhaaGreat.A
