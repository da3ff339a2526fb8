/- Contracts of the functions that the law FnExactDecAll reaches, part 2: each comes to what its pure function tells. Written by a program of this session. Conditions: as each statement tells. -/
import Derived.Test.YtjgbfopmjpkkhaaGreatFFnExactDecAllx1
namespace Go.Proofs.YtjgbfopmjpkkhaaGreat.A
open Go Go.Proofs Go.Proofs.YtjgbfopmjpkkhaaGreatAL Go.RowKit
set_option linter.unusedVariables false
set_option linter.unusedSimpArgs false
set_option maxRecDepth 100000
set_option maxHeartbeats 2000000
noncomputable section
def Xul (r : ((List Int) × Bool)) : AV := .tup [.own 16, .sv (.bool r.2)]
def Xuk (r : ((List Int) × Bool)) : Xa4 := [(16, .ints .i64 r.1)]
theorem Xvt {p0 p1 r} (h : Xgr p0 p1 = some r) : AC Tryz.prog 161 [.sv (.ints .i64 p0), .agg [.sv (.bool p1.Key), .sv (.int .i64 p1.Qp), .sv (.bool p1.Large), .sv (.bool p1.Exact)]] [] (Xul r) (Xuk r) := by
 refine Xag hT Tryz.func161 rfl fun C hC => ?_
 unfold Xgr at h
 refine Xab ?_
 iterate 3 refine kO hT hC ?_
 refine Vc.nil ?_
 refine Xap ?_
 refine kL [0,3] [48] [_,_] [_] ?_
 refine kA h (fun v1 => ([(26, .sv (.bool v1))], [])) (fun v1 h => ?_) fun v1 h => ?_
 refine Xac ?_
 refine kO hT hC ?_
 refine kC hC [] Tryz.call184 h (fun _ => Xkv) fun q2 h => ?_
 iterate 2 refine kO hT hC ?_
 refine kS h ?_ ?_ <;> intro b1 h
 refine kI hT hC (kn b1) ?_
 refine kE hC (kn b1) [] Tryz.call119 h (fun _ => Xlh) fun q3 h => ?_
 refine kI hT hC (kn b1) ?_
 refine kP hC false (kn b1) ?_
 refine Vc.nil ?_
 exact kM
 iterate 3 refine kF hC (kn b1) ?_
 refine kP hC true (kn b1) ?_
 refine Vc.nil ?_
 exact kM
 refine kS h ?_ ?_ <;> intro b2 h
 refine kt b2 ?_
 refine Xab ?_
 iterate 3 refine kO hT hC ?_
 refine Vc.nil ?_
 refine Xah ?_
 refine Xal ?_
 obtain rfl := kj h
 exact Xbq (τ := ⟨[(4, .own 16), (5, .sv (.bool false))], [(16, some (.ints .i64 ([] : List Int)))]⟩) (kW hC [(16, 432)]) rfl ⟨rfl, trivial⟩
 refine kf b2 ?_
 refine Xaf ?_
 refine Xae ?_
 refine Xap ?_
 refine Xab ?_
 iterate 2 refine kO hT hC ?_
 refine Vc.nil ?_
 refine kS h ?_ ?_ <;> intro b3 h
 refine kt b3 ?_
 refine Xab ?_
 refine kO hT hC ?_
 refine kC hC [(16, 496)] Tryz.call186 h (fun _ => Xku) fun q4 h => ?_
 iterate 4 refine kO hT hC ?_
 refine Vc.nil ?_
 refine Xah ?_
 refine Xal ?_
 obtain rfl := kj h
 exact Xbq (τ := ⟨[(4, .own 16), (5, .sv (.bool q4.2))], [(16, some (.ints .i64 q4.1))]⟩) (kW hC [(16, 496)]) rfl ⟨rfl, trivial⟩
 refine kf b3 ?_
 refine Xaf ?_
 refine Xae ?_
 refine Xap ?_
 refine Xab ?_
 iterate 2 refine kO hT hC ?_
 refine Vc.nil ?_
 refine kS h ?_ ?_ <;> intro b4 h
 refine kt b4 ?_
 refine Xab ?_
 refine kO hT hC ?_
 refine kC hC [(16, 608)] Tryz.call186 h (fun _ => Xku) fun q5 h => ?_
 iterate 5 refine kO hT hC ?_
 refine Vc.nil ?_
 refine Xap ?_
 refine Xab ?_
 iterate 3 refine kO hT hC ?_
 refine Vc.nil ?_
 refine kL [3,6,41,42,43] [48,608] [_,_,_,_,_] [_,_] ?_
 refine kX h (fun v8 => ([(43, .sv (.int .i64 v8.1))], [(608, some (.ints .i64 v8.2))])) (fun v11 => ([(3, .any), (41, .any), (42, .any), (43, .any)], [(608, some (.ints .i64 v11)), (48, none)])) (kW hC []) (fun v8 s h => ?_) fun v11 h => ?_
 unfold Xej at h
 refine Xab ?_
 refine kO hT hC ?_
 refine Vc.nil ?_
 refine Xap ?_
 refine kS h ?_ ?_ <;> intro b7 h
 refine kt b7 ?_
 refine Xaf ?_
 refine Xae ?_
 refine Xap ?_
 refine Xaq ?_
 refine Xab ?_
 refine kO hT hC ?_
 iterate 2 refine kQ hT hC h fun h => ?_
 iterate 2 refine kO hT hC ?_
 refine Vc.nil ?_
 refine Xac ?_
 iterate 5 refine kO hT hC ?_
 refine kC hC [] Tryz.call187 h (fun _ => Xx2) fun q12 h => ?_
 iterate 2 refine kQ hT hC h fun h => ?_
 refine Vc.nil ?_
 refine Xar ?_
 refine Xae ?_
 refine Xac ?_
 iterate 2 refine kO hT hC ?_
 refine Vc.nil ?_
 exact kG
 refine kf b7 ?_
 refine Xas ?_
 refine Xaz ?_
 exact ku
 refine Xae ?_
 refine Xab ?_
 refine kO hT hC ?_
 refine kC hC [(16, 912)] Tryz.call188 h (fun _ => Xxz) fun q14 h => ?_
 iterate 2 refine kO hT hC ?_
 refine Vc.nil ?_
 refine Xah ?_
 refine Xal ?_
 obtain rfl := kj h
 exact Xbq (τ := ⟨[(4, .own 16), (5, .sv (.bool true))], [(16, some (.ints .i64 q14))]⟩) (kW hC [(16, 912)]) rfl ⟨rfl, trivial⟩
 refine kf b4 ?_
 refine Xaf ?_
 refine Xae ?_
 refine Xab ?_
 obtain ⟨hq, h⟩ := Xa2 h
 refine Xzs hT hC rfl rfl rfl rfl ⟨hq.1, hq.2.1, hq.2.2, by decide⟩ ?_
 refine kO hT hC ?_
 refine Vc.nil ?_
 refine Xap ?_
 refine Xab ?_
 refine kO hT hC ?_
 refine Vc.nil ?_
 refine kL [0,3,10,59] [48,928] [_,_,_,_] [_,_] ?_
 refine kX h (fun v32 => ([(59, .sv (.int .i64 v32.1))], [(928, some (.ints .i64 v32.2))])) (fun v50 => ([(0, .any), (3, .any), (59, .any)], [(928, some (.ints .i64 v50)), (48, none)])) (kW hC []) (fun v32 s h => ?_) fun v50 h => ?_
 unfold Xiy at h
 refine Xab ?_
 refine kO hT hC ?_
 refine Vc.nil ?_
 refine Xap ?_
 refine kS h ?_ ?_ <;> intro b22 h
 refine kt b22 ?_
 refine Xaf ?_
 refine Xae ?_
 refine Xap ?_
 refine Xaq ?_
 refine Xab ?_
 iterate 2 refine kO hT hC ?_
 refine kN ?_
 iterate 6 refine kO hT hC ?_
 refine kQ hT hC h fun h => ?_
 refine kC hC [(16, 1120)] Tryz.call186 h (fun _ => Xku) fun q51 h => ?_
 iterate 5 refine kO hT hC ?_
 refine Vc.nil ?_
 refine Xap ?_
 refine Xab ?_
 iterate 3 refine kO hT hC ?_
 refine Vc.nil ?_
 refine kL [0,3,10,11,12,59,73,74,75] [48,928,1120] [_,_,_,_,_,_,_,_,_] [_,_,_] ?_
 refine kX h (fun v54 => ([(75, .sv (.int .i64 v54.1))], [(1120, some (.ints .i64 v54.2))])) (fun v57 => ([(73, .any), (74, .any), (75, .any)], [(1120, some (.ints .i64 v57))])) (kW hC []) (fun v54 s h => ?_) fun v57 h => ?_
 unfold Xd4 at h
 refine Xab ?_
 refine kO hT hC ?_
 refine Vc.nil ?_
 refine Xap ?_
 refine kS h ?_ ?_ <;> intro b25 h
 refine kt b25 ?_
 refine Xaf ?_
 refine Xae ?_
 refine Xap ?_
 refine Xaq ?_
 refine Xab ?_
 refine kO hT hC ?_
 iterate 2 refine kQ hT hC h fun h => ?_
 iterate 2 refine kO hT hC ?_
 refine Vc.nil ?_
 refine Xac ?_
 iterate 6 refine kO hT hC ?_
 refine kC hC [] Tryz.call189 h (fun _ => Xx5) fun q58 h => ?_
 iterate 2 refine kQ hT hC h fun h => ?_
 refine Vc.nil ?_
 refine Xar ?_
 refine Xae ?_
 refine Xac ?_
 iterate 2 refine kO hT hC ?_
 refine Vc.nil ?_
 exact kG
 refine kf b25 ?_
 refine Xas ?_
 refine Xaz ?_
 exact ku
 refine Xae ?_
 refine Xab ?_
 refine kO hT hC ?_
 refine kC hC [(16, 1440)] Tryz.call190 h (fun _ => Yaj) fun q60 h => ?_
 refine kO hT hC ?_
 refine kN ?_
 refine kO hT hC ?_
 refine kC hC [(16, 1472)] Tryz.call191 h (fun _ => Ye1) fun q61 h => ?_
 iterate 2 refine kO hT hC ?_
 refine Vc.nil ?_
 refine kL [0,3,10,16,59,92,93,94] [48,928,1440,1472] [_,_,_,_,_,_,_,_] [_,_,_,_] ?_
 refine kX h (fun v63 => ([(94, .sv (.int .i64 v63.1))], [(928, some (.ints .i64 v63.2))])) (fun v65 => ([(16, .any), (92, .any), (93, .any), (94, .any)], [(928, some (.ints .i64 v65)), (1440, none), (1472, none)])) (kW hC []) (fun v63 s h => ?_) fun v65 h => ?_
 unfold Xfr at h
 refine Xab ?_
 refine kO hT hC ?_
 refine Vc.nil ?_
 refine Xap ?_
 refine kS h ?_ ?_ <;> intro b28 h
 refine kt b28 ?_
 refine Xaf ?_
 refine Xae ?_
 refine Xap ?_
 refine Xaq ?_
 refine Xab ?_
 refine kO hT hC ?_
 iterate 2 refine kQ hT hC h fun h => ?_
 iterate 2 refine kO hT hC ?_
 refine Vc.nil ?_
 refine Xac ?_
 iterate 4 refine kO hT hC ?_
 iterate 4 refine kQ hT hC h fun h => ?_
 refine Vc.nil ?_
 refine Xar ?_
 refine Xae ?_
 refine Xac ?_
 iterate 2 refine kO hT hC ?_
 refine Vc.nil ?_
 exact kG
 refine kf b28 ?_
 refine Xas ?_
 refine Xaz ?_
 exact ku
 refine Xar ?_
 refine Xae ?_
 refine Xac ?_
 iterate 2 refine kO hT hC ?_
 refine Vc.nil ?_
 exact kG
 refine kf b22 ?_
 refine Xas ?_
 refine Xaz ?_
 exact ku
 refine Xae ?_
 refine Xab ?_
 iterate 3 refine kO hT hC ?_
 refine Vc.nil ?_
 refine Xah ?_
 obtain rfl := kj h
 exact Xbq (τ := ⟨[(4, .own 16), (5, .sv (.bool true))], [(16, some (.ints .i64 v50))]⟩) (kW hC [(16, 928)]) rfl ⟨rfl, trivial⟩
def Yd4 (r : (List Int)) : AV := .own 16
def Yd3 (r : (List Int)) : Xa4 := [(16, .ints .i64 r)]
theorem Xtg {p0 p1 r} (h : Xkp p0 p1 = some r) : AC Tryz.prog 162 [.sv (.ints .i64 p0), .sv (.ints .i64 p1)] [] (Yd4 r) (Yd3 r) := by
 refine Xag hT Tryz.func162 rfl fun C hC => ?_
 unfold Xkp at h
 refine Xab ?_
 refine kO hT hC ?_
 refine kN ?_
 iterate 2 refine kO hT hC ?_
 refine Vc.nil ?_
 refine Xap ?_
 refine kL [0,1,5] [128] [_,_,_] [_] ?_
 refine kA h (fun v1 => ([(16, .sv (.bool v1))], [])) (fun v1 h => ?_) fun v1 h => ?_
 refine Xac ?_
 refine kO hT hC ?_
 refine kC hC [] Tryz.call192 h (fun _ => Xhm) fun q2 h => ?_
 iterate 2 refine kO hT hC ?_
 refine kS h ?_ ?_ <;> intro b1 h
 refine kI hT hC (kn b1) ?_
 refine kE hC (kn b1) [] Tryz.call192 h (fun _ => Xhm) fun q3 h => ?_
 refine kI hT hC (kn b1) ?_
 refine kP hC false (kn b1) ?_
 refine Vc.nil ?_
 exact kM
 iterate 3 refine kF hC (kn b1) ?_
 refine kP hC true (kn b1) ?_
 refine Vc.nil ?_
 exact kM
 refine kS h ?_ ?_ <;> intro b2 h
 refine kt b2 ?_
 refine Xab ?_
 iterate 2 refine kO hT hC ?_
 refine Vc.nil ?_
 refine Xah ?_
 refine Xal ?_
 obtain rfl := kj h
 exact Xbq (τ := ⟨[(4, .own 16)], [(16, some (.ints .i64 ([] : List Int)))]⟩) (kW hC [(16, 128)]) rfl ⟨rfl, trivial⟩
 refine kf b2 ?_
 refine Xaf ?_
 refine Xae ?_
 refine Xap ?_
 refine Xab ?_
 iterate 3 refine kO hT hC ?_
 refine Vc.nil ?_
 refine kL [1,5,18,19,20] [128] [_,_,_,_,_] [_] ?_
 refine kX h (fun v6 => ([(20, .sv (.int .i64 v6.1))], [(128, some (.ints .i64 v6.2))])) (fun v9 => ([(1, .any), (18, .any), (19, .any), (20, .any)], [(128, some (.ints .i64 v9))])) (kW hC []) (fun v6 s h => ?_) fun v9 h => ?_
 unfold Xli at h
 refine Xab ?_
 refine kO hT hC ?_
 refine Vc.nil ?_
 refine Xap ?_
 refine kS h ?_ ?_ <;> intro b5 h
 refine kt b5 ?_
 refine Xaf ?_
 refine Xae ?_
 refine Xap ?_
 refine Xaq ?_
 refine Xab ?_
 refine kO hT hC ?_
 refine kQ hT hC h fun h => ?_
 iterate 3 refine kO hT hC ?_
 refine Vc.nil ?_
 refine Xac ?_
 iterate 4 refine kO hT hC ?_
 refine kQ hT hC h fun h => ?_
 iterate 2 refine kO hT hC ?_
 refine kC hC [] Tryz.call193 h (fun _ => Xjm) fun q10 h => ?_
 refine kO hT hC ?_
 refine kT hT hC h fun h => ?_
 refine kO hT hC ?_
 refine Vc.nil ?_
 refine Xar ?_
 refine Xae ?_
 refine Xac ?_
 iterate 2 refine kO hT hC ?_
 refine Vc.nil ?_
 obtain rfl := kj h
 exact Yfo (kW hC [(128, 544)])
 refine kf b5 ?_
 refine Xas ?_
 refine Xaz ?_
 exact ku
 refine Xae ?_
 refine Xab ?_
 iterate 2 refine kO hT hC ?_
 refine Vc.nil ?_
 refine Xah ?_
 obtain rfl := kj h
 exact Xbq (τ := ⟨[(4, .own 16)], [(16, some (.ints .i64 v9))]⟩) (kW hC [(16, 128)]) rfl ⟨rfl, trivial⟩
def Yai (r : (Xkl × Bool)) : AV := .tup [.agg [.own 16, .own 17, .sv (.int .i64 r.1.Corner)], .sv (.bool r.2)]
def Yah (r : (Xkl × Bool)) : Xa4 := [(16, .ints .i64 r.1.Above), (17, .ints .i64 r.1.Left)]
theorem Ydy {p0 p1 p2 r} (h : Xls p0 p1 p2 = some r) : AC Tryz.prog 163 [.agg [.sv (.int .i64 p0.Wide), .sv (.int .i64 p0.High), .sv (.str p0.Dots)], .sv (.int .i64 p1), .sv (.int .i64 p2)] [] (Yai r) (Yah r) := by
 refine Xag hT Tryz.func163 rfl fun C hC => ?_
 unfold Xls at h
 refine Xab ?_
 iterate 3 refine kO hT hC ?_
 refine Vc.nil ?_
 refine Xap ?_
 refine kL [1,2,3,6] [48,96] [_,_,_,_] [_,_] ?_
 refine kA h (fun v1 => ([(19, .sv (.bool v1))], [])) (fun v1 h => ?_) fun v1 h => ?_
 refine Xac ?_
 refine kO hT hC ?_
 refine kC hC [] Tryz.call55 h (fun _ => Xdp) fun q2 h => ?_
 iterate 2 refine kO hT hC ?_
 refine kS h ?_ ?_ <;> intro b1 h
 iterate 3 refine kI hT hC (kn b1) ?_
 refine kE hC (kn b1) [] Tryz.call158 h (fun _ => Xmp) fun q3 h => ?_
 refine kI hT hC (kn b1) ?_
 refine kP hC false (kn b1) ?_
 refine Vc.nil ?_
 exact kM
 iterate 5 refine kF hC (kn b1) ?_
 refine kP hC true (kn b1) ?_
 refine Vc.nil ?_
 exact kM
 refine kS h ?_ ?_ <;> intro b2 h
 refine kt b2 ?_
 refine Xab ?_
 iterate 3 refine kO hT hC ?_
 refine Vc.nil ?_
 refine Xah ?_
 refine Xal ?_
 obtain rfl := kj h
 refine Xbq (τ := ⟨[(6, .ptr 2000000 0), (7, .sv (.bool false))], [(16, some (.ints .i64 [])), (17, some (.ints .i64 [])), (2000000, some (.box [.own 16, .own 17, .sv (.int .i64 0)]))]⟩) ?_ rfl ⟨rfl, rfl, trivial⟩
 refine Xf9 hC 96 0 1105 (.ints .i64 []) rfl rfl rfl rfl rfl trivial ?_
 refine Xf9 hC 96 1 1106 (.ints .i64 []) rfl rfl rfl rfl rfl trivial ?_
 apply Xbu hC [(16, 1105), (17, 1106), (2000000, 96)]
 exact co
 rfl
 decide
 rfl
 refine kf b2 ?_
 refine Xaf ?_
 refine Xae ?_
 refine Xab ?_
 iterate 3 refine kO hT hC ?_
 refine Vc.nil ?_
 refine Xap ?_
 refine Xab ?_
 refine kO hT hC ?_
 refine Vc.nil ?_
 refine kL [1,2,3,6,8,22] [48,96,128] [_,_,_,_,_,_] [_,_,_] ?_
 obtain ⟨v15, hl, h⟩ := Xa6 h
 refine Yuc (fun v9 => ([(22, .sv (.int .i64 v9.1))], [(128, some (.box [.own 1129, .own 1130, .sv (.int .i64 (-1))])), (1129, some (.ints .i64 v9.2.1)), (1130, some (.ints .i64 v9.2.2))])) (fun v15 => ([(22, .any)], [(128, some (.box [.own 1133, .own 1134, .sv (.int .i64 (-1))])), (1133, some (.ints .i64 v15.1)), (1134, some (.ints .i64 v15.2))])) hl ?_ ?_ ?_
 refine Xf9 hC 128 0 1135 (.ints .i64 []) rfl rfl rfl rfl rfl trivial ?_
 refine Xf9 hC 128 1 1136 (.ints .i64 []) rfl rfl rfl rfl rfl trivial ?_
 try dsimp only
 apply Xbu hC [(1129, 1135), (1130, 1136)]
 exact co
 rfl
 decide
 rfl
 intro v9 s hs
 have h := hs
 unfold Xjo at h
 refine Xab ?_
 refine kO hT hC ?_
 refine Vc.nil ?_
 refine Xap ?_
 refine kS h ?_ ?_ <;> intro b9 h
 refine kt b9 ?_
 refine Xaf ?_
 refine Xae ?_
 refine kL [1,2,3,6,8,22] [48,96,128,1129,1130] [_,_,_,_,_,_] [_,_,_,_,_] ?_
 refine kA h (fun v16 => ([], [(1129, some (.ints .i64 v16.1)), (1130, some (.ints .i64 v16.2))])) (fun v16 h => ?_) fun v16 h => ?_
 refine Xaq ?_
 refine Xab ?_
 iterate 2 refine kO hT hC ?_
 refine Vc.nil ?_
 refine kL [1,2,3,6,8,9,22] [48,96,128,1129,1130] [_,_,_,_,_,_,_] [_,_,_,_,_] ?_
 refine kA h (fun v17 => ([], [(1129, some (.ints .i64 v17))])) (fun v17 h => ?_) fun v17 h => ?_
 refine Xab ?_
 iterate 2 refine kO hT hC ?_
 refine Vc.nil ?_
 refine kS h ?_ ?_ <;> intro b10 h
 refine kt b10 ?_
 refine Xcu hm ?_
 iterate 8 refine kO hT hC ?_
 refine kC hC [] Tryz.call185 h (fun _ => Xjq) fun q18 h => ?_
 refine kO hT hC ?_
 refine kT hT hC h fun h => ?_
 iterate 2 refine kO hT hC ?_
 refine kD ?_
 obtain rfl := kj h
 exact Xgn (kW hC [(1129, 592)])
 refine kf b10 ?_
 refine Xaf ?_
 exact kM
 refine Xab ?_
 iterate 2 refine kO hT hC ?_
 refine Vc.nil ?_
 refine kS h ?_ ?_ <;> intro b11 h
 refine kt b11 ?_
 refine Xcu hm ?_
 iterate 8 refine kO hT hC ?_
 refine kC hC [] Tryz.call185 h (fun _ => Xjq) fun q19 h => ?_
 refine kO hT hC ?_
 refine kT hT hC h fun h => ?_
 iterate 2 refine kO hT hC ?_
 refine kD ?_
 refine Xar ?_
 obtain rfl := kj h
 exact Xgn (kW hC [(1130, 816)])
 refine kf b11 ?_
 refine Xaf ?_
 refine Xar ?_
 exact kM
 refine Xac ?_
 iterate 2 refine kO hT hC ?_
 refine Vc.nil ?_
 exact kG
 refine kf b9 ?_
 refine Xas ?_
 refine Xaz ?_
 obtain rfl := kj h
 exact Yrf (Yxn (kW hC [(1133, 1129), (1134, 1130)]))
 refine Xae ?_
 refine kL [1,2,3,6,8] [48,96,128,1133,1134] [_,_,_,_,_] [_,_,_,_,_] ?_
 refine kA h (fun v21 => ([(1, .any), (2, .any), (3, .any)], [(128, some (.box [.own 1133, .own 1134, .sv (.int .i64 v21)])), (48, none)])) (fun v21 h => ?_) fun v21 h => ?_
 refine kL [1,2,3,6,8] [48,96,128,1133,1134] [_,_,_,_,_] [_,_,_,_,_] ?_
 refine kA h (fun v22 => ([(59, .sv (.bool v22))], [])) (fun v22 h => ?_) fun v22 h => ?_
 refine Xac ?_
 iterate 3 refine kO hT hC ?_
 refine kS h ?_ ?_ <;> intro b12 h
 iterate 2 refine kI hT hC b12 ?_
 refine kP hC true b12 ?_
 refine Vc.nil ?_
 exact kM
 iterate 2 refine kF hC b12 ?_
 refine kP hC false b12 ?_
 refine Vc.nil ?_
 exact kM
 refine kS h ?_ ?_ <;> intro b13 h
 refine kt b13 ?_
 refine Xac ?_
 iterate 5 refine kO hT hC ?_
 refine kC hC [] Tryz.call185 h (fun _ => Xjq) fun q23 h => ?_
 iterate 2 refine kO hT hC ?_
 refine Vc.nil ?_
 exact kM
 refine kf b13 ?_
 refine Xaf ?_
 exact kM
 refine Xab ?_
 iterate 3 refine kO hT hC ?_
 refine Vc.nil ?_
 refine Xah ?_
 obtain rfl := kj h
 exact Xbq (τ := ⟨[(6, .ptr 2000000 0), (7, .sv (.bool true))], [(16, some (.ints .i64 v15.1)), (17, some (.ints .i64 v15.2)), (2000000, some (.box [.own 16, .own 17, .sv (.int .i64 v21)]))]⟩) (kW hC [(16, 1133), (17, 1134), (2000000, 96)]) rfl ⟨rfl, rfl, trivial⟩
def Xqn (r : Bool) : AV := .sv (.bool r)
def Xqm (r : Bool) : Xa4 := []
theorem Ydz {p0 r} (h : Xlt p0 = some r) : AC Tryz.prog 194 [.agg [.sv (.ints .i64 p0.Above), .sv (.ints .i64 p0.Left), .sv (.int .i64 p0.Corner)]] [] (Xqn r) (Xqm r) := by
 refine Xag hT Tryz.func194 rfl fun C hC => ?_
 unfold Xlt at h
 refine Xab ?_
 iterate 2 refine kO hT hC ?_
 refine Vc.nil ?_
 refine Xap ?_
 refine Xab ?_
 iterate 7 refine kO hT hC ?_
 refine Vc.nil ?_
 refine kL [1,9,10,11] [16,144] [_,_,_,_] [_,_] ?_
 obtain ⟨o11, hl, h⟩ := Xa6 h
 refine Xdj (fun v4 => ([(11, .sv (.int .i64 v4))], [])) (fun v8 => ([(9, .any), (10, .any), (11, .any)], [(144, none)])) (fun r => Xkm C T Tryz.f194.results.toList (Xqn r) (Xqm r)) hl ?_ ?_ ?_ ?_
 apply Xbu hC []
 exact co
 rfl
 decide
 rfl
 intro v4 s hs
 have h := hs
 unfold Xe3 at h
 refine Xab ?_
 refine kO hT hC ?_
 refine Vc.nil ?_
 refine Xap ?_
 refine kS h ?_ ?_ <;> intro b7 h
 refine kt b7 ?_
 refine Xaf ?_
 refine Xae ?_
 refine Xap ?_
 refine Xaq ?_
 refine Xab ?_
 iterate 2 refine kQ hT hC h fun h => ?_
 refine kO hT hC ?_
 refine Vc.nil ?_
 refine kL [1,4,9,10,11] [16,144] [_,_,_,_,_] [_,_] ?_
 refine kA h (fun v9 => ([(22, .sv (.bool v9)), (4, .any)], [])) (fun v9 h => ?_) fun v9 h => ?_
 refine Xac ?_
 iterate 4 refine kO hT hC ?_
 refine kS h ?_ ?_ <;> intro b8 h
 refine kI hT hC b8 ?_
 refine kE hC b8 [] Tryz.call192 h (fun _ => Xhm) fun q10 h => ?_
 refine kI hT hC b8 ?_
 refine kP hC true b8 ?_
 refine Vc.nil ?_
 exact kM
 iterate 3 refine kF hC b8 ?_
 refine kP hC false b8 ?_
 refine Vc.nil ?_
 exact kM
 refine kS h ?_ ?_ <;> intro b9 h
 refine kt b9 ?_
 refine Xab ?_
 refine kO hT hC ?_
 refine Vc.nil ?_
 refine Xah ?_
 refine Xcf ?_
 refine Xal ?_
 obtain rfl := kj h
 refine Xj5 ?_
 refine Xj3 ?_
 exact Xbq (Xga.refl _) rfl trivial
 refine kf b9 ?_
 refine Xaf ?_
 refine Xar ?_
 refine Xae ?_
 refine Xac ?_
 iterate 2 refine kO hT hC ?_
 refine Vc.nil ?_
 exact kG
 refine kf b7 ?_
 refine Xas ?_
 refine Xaz ?_
 exact kb
 intro v8 e
 subst e
 refine Xae ?_
 refine Xab ?_
 iterate 2 refine kO hT hC ?_
 refine kC hC [] Tryz.call64 h (fun _ => Xan) fun q12 h => ?_
 refine kO hT hC ?_
 refine Vc.nil ?_
 refine Xah ?_
 exact kR
 intro r' σ' e hE
 subst e
 obtain rfl := kj h
 refine Xal ?_
 exact hE
def Ye0 (r : (List Int)) : AV := .sv (.ints .i64 r)
def Yez (r : (List Int)) : Xa4 := []
theorem Xtq {p0 r} (h : Xkx p0 = some r) : AC Tryz.prog 195 [.sv (.ints .i64 p0)] [] (Ye0 r) (Yez r) := by
 refine Xag hT Tryz.func195 rfl fun C hC => ?_
 unfold Xkx at h
 refine Xab ?_
 refine kO hT hC ?_
 refine Vc.nil ?_
 refine Xap ?_
 refine Xab ?_
 iterate 3 refine kO hT hC ?_
 refine Vc.nil ?_
 refine kS h ?_ ?_ <;> intro b1 h
 refine kt b1 ?_
 refine Xab ?_
 iterate 2 refine kO hT hC ?_
 refine Vc.nil ?_
 refine Xah ?_
 refine Xal ?_
 obtain rfl := kj h
 exact Xbq (τ := ⟨[(2, .sv (.ints .i64 ([128, 128, 128, 128, 128, 128, 128, 128])))], []⟩) (kW hC []) rfl trivial
 refine kf b1 ?_
 refine Xaf ?_
 refine Xae ?_
 refine Xab ?_
 iterate 2 refine kO hT hC ?_
 refine Vc.nil ?_
 refine Xah ?_
 exact kR
def Yal (r : (List Int)) : AV := .own 16
def Yak (r : (List Int)) : Xa4 := [(16, .ints .i64 r)]
theorem Yd0 {p0 p1 r} (h : Xi6 p0 p1 = some r) : AC Tryz.prog 164 [.sv (.int .i64 p0), .agg [.sv (.ints .i64 p1.Above), .sv (.ints .i64 p1.Left), .sv (.int .i64 p1.Corner)]] [] (Yal r) (Yak r) := by
 refine Xag hT Tryz.func164 rfl fun C hC => ?_
 unfold Xi6 at h
 refine Xab ?_
 iterate 2 refine kO hT hC ?_
 refine kN ?_
 iterate 2 refine kO hT hC ?_
 refine Vc.nil ?_
 refine Xap ?_
 refine kL [0,3,5] [48,208] [_,_,_] [_,_] ?_
 refine kA h (fun v1 => ([(21, .sv (.bool v1))], [])) (fun v1 h => ?_) fun v1 h => ?_
 refine Xac ?_
 refine kO hT hC ?_
 refine kC hC [] Tryz.call194 h (fun _ => Ydz) fun q2 h => ?_
 iterate 2 refine kO hT hC ?_
 refine kS h ?_ ?_ <;> intro b1 h
 refine kI hT hC (kn b1) ?_
 refine kE hC (kn b1) [] Tryz.call64 h (fun _ => Xan) fun q3 h => ?_
 refine kI hT hC (kn b1) ?_
 refine kP hC false (kn b1) ?_
 refine Vc.nil ?_
 exact kM
 iterate 3 refine kF hC (kn b1) ?_
 refine kP hC true (kn b1) ?_
 refine Vc.nil ?_
 exact kM
 refine kS h ?_ ?_ <;> intro b2 h
 refine kt b2 ?_
 refine Xab ?_
 iterate 2 refine kO hT hC ?_
 refine Vc.nil ?_
 refine Xah ?_
 refine Xal ?_
 obtain rfl := kj h
 exact Xbq (τ := ⟨[(4, .own 16)], [(16, some (.ints .i64 ([] : List Int)))]⟩) (kW hC [(16, 208)]) rfl ⟨rfl, trivial⟩
 refine kf b2 ?_
 refine Xaf ?_
 refine Xae ?_
 refine Xab ?_
 refine kO hT hC ?_
 refine Vc.nil ?_
 refine kL [0,3,5,6] [48,208] [_,_,_,_] [_,_] ?_
 refine kA h (fun v4 => ([(6, .sv (.int .i64 v4))], [])) (fun v4 h => ?_) fun v4 h => ?_
 refine Xab ?_
 iterate 8 refine kO hT hC ?_
 refine kN ?_
 iterate 2 refine kO hT hC ?_
 refine Vc.nil ?_
 refine kS h ?_ ?_ <;> intro b3 h
 refine kt b3 ?_
 refine Xcu hm ?_
 iterate 2 refine kO hT hC ?_
 refine kC hC [] Tryz.call121 h (fun _ => Xeo) fun q5 h => ?_
 iterate 2 refine kO hT hC ?_
 refine kC hC [] Tryz.call121 h (fun _ => Xeo) fun q6 h => ?_
 iterate 2 refine kO hT hC ?_
 refine kQ hT hC h fun h => ?_
 iterate 2 refine kO hT hC ?_
 refine kQ hT hC h fun h => ?_
 refine kO hT hC ?_
 refine kD ?_
 exact kM
 refine kf b3 ?_
 refine Xaf ?_
 exact kM
 refine Xdn hm ?_
 iterate 2 refine kO hT hC ?_
 refine kC hC [] Tryz.call195 h (fun _ => Xtq) fun q7 h => ?_
 iterate 2 refine kO hT hC ?_
 refine kC hC [] Tryz.call195 h (fun _ => Xtq) fun q8 h => ?_
 iterate 5 refine kO hT hC ?_
 refine kD ?_
 refine kL [0,5,6,8,9,10] [208] [_,_,_,_,_,_] [_] ?_
 refine kA h (fun v9 => ([(10, .sv (.int .i64 v9))], [])) (fun v9 h => ?_) fun v9 h => ?_
 refine Xab ?_
 iterate 2 refine kO hT hC ?_
 refine Vc.nil ?_
 refine kS h ?_ ?_ <;> intro b4 h
 refine kt b4 ?_
 refine Xac ?_
 refine kO hT hC ?_
 refine Vc.nil ?_
 exact kM
 refine kf b4 ?_
 refine Xaf ?_
 exact kM
 refine Xap ?_
 refine Xab ?_
 refine kO hT hC ?_
 refine Vc.nil ?_
 refine kL [0,5,6,8,9,10,54] [208] [_,_,_,_,_,_,_] [_] ?_
 refine kX h (fun v22 => ([(54, .sv (.int .i64 v22.1))], [(208, some (.ints .i64 v22.2))])) (fun v35 => ([(0, .any), (6, .any), (8, .any), (9, .any), (10, .any), (54, .any)], [(208, some (.ints .i64 v35))])) (kW hC []) (fun v22 s h => ?_) fun v35 h => ?_
 unfold Xmb at h
 refine Xab ?_
 refine kO hT hC ?_
 refine Vc.nil ?_
 refine Xap ?_
 refine kS h ?_ ?_ <;> intro b31 h
 refine kt b31 ?_
 refine Xaf ?_
 refine Xae ?_
 refine Xap ?_
 refine Xaq ?_
 refine Xab ?_
 iterate 2 refine kO hT hC ?_
 refine kN ?_
 refine kO hT hC ?_
 refine Vc.nil ?_
 refine kL [0,5,6,8,9,10,11,54,57] [208] [_,_,_,_,_,_,_,_,_] [_] ?_
 refine kX h (fun v39 => ([(57, .sv (.int .i64 v39.1))], [(208, some (.ints .i64 v39.2))])) (fun v43 => ([(11, .any), (57, .any)], [(208, some (.ints .i64 v43))])) (kW hC []) (fun v39 s h => ?_) fun v43 h => ?_
 unfold Xfy at h
 refine Xab ?_
 refine kO hT hC ?_
 refine Vc.nil ?_
 refine Xap ?_
 refine kS h ?_ ?_ <;> intro b40 h
 refine kt b40 ?_
 refine Xaf ?_
 refine Xae ?_
 refine kL [0,5,6,8,9,10,11,54,57] [208] [_,_,_,_,_,_,_,_,_] [_] ?_
 refine kA h (fun v44 => ([(5, .own 1700)], [(1700, some (.ints .i64 v44)), (208, none)])) (fun v44 h => ?_) fun v44 h => ?_
 refine Xaq ?_
 refine Xab ?_
 iterate 2 refine kO hT hC ?_
 refine kN ?_
 refine kO hT hC ?_
 refine Vc.nil ?_
 refine Xaq ?_
 refine Xab ?_
 iterate 2 refine kO hT hC ?_
 refine Vc.nil ?_
 refine kS h ?_ ?_ <;> intro b41 h
 refine kt b41 ?_
 refine Xac ?_
 iterate 3 refine kO hT hC ?_
 refine kT hT hC h fun h => ?_
 refine kO hT hC ?_
 refine Vc.nil ?_
 iterate 2 refine Xar ?_
 obtain rfl := kj h
 exact Xgn (kW hC [(1700, 1296)])
 refine kf b41 ?_
 refine Xab ?_
 iterate 2 refine kO hT hC ?_
 refine Vc.nil ?_
 refine kS h ?_ ?_ <;> intro b42 h
 refine kt b42 ?_
 refine Xac ?_
 iterate 3 refine kO hT hC ?_
 refine kQ hT hC h fun h => ?_
 iterate 2 refine kO hT hC ?_
 refine kT hT hC h fun h => ?_
 refine kO hT hC ?_
 refine Vc.nil ?_
 iterate 2 refine Xar ?_
 obtain rfl := kj h
 exact Xgn (kW hC [(1700, 1440)])
 refine kf b42 ?_
 refine Xab ?_
 iterate 2 refine kO hT hC ?_
 refine Vc.nil ?_
 refine kS h ?_ ?_ <;> intro b43 h
 refine kt b43 ?_
 refine Xac ?_
 iterate 3 refine kO hT hC ?_
 refine kQ hT hC h fun h => ?_
 iterate 2 refine kO hT hC ?_
 refine kT hT hC h fun h => ?_
 refine kO hT hC ?_
 refine Vc.nil ?_
 iterate 2 refine Xar ?_
 obtain rfl := kj h
 exact Xgn (kW hC [(1700, 1584)])
 refine kf b43 ?_
 refine Xcu hm ?_
 iterate 3 refine kO hT hC ?_
 refine kQ hT hC h fun h => ?_
 iterate 3 refine kO hT hC ?_
 refine kQ hT hC h fun h => ?_
 iterate 4 refine kO hT hC ?_
 refine kC hC [] Tryz.call193 h (fun _ => Xjm) fun q45 h => ?_
 refine kO hT hC ?_
 refine kT hT hC h fun h => ?_
 refine kO hT hC ?_
 refine kD ?_
 iterate 2 refine Xar ?_
 obtain rfl := kj h
 exact Xgn (kW hC [(1700, 1200)])
 refine Xac ?_
 iterate 2 refine kO hT hC ?_
 refine Vc.nil ?_
 obtain rfl := kj h
 exact Yfo (kW hC [(208, 1700)])
 refine kf b40 ?_
 refine Xas ?_
 refine Xaz ?_
 exact ku
 refine Xar ?_
 refine Xae ?_
 refine Xac ?_
 iterate 2 refine kO hT hC ?_
 refine Vc.nil ?_
 exact kG
 refine kf b31 ?_
 refine Xas ?_
 refine Xaz ?_
 exact ku
 refine Xae ?_
 refine Xab ?_
 iterate 2 refine kO hT hC ?_
 refine Vc.nil ?_
 refine Xah ?_
 obtain rfl := kj h
 exact Xbq (τ := ⟨[(4, .own 16)], [(16, some (.ints .i64 v35))]⟩) (kW hC [(16, 208)]) rfl ⟨rfl, trivial⟩
def Xun (r : ((List Int) × Bool)) : AV := .tup [.own 16, .sv (.bool r.2)]
def Xum (r : ((List Int) × Bool)) : Xa4 := [(16, .ints .i64 r.1)]
theorem Xv0 {p0 p1 p2 p3 p4 p5 p6 p7 r} (h : Xc9 p0 p1 p2 p3 p4 p5 p6 p7 = some r) : AC Tryz.prog 125 [.agg [.sv (.int .i64 p0.Wide), .sv (.int .i64 p0.High), .sv (.str p0.Dots)], .agg [.sv (.int .i64 p1.Wide), .sv (.int .i64 p1.High), .sv (.str p1.Dots)], .sv (.int .i64 p2), .sv (.int .i64 p3), .agg [.sv (.bool p4.Key), .sv (.int .i64 p4.Qp), .sv (.bool p4.Large), .sv (.bool p4.Exact)], .sv (.int .i64 p5), .sv (.int .i64 p6), .agg [.sv (.int .i64 p7.Kind), .sv (.int .i64 p7.Mode), .sv (.int .i64 p7.Dx), .sv (.int .i64 p7.Dy), .sv (.ints .i64 p7.Levels)]] [] (Xun r) (Xum r) := by
 refine Xag hT Tryz.func125 rfl fun C hC => ?_
 unfold Xc9 at h
 refine Xab ?_
 iterate 6 refine kO hT hC ?_
 refine Vc.nil ?_
 refine Xap ?_
 refine kL [2,3,5,6,8,9,12,15] [128,144,192,240] [_,_,_,_,_,_,_,_] [_,_,_,_] ?_
 refine kA h (fun v1 => ([(67, .sv (.bool v1))], [])) (fun v1 h => ?_) fun v1 h => ?_
 refine Xac ?_
 refine kO hT hC ?_
 refine kC hC [] Tryz.call55 h (fun _ => Xdp) fun q2 h => ?_
 iterate 2 refine kO hT hC ?_
 refine kS h ?_ ?_ <;> intro b1 h
 iterate 3 refine kI hT hC (kn b1) ?_
 refine kE hC (kn b1) [] Tryz.call158 h (fun _ => Xmp) fun q3 h => ?_
 refine kI hT hC (kn b1) ?_
 refine kP hC false (kn b1) ?_
 refine kO hT hC ?_
 refine kS h ?_ ?_ <;> intro b2 h
 refine kI hT hC (kn b2) ?_
 refine kE hC (kn b2) [] Tryz.call64 h (fun _ => Xan) fun q4 h => ?_
 refine kI hT hC (kn b2) ?_
 refine kP hC false (kn b2) ?_
 refine kO hT hC ?_
 refine kS h ?_ ?_ <;> intro b3 h
 refine kI hT hC (kn b3) ?_
 refine kE hC (kn b3) [] Tryz.call64 h (fun _ => Xan) fun q5 h => ?_
 refine kI hT hC (kn b3) ?_
 refine kP hC false (kn b3) ?_
 refine kO hT hC ?_
 refine kS h ?_ ?_ <;> intro b4 h
 refine kI hT hC (kn b4) ?_
 refine kE hC (kn b4) [] Tryz.call157 h (fun _ => Xqo) fun q6 h => ?_
 refine kI hT hC (kn b4) ?_
 refine kP hC false (kn b4) ?_
 refine kO hT hC ?_
 refine kS h ?_ ?_ <;> intro b5 h
 refine kI hT hC (kn b5) ?_
 refine kE hC (kn b5) [] Tryz.call119 h (fun _ => Xlh) fun q7 h => ?_
 refine kI hT hC (kn b5) ?_
 refine kP hC false (kn b5) ?_
 refine kO hT hC ?_
 refine kS h ?_ ?_ <;> intro b6 h
 iterate 2 refine kI hT hC (kn b6) ?_
 refine kE hC (kn b6) [] Tryz.call159 h (fun _ => Xv1) fun q8 h => ?_
 refine kI hT hC (kn b6) ?_
 refine kP hC false (kn b6) ?_
 refine kO hT hC ?_
 refine kS h ?_ ?_ <;> intro b7 h
 iterate 4 refine kI hT hC (kn b7) ?_
 refine kS h ?_ ?_ <;> intro b8 h
 refine kI hT hC b8 ?_
 refine kE hC b8 [] Tryz.call55 h (fun _ => Xdp) fun q9 h => ?_
 refine kI hT hC b8 ?_
 refine Xa0 hC rfl rfl rfl rfl (kn b7) rfl rfl (b := true) b8 rfl rfl rfl trivial ?_
 refine kP hC false (kn b7) ?_
 refine Vc.nil ?_
 exact kM
 iterate 3 refine kF hC b8 ?_
 refine Xa0 hC rfl rfl rfl rfl (kn b7) rfl rfl (b := false) b8 rfl rfl rfl trivial ?_
 refine kP hC false (kn b7) ?_
 refine Vc.nil ?_
 exact kM
 iterate 4 refine kF hC (kn b7) ?_
 iterate 3 refine Xdo hC rfl rfl rfl rfl rfl rfl ?_
 refine kF hC (kn b7) ?_
 refine kP hC true (kn b7) ?_
 refine Vc.nil ?_
 exact kM
 iterate 4 refine kF hC (kn b6) ?_
 refine kP hC true (kn b6) ?_
 refine kO hT hC ?_
 iterate 4 refine kF hC rfl ?_
 iterate 3 refine Xdo hC rfl rfl rfl rfl rfl rfl ?_
 refine kF hC rfl ?_
 refine kO hT hC ?_
 refine Vc.nil ?_
 exact kM
 iterate 3 refine kF hC (kn b5) ?_
 refine kP hC true (kn b5) ?_
 refine kO hT hC ?_
 iterate 4 refine kF hC rfl ?_
 iterate 2 refine kO hT hC ?_
 iterate 4 refine kF hC rfl ?_
 iterate 3 refine Xdo hC rfl rfl rfl rfl rfl rfl ?_
 refine kF hC rfl ?_
 refine kO hT hC ?_
 refine Vc.nil ?_
 exact kM
 iterate 3 refine kF hC (kn b4) ?_
 refine kP hC true (kn b4) ?_
 refine kO hT hC ?_
 iterate 3 refine kF hC rfl ?_
 iterate 2 refine kO hT hC ?_
 iterate 4 refine kF hC rfl ?_
 iterate 2 refine kO hT hC ?_
 iterate 4 refine kF hC rfl ?_
 iterate 3 refine Xdo hC rfl rfl rfl rfl rfl rfl ?_
 refine kF hC rfl ?_
 refine kO hT hC ?_
 refine Vc.nil ?_
 exact kM
 iterate 3 refine kF hC (kn b3) ?_
 refine kP hC true (kn b3) ?_
 refine kO hT hC ?_
 iterate 3 refine kF hC rfl ?_
 iterate 2 refine kO hT hC ?_
 iterate 3 refine kF hC rfl ?_
 iterate 2 refine kO hT hC ?_
 iterate 4 refine kF hC rfl ?_
 iterate 2 refine kO hT hC ?_
 iterate 4 refine kF hC rfl ?_
 iterate 3 refine Xdo hC rfl rfl rfl rfl rfl rfl ?_
 refine kF hC rfl ?_
 refine kO hT hC ?_
 refine Vc.nil ?_
 exact kM
 iterate 3 refine kF hC (kn b2) ?_
 refine kP hC true (kn b2) ?_
 refine kO hT hC ?_
 iterate 3 refine kF hC rfl ?_
 iterate 2 refine kO hT hC ?_
 iterate 3 refine kF hC rfl ?_
 iterate 2 refine kO hT hC ?_
 iterate 3 refine kF hC rfl ?_
 iterate 2 refine kO hT hC ?_
 iterate 4 refine kF hC rfl ?_
 iterate 2 refine kO hT hC ?_
 iterate 4 refine kF hC rfl ?_
 iterate 3 refine Xdo hC rfl rfl rfl rfl rfl rfl ?_
 refine kF hC rfl ?_
 refine kO hT hC ?_
 refine Vc.nil ?_
 exact kM
 iterate 5 refine kF hC (kn b1) ?_
 refine kP hC true (kn b1) ?_
 refine kO hT hC ?_
 iterate 3 refine kF hC rfl ?_
 iterate 2 refine kO hT hC ?_
 iterate 3 refine kF hC rfl ?_
 iterate 2 refine kO hT hC ?_
 iterate 3 refine kF hC rfl ?_
 iterate 2 refine kO hT hC ?_
 iterate 3 refine kF hC rfl ?_
 iterate 2 refine kO hT hC ?_
 iterate 4 refine kF hC rfl ?_
 iterate 2 refine kO hT hC ?_
 iterate 4 refine kF hC rfl ?_
 iterate 3 refine Xdo hC rfl rfl rfl rfl rfl rfl ?_
 refine kF hC rfl ?_
 refine kO hT hC ?_
 refine Vc.nil ?_
 exact kM
 refine kS h ?_ ?_ <;> intro b9 h
 refine kt b9 ?_
 refine Xab ?_
 iterate 3 refine kO hT hC ?_
 refine Vc.nil ?_
 refine Xah ?_
 refine Xal ?_
 obtain rfl := kj h
 exact Xbq (τ := ⟨[(16, .own 16), (17, .sv (.bool false))], [(16, some (.ints .i64 ([] : List Int)))]⟩) (kW hC [(16, 1088)]) rfl ⟨rfl, trivial⟩
 refine kf b9 ?_
 refine Xaf ?_
 refine Xae ?_
 refine Xap ?_
 refine Xab ?_
 iterate 3 refine kO hT hC ?_
 refine Vc.nil ?_
 refine kS h ?_ ?_ <;> intro b10 h
 refine kt b10 ?_
 refine Xab ?_
 iterate 7 refine kO hT hC ?_
 refine kC hC [(16, 1264)] Tryz.call160 h (fun _ => Xoz) fun q10 h => ?_
 iterate 2 refine kO hT hC ?_
 refine Vc.nil ?_
 refine Xah ?_
 refine Xal ?_
 obtain rfl := kj h
 exact Xbq (τ := ⟨[(16, .own 16), (17, .sv (.bool true))], [(16, some (.ints .i64 q10))]⟩) (kW hC [(16, 1264)]) rfl ⟨rfl, trivial⟩
 refine kf b10 ?_
 refine Xaf ?_
 refine Xae ?_
 refine Xab ?_
 iterate 3 refine kO hT hC ?_
 refine kC hC [(16, 1344)] Tryz.call161 h (fun _ => Xvt) fun q11 h => ?_
 iterate 5 refine kO hT hC ?_
 refine Vc.nil ?_
 refine Xap ?_
 refine Xab ?_
 iterate 3 refine kO hT hC ?_
 refine Vc.nil ?_
 refine kS h ?_ ?_ <;> intro b11 h
 refine kt b11 ?_
 refine Xab ?_
 iterate 13 refine kO hT hC ?_
 refine kC hC [(16, 1648)] Tryz.call160 h (fun _ => Xoz) fun q12 h => ?_
 refine kO hT hC ?_
 refine kC hC [(16, 1680)] Tryz.call162 h (fun _ => Xtg) fun q13 h => ?_
 iterate 2 refine kO hT hC ?_
 refine Vc.nil ?_
 refine Xah ?_
 refine Xal ?_
 obtain rfl := kj h
 exact Xbq (τ := ⟨[(16, .own 16), (17, .sv (.bool true))], [(16, some (.ints .i64 q13))]⟩) (kW hC [(16, 1680)]) rfl ⟨rfl, trivial⟩
 refine kf b11 ?_
 refine Xaf ?_
 refine Xae ?_
 refine Xab ?_
 iterate 3 refine kO hT hC ?_
 refine kC hC [(16, 1760), (17, 1761)] Tryz.call163 h (fun _ => Ydy) fun q14 h => ?_
 iterate 6 refine kO hT hC ?_
 refine kN ?_
 iterate 3 refine kO hT hC ?_
 refine kC hC [(16, 1856)] Tryz.call164 h (fun _ => Yd0) fun q15 h => ?_
 refine kO hT hC ?_
 refine kC hC [(16, 1888)] Tryz.call162 h (fun _ => Xtg) fun q16 h => ?_
 iterate 2 refine kO hT hC ?_
 refine Vc.nil ?_
 refine Xah ?_
 obtain rfl := kj h
 exact Xbq (τ := ⟨[(16, .own 16), (17, .sv (.bool true))], [(16, some (.ints .i64 q16))]⟩) (kW hC [(16, 1888)]) rfl ⟨rfl, trivial⟩
def Yls (r : (List Int)) : AV := .own 16
def Ylr (r : (List Int)) : Xa4 := [(16, .ints .u8 r)]
theorem Xz1 {p0 r} (h : Xo5 p0 = some r) : AC Tryz.prog 127 [.agg [.sv (.int .i64 p0.Wide), .sv (.int .i64 p0.High), .sv (.str p0.Dots)]] [] (Yls r) (Ylr r) := by
 refine Xag hT Tryz.func127 rfl fun C hC => ?_
 unfold Xo5 at h
 refine Xab ?_
 iterate 2 refine kO hT hC ?_
 refine kN ?_
 iterate 2 refine kO hT hC ?_
 refine kQ hT hC h fun h => ?_
 refine kO hT hC ?_
 refine Vc.nil ?_
 refine Xah ?_
 obtain rfl := kj h
 exact Xbq (τ := ⟨[(2, .own 16)], [(16, some (.ints .u8 (Xbr p0.Dots)))]⟩) (kW hC [(16, 80)]) rfl ⟨rfl, trivial⟩
def Yn9 (r : Pic) : AV := .agg [.sv (.int .i64 r.Wide), .sv (.int .i64 r.High), .sv (.str r.Dots)]
def Yn8 (r : Pic) : Xa4 := []
theorem Ypx {p0 p1 p2 p3 r} (h : Xsj p0 p1 p2 p3 = some r) : AC Tryz.prog 126 [.agg [.sv (.int .i64 p0.Wide), .sv (.int .i64 p0.High), .sv (.str p0.Dots)], .sv (.int .i64 p1), .sv (.int .i64 p2), .sv (.ints .i64 p3)] [] (Yn9 r) (Yn8 r) := by
 refine Xag hT Tryz.func126 rfl fun C hC => ?_
 unfold Xsj at h
 refine Xab ?_
 iterate 2 refine kO hT hC ?_
 refine kN ?_
 refine kO hT hC ?_
 refine kC hC [(16, 208)] Tryz.call127 h (fun _ => Xz1) fun q1 h => ?_
 refine kO hT hC ?_
 refine Vc.nil ?_
 refine Xap ?_
 refine Xab ?_
 iterate 3 refine kO hT hC ?_
 refine Vc.nil ?_
 refine kL [1,2,4,8,9,14,15,16] [64,128,208] [_,_,_,_,_,_,_,_] [_,_,_] ?_
 refine kX h (fun v3 => ([(16, .sv (.int .i64 v3.1))], [(208, some (.ints .u8 v3.2))])) (fun v5 => ([(1, .any), (2, .any), (14, .any), (15, .any), (16, .any)], [(208, some (.ints .u8 v5))])) (kW hC []) (fun v3 s h => ?_) fun v5 h => ?_
 unfold Xp5 at h
 refine Xab ?_
 refine kO hT hC ?_
 refine Vc.nil ?_
 refine Xap ?_
 refine kS h ?_ ?_ <;> intro b3 h
 refine kt b3 ?_
 refine Xaf ?_
 refine Xae ?_
 refine Xap ?_
 refine Xaq ?_
 refine Xab ?_
 refine kO hT hC ?_
 refine kQ hT hC h fun h => ?_
 iterate 3 refine kO hT hC ?_
 refine Vc.nil ?_
 refine Xac ?_
 iterate 3 refine kO hT hC ?_
 refine kQ hT hC h fun h => ?_
 iterate 7 refine kO hT hC ?_
 refine kQ hT hC h fun h => ?_
 iterate 3 refine kO hT hC ?_
 iterate 2 refine kQ hT hC h fun h => ?_
 refine Vc.nil ?_
 refine Xar ?_
 refine Xae ?_
 refine Xac ?_
 iterate 2 refine kO hT hC ?_
 refine Vc.nil ?_
 exact kG
 refine kf b3 ?_
 refine Xas ?_
 refine Xaz ?_
 exact ku
 refine Xae ?_
 refine Xab ?_
 iterate 4 refine kO hT hC ?_
 refine kN ?_
 iterate 2 refine kO hT hC ?_
 refine Vc.nil ?_
 refine Xah ?_
 exact kR
def Xo3 (r : (Pic × Bool)) : AV := .tup [.agg [.sv (.int .i64 r.1.Wide), .sv (.int .i64 r.1.High), .sv (.str r.1.Dots)], .sv (.bool r.2)]
def Xo2 (r : (Pic × Bool)) : Xa4 := []
theorem Yaw {p0 p1 p2 p3 p4 r} (h : Xju p0 p1 p2 p3 p4 = some r) : AC Tryz.prog 85 [.agg [.sv (.int .i64 p0.Wide), .sv (.int .i64 p0.High), .sv (.str p0.Dots)], .agg [.sv (.int .i64 p1.Left), .sv (.int .i64 p1.Top), .sv (.int .i64 p1.Wide), .sv (.int .i64 p1.High)], .agg [.sv (.bool p2.Key), .sv (.int .i64 p2.Qp), .sv (.bool p2.Large), .sv (.bool p2.Exact)], .sv (.bool p3), .sv (Xdh.sv p4)] [] (Xo3 r) (Xo2 r) := by
 refine Xag hT Tryz.func85 rfl fun C hC => ?_
 unfold Xju at h
 refine Xab ?_
 iterate 5 refine kO hT hC ?_
 refine Vc.nil ?_
 refine Xap ?_
 refine kL [3,4,5,6,7,10] [80,96,112,160] [_,_,_,_,_,_] [_,_,_,_] ?_
 refine kA h (fun v1 => ([(59, .sv (.bool v1))], [])) (fun v1 h => ?_) fun v1 h => ?_
 refine Xac ?_
 iterate 2 refine kO hT hC ?_
 refine kC hC [] Tryz.call122 h (fun _ => Xto) fun q2 h => ?_
 iterate 2 refine kO hT hC ?_
 refine kS h ?_ ?_ <;> intro b1 h
 iterate 2 refine kI hT hC (kn b1) ?_
 refine kE hC (kn b1) [] Tryz.call122 h (fun _ => Xto) fun q3 h => ?_
 refine kI hT hC (kn b1) ?_
 refine kP hC false (kn b1) ?_
 refine kO hT hC ?_
 refine kS h ?_ ?_ <;> intro b2 h
 iterate 2 refine kI hT hC (kn b2) ?_
 refine kE hC (kn b2) [] Tryz.call64 h (fun _ => Xan) fun q4 h => ?_
 refine kI hT hC (kn b2) ?_
 refine kP hC false (kn b2) ?_
 refine kO hT hC ?_
 refine kS h ?_ ?_ <;> intro b3 h
 iterate 2 refine kI hT hC (kn b3) ?_
 refine kE hC (kn b3) [] Tryz.call64 h (fun _ => Xan) fun q5 h => ?_
 refine kI hT hC (kn b3) ?_
 refine kP hC false (kn b3) ?_
 refine kO hT hC ?_
 refine kS h ?_ ?_ <;> intro b4 h
 refine kI hT hC (kn b4) ?_
 refine kE hC (kn b4) [] Tryz.call119 h (fun _ => Xlh) fun q6 h => ?_
 refine kI hT hC (kn b4) ?_
 refine kP hC false (kn b4) ?_
 refine kO hT hC ?_
 refine kS h ?_ ?_ <;> intro b5 h
 iterate 4 refine kI hT hC (kn b5) ?_
 refine kJ hT hC (kn b5) h fun h => ?_
 iterate 2 refine kI hT hC (kn b5) ?_
 refine kJ hT hC (kn b5) h fun h => ?_
 iterate 2 refine kI hT hC (kn b5) ?_
 refine kP hC false (kn b5) ?_
 refine Vc.nil ?_
 exact kM
 iterate 10 refine kF hC (kn b5) ?_
 refine kP hC true (kn b5) ?_
 refine Vc.nil ?_
 exact kM
 iterate 3 refine kF hC (kn b4) ?_
 refine kP hC true (kn b4) ?_
 refine kO hT hC ?_
 iterate 10 refine kF hC rfl ?_
 refine kO hT hC ?_
 refine Vc.nil ?_
 exact kM
 iterate 4 refine kF hC (kn b3) ?_
 refine kP hC true (kn b3) ?_
 refine kO hT hC ?_
 iterate 3 refine kF hC rfl ?_
 iterate 2 refine kO hT hC ?_
 iterate 10 refine kF hC rfl ?_
 refine kO hT hC ?_
 refine Vc.nil ?_
 exact kM
 iterate 4 refine kF hC (kn b2) ?_
 refine kP hC true (kn b2) ?_
 refine kO hT hC ?_
 iterate 4 refine kF hC rfl ?_
 iterate 2 refine kO hT hC ?_
 iterate 3 refine kF hC rfl ?_
 iterate 2 refine kO hT hC ?_
 iterate 10 refine kF hC rfl ?_
 refine kO hT hC ?_
 refine Vc.nil ?_
 exact kM
 iterate 4 refine kF hC (kn b1) ?_
 refine kP hC true (kn b1) ?_
 refine kO hT hC ?_
 iterate 4 refine kF hC rfl ?_
 iterate 2 refine kO hT hC ?_
 iterate 4 refine kF hC rfl ?_
 iterate 2 refine kO hT hC ?_
 iterate 3 refine kF hC rfl ?_
 iterate 2 refine kO hT hC ?_
 iterate 10 refine kF hC rfl ?_
 refine kO hT hC ?_
 refine Vc.nil ?_
 exact kM
 refine kS h ?_ ?_ <;> intro b6 h
 refine kt b6 ?_
 refine Xab ?_
 iterate 3 refine kO hT hC ?_
 refine Vc.nil ?_
 refine Xah ?_
 refine Xal ?_
 exact kR
 refine kf b6 ?_
 refine Xaf ?_
 refine Xae ?_
 refine Xap ?_
 refine kL [3,4,5,6,7,10] [80,96,112,160] [_,_,_,_,_,_] [_,_,_,_] ?_
 refine kA h (fun v7 => ([(74, .sv (.bool v7))], [])) (fun v7 h => ?_) fun v7 h => ?_
 refine Xac ?_
 iterate 4 refine kO hT hC ?_
 refine kS h ?_ ?_ <;> intro b7 h
 iterate 4 refine kF hC (kn b7) ?_
 iterate 4 refine Xdo hC rfl rfl rfl rfl rfl rfl ?_
 refine kF hC (kn b7) ?_
 refine kP hC false (kn b7) ?_
 refine Vc.nil ?_
 exact kM
 refine kI hT hC (kn b7) ?_
 refine kE hC (kn b7) [] Tryz.call55 h (fun _ => Xdp) fun q8 h => ?_
 iterate 2 refine kI hT hC (kn b7) ?_
 refine kS h ?_ ?_ <;> intro b8 h
 iterate 2 refine kI hT hC (kn b8) ?_
 refine kE hC (kn b8) [] Tryz.call123 h (fun _ => Xkq) fun q9 h => ?_
 refine kI hT hC (kn b8) ?_
 refine Xa0 hC rfl rfl rfl rfl (kn b7) rfl rfl (b := false) (kn b8) rfl rfl rfl trivial ?_
 refine kP hC true (kn b7) ?_
 refine Vc.nil ?_
 exact kM
 iterate 4 refine kF hC (kn b8) ?_
 refine Xa0 hC rfl rfl rfl rfl (kn b7) rfl rfl (b := true) (kn b8) rfl rfl rfl trivial ?_
 refine kP hC true (kn b7) ?_
 refine Vc.nil ?_
 exact kM
 refine kS h ?_ ?_ <;> intro b9 h
 refine kt b9 ?_
 refine Xab ?_
 iterate 3 refine kO hT hC ?_
 refine Vc.nil ?_
 refine Xah ?_
 refine Xal ?_
 exact kR
 refine kf b9 ?_
 refine Xaf ?_
 refine Xae ?_
 refine Xdn hm ?_
 iterate 6 refine kO hT hC ?_
 refine kD ?_
 refine kL [3,4,5,6,7,10,12,13] [80,96,112,160] [_,_,_,_,_,_,_,_] [_,_,_,_] ?_
 refine kA h (fun v10 => ([(12, .sv (.int .i64 v10.1)), (13, .sv (.int .i64 v10.2.1)), (3, .any)], [(80, some (.box [.sv (.int .i64 v10.2.2.1), .sv (.int .i64 v10.2.2.2.1), .sv (.str v10.2.2.2.2)]))])) (fun v10 h => ?_) fun v10 h => ?_
 refine Xab ?_
 refine kO hT hC ?_
 refine Vc.nil ?_
 refine kS h ?_ ?_ <;> intro b10 h
 refine kt b10 ?_
 refine Xab ?_
 iterate 2 refine kO hT hC ?_
 refine kN ?_
 iterate 3 refine kO hT hC ?_
 refine Vc.nil ?_
 refine kS h ?_ ?_ <;> intro b11 h
 refine kt b11 ?_
 refine Xac ?_
 iterate 2 refine kO hT hC ?_
 refine kC hC [] Tryz.call124 h (fun _ => Yli) fun q11 h => ?_
 iterate 4 refine kO hT hC ?_
 refine Vc.nil ?_
 exact kM
 refine kf b11 ?_
 refine Xaf ?_
 exact kM
 refine kf b10 ?_
 refine Xaf ?_
 exact kM
 refine Xab ?_
 iterate 4 refine kO hT hC ?_
 refine kC hC [] Tryz.call86 h (fun _ => Xzz) fun q12 h => ?_
 iterate 2 refine kO hT hC ?_
 refine Vc.nil ?_
 refine Xap ?_
 refine Xab ?_
 iterate 3 refine kO hT hC ?_
 refine Vc.nil ?_
 refine kL [5,6,7,10,12,13,14,95,96,97] [80,96,112,160,224] [_,_,_,_,_,_,_,_,_,_] [_,_,_,_,_] ?_
 obtain ⟨o23, hl, h⟩ := Xa6 h
 refine Xdj (fun v16 => ([(97, .sv (.int .i64 v16.1))], [(224, some (.box [.sv (.int .i64 v16.2.1), .sv (.int .i64 v16.2.2.1), .sv (.str v16.2.2.2)]))])) (fun v20 => ([(5, .any), (6, .any), (7, .any), (12, .any), (13, .any), (95, .any), (96, .any), (97, .any)], [(224, some (.box [.sv (.int .i64 v20.1), .sv (.int .i64 v20.2.1), .sv (.str v20.2.2)])), (80, none), (96, none), (112, none)])) (fun r => Xkm C T Tryz.f85.results.toList (Xo3 r) (Xo2 r)) hl ?_ ?_ ?_ ?_
 try dsimp only
 apply Xbu hC []
 exact co
 rfl
 decide
 rfl
 intro v16 s hs
 have h := hs
 unfold Xbm at h
 refine Xab ?_
 refine kO hT hC ?_
 refine Vc.nil ?_
 refine Xap ?_
 refine kS h ?_ ?_ <;> intro b16 h
 refine kt b16 ?_
 refine Xaf ?_
 refine Xae ?_
 refine Xap ?_
 refine Xaq ?_
 refine Xab ?_
 refine kO hT hC ?_
 refine kQ hT hC h fun h => ?_
 iterate 4 refine kO hT hC ?_
 refine Vc.nil ?_
 refine Xdn hm ?_
 iterate 3 refine kO hT hC ?_
 iterate 2 refine kQ hT hC h fun h => ?_
 iterate 4 refine kO hT hC ?_
 iterate 2 refine kQ hT hC h fun h => ?_
 iterate 3 refine kO hT hC ?_
 refine kD ?_
 refine Xab ?_
 iterate 8 refine kO hT hC ?_
 refine kC hC [(16, 1968)] Tryz.call125 h (fun _ => Xv0) fun q21 h => ?_
 iterate 5 refine kO hT hC ?_
 refine Vc.nil ?_
 refine Xap ?_
 refine Xab ?_
 iterate 2 refine kO hT hC ?_
 refine Vc.nil ?_
 refine kS h ?_ ?_ <;> intro b17 h
 refine kt b17 ?_
 refine Xab ?_
 iterate 3 refine kO hT hC ?_
 refine Vc.nil ?_
 refine Xah ?_
 refine Xal ?_
 refine Xcf ?_
 refine Xal ?_
 obtain rfl := kj h
 refine Xj5 ?_
 refine Xj3 ?_
 exact Xbq (Xga.refl _) rfl trivial
 refine kf b17 ?_
 refine Xaf ?_
 refine Xae ?_
 refine Xac ?_
 iterate 4 refine kO hT hC ?_
 refine kC hC [] Tryz.call126 h (fun _ => Ypx) fun q22 h => ?_
 refine kO hT hC ?_
 refine Vc.nil ?_
 refine Xar ?_
 refine Xae ?_
 refine Xac ?_
 iterate 2 refine kO hT hC ?_
 refine Vc.nil ?_
 exact kG
 refine kf b16 ?_
 refine Xas ?_
 refine Xaz ?_
 exact kb
 intro v20 e
 subst e
 refine Xae ?_
 refine Xab ?_
 iterate 3 refine kO hT hC ?_
 refine Vc.nil ?_
 refine Xah ?_
 exact kR
 intro r' σ' e hE
 subst e
 obtain rfl := kj h
 refine Xal ?_
 exact hE
def Yea (r : (Pic × Bool)) : AV := .tup [.agg [.sv (.int .i64 r.1.Wide), .sv (.int .i64 r.1.High), .sv (.str r.1.Dots)], .sv (.bool r.2)]
def Yd9 (r : (Pic × Bool)) : Xa4 := []
theorem Yh4 {p0 p1 p2 p3 r} (h : Xnd p0 p1 p2 p3 = some r) : AC Tryz.prog 88 [.agg [.sv (.int .i64 p0.Wide), .sv (.int .i64 p0.High), .sv (.str p0.Dots)], .agg [.sv (.int .i64 p1.Wide), .sv (.int .i64 p1.High), .sv (.str p1.Dots)], .sv (.int .i64 p2), .sv (.int .i64 p3)] [] (Yea r) (Yd9 r) := by
 refine Xag hT Tryz.func88 rfl fun C hC => ?_
 unfold Xnd at h
 refine Xab ?_
 iterate 4 refine kO hT hC ?_
 refine Vc.nil ?_
 refine Xap ?_
 refine kL [2,3,4,5,8] [64,80,128] [_,_,_,_,_] [_,_,_] ?_
 refine kA h (fun v1 => ([(31, .sv (.bool v1))], [])) (fun v1 h => ?_) fun v1 h => ?_
 refine Xac ?_
 refine kO hT hC ?_
 refine kC hC [] Tryz.call55 h (fun _ => Xdp) fun q2 h => ?_
 iterate 2 refine kO hT hC ?_
 refine kS h ?_ ?_ <;> intro b1 h
 refine kI hT hC (kn b1) ?_
 refine kE hC (kn b1) [] Tryz.call55 h (fun _ => Xdp) fun q3 h => ?_
 refine kI hT hC (kn b1) ?_
 refine kP hC false (kn b1) ?_
 refine kO hT hC ?_
 refine kS h ?_ ?_ <;> intro b2 h
 iterate 8 refine kI hT hC (kn b2) ?_
 refine kE hC (kn b2) [] Tryz.call123 h (fun _ => Xkq) fun q4 h => ?_
 refine kI hT hC (kn b2) ?_
 refine kP hC false (kn b2) ?_
 refine Vc.nil ?_
 exact kM
 iterate 10 refine kF hC (kn b2) ?_
 refine kP hC true (kn b2) ?_
 refine Vc.nil ?_
 exact kM
 iterate 3 refine kF hC (kn b1) ?_
 refine kP hC true (kn b1) ?_
 refine kO hT hC ?_
 iterate 10 refine kF hC rfl ?_
 refine kO hT hC ?_
 refine Vc.nil ?_
 exact kM
 refine kS h ?_ ?_ <;> intro b3 h
 refine kt b3 ?_
 refine Xab ?_
 iterate 3 refine kO hT hC ?_
 refine Vc.nil ?_
 refine Xah ?_
 refine Xal ?_
 exact kR
 refine kf b3 ?_
 refine Xaf ?_
 refine Xae ?_
 refine Xab ?_
 refine kO hT hC ?_
 refine kC hC [(16, 544)] Tryz.call127 h (fun _ => Xz1) fun q5 h => ?_
 refine kO hT hC ?_
 refine Vc.nil ?_
 refine Xap ?_
 refine Xab ?_
 iterate 3 refine kO hT hC ?_
 refine Vc.nil ?_
 refine kL [2,3,4,5,8,10,36,37] [64,80,128,544] [_,_,_,_,_,_,_,_] [_,_,_,_] ?_
 refine kX h (fun v7 => ([(37, .sv (.int .i64 v7.1))], [(544, some (.ints .u8 v7.2))])) (fun v9 => ([(2, .any), (3, .any), (5, .any), (36, .any), (37, .any)], [(544, some (.ints .u8 v9)), (80, none)])) (kW hC []) (fun v7 s h => ?_) fun v9 h => ?_
 unfold Xlj at h
 refine Xab ?_
 refine kO hT hC ?_
 refine Vc.nil ?_
 refine Xap ?_
 refine kS h ?_ ?_ <;> intro b6 h
 refine kt b6 ?_
 refine Xaf ?_
 refine Xae ?_
 refine Xap ?_
 refine Xaq ?_
 refine Xab ?_
 iterate 2 refine kO hT hC ?_
 refine Vc.nil ?_
 refine Xcu hm ?_
 iterate 9 refine kO hT hC ?_
 refine kQ hT hC h fun h => ?_
 iterate 11 refine kO hT hC ?_
 refine kQ hT hC h fun h => ?_
 obtain ⟨hq, h⟩ := Xa2 h
 refine Yw0 hT hC rfl rfl rfl rfl rfl rfl rfl rfl rfl ⟨⟨trivial, hq.1⟩, hq.2⟩ ?_
 refine kD ?_
 refine Xar ?_
 refine Xae ?_
 refine Xac ?_
 iterate 2 refine kO hT hC ?_
 refine Vc.nil ?_
 exact kG
 refine kf b6 ?_
 refine Xas ?_
 refine Xaz ?_
 exact ku
 refine Xae ?_
 refine Xab ?_
 iterate 4 refine kO hT hC ?_
 refine kN ?_
 iterate 3 refine kO hT hC ?_
 refine Vc.nil ?_
 refine Xah ?_
 exact kR
def Yid (r : Int) : AV := .sv (.int .i64 r)
def Yic (r : Int) : Xa4 := []
theorem Ylq {p0 p1 r} (h : Xsi p0 p1 = some r) : AC Tryz.prog 89 [.sv (.int .i64 p0), .sv (.int .i64 p1)] [] (Yid r) (Yic r) := by
 refine Xag hT Tryz.func89 rfl fun C hC => ?_
 unfold Xsi at h
 refine Xab ?_
 refine kO hT hC ?_
 refine kN ?_
 iterate 3 refine kO hT hC ?_
 iterate 2 refine kQ hT hC h fun h => ?_
 refine kO hT hC ?_
 refine Vc.nil ?_
 refine Xah ?_
 exact kR
def Xok (r : (Decoder × Int × Pic × Decoder)) : AV := .tup [.agg [.sv (.bool r.1.HasSeq), .sv (.bool r.1.HasPar), .sv (.bool r.1.HasRef), .sv (.int .i64 r.1.Seq.Level), .sv (.int .i64 r.1.Seq.Bits), .own 3, .own 4, .sv (.int .i64 r.1.Par.Qp), .sv (.bool r.1.Par.Large), .sv (.bool r.1.Par.Exact), .sv (.bool r.1.Par.Confined), .sv (.int .i64 r.1.Frame), .sv (.int .i64 r.1.Got), .sv (.int .i64 r.1.Now.Wide), .sv (.int .i64 r.1.Now.High), .sv (.str r.1.Now.Dots), .sv (.int .i64 r.1.Ref.Wide), .sv (.int .i64 r.1.Ref.High), .sv (.str r.1.Ref.Dots)], .sv (.int .i64 r.2.1), .agg [.sv (.int .i64 r.2.2.1.Wide), .sv (.int .i64 r.2.2.1.High), .sv (.str r.2.2.1.Dots)]]
def Xoj (r : (Decoder × Int × Pic × Decoder)) : Xa4 := [(3, .ints .i64 r.2.2.2.Seq.Cols), (4, .ints .i64 r.2.2.2.Seq.Rows)]
theorem Xoy {p0 p1 p2 r} (h : Xc8 p0 p1 p2 = some r) : AC Tryz.prog 46 [.agg [.sv (.bool p0.HasSeq), .sv (.bool p0.HasPar), .sv (.bool p0.HasRef), .sv (.int .i64 p0.Seq.Level), .sv (.int .i64 p0.Seq.Bits), .own 3, .own 4, .sv (.int .i64 p0.Par.Qp), .sv (.bool p0.Par.Large), .sv (.bool p0.Par.Exact), .sv (.bool p0.Par.Confined), .sv (.int .i64 p0.Frame), .sv (.int .i64 p0.Got), .sv (.int .i64 p0.Now.Wide), .sv (.int .i64 p0.Now.High), .sv (.str p0.Now.Dots), .sv (.int .i64 p0.Ref.Wide), .sv (.int .i64 p0.Ref.High), .sv (.str p0.Ref.Dots)], .sv (.bool p1), .sv (.str p2)] [(3, .ints .i64 p0.Seq.Cols), (4, .ints .i64 p0.Seq.Rows)] (Xok r) (Xoj r) := by
 refine Xag hT Tryz.func46 rfl fun C hC => ?_
 unfold Xc8 at h
 refine Xab ?_
 iterate 4 refine kO hT hC ?_
 refine Vc.nil ?_
 refine Xap ?_
 refine kL [1,2,3,6,8] [3,4,48,96,128] [_,_,_,_,_] [_,_,_,_,_] ?_
 refine kA h (fun v1 => ([(26, .sv (.bool v1))], [])) (fun v1 h => ?_) fun v1 h => ?_
 refine Xac ?_
 iterate 4 refine kO hT hC ?_
 refine kS h ?_ ?_ <;> intro b1 h
 iterate 3 refine kI hT hC (kn b1) ?_
 refine kP hC false (kn b1) ?_
 refine Vc.nil ?_
 exact kM
 iterate 3 refine kF hC (kn b1) ?_
 refine kP hC true (kn b1) ?_
 refine Vc.nil ?_
 exact kM
 refine kS h ?_ ?_ <;> intro b2 h
 refine kt b2 ?_
 refine Xab ?_
 iterate 5 refine kO hT hC ?_
 refine Vc.nil ?_
 refine Xah ?_
 refine Xal ?_
 obtain rfl := kj h
 exact Xbq (Xga.refl _) rfl ⟨rfl, rfl, trivial⟩
 refine kf b2 ?_
 refine Xaf ?_
 refine Xae ?_
 refine Xab ?_
 iterate 5 refine kO hT hC ?_
 refine kC hC [] Tryz.call81 h (fun _ => Yao) fun q2 h => ?_
 iterate 8 refine kO hT hC ?_
 refine Vc.nil ?_
 refine Xap ?_
 refine Xaq ?_
 refine Xab ?_
 iterate 3 refine kO hT hC ?_
 refine Vc.nil ?_
 refine kS h ?_ ?_ <;> intro b3 h
 refine kt b3 ?_
 refine Xab ?_
 iterate 5 refine kO hT hC ?_
 refine Vc.nil ?_
 refine Xah ?_
 refine Xcf ?_
 refine Xal ?_
 obtain rfl := kj h
 exact Xbq (Xga.refl _) rfl ⟨rfl, rfl, trivial⟩
 refine kf b3 ?_
 refine Xab ?_
 iterate 6 refine kO hT hC ?_
 refine Vc.nil ?_
 refine kS h ?_ ?_ <;> intro b4 h
 refine kt b4 ?_
 refine Xab ?_
 iterate 5 refine kO hT hC ?_
 refine Vc.nil ?_
 refine Xah ?_
 refine Xcf ?_
 refine Xal ?_
 obtain rfl := kj h
 exact Xbq (Xga.refl _) rfl ⟨rfl, rfl, trivial⟩
 refine kf b4 ?_
 refine kL [1,2,3,6,8,9,10] [3,4,48,96,128,144] [_,_,_,_,_,_,_] [_,_,_,_,_,_] ?_
 refine kA h (fun v3 => ([(52, .sv (.bool v3))], [])) (fun v3 h => ?_) fun v3 h => ?_
 refine Xac ?_
 iterate 4 refine kO hT hC ?_
 refine kS h ?_ ?_ <;> intro b5 h
 iterate 5 refine kI hT hC b5 ?_
 refine kP hC true b5 ?_
 refine kO hT hC ?_
 refine Vc.nil ?_
 exact kM
 iterate 5 refine kF hC b5 ?_
 refine kP hC false b5 ?_
 refine kO hT hC ?_
 refine Vc.nil ?_
 exact kM
 refine kS h ?_ ?_ <;> intro b6 h
 refine kt b6 ?_
 refine Xab ?_
 iterate 5 refine kO hT hC ?_
 refine Vc.nil ?_
 refine Xah ?_
 refine Xcf ?_
 refine Xal ?_
 obtain rfl := kj h
 exact Xbq (Xga.refl _) rfl ⟨rfl, rfl, trivial⟩
 refine kf b6 ?_
 refine kL [1,2,3,6,8,9,10] [3,4,48,96,128,144] [_,_,_,_,_,_,_] [_,_,_,_,_,_] ?_
 refine kA h (fun v4 => ([(65, .sv (.bool v4))], [])) (fun v4 h => ?_) fun v4 h => ?_
 refine Xac ?_
 iterate 3 refine kO hT hC ?_
 refine kS h ?_ ?_ <;> intro b7 h
 iterate 3 refine kF hC (kn b7) ?_
 refine kP hC false (kn b7) ?_
 refine kO hT hC ?_
 refine Vc.nil ?_
 exact kM
 iterate 3 refine kI hT hC (kn b7) ?_
 refine kP hC true (kn b7) ?_
 refine kO hT hC ?_
 refine Vc.nil ?_
 exact kM
 refine kS h ?_ ?_ <;> intro b8 h
 refine kt b8 ?_
 refine Xab ?_
 iterate 5 refine kO hT hC ?_
 refine Vc.nil ?_
 refine Xah ?_
 refine Xcf ?_
 refine Xal ?_
 obtain rfl := kj h
 exact Xbq (Xga.refl _) rfl ⟨rfl, rfl, trivial⟩
 refine kf b8 ?_
 refine Xaf ?_
 refine Xar ?_
 refine Xae ?_
 refine Xab ?_
 iterate 12 refine kO hT hC ?_
 refine Vc.nil ?_
 refine Xdn hm ?_
 iterate 6 refine kO hT hC ?_
 refine kC hC [] Tryz.call83 h (fun _ => Xuq) fun q5 h => ?_
 refine kO hT hC ?_
 refine kC hC [(16, 1504)] Tryz.call82 h (fun _ => Yat) fun q6 h => ?_
 iterate 5 refine kO hT hC ?_
 refine kD ?_
 refine Xap ?_
 refine Xab ?_
 iterate 2 refine kO hT hC ?_
 refine Vc.nil ?_
 refine kS h ?_ ?_ <;> intro b9 h
 refine kt b9 ?_
 refine Xab ?_
 iterate 5 refine kO hT hC ?_
 refine Vc.nil ?_
 refine Xah ?_
 refine Xal ?_
 obtain rfl := kj h
 exact Xbq (Xga.refl _) rfl ⟨rfl, rfl, trivial⟩
 refine kf b9 ?_
 refine Xaf ?_
 refine Xae ?_
 refine Xab ?_
 iterate 4 refine kO hT hC ?_
 refine kC hC [] Tryz.call84 h (fun _ => Xqp) fun q7 h => ?_
 iterate 6 refine kO hT hC ?_
 refine kN ?_
 iterate 8 refine kO hT hC ?_
 refine kC hC [] Tryz.call85 h (fun _ => Yaw) fun q8 h => ?_
 iterate 6 refine kO hT hC ?_
 refine Vc.nil ?_
 refine kL [3,6,8,9,15,17] [3,4,48,96,128,144,240,272] [_,_,_,_,_,_] [_,_,_,_,_,_,_,_] ?_
 refine kA h (fun v9 => ([], [(48, some (.box [.sv (.bool p0.HasSeq), .sv (.bool p0.HasPar), .sv (.bool p0.HasRef), .sv (.int .i64 p0.Seq.Level), .sv (.int .i64 p0.Seq.Bits), .own 3, .own 4, .sv (.int .i64 p0.Par.Qp), .sv (.bool p0.Par.Large), .sv (.bool p0.Par.Exact), .sv (.bool p0.Par.Confined), .sv (.int .i64 p0.Frame), .sv (.int .i64 p0.Got), .sv (.int .i64 v9.1), .sv (.int .i64 v9.2.1), .sv (.str v9.2.2), .sv (.int .i64 p0.Ref.Wide), .sv (.int .i64 p0.Ref.High), .sv (.str p0.Ref.Dots)]))])) (fun v9 h => ?_) fun v9 h => ?_
 refine Xab ?_
 iterate 3 refine kO hT hC ?_
 refine Vc.nil ?_
 refine kS h ?_ ?_ <;> intro b10 h
 refine kt b10 ?_
 refine Xac ?_
 iterate 2 refine kO hT hC ?_
 refine kC hC [] Tryz.call87 h (fun _ => Xtk) fun q10 h => ?_
 iterate 2 refine kO hT hC ?_
 refine kC hC [] Tryz.call86 h (fun _ => Xzz) fun q11 h => ?_
 iterate 2 refine kO hT hC ?_
 refine Vc.nil ?_
 exact kM
 refine kf b10 ?_
 refine Xaf ?_
 exact kM
 refine Xab ?_
 iterate 7 refine kO hT hC ?_
 refine kC hC [] Tryz.call88 h (fun _ => Yh4) fun q12 h => ?_
 iterate 5 refine kO hT hC ?_
 refine kN ?_
 iterate 5 refine kO hT hC ?_
 refine kN ?_
 iterate 4 refine kO hT hC ?_
 refine Vc.nil ?_
 refine Xap ?_
 refine Xdn hm ?_
 iterate 4 refine kO hT hC ?_
 refine kC hC [] Tryz.call65 h (fun _ => Xjv) fun q13 h => ?_
 refine kO hT hC ?_
 refine kD ?_
 refine kS h ?_ ?_ <;> intro b11 h
 refine kt b11 ?_
 refine Xab ?_
 iterate 5 refine kO hT hC ?_
 refine Vc.nil ?_
 refine Xah ?_
 refine Xal ?_
 obtain rfl := kj h
 exact Xbq (Xga.refl _) rfl ⟨rfl, rfl, trivial⟩
 refine kf b11 ?_
 refine Xaf ?_
 refine Xae ?_
 refine Xab ?_
 iterate 4 refine kO hT hC ?_
 refine kN ?_
 iterate 2 refine kO hT hC ?_
 refine kN ?_
 iterate 3 refine kO hT hC ?_
 refine kN ?_
 iterate 2 refine kO hT hC ?_
 refine kN ?_
 iterate 5 refine kO hT hC ?_
 refine kC hC [] Tryz.call89 h (fun _ => Ylq) fun q14 h => ?_
 iterate 2 refine kO hT hC ?_
 refine Vc.nil ?_
 refine Xdn hm ?_
 iterate 6 refine kO hT hC ?_
 refine kD ?_
 refine Xah ?_
 obtain rfl := kj h
 exact Xbq (Xga.refl _) rfl ⟨rfl, rfl, trivial⟩
def Yag (r : (Decoder × Int × Pic)) : AV := .tup [.agg [.sv (.bool r.1.HasSeq), .sv (.bool r.1.HasPar), .sv (.bool r.1.HasRef), .sv (.int .i64 r.1.Seq.Level), .sv (.int .i64 r.1.Seq.Bits), .own 16, .own 17, .sv (.int .i64 r.1.Par.Qp), .sv (.bool r.1.Par.Large), .sv (.bool r.1.Par.Exact), .sv (.bool r.1.Par.Confined), .sv (.int .i64 r.1.Frame), .sv (.int .i64 r.1.Got), .sv (.int .i64 r.1.Now.Wide), .sv (.int .i64 r.1.Now.High), .sv (.str r.1.Now.Dots), .sv (.int .i64 r.1.Ref.Wide), .sv (.int .i64 r.1.Ref.High), .sv (.str r.1.Ref.Dots)], .sv (.int .i64 r.2.1), .agg [.sv (.int .i64 r.2.2.Wide), .sv (.int .i64 r.2.2.High), .sv (.str r.2.2.Dots)]]
def Yaf (r : (Decoder × Int × Pic)) : Xa4 := [(16, .ints .i64 r.1.Seq.Cols), (17, .ints .i64 r.1.Seq.Rows)]
theorem Ydx {p0 p1 r} (h : Xi5 p0 p1 = some r) : AC Tryz.prog 10 [.agg [.sv (.bool p0.HasSeq), .sv (.bool p0.HasPar), .sv (.bool p0.HasRef), .sv (.int .i64 p0.Seq.Level), .sv (.int .i64 p0.Seq.Bits), .sv (.ints .i64 p0.Seq.Cols), .sv (.ints .i64 p0.Seq.Rows), .sv (.int .i64 p0.Par.Qp), .sv (.bool p0.Par.Large), .sv (.bool p0.Par.Exact), .sv (.bool p0.Par.Confined), .sv (.int .i64 p0.Frame), .sv (.int .i64 p0.Got), .sv (.int .i64 p0.Now.Wide), .sv (.int .i64 p0.Now.High), .sv (.str p0.Now.Dots), .sv (.int .i64 p0.Ref.Wide), .sv (.int .i64 p0.Ref.High), .sv (.str p0.Ref.Dots)], .sv (.str p1)] [] (Yag r) (Yaf r) := by
 refine Xag hT Tryz.func10 rfl fun C hC => ?_
 unfold Xi5 at h
 refine Xab ?_
 iterate 4 refine kO hT hC ?_
 refine kN ?_
 refine kO hT hC ?_
 refine kC hC [(16, 272), (17, 273)] Tryz.call41 h (fun _ => Xne) fun q1 h => ?_
 refine kO hT hC ?_
 refine Vc.nil ?_
 refine Xap ?_
 refine Xab ?_
 refine kO hT hC ?_
 refine kC hC [] Tryz.call33 h (fun _ => Ylk) fun q2 h => ?_
 refine kO hT hC ?_
 refine Vc.nil ?_
 refine kS h ?_ ?_ <;> intro b1 h
 refine kt b1 ?_
 refine Xab ?_
 iterate 5 refine kO hT hC ?_
 refine Vc.nil ?_
 refine Xah ?_
 refine Xal ?_
 obtain rfl := kj h
 exact Xbq (τ := ⟨[(4, .ptr 2000000 0), (5, .sv (.int .i64 1)), (6, .ptr 2000002 0)], [(16, some (.ints .i64 q1.Seq.Cols)), (17, some (.ints .i64 q1.Seq.Rows)), (2000000, some (.box [.sv (.bool q1.HasSeq), .sv (.bool q1.HasPar), .sv (.bool q1.HasRef), .sv (.int .i64 q1.Seq.Level), .sv (.int .i64 q1.Seq.Bits), .own 16, .own 17, .sv (.int .i64 q1.Par.Qp), .sv (.bool q1.Par.Large), .sv (.bool q1.Par.Exact), .sv (.bool q1.Par.Confined), .sv (.int .i64 q1.Frame), .sv (.int .i64 q1.Got), .sv (.int .i64 q1.Now.Wide), .sv (.int .i64 q1.Now.High), .sv (.str q1.Now.Dots), .sv (.int .i64 q1.Ref.Wide), .sv (.int .i64 q1.Ref.High), .sv (.str q1.Ref.Dots)])), (2000002, some (.box [.sv (.int .i64 0), .sv (.int .i64 0), .sv (.str ⟨#[]⟩)]))]⟩) (kW hC [(16, 272), (17, 273), (2000000, 64), (2000002, 96)]) rfl ⟨rfl, rfl, trivial⟩
 refine kf b1 ?_
 refine Xaf ?_
 refine Xae ?_
 refine Xab ?_
 refine kO hT hC ?_
 refine kC hC [] Tryz.call42 h (fun _ => Yib) fun q3 h => ?_
 iterate 7 refine kO hT hC ?_
 refine Vc.nil ?_
 refine Xap ?_
 refine Xab ?_
 iterate 2 refine kO hT hC ?_
 refine Vc.nil ?_
 refine kS h ?_ ?_ <;> intro b2 h
 refine kt b2 ?_
 refine Xab ?_
 iterate 5 refine kO hT hC ?_
 refine Vc.nil ?_
 refine Xah ?_
 refine Xal ?_
 obtain rfl := kj h
 exact Xbq (τ := ⟨[(4, .ptr 2000000 0), (5, .sv (.int .i64 2)), (6, .ptr 2000002 0)], [(16, some (.ints .i64 q1.Seq.Cols)), (17, some (.ints .i64 q1.Seq.Rows)), (2000000, some (.box [.sv (.bool q1.HasSeq), .sv (.bool q1.HasPar), .sv (.bool q1.HasRef), .sv (.int .i64 q1.Seq.Level), .sv (.int .i64 q1.Seq.Bits), .own 16, .own 17, .sv (.int .i64 q1.Par.Qp), .sv (.bool q1.Par.Large), .sv (.bool q1.Par.Exact), .sv (.bool q1.Par.Confined), .sv (.int .i64 q1.Frame), .sv (.int .i64 q1.Got), .sv (.int .i64 q1.Now.Wide), .sv (.int .i64 q1.Now.High), .sv (.str q1.Now.Dots), .sv (.int .i64 q1.Ref.Wide), .sv (.int .i64 q1.Ref.High), .sv (.str q1.Ref.Dots)])), (2000002, some (.box [.sv (.int .i64 0), .sv (.int .i64 0), .sv (.str ⟨#[]⟩)]))]⟩) (kW hC [(16, 272), (17, 273), (2000000, 64), (2000002, 96)]) rfl ⟨rfl, rfl, trivial⟩
 refine kf b2 ?_
 refine Xaf ?_
 refine Xae ?_
 refine Xap ?_
 refine Xab ?_
 refine kO hT hC ?_
 refine Vc.nil ?_
 refine Xaq ?_
 refine Xab ?_
 iterate 2 refine kO hT hC ?_
 refine Vc.nil ?_
 refine kS h ?_ ?_ <;> intro b3 h
 refine kt b3 ?_
 refine Xab ?_
 refine kO hT hC ?_
 refine kC hC [(16, 608), (17, 609)] Tryz.call43 h (fun _ => Yec) fun q4 h => ?_
 iterate 8 refine kO hT hC ?_
 refine Vc.nil ?_
 refine Xap ?_
 refine kL [2,4,6,8,10,11,12] [32,64,96,160,272,273,608,609] [_,_,_,_,_,_,_] [_,_,_,_,_,_,_,_] ?_
 refine kA h (fun v5 => ([(49, .sv (.bool v5)), (8, .any), (11, .any), (12, .any)], [])) (fun v5 h => ?_) fun v5 h => ?_
 refine Xac ?_
 iterate 3 refine kO hT hC ?_
 refine kS h ?_ ?_ <;> intro b4 h
 iterate 4 refine kI hT hC (kn b4) ?_
 refine kP hC false (kn b4) ?_
 refine Vc.nil ?_
 exact kM
 iterate 4 refine kF hC (kn b4) ?_
 refine kP hC true (kn b4) ?_
 refine Vc.nil ?_
 exact kM
 refine kS h ?_ ?_ <;> intro b5 h
 refine kt b5 ?_
 refine Xab ?_
 iterate 5 refine kO hT hC ?_
 refine Vc.nil ?_
 refine Xah ?_
 refine Xal ?_
 refine Xcf ?_
 refine Xal ?_
 obtain rfl := kj h
 exact Xbq (τ := ⟨[(4, .ptr 2000000 0), (5, .sv (.int .i64 3)), (6, .ptr 2000002 0)], [(16, some (.ints .i64 q1.Seq.Cols)), (17, some (.ints .i64 q1.Seq.Rows)), (2000000, some (.box [.sv (.bool q1.HasSeq), .sv (.bool q1.HasPar), .sv (.bool q1.HasRef), .sv (.int .i64 q1.Seq.Level), .sv (.int .i64 q1.Seq.Bits), .own 16, .own 17, .sv (.int .i64 q1.Par.Qp), .sv (.bool q1.Par.Large), .sv (.bool q1.Par.Exact), .sv (.bool q1.Par.Confined), .sv (.int .i64 q1.Frame), .sv (.int .i64 q1.Got), .sv (.int .i64 q1.Now.Wide), .sv (.int .i64 q1.Now.High), .sv (.str q1.Now.Dots), .sv (.int .i64 q1.Ref.Wide), .sv (.int .i64 q1.Ref.High), .sv (.str q1.Ref.Dots)])), (2000002, some (.box [.sv (.int .i64 0), .sv (.int .i64 0), .sv (.str ⟨#[]⟩)]))]⟩) (kW hC [(16, 272), (17, 273), (2000000, 64), (2000002, 96)]) rfl ⟨rfl, rfl, trivial⟩
 refine kf b5 ?_
 refine Xaf ?_
 refine Xae ?_
 refine Xab ?_
 refine kC hC [] Tryz.call44 h (fun _ => Yhv) fun q6 h => ?_
 refine kO hT hC ?_
 refine kN ?_
 iterate 2 refine kO hT hC ?_
 refine kN ?_
 iterate 3 refine kO hT hC ?_
 refine kN ?_
 iterate 5 refine kO hT hC ?_
 refine Vc.nil ?_
 refine Xah ?_
 refine Xcf ?_
 refine Xal ?_
 obtain rfl := kj h
 exact Xbq (τ := ⟨[(4, .ptr 2000000 0), (5, .sv (.int .i64 0)), (6, .ptr 2000002 0)], [(16, some (.ints .i64 q4.1.Cols)), (17, some (.ints .i64 q4.1.Rows)), (2000000, some (.box [.sv (.bool true), .sv (.bool q6.HasPar), .sv (.bool q6.HasRef), .sv (.int .i64 q4.1.Level), .sv (.int .i64 q4.1.Bits), .own 16, .own 17, .sv (.int .i64 q6.Par.Qp), .sv (.bool q6.Par.Large), .sv (.bool q6.Par.Exact), .sv (.bool q6.Par.Confined), .sv (.int .i64 q6.Frame), .sv (.int .i64 q6.Got), .sv (.int .i64 q6.Now.Wide), .sv (.int .i64 q6.Now.High), .sv (.str q6.Now.Dots), .sv (.int .i64 q6.Ref.Wide), .sv (.int .i64 q6.Ref.High), .sv (.str q6.Ref.Dots)])), (2000002, some (.box [.sv (.int .i64 0), .sv (.int .i64 0), .sv (.str ⟨#[]⟩)]))]⟩) (kW hC [(16, 608), (17, 609), (2000000, 64), (2000002, 96)]) rfl ⟨rfl, rfl, trivial⟩
 refine kf b3 ?_
 refine Xab ?_
 iterate 2 refine kO hT hC ?_
 refine Vc.nil ?_
 refine kS h ?_ ?_ <;> intro b6 h
 refine kt b6 ?_
 refine Xab ?_
 refine kO hT hC ?_
 refine kC hC [] Tryz.call45 h (fun _ => Yeb) fun q7 h => ?_
 iterate 8 refine kO hT hC ?_
 refine Vc.nil ?_
 refine Xap ?_
 refine kL [2,4,6,8,13,14,15] [32,64,96,208,272,273] [_,_,_,_,_,_,_] [_,_,_,_,_,_] ?_
 refine kA h (fun v8 => ([(73, .sv (.bool v8)), (8, .any), (14, .any), (15, .any)], [])) (fun v8 h => ?_) fun v8 h => ?_
 refine Xac ?_
 iterate 3 refine kO hT hC ?_
 refine kS h ?_ ?_ <;> intro b7 h
 iterate 4 refine kI hT hC (kn b7) ?_
 refine kP hC false (kn b7) ?_
 refine Vc.nil ?_
 exact kM
 iterate 4 refine kF hC (kn b7) ?_
 refine kP hC true (kn b7) ?_
 refine Vc.nil ?_
 exact kM
 refine kS h ?_ ?_ <;> intro b8 h
 refine kt b8 ?_
 refine Xab ?_
 iterate 5 refine kO hT hC ?_
 refine Vc.nil ?_
 refine Xah ?_
 refine Xal ?_
 refine Xcf ?_
 refine Xal ?_
 obtain rfl := kj h
 exact Xbq (τ := ⟨[(4, .ptr 2000000 0), (5, .sv (.int .i64 3)), (6, .ptr 2000002 0)], [(16, some (.ints .i64 q1.Seq.Cols)), (17, some (.ints .i64 q1.Seq.Rows)), (2000000, some (.box [.sv (.bool q1.HasSeq), .sv (.bool q1.HasPar), .sv (.bool q1.HasRef), .sv (.int .i64 q1.Seq.Level), .sv (.int .i64 q1.Seq.Bits), .own 16, .own 17, .sv (.int .i64 q1.Par.Qp), .sv (.bool q1.Par.Large), .sv (.bool q1.Par.Exact), .sv (.bool q1.Par.Confined), .sv (.int .i64 q1.Frame), .sv (.int .i64 q1.Got), .sv (.int .i64 q1.Now.Wide), .sv (.int .i64 q1.Now.High), .sv (.str q1.Now.Dots), .sv (.int .i64 q1.Ref.Wide), .sv (.int .i64 q1.Ref.High), .sv (.str q1.Ref.Dots)])), (2000002, some (.box [.sv (.int .i64 0), .sv (.int .i64 0), .sv (.str ⟨#[]⟩)]))]⟩) (kW hC [(16, 272), (17, 273), (2000000, 64), (2000002, 96)]) rfl ⟨rfl, rfl, trivial⟩
 refine kf b8 ?_
 refine Xaf ?_
 refine Xae ?_
 refine Xap ?_
 refine kL [2,4,6,13] [32,64,96,208,272,273] [_,_,_,_] [_,_,_,_,_,_] ?_
 refine kA h (fun v9 => ([(83, .sv (.bool v9))], [])) (fun v9 h => ?_) fun v9 h => ?_
 refine Xac ?_
 iterate 4 refine kO hT hC ?_
 refine kS h ?_ ?_ <;> intro b9 h
 iterate 3 refine kI hT hC (kn b9) ?_
 refine kP hC false (kn b9) ?_
 refine Vc.nil ?_
 exact kM
 iterate 3 refine kF hC (kn b9) ?_
 refine kP hC true (kn b9) ?_
 refine Vc.nil ?_
 exact kM
 refine kS h ?_ ?_ <;> intro b10 h
 refine kt b10 ?_
 refine Xab ?_
 iterate 5 refine kO hT hC ?_
 refine Vc.nil ?_
 refine Xah ?_
 refine Xal ?_
 refine Xcf ?_
 refine Xal ?_
 obtain rfl := kj h
 exact Xbq (τ := ⟨[(4, .ptr 2000000 0), (5, .sv (.int .i64 4)), (6, .ptr 2000002 0)], [(16, some (.ints .i64 q1.Seq.Cols)), (17, some (.ints .i64 q1.Seq.Rows)), (2000000, some (.box [.sv (.bool q1.HasSeq), .sv (.bool q1.HasPar), .sv (.bool q1.HasRef), .sv (.int .i64 q1.Seq.Level), .sv (.int .i64 q1.Seq.Bits), .own 16, .own 17, .sv (.int .i64 q1.Par.Qp), .sv (.bool q1.Par.Large), .sv (.bool q1.Par.Exact), .sv (.bool q1.Par.Confined), .sv (.int .i64 q1.Frame), .sv (.int .i64 q1.Got), .sv (.int .i64 q1.Now.Wide), .sv (.int .i64 q1.Now.High), .sv (.str q1.Now.Dots), .sv (.int .i64 q1.Ref.Wide), .sv (.int .i64 q1.Ref.High), .sv (.str q1.Ref.Dots)])), (2000002, some (.box [.sv (.int .i64 0), .sv (.int .i64 0), .sv (.str ⟨#[]⟩)]))]⟩) (kW hC [(16, 272), (17, 273), (2000000, 64), (2000002, 96)]) rfl ⟨rfl, rfl, trivial⟩
 refine kf b10 ?_
 refine Xaf ?_
 refine Xae ?_
 refine Xab ?_
 iterate 2 refine kO hT hC ?_
 refine kN ?_
 iterate 3 refine kO hT hC ?_
 refine kN ?_
 iterate 5 refine kO hT hC ?_
 refine Vc.nil ?_
 refine Xah ?_
 refine Xcf ?_
 refine Xal ?_
 obtain rfl := kj h
 exact Xbq (τ := ⟨[(4, .ptr 2000000 0), (5, .sv (.int .i64 0)), (6, .ptr 2000002 0)], [(16, some (.ints .i64 q1.Seq.Cols)), (17, some (.ints .i64 q1.Seq.Rows)), (2000000, some (.box [.sv (.bool q1.HasSeq), .sv (.bool true), .sv (.bool q1.HasRef), .sv (.int .i64 q1.Seq.Level), .sv (.int .i64 q1.Seq.Bits), .own 16, .own 17, .sv (.int .i64 q7.1.Qp), .sv (.bool q7.1.Large), .sv (.bool q7.1.Exact), .sv (.bool q7.1.Confined), .sv (.int .i64 q1.Frame), .sv (.int .i64 q1.Got), .sv (.int .i64 q1.Now.Wide), .sv (.int .i64 q1.Now.High), .sv (.str q1.Now.Dots), .sv (.int .i64 q1.Ref.Wide), .sv (.int .i64 q1.Ref.High), .sv (.str q1.Ref.Dots)])), (2000002, some (.box [.sv (.int .i64 0), .sv (.int .i64 0), .sv (.str ⟨#[]⟩)]))]⟩) (kW hC [(16, 272), (17, 273), (2000000, 64), (2000002, 96)]) rfl ⟨rfl, rfl, trivial⟩
 refine kf b6 ?_
 refine Xaf ?_
 refine Xar ?_
 refine Xae ?_
 refine Xab ?_
 iterate 4 refine kO hT hC ?_
 refine kC hC [(3, 272), (4, 273)] Tryz.call46 h (fun _ => Xoy) fun q11 h => ?_
 iterate 6 refine kO hT hC ?_
 refine Vc.nil ?_
 refine Xah ?_
 obtain rfl := kj h
 exact Xbq (τ := ⟨[(4, .ptr 2000000 0), (5, .sv (.int .i64 q11.2.1)), (6, .ptr 2000002 0)], [(16, some (.ints .i64 q11.2.2.2.Seq.Cols)), (17, some (.ints .i64 q11.2.2.2.Seq.Rows)), (2000000, some (.box [.sv (.bool q11.1.HasSeq), .sv (.bool q11.1.HasPar), .sv (.bool q11.1.HasRef), .sv (.int .i64 q11.1.Seq.Level), .sv (.int .i64 q11.1.Seq.Bits), .own 16, .own 17, .sv (.int .i64 q11.1.Par.Qp), .sv (.bool q11.1.Par.Large), .sv (.bool q11.1.Par.Exact), .sv (.bool q11.1.Par.Confined), .sv (.int .i64 q11.1.Frame), .sv (.int .i64 q11.1.Got), .sv (.int .i64 q11.1.Now.Wide), .sv (.int .i64 q11.1.Now.High), .sv (.str q11.1.Now.Dots), .sv (.int .i64 q11.1.Ref.Wide), .sv (.int .i64 q11.1.Ref.High), .sv (.str q11.1.Ref.Dots)])), (2000002, some (.box [.sv (.int .i64 q11.2.2.1.Wide), .sv (.int .i64 q11.2.2.1.High), .sv (.str q11.2.2.1.Dots)]))]⟩) (kW hC [(16, 272), (17, 273), (2000000, 64), (2000002, 96)]) rfl ⟨rfl, rfl, trivial⟩
def Xrq (r : Bool) : AV := .sv (.bool r)
def Xrp (r : Bool) : Xa4 := []
theorem Xie {p0 p1 r} (h : Xft p0 p1 = some r) : AC Tryz.prog 18 [.sv (.ints .i64 p0), .sv (.ints .i64 p1)] [] (Xrq r) (Xrp r) := by
 refine Xag hT Tryz.func18 rfl fun C hC => ?_
 unfold Xft at h
 refine Xab ?_
 refine kO hT hC ?_
 refine Vc.nil ?_
 refine Xap ?_
 refine Xab ?_
 iterate 5 refine kO hT hC ?_
 refine Vc.nil ?_
 refine kS h ?_ ?_ <;> intro b1 h
 refine kt b1 ?_
 refine Xab ?_
 refine kO hT hC ?_
 refine Vc.nil ?_
 refine Xah ?_
 refine Xal ?_
 exact kR
 refine kf b1 ?_
 refine Xaf ?_
 refine Xae ?_
 refine Xap ?_
 refine Xab ?_
 refine kO hT hC ?_
 refine Vc.nil ?_
 refine kL [0,1,5] [] [_,_,_] [] ?_
 obtain ⟨o5, hl, h⟩ := Xa6 h
 refine Xdj (fun v2 => ([(5, .sv (.int .i64 v2))], [])) (fun v4 => ([(0, .any), (1, .any), (5, .any)], [])) (fun r => Xkm C T Tryz.f18.results.toList (Xrq r) (Xrp r)) hl ?_ ?_ ?_ ?_
 apply Xbu hC []
 exact co
 rfl
 decide
 rfl
 intro v2 s hs
 have h := hs
 unfold Xif at h
 refine Xap ?_
 refine Xab ?_
 iterate 4 refine kO hT hC ?_
 refine Vc.nil ?_
 refine kS h ?_ ?_ <;> intro b6 h
 refine kt b6 ?_
 refine Xaf ?_
 refine Xae ?_
 refine Xap ?_
 refine Xaq ?_
 refine Xdn hm ?_
 iterate 2 refine kO hT hC ?_
 refine kQ hT hC h fun h => ?_
 iterate 3 refine kO hT hC ?_
 refine kQ hT hC h fun h => ?_
 iterate 2 refine kO hT hC ?_
 refine kD ?_
 refine kS h ?_ ?_ <;> intro b7 h
 refine kt b7 ?_
 refine Xab ?_
 refine kO hT hC ?_
 refine Vc.nil ?_
 refine Xah ?_
 refine Xcf ?_
 refine Xal ?_
 obtain rfl := kj h
 refine Xj5 ?_
 refine Xj3 ?_
 exact Xbq (Xga.refl _) rfl trivial
 refine kf b7 ?_
 refine Xaf ?_
 refine Xar ?_
 refine Xae ?_
 refine Xac ?_
 iterate 3 refine kO hT hC ?_
 refine Vc.nil ?_
 exact kG
 refine kf b6 ?_
 refine Xas ?_
 refine Xaz ?_
 exact kb
 intro v4 e
 subst e
 refine Xae ?_
 refine Xab ?_
 refine kO hT hC ?_
 refine Vc.nil ?_
 refine Xah ?_
 exact kR
 intro r' σ' e hE
 subst e
 obtain rfl := kj h
 refine Xal ?_
 exact hE
def Yip (r : Bool) : AV := .sv (.bool r)
def Yio (r : Bool) : Xa4 := []
theorem Yl5 {p0 p1 r} (h : Xpb p0 p1 = some r) : AC Tryz.prog 47 [.agg [.sv (.int .i64 p0.Level), .sv (.int .i64 p0.Bits), .sv (.ints .i64 p0.Cols), .sv (.ints .i64 p0.Rows)], .agg [.sv (.int .i64 p1.Level), .sv (.int .i64 p1.Bits), .sv (.ints .i64 p1.Cols), .sv (.ints .i64 p1.Rows)]] [] (Yip r) (Yio r) := by
 refine Xag hT Tryz.func47 rfl fun C hC => ?_
 unfold Xpb at h
 refine Xab ?_
 iterate 3 refine kO hT hC ?_
 refine Vc.nil ?_
 refine Xap ?_
 refine Xab ?_
 iterate 5 refine kO hT hC ?_
 refine Vc.nil ?_
 refine kS h ?_ ?_ <;> intro b1 h
 refine kt b1 ?_
 refine Xab ?_
 refine kO hT hC ?_
 refine Vc.nil ?_
 refine Xah ?_
 refine Xal ?_
 exact kR
 refine kf b1 ?_
 refine Xaf ?_
 refine Xae ?_
 refine Xap ?_
 refine Xab ?_
 iterate 5 refine kO hT hC ?_
 refine Vc.nil ?_
 refine kS h ?_ ?_ <;> intro b2 h
 refine kt b2 ?_
 refine Xab ?_
 refine kO hT hC ?_
 refine Vc.nil ?_
 refine Xah ?_
 refine Xal ?_
 exact kR
 refine kf b2 ?_
 refine Xaf ?_
 refine Xae ?_
 refine Xap ?_
 refine Xab ?_
 iterate 4 refine kO hT hC ?_
 refine kC hC [] Tryz.call18 h (fun _ => Xie) fun q1 h => ?_
 refine kO hT hC ?_
 refine Vc.nil ?_
 refine kS h ?_ ?_ <;> intro b3 h
 refine kt b3 ?_
 refine Xab ?_
 refine kO hT hC ?_
 refine Vc.nil ?_
 refine Xah ?_
 refine Xal ?_
 exact kR
 refine kf b3 ?_
 refine Xaf ?_
 refine Xae ?_
 refine Xap ?_
 refine Xab ?_
 iterate 4 refine kO hT hC ?_
 refine kC hC [] Tryz.call18 h (fun _ => Xie) fun q2 h => ?_
 refine kO hT hC ?_
 refine Vc.nil ?_
 refine kS h ?_ ?_ <;> intro b4 h
 refine kt b4 ?_
 refine Xab ?_
 refine kO hT hC ?_
 refine Vc.nil ?_
 refine Xah ?_
 refine Xal ?_
 exact kR
 refine kf b4 ?_
 refine Xaf ?_
 refine Xae ?_
 refine Xab ?_
 refine kO hT hC ?_
 refine Vc.nil ?_
 refine Xah ?_
 exact kR
def Yil (r : Bool) : AV := .sv (.bool r)
def Yik (r : Bool) : Xa4 := []
theorem Yl4 {p0 p1 r} (h : Xpa p0 p1 = some r) : AC Tryz.prog 48 [.agg [.sv (.int .i64 p0.Qp), .sv (.bool p0.Large), .sv (.bool p0.Exact), .sv (.bool p0.Confined)], .agg [.sv (.int .i64 p1.Qp), .sv (.bool p1.Large), .sv (.bool p1.Exact), .sv (.bool p1.Confined)]] [] (Yil r) (Yik r) := by
 refine Xag hT Tryz.func48 rfl fun C hC => ?_
 unfold Xpa at h
 refine Xab ?_
 iterate 3 refine kO hT hC ?_
 refine Vc.nil ?_
 refine Xap ?_
 refine Xab ?_
 iterate 5 refine kO hT hC ?_
 refine Vc.nil ?_
 refine kS h ?_ ?_ <;> intro b1 h
 refine kt b1 ?_
 refine Xab ?_
 refine kO hT hC ?_
 refine Vc.nil ?_
 refine Xah ?_
 refine Xal ?_
 exact kR
 refine kf b1 ?_
 refine Xaf ?_
 refine Xae ?_
 refine Xap ?_
 refine Xab ?_
 iterate 5 refine kO hT hC ?_
 refine Vc.nil ?_
 refine kS h ?_ ?_ <;> intro b2 h
 refine kt b2 ?_
 refine Xab ?_
 refine kO hT hC ?_
 refine Vc.nil ?_
 refine Xah ?_
 refine Xal ?_
 exact kR
 refine kf b2 ?_
 refine Xaf ?_
 refine Xae ?_
 refine Xap ?_
 refine Xab ?_
 iterate 5 refine kO hT hC ?_
 refine Vc.nil ?_
 refine kS h ?_ ?_ <;> intro b3 h
 refine kt b3 ?_
 refine Xab ?_
 refine kO hT hC ?_
 refine Vc.nil ?_
 refine Xah ?_
 refine Xal ?_
 exact kR
 refine kf b3 ?_
 refine Xaf ?_
 refine Xae ?_
 refine Xap ?_
 refine Xab ?_
 iterate 5 refine kO hT hC ?_
 refine Vc.nil ?_
 refine kS h ?_ ?_ <;> intro b4 h
 refine kt b4 ?_
 refine Xab ?_
 refine kO hT hC ?_
 refine Vc.nil ?_
 refine Xah ?_
 refine Xal ?_
 exact kR
 refine kf b4 ?_
 refine Xaf ?_
 refine Xae ?_
 refine Xab ?_
 refine kO hT hC ?_
 refine Vc.nil ?_
 refine Xah ?_
 exact kR
def Yin (r : Bool) : AV := .sv (.bool r)
def Yim (r : Bool) : Xa4 := []
theorem Xqa {p0 p1 r} (h : Xk0 p0 p1 = some r) : AC Tryz.prog 12 [.agg [.sv (.int .i64 p0.Wide), .sv (.int .i64 p0.High), .sv (.str p0.Dots)], .agg [.sv (.int .i64 p1.Wide), .sv (.int .i64 p1.High), .sv (.str p1.Dots)]] [] (Yin r) (Yim r) := by
 refine Xag hT Tryz.func12 rfl fun C hC => ?_
 unfold Xk0 at h
 refine Xab ?_
 iterate 3 refine kO hT hC ?_
 refine Vc.nil ?_
 refine Xap ?_
 refine Xab ?_
 iterate 5 refine kO hT hC ?_
 refine Vc.nil ?_
 refine kS h ?_ ?_ <;> intro b1 h
 refine kt b1 ?_
 refine Xab ?_
 refine kO hT hC ?_
 refine Vc.nil ?_
 refine Xah ?_
 refine Xal ?_
 exact kR
 refine kf b1 ?_
 refine Xaf ?_
 refine Xae ?_
 refine Xap ?_
 refine Xab ?_
 iterate 5 refine kO hT hC ?_
 refine Vc.nil ?_
 refine kS h ?_ ?_ <;> intro b2 h
 refine kt b2 ?_
 refine Xab ?_
 refine kO hT hC ?_
 refine Vc.nil ?_
 refine Xah ?_
 refine Xal ?_
 exact kR
 refine kf b2 ?_
 refine Xaf ?_
 refine Xae ?_
 refine Xap ?_
 refine Xab ?_
 iterate 5 refine kO hT hC ?_
 refine Vc.nil ?_
 refine kS h ?_ ?_ <;> intro b3 h
 refine kt b3 ?_
 refine Xab ?_
 refine kO hT hC ?_
 refine Vc.nil ?_
 refine Xah ?_
 refine Xal ?_
 exact kR
 refine kf b3 ?_
 refine Xaf ?_
 refine Xae ?_
 refine Xab ?_
 refine kO hT hC ?_
 refine Vc.nil ?_
 refine Xah ?_
 exact kR
def Xwg (r : Bool) : AV := .sv (.bool r)
def Xwf (r : Bool) : Xa4 := []
theorem Xhn {p0 p1 r} (h : Xdv p0 p1 = some r) : AC Tryz.prog 11 [.agg [.sv (.bool p0.HasSeq), .sv (.bool p0.HasPar), .sv (.bool p0.HasRef), .sv (.int .i64 p0.Seq.Level), .sv (.int .i64 p0.Seq.Bits), .sv (.ints .i64 p0.Seq.Cols), .sv (.ints .i64 p0.Seq.Rows), .sv (.int .i64 p0.Par.Qp), .sv (.bool p0.Par.Large), .sv (.bool p0.Par.Exact), .sv (.bool p0.Par.Confined), .sv (.int .i64 p0.Frame), .sv (.int .i64 p0.Got), .sv (.int .i64 p0.Now.Wide), .sv (.int .i64 p0.Now.High), .sv (.str p0.Now.Dots), .sv (.int .i64 p0.Ref.Wide), .sv (.int .i64 p0.Ref.High), .sv (.str p0.Ref.Dots)], .agg [.sv (.bool p1.HasSeq), .sv (.bool p1.HasPar), .sv (.bool p1.HasRef), .sv (.int .i64 p1.Seq.Level), .sv (.int .i64 p1.Seq.Bits), .sv (.ints .i64 p1.Seq.Cols), .sv (.ints .i64 p1.Seq.Rows), .sv (.int .i64 p1.Par.Qp), .sv (.bool p1.Par.Large), .sv (.bool p1.Par.Exact), .sv (.bool p1.Par.Confined), .sv (.int .i64 p1.Frame), .sv (.int .i64 p1.Got), .sv (.int .i64 p1.Now.Wide), .sv (.int .i64 p1.Now.High), .sv (.str p1.Now.Dots), .sv (.int .i64 p1.Ref.Wide), .sv (.int .i64 p1.Ref.High), .sv (.str p1.Ref.Dots)]] [] (Xwg r) (Xwf r) := by
 refine Xag hT Tryz.func11 rfl fun C hC => ?_
 unfold Xdv at h
 refine Xab ?_
 iterate 3 refine kO hT hC ?_
 refine Vc.nil ?_
 refine Xap ?_
 refine Xab ?_
 iterate 5 refine kO hT hC ?_
 refine Vc.nil ?_
 refine kS h ?_ ?_ <;> intro b1 h
 refine kt b1 ?_
 refine Xab ?_
 refine kO hT hC ?_
 refine Vc.nil ?_
 refine Xah ?_
 refine Xal ?_
 exact kR
 refine kf b1 ?_
 refine Xaf ?_
 refine Xae ?_
 refine Xap ?_
 refine Xab ?_
 iterate 5 refine kO hT hC ?_
 refine Vc.nil ?_
 refine kS h ?_ ?_ <;> intro b2 h
 refine kt b2 ?_
 refine Xab ?_
 refine kO hT hC ?_
 refine Vc.nil ?_
 refine Xah ?_
 refine Xal ?_
 exact kR
 refine kf b2 ?_
 refine Xaf ?_
 refine Xae ?_
 refine Xap ?_
 refine Xab ?_
 iterate 5 refine kO hT hC ?_
 refine Vc.nil ?_
 refine kS h ?_ ?_ <;> intro b3 h
 refine kt b3 ?_
 refine Xab ?_
 refine kO hT hC ?_
 refine Vc.nil ?_
 refine Xah ?_
 refine Xal ?_
 exact kR
 refine kf b3 ?_
 refine Xaf ?_
 refine Xae ?_
 refine Xap ?_
 refine Xab ?_
 iterate 4 refine kO hT hC ?_
 refine kC hC [] Tryz.call47 h (fun _ => Yl5) fun q1 h => ?_
 refine kO hT hC ?_
 refine Vc.nil ?_
 refine kS h ?_ ?_ <;> intro b4 h
 refine kt b4 ?_
 refine Xab ?_
 refine kO hT hC ?_
 refine Vc.nil ?_
 refine Xah ?_
 refine Xal ?_
 exact kR
 refine kf b4 ?_
 refine Xaf ?_
 refine Xae ?_
 refine Xap ?_
 refine Xab ?_
 iterate 4 refine kO hT hC ?_
 refine kC hC [] Tryz.call48 h (fun _ => Yl4) fun q2 h => ?_
 refine kO hT hC ?_
 refine Vc.nil ?_
 refine kS h ?_ ?_ <;> intro b5 h
 refine kt b5 ?_
 refine Xab ?_
 refine kO hT hC ?_
 refine Vc.nil ?_
 refine Xah ?_
 refine Xal ?_
 exact kR
 refine kf b5 ?_
 refine Xaf ?_
 refine Xae ?_
 refine Xap ?_
 refine Xab ?_
 iterate 5 refine kO hT hC ?_
 refine Vc.nil ?_
 refine kS h ?_ ?_ <;> intro b6 h
 refine kt b6 ?_
 refine Xab ?_
 refine kO hT hC ?_
 refine Vc.nil ?_
 refine Xah ?_
 refine Xal ?_
 exact kR
 refine kf b6 ?_
 refine Xaf ?_
 refine Xae ?_
 refine Xap ?_
 refine Xab ?_
 iterate 5 refine kO hT hC ?_
 refine Vc.nil ?_
 refine kS h ?_ ?_ <;> intro b7 h
 refine kt b7 ?_
 refine Xab ?_
 refine kO hT hC ?_
 refine Vc.nil ?_
 refine Xah ?_
 refine Xal ?_
 exact kR
 refine kf b7 ?_
 refine Xaf ?_
 refine Xae ?_
 refine Xap ?_
 refine Xab ?_
 iterate 4 refine kO hT hC ?_
 refine kC hC [] Tryz.call12 h (fun _ => Xqa) fun q3 h => ?_
 refine kO hT hC ?_
 refine Vc.nil ?_
 refine kS h ?_ ?_ <;> intro b8 h
 refine kt b8 ?_
 refine Xab ?_
 refine kO hT hC ?_
 refine Vc.nil ?_
 refine Xah ?_
 refine Xal ?_
 exact kR
 refine kf b8 ?_
 refine Xaf ?_
 refine Xae ?_
 refine Xap ?_
 refine Xab ?_
 iterate 4 refine kO hT hC ?_
 refine kC hC [] Tryz.call12 h (fun _ => Xqa) fun q4 h => ?_
 refine kO hT hC ?_
 refine Vc.nil ?_
 refine kS h ?_ ?_ <;> intro b9 h
 refine kt b9 ?_
 refine Xab ?_
 refine kO hT hC ?_
 refine Vc.nil ?_
 refine Xah ?_
 refine Xal ?_
 exact kR
 refine kf b9 ?_
 refine Xaf ?_
 refine Xae ?_
 refine Xab ?_
 refine kO hT hC ?_
 refine Vc.nil ?_
 refine Xah ?_
 exact kR
def Xym (r : (Int × (List Int))) : AV := .sv (.int .i64 r.1)
def Xyl (r : (Int × (List Int))) : Xa4 := [(0, .ints .i64 r.2)]
theorem Xmg {p0 p1 r} (h : Xfu p0 p1 = some r) : AC Tryz.prog 20 [.own 0, .sv (.int .i64 p1)] [(0, .ints .i64 p0)] (Xym r) (Xyl r) := by
 refine Xag hT Tryz.func20 rfl fun C hC => ?_
 unfold Xfu at h
 refine Xab ?_
 refine kO hT hC ?_
 refine Vc.nil ?_
 refine Xap ?_
 refine Xab ?_
 refine kO hT hC ?_
 refine Vc.nil ?_
 refine kL [0,1,5] [0] [_,_,_] [_] ?_
 refine kX h (fun v2 => ([(1, .sv (.int .i64 v2.1)), (5, .sv (.int .i64 v2.2.1))], [(0, some (.ints .i64 v2.2.2))])) (fun v4 => ([(1, .sv (.int .i64 v4.1)), (0, .any), (5, .any)], [(0, some (.ints .i64 v4.2))])) (kW hC []) (fun v2 s h => ?_) fun v4 h => ?_
 unfold Xf4 at h
 refine Xap ?_
 refine Xab ?_
 iterate 4 refine kO hT hC ?_
 refine Vc.nil ?_
 refine kS h ?_ ?_ <;> intro b3 h
 refine kt b3 ?_
 refine Xaf ?_
 refine Xae ?_
 refine Xap ?_
 refine Xaq ?_
 refine Xab ?_
 iterate 3 refine kO hT hC ?_
 iterate 2 refine kQ hT hC h fun h => ?_
 refine Vc.nil ?_
 refine Xac ?_
 iterate 3 refine kO hT hC ?_
 refine Vc.nil ?_
 refine Xar ?_
 refine Xae ?_
 refine Xac ?_
 iterate 3 refine kO hT hC ?_
 refine Vc.nil ?_
 exact kG
 refine kf b3 ?_
 refine Xas ?_
 refine Xaz ?_
 exact ku
 refine Xae ?_
 refine Xab ?_
 iterate 2 refine kO hT hC ?_
 refine Vc.nil ?_
 refine Xah ?_
 obtain rfl := kj h
 exact Xbq (Xga.refl _) rfl ⟨rfl, trivial⟩
def Ybj (r : (Int × Seq)) : AV := .sv (.int .i64 r.1)
def Ybi (r : (Int × Seq)) : Xa4 := [(2, .ints .i64 r.2.Cols), (3, .ints .i64 r.2.Rows)]
theorem Yfa {p0 p1 r} (h : Xl1 p0 p1 = some r) : AC Tryz.prog 49 [.agg [.sv (.int .i64 p0.Level), .sv (.int .i64 p0.Bits), .own 2, .own 3], .sv (.int .i64 p1)] [(2, .ints .i64 p0.Cols), (3, .ints .i64 p0.Rows)] (Ybj r) (Ybi r) := by
 refine Xag hT Tryz.func49 rfl fun C hC => ?_
 unfold Xl1 at h
 refine Xab ?_
 iterate 2 refine kO hT hC ?_
 refine kN ?_
 iterate 3 refine kO hT hC ?_
 refine kC hC [(0, 2)] Tryz.call20 h (fun _ => Xmg) fun q1 h => ?_
 refine kO hT hC ?_
 refine kN ?_
 iterate 3 refine kO hT hC ?_
 refine kC hC [(0, 3)] Tryz.call20 h (fun _ => Xmg) fun q2 h => ?_
 refine kO hT hC ?_
 refine kN ?_
 iterate 2 refine kO hT hC ?_
 refine Vc.nil ?_
 refine Xah ?_
 obtain rfl := kj h
 exact Xbq (Xga.refl _) rfl ⟨rfl, rfl, trivial⟩
def Xs8 (r : (Int × Decoder)) : AV := .sv (.int .i64 r.1)
def Xs7 (r : (Int × Decoder)) : Xa4 := [(2, .ints .i64 r.2.Seq.Cols), (3, .ints .i64 r.2.Seq.Rows)]
theorem Xnk {p0 p1 r} (h : Xef p0 p1 = some r) : AC Tryz.prog 13 [.agg [.sv (.bool p0.HasSeq), .sv (.bool p0.HasPar), .sv (.bool p0.HasRef), .sv (.int .i64 p0.Seq.Level), .sv (.int .i64 p0.Seq.Bits), .own 2, .own 3, .sv (.int .i64 p0.Par.Qp), .sv (.bool p0.Par.Large), .sv (.bool p0.Par.Exact), .sv (.bool p0.Par.Confined), .sv (.int .i64 p0.Frame), .sv (.int .i64 p0.Got), .sv (.int .i64 p0.Now.Wide), .sv (.int .i64 p0.Now.High), .sv (.str p0.Now.Dots), .sv (.int .i64 p0.Ref.Wide), .sv (.int .i64 p0.Ref.High), .sv (.str p0.Ref.Dots)], .sv (.int .i64 p1)] [(2, .ints .i64 p0.Seq.Cols), (3, .ints .i64 p0.Seq.Rows)] (Xs8 r) (Xs7 r) := by
 refine Xag hT Tryz.func13 rfl fun C hC => ?_
 unfold Xef at h
 refine Xab ?_
 iterate 2 refine kO hT hC ?_
 refine kN ?_
 iterate 3 refine kO hT hC ?_
 refine kC hC [(2, 2), (3, 3)] Tryz.call49 h (fun _ => Yfa) fun q1 h => ?_
 refine kO hT hC ?_
 refine kN ?_
 iterate 2 refine kO hT hC ?_
 refine Vc.nil ?_
 refine Xah ?_
 obtain rfl := kj h
 exact Xbq (Xga.refl _) rfl ⟨rfl, rfl, trivial⟩
def Xpd (r : Int) : AV := .sv (.int .i64 r)
def Xpc (r : Int) : Xa4 := []
theorem Xis {p0 p1 r} (h : Xep p0 p1 = some r) : AC Tryz.prog 22 [.sv (.ints .i64 p0), .sv (.int .i64 p1)] [] (Xpd r) (Xpc r) := by
 refine Xag hT Tryz.func22 rfl fun C hC => ?_
 unfold Xep at h
 refine Xab ?_
 refine kO hT hC ?_
 refine Vc.nil ?_
 refine Xap ?_
 refine Xab ?_
 refine kO hT hC ?_
 refine Vc.nil ?_
 refine kL [0,1,5] [] [_,_,_] [] ?_
 obtain ⟨o5, hl, h⟩ := Xa6 h
 refine Xdj (fun v2 => ([(1, .sv (.int .i64 v2.1)), (5, .sv (.int .i64 v2.2))], [])) (fun v4 => ([(1, .sv (.int .i64 v4)), (0, .any), (5, .any)], [])) (fun r => Xkm C T Tryz.f22.results.toList (Xpd r) (Xpc r)) hl ?_ ?_ ?_ ?_
 try dsimp only
 apply Xbu hC []
 exact co
 rfl
 decide
 rfl
 intro v2 s hs
 have h := hs
 unfold Xf2 at h
 refine Xap ?_
 refine Xab ?_
 iterate 4 refine kO hT hC ?_
 refine Vc.nil ?_
 refine kS h ?_ ?_ <;> intro b5 h
 refine kt b5 ?_
 refine Xaf ?_
 refine Xae ?_
 refine Xap ?_
 refine Xaq ?_
 refine Xap ?_
 refine Xab ?_
 iterate 2 refine kO hT hC ?_
 refine kQ hT hC h fun h => ?_
 iterate 3 refine kO hT hC ?_
 refine Vc.nil ?_
 refine kS h ?_ ?_ <;> intro b6 h
 refine kt b6 ?_
 refine Xab ?_
 refine kO hT hC ?_
 refine Vc.nil ?_
 refine Xah ?_
 refine Xal ?_
 refine Xcf ?_
 refine Xal ?_
 obtain rfl := kj h
 refine Xj5 ?_
 refine Xj3 ?_
 exact Xbq (Xga.refl _) rfl trivial
 refine kf b6 ?_
 refine Xaf ?_
 refine Xae ?_
 refine Xac ?_
 iterate 3 refine kO hT hC ?_
 refine Vc.nil ?_
 refine Xar ?_
 refine Xae ?_
 refine Xac ?_
 iterate 3 refine kO hT hC ?_
 refine Vc.nil ?_
 exact kG
 refine kf b5 ?_
 refine Xas ?_
 refine Xaz ?_
 exact kb
 intro v4 e
 subst e
 refine Xae ?_
 refine Xab ?_
 iterate 2 refine kO hT hC ?_
 refine Vc.nil ?_
 refine Xah ?_
 exact kR
 intro r' σ' e hE
 subst e
 obtain rfl := kj h
 refine Xal ?_
 exact hE
def Ybf (r : Int) : AV := .sv (.int .i64 r)
def Ybe (r : Int) : Xa4 := []
theorem Ye8 {p0 p1 r} (h : Xl0 p0 p1 = some r) : AC Tryz.prog 50 [.agg [.sv (.int .i64 p0.Level), .sv (.int .i64 p0.Bits), .sv (.ints .i64 p0.Cols), .sv (.ints .i64 p0.Rows)], .sv (.int .i64 p1)] [] (Ybf r) (Ybe r) := by
 refine Xag hT Tryz.func50 rfl fun C hC => ?_
 unfold Xl0 at h
 refine Xab ?_
 iterate 2 refine kO hT hC ?_
 refine kN ?_
 iterate 3 refine kO hT hC ?_
 refine kC hC [] Tryz.call22 h (fun _ => Xis) fun q1 h => ?_
 refine kO hT hC ?_
 refine Vc.nil ?_
 refine Xap ?_
 refine Xab ?_
 iterate 2 refine kO hT hC ?_
 refine Vc.nil ?_
 refine kS h ?_ ?_ <;> intro b1 h
 refine kt b1 ?_
 refine Xab ?_
 refine kO hT hC ?_
 refine Vc.nil ?_
 refine Xah ?_
 refine Xal ?_
 exact kR
 refine kf b1 ?_
 refine Xaf ?_
 refine Xae ?_
 refine Xab ?_
 iterate 3 refine kO hT hC ?_
 refine kC hC [] Tryz.call22 h (fun _ => Xis) fun q2 h => ?_
 refine kO hT hC ?_
 refine Vc.nil ?_
 refine Xap ?_
 refine Xab ?_
 iterate 2 refine kO hT hC ?_
 refine Vc.nil ?_
 refine kS h ?_ ?_ <;> intro b2 h
 refine kt b2 ?_
 refine Xab ?_
 refine kO hT hC ?_
 refine Vc.nil ?_
 refine Xah ?_
 refine Xal ?_
 exact kR
 refine kf b2 ?_
 refine Xaf ?_
 refine Xae ?_
 refine Xab ?_
 iterate 2 refine kO hT hC ?_
 refine Vc.nil ?_
 refine Xah ?_
 exact kR
def Xs6 (r : Int) : AV := .sv (.int .i64 r)
def Xs5 (r : Int) : Xa4 := []
theorem Xnj {p0 p1 r} (h : Xee p0 p1 = some r) : AC Tryz.prog 14 [.agg [.sv (.bool p0.HasSeq), .sv (.bool p0.HasPar), .sv (.bool p0.HasRef), .sv (.int .i64 p0.Seq.Level), .sv (.int .i64 p0.Seq.Bits), .sv (.ints .i64 p0.Seq.Cols), .sv (.ints .i64 p0.Seq.Rows), .sv (.int .i64 p0.Par.Qp), .sv (.bool p0.Par.Large), .sv (.bool p0.Par.Exact), .sv (.bool p0.Par.Confined), .sv (.int .i64 p0.Frame), .sv (.int .i64 p0.Got), .sv (.int .i64 p0.Now.Wide), .sv (.int .i64 p0.Now.High), .sv (.str p0.Now.Dots), .sv (.int .i64 p0.Ref.Wide), .sv (.int .i64 p0.Ref.High), .sv (.str p0.Ref.Dots)], .sv (.int .i64 p1)] [] (Xs6 r) (Xs5 r) := by
 refine Xag hT Tryz.func14 rfl fun C hC => ?_
 unfold Xee at h
 refine Xab ?_
 iterate 2 refine kO hT hC ?_
 refine kN ?_
 iterate 3 refine kO hT hC ?_
 refine kC hC [] Tryz.call50 h (fun _ => Ye8) fun q1 h => ?_
 refine kO hT hC ?_
 refine Vc.nil ?_
 refine Xap ?_
 refine Xab ?_
 iterate 2 refine kO hT hC ?_
 refine Vc.nil ?_
 refine kS h ?_ ?_ <;> intro b1 h
 refine kt b1 ?_
 refine Xab ?_
 refine kO hT hC ?_
 refine Vc.nil ?_
 refine Xah ?_
 refine Xal ?_
 exact kR
 refine kf b1 ?_
 refine Xaf ?_
 refine Xae ?_
 refine Xab ?_
 iterate 2 refine kO hT hC ?_
 refine Vc.nil ?_
 refine Xah ?_
 exact kR
def Yf5 (r : (Decoder × (List Pic) × (List Int))) : AV := .tup [.agg [.sv (.bool r.1.HasSeq), .sv (.bool r.1.HasPar), .sv (.bool r.1.HasRef), .sv (.int .i64 r.1.Seq.Level), .sv (.int .i64 r.1.Seq.Bits), .own 16, .own 17, .sv (.int .i64 r.1.Par.Qp), .sv (.bool r.1.Par.Large), .sv (.bool r.1.Par.Exact), .sv (.bool r.1.Par.Confined), .sv (.int .i64 r.1.Frame), .sv (.int .i64 r.1.Got), .sv (.int .i64 r.1.Now.Wide), .sv (.int .i64 r.1.Now.High), .sv (.str r.1.Now.Dots), .sv (.int .i64 r.1.Ref.Wide), .sv (.int .i64 r.1.Ref.High), .sv (.str r.1.Ref.Dots)], .own 18, .own 19]
def Yf4 (r : (Decoder × (List Pic) × (List Int))) : Xa4 := [(16, .ints .i64 r.1.Seq.Cols), (17, .ints .i64 r.1.Seq.Rows), (18, .row Xxp r.2.1), (19, .ints .i64 r.2.2)]
theorem Yi7 {p0 p1 r} (h : Xnp p0 p1 = some r) : AC Tryz.prog 24 [.agg [.sv (.bool p0.HasSeq), .sv (.bool p0.HasPar), .sv (.bool p0.HasRef), .sv (.int .i64 p0.Seq.Level), .sv (.int .i64 p0.Seq.Bits), .sv (.ints .i64 p0.Seq.Cols), .sv (.ints .i64 p0.Seq.Rows), .sv (.int .i64 p0.Par.Qp), .sv (.bool p0.Par.Large), .sv (.bool p0.Par.Exact), .sv (.bool p0.Par.Confined), .sv (.int .i64 p0.Frame), .sv (.int .i64 p0.Got), .sv (.int .i64 p0.Now.Wide), .sv (.int .i64 p0.Now.High), .sv (.str p0.Now.Dots), .sv (.int .i64 p0.Ref.Wide), .sv (.int .i64 p0.Ref.High), .sv (.str p0.Ref.Dots)], .sv (Xbh.sv p1)] [] (Yf5 r) (Yf4 r) := by
 refine Xag hT Tryz.func24 rfl fun C hC => ?_
 unfold Xnp at h
 refine Xab ?_
 iterate 4 refine kO hT hC ?_
 refine kN ?_
 iterate 2 refine kO hT hC ?_
 refine kN ?_
 iterate 2 refine kO hT hC ?_
 refine kN ?_
 iterate 2 refine kO hT hC ?_
 refine kC hC [(16, 272), (17, 273)] Tryz.call37 h (fun _ => Xrz) fun q1 h => ?_
 iterate 2 refine kO hT hC ?_
 refine Vc.nil ?_
 refine Xap ?_
 refine Xab ?_
 iterate 3 refine kO hT hC ?_
 refine Vc.nil ?_
 refine kS h ?_ ?_ <;> intro b1 h
 refine kt b1 ?_
 refine Xab ?_
 iterate 6 refine kO hT hC ?_
 refine Vc.nil ?_
 refine Xah ?_
 refine Xal ?_
 obtain rfl := kj h
 exact Xbq (τ := ⟨[(4, .ptr 2000000 0), (5, .own 18), (6, .own 19)], [(16, some (.ints .i64 q1.Cols)), (17, some (.ints .i64 q1.Rows)), (18, some (.row Xxp ([] : List Pic))), (19, some (.ints .i64 ([] : List Int))), (2000000, some (.box [.sv (.bool p0.HasSeq), .sv (.bool p0.HasPar), .sv (.bool p0.HasRef), .sv (.int .i64 q1.Level), .sv (.int .i64 q1.Bits), .own 16, .own 17, .sv (.int .i64 p0.Par.Qp), .sv (.bool p0.Par.Large), .sv (.bool p0.Par.Exact), .sv (.bool p0.Par.Confined), .sv (.int .i64 p0.Frame), .sv (.int .i64 p0.Got), .sv (.int .i64 p0.Now.Wide), .sv (.int .i64 p0.Now.High), .sv (.str p0.Now.Dots), .sv (.int .i64 p0.Ref.Wide), .sv (.int .i64 p0.Ref.High), .sv (.str p0.Ref.Dots)]))]⟩) (kW hC [(16, 272), (17, 273), (18, 208), (19, 224), (2000000, 64)]) rfl ⟨rfl, rfl, rfl, rfl, trivial⟩
 refine kf b1 ?_
 refine Xaf ?_
 refine Xae ?_
 refine Xap ?_
 refine Xab ?_
 refine kO hT hC ?_
 refine Vc.nil ?_
 refine kL [1,2,4,7,8,9] [32,64,208,224,272,273] [_,_,_,_,_,_] [_,_,_,_,_,_] ?_
 refine kX h (fun v5 => ([(9, .sv (.int .i64 v5.1))], [(32, some (.box [.sv (.bool v5.2.1), .sv (.bool v5.2.2.1), .sv (.bool v5.2.2.2.1), .sv (.int .i64 v5.2.2.2.2.1), .sv (.int .i64 v5.2.2.2.2.2.1), .own 272, .own 273, .sv (.int .i64 v5.2.2.2.2.2.2.1), .sv (.bool v5.2.2.2.2.2.2.2.1), .sv (.bool v5.2.2.2.2.2.2.2.2.1), .sv (.bool v5.2.2.2.2.2.2.2.2.2.1), .sv (.int .i64 v5.2.2.2.2.2.2.2.2.2.2.1), .sv (.int .i64 v5.2.2.2.2.2.2.2.2.2.2.2.1), .sv (.int .i64 v5.2.2.2.2.2.2.2.2.2.2.2.2.1), .sv (.int .i64 v5.2.2.2.2.2.2.2.2.2.2.2.2.2.1), .sv (.str v5.2.2.2.2.2.2.2.2.2.2.2.2.2.2.1), .sv (.int .i64 v5.2.2.2.2.2.2.2.2.2.2.2.2.2.2.2.1), .sv (.int .i64 v5.2.2.2.2.2.2.2.2.2.2.2.2.2.2.2.2.1), .sv (.str v5.2.2.2.2.2.2.2.2.2.2.2.2.2.2.2.2.2.1)])), (208, some (.row Xxp v5.2.2.2.2.2.2.2.2.2.2.2.2.2.2.2.2.2.2.1)), (224, some (.ints .i64 v5.2.2.2.2.2.2.2.2.2.2.2.2.2.2.2.2.2.2.2.1)), (272, some (.ints .i64 v5.2.2.2.2.2.2.2.2.2.2.2.2.2.2.2.2.2.2.2.2.1)), (273, some (.ints .i64 v5.2.2.2.2.2.2.2.2.2.2.2.2.2.2.2.2.2.2.2.2.2))])) (fun v9 => ([(1, .any), (9, .any)], [(32, some (.box [.sv (.bool v9.1), .sv (.bool v9.2.1), .sv (.bool v9.2.2.1), .sv (.int .i64 v9.2.2.2.1), .sv (.int .i64 v9.2.2.2.2.1), .own 272, .own 273, .sv (.int .i64 v9.2.2.2.2.2.1), .sv (.bool v9.2.2.2.2.2.2.1), .sv (.bool v9.2.2.2.2.2.2.2.1), .sv (.bool v9.2.2.2.2.2.2.2.2.1), .sv (.int .i64 v9.2.2.2.2.2.2.2.2.2.1), .sv (.int .i64 v9.2.2.2.2.2.2.2.2.2.2.1), .sv (.int .i64 v9.2.2.2.2.2.2.2.2.2.2.2.1), .sv (.int .i64 v9.2.2.2.2.2.2.2.2.2.2.2.2.1), .sv (.str v9.2.2.2.2.2.2.2.2.2.2.2.2.2.1), .sv (.int .i64 v9.2.2.2.2.2.2.2.2.2.2.2.2.2.2.1), .sv (.int .i64 v9.2.2.2.2.2.2.2.2.2.2.2.2.2.2.2.1), .sv (.str v9.2.2.2.2.2.2.2.2.2.2.2.2.2.2.2.2.1)])), (208, some (.row Xxp v9.2.2.2.2.2.2.2.2.2.2.2.2.2.2.2.2.2.1)), (224, some (.ints .i64 v9.2.2.2.2.2.2.2.2.2.2.2.2.2.2.2.2.2.2.1)), (272, some (.ints .i64 v9.2.2.2.2.2.2.2.2.2.2.2.2.2.2.2.2.2.2.2.1)), (273, some (.ints .i64 v9.2.2.2.2.2.2.2.2.2.2.2.2.2.2.2.2.2.2.2.2))])) (kW hC []) (fun v5 s h => ?_) fun v9 h => ?_
 unfold Xge at h
 refine Xap ?_
 refine Xab ?_
 iterate 4 refine kO hT hC ?_
 refine Vc.nil ?_
 refine kS h ?_ ?_ <;> intro b6 h
 refine kt b6 ?_
 refine Xaf ?_
 refine Xae ?_
 refine kL [1,2,4,7,8,9] [32,64,208,224,272,273] [_,_,_,_,_,_] [_,_,_,_,_,_] ?_
 refine kA h (fun v10 => ([(8, .own 928)], [(32, some (.box [.sv (.bool v10.1), .sv (.bool v10.2.1), .sv (.bool v10.2.2.1), .sv (.int .i64 v10.2.2.2.1), .sv (.int .i64 v10.2.2.2.2.1), .own 929, .own 930, .sv (.int .i64 v10.2.2.2.2.2.1), .sv (.bool v10.2.2.2.2.2.2.1), .sv (.bool v10.2.2.2.2.2.2.2.1), .sv (.bool v10.2.2.2.2.2.2.2.2.1), .sv (.int .i64 v10.2.2.2.2.2.2.2.2.2.1), .sv (.int .i64 v10.2.2.2.2.2.2.2.2.2.2.1), .sv (.int .i64 v10.2.2.2.2.2.2.2.2.2.2.2.1), .sv (.int .i64 v10.2.2.2.2.2.2.2.2.2.2.2.2.1), .sv (.str v10.2.2.2.2.2.2.2.2.2.2.2.2.2.1), .sv (.int .i64 v10.2.2.2.2.2.2.2.2.2.2.2.2.2.2.1), .sv (.int .i64 v10.2.2.2.2.2.2.2.2.2.2.2.2.2.2.2.1), .sv (.str v10.2.2.2.2.2.2.2.2.2.2.2.2.2.2.2.2.1)])), (208, some (.row Xxp v10.2.2.2.2.2.2.2.2.2.2.2.2.2.2.2.2.2.1)), (928, some (.ints .i64 v10.2.2.2.2.2.2.2.2.2.2.2.2.2.2.2.2.2.2.1)), (929, some (.ints .i64 v10.2.2.2.2.2.2.2.2.2.2.2.2.2.2.2.2.2.2.2.1)), (930, some (.ints .i64 v10.2.2.2.2.2.2.2.2.2.2.2.2.2.2.2.2.2.2.2.2)), (224, none), (272, none), (273, none)])) (fun v10 h => ?_) fun v10 h => ?_
 refine Xaq ?_
 refine Xdn hm ?_
 iterate 3 refine kO hT hC ?_
 refine kQ hT hC h fun h => ?_
 refine kO hT hC ?_
 obtain ⟨q11, hq, h⟩ := Xa6 h
 refine Yku hC [(16, 592), (17, 593)] rfl rfl rfl rfl Tryz.call8 (Yf6 hq) rfl (by decide) trivial rfl (.inr ⟨rfl, ⟨trivial, trivial, trivial⟩⟩) rfl ?_
 iterate 9 refine kO hT hC ?_
 refine kD ?_
 refine Xab ?_
 iterate 2 refine kO hT hC ?_
 refine kN ?_
 iterate 3 refine kO hT hC ?_
 refine kT hT hC h fun h => ?_
 refine kO hT hC ?_
 refine kN ?_
 iterate 3 refine kO hT hC ?_
 refine Vc.nil ?_
 refine kS h ?_ ?_ <;> intro b7 h
 refine kt b7 ?_
 refine Xac ?_
 iterate 3 refine kO hT hC ?_
 obtain ⟨hq, h⟩ := Xa2 h
 refine Xzs hT hC rfl rfl rfl rfl ⟨fun _ _ => rfl, by rw [Ylc]; exact hq⟩ ?_
 rw [Ylc]
 refine kO hT hC ?_
 refine Vc.nil ?_
 refine Xar ?_
 obtain rfl := kj h
 exact Xgn (kW hC [(208, 832), (928, 720), (929, 592), (930, 593)])
 refine kf b7 ?_
 refine Xaf ?_
 refine Xar ?_
 obtain rfl := kj h
 exact Xgn (kW hC [(928, 720), (929, 592), (930, 593)])
 refine Xac ?_
 iterate 3 refine kO hT hC ?_
 refine Vc.nil ?_
 obtain rfl := kj h
 exact Yfo (kW hC [(224, 928), (272, 929), (273, 930)])
 refine kf b6 ?_
 refine Xas ?_
 refine Xaz ?_
 exact ku
 refine Xae ?_
 refine Xab ?_
 iterate 6 refine kO hT hC ?_
 refine Vc.nil ?_
 refine Xah ?_
 obtain rfl := kj h
 exact Xbq (τ := ⟨[(4, .ptr 2000000 0), (5, .own 18), (6, .own 19)], [(16, some (.ints .i64 v9.2.2.2.2.2.2.2.2.2.2.2.2.2.2.2.2.2.2.2.1)), (17, some (.ints .i64 v9.2.2.2.2.2.2.2.2.2.2.2.2.2.2.2.2.2.2.2.2)), (18, some (.row Xxp v9.2.2.2.2.2.2.2.2.2.2.2.2.2.2.2.2.2.1)), (19, some (.ints .i64 v9.2.2.2.2.2.2.2.2.2.2.2.2.2.2.2.2.2.2.1)), (2000000, some (.box [.sv (.bool v9.1), .sv (.bool v9.2.1), .sv (.bool v9.2.2.1), .sv (.int .i64 v9.2.2.2.1), .sv (.int .i64 v9.2.2.2.2.1), .own 16, .own 17, .sv (.int .i64 v9.2.2.2.2.2.1), .sv (.bool v9.2.2.2.2.2.2.1), .sv (.bool v9.2.2.2.2.2.2.2.1), .sv (.bool v9.2.2.2.2.2.2.2.2.1), .sv (.int .i64 v9.2.2.2.2.2.2.2.2.2.1), .sv (.int .i64 v9.2.2.2.2.2.2.2.2.2.2.1), .sv (.int .i64 v9.2.2.2.2.2.2.2.2.2.2.2.1), .sv (.int .i64 v9.2.2.2.2.2.2.2.2.2.2.2.2.1), .sv (.str v9.2.2.2.2.2.2.2.2.2.2.2.2.2.1), .sv (.int .i64 v9.2.2.2.2.2.2.2.2.2.2.2.2.2.2.1), .sv (.int .i64 v9.2.2.2.2.2.2.2.2.2.2.2.2.2.2.2.1), .sv (.str v9.2.2.2.2.2.2.2.2.2.2.2.2.2.2.2.2.1)]))]⟩) (kW hC [(16, 272), (17, 273), (18, 208), (19, 224), (2000000, 64)]) rfl ⟨rfl, rfl, rfl, rfl, trivial⟩
def Ydu (r : (Decoder × (List Pic) × (List Int))) : AV := .tup [.agg [.sv (.bool r.1.HasSeq), .sv (.bool r.1.HasPar), .sv (.bool r.1.HasRef), .sv (.int .i64 r.1.Seq.Level), .sv (.int .i64 r.1.Seq.Bits), .own 16, .own 17, .sv (.int .i64 r.1.Par.Qp), .sv (.bool r.1.Par.Large), .sv (.bool r.1.Par.Exact), .sv (.bool r.1.Par.Confined), .sv (.int .i64 r.1.Frame), .sv (.int .i64 r.1.Got), .sv (.int .i64 r.1.Now.Wide), .sv (.int .i64 r.1.Now.High), .sv (.str r.1.Now.Dots), .sv (.int .i64 r.1.Ref.Wide), .sv (.int .i64 r.1.Ref.High), .sv (.str r.1.Ref.Dots)], .own 18, .own 19]
def Ydt (r : (Decoder × (List Pic) × (List Int))) : Xa4 := [(16, .ints .i64 r.1.Seq.Cols), (17, .ints .i64 r.1.Seq.Rows), (18, .row Xxp r.2.1), (19, .ints .i64 r.2.2)]
theorem Xtf {p0 p1 r} (h : Xko p0 p1 = some r) : AC Tryz.prog 26 [.agg [.sv (.bool p0.HasSeq), .sv (.bool p0.HasPar), .sv (.bool p0.HasRef), .sv (.int .i64 p0.Seq.Level), .sv (.int .i64 p0.Seq.Bits), .sv (.ints .i64 p0.Seq.Cols), .sv (.ints .i64 p0.Seq.Rows), .sv (.int .i64 p0.Par.Qp), .sv (.bool p0.Par.Large), .sv (.bool p0.Par.Exact), .sv (.bool p0.Par.Confined), .sv (.int .i64 p0.Frame), .sv (.int .i64 p0.Got), .sv (.int .i64 p0.Now.Wide), .sv (.int .i64 p0.Now.High), .sv (.str p0.Now.Dots), .sv (.int .i64 p0.Ref.Wide), .sv (.int .i64 p0.Ref.High), .sv (.str p0.Ref.Dots)], .sv (Xbh.sv p1)] [] (Ydu r) (Ydt r) := by
 refine Xag hT Tryz.func26 rfl fun C hC => ?_
 unfold Xko at h
 refine Xab ?_
 iterate 4 refine kO hT hC ?_
 refine kN ?_
 refine kO hT hC ?_
 refine kC hC [(16, 240), (17, 241)] Tryz.call41 h (fun _ => Xne) fun q1 h => ?_
 refine kO hT hC ?_
 refine kN ?_
 iterate 4 refine kO hT hC ?_
 refine Vc.nil ?_
 refine Xap ?_
 refine Xab ?_
 iterate 3 refine kO hT hC ?_
 refine Vc.nil ?_
 refine kS h ?_ ?_ <;> intro b1 h
 refine kt b1 ?_
 refine Xab ?_
 iterate 6 refine kO hT hC ?_
 refine Vc.nil ?_
 refine Xah ?_
 refine Xal ?_
 obtain rfl := kj h
 exact Xbq (τ := ⟨[(4, .ptr 2000000 0), (5, .own 18), (6, .own 19)], [(16, some (.ints .i64 q1.Seq.Cols)), (17, some (.ints .i64 q1.Seq.Rows)), (18, some (.row Xxp ([] : List Pic))), (19, some (.ints .i64 ([] : List Int))), (2000000, some (.box [.sv (.bool q1.HasSeq), .sv (.bool q1.HasPar), .sv (.bool q1.HasRef), .sv (.int .i64 q1.Seq.Level), .sv (.int .i64 q1.Seq.Bits), .own 16, .own 17, .sv (.int .i64 q1.Par.Qp), .sv (.bool q1.Par.Large), .sv (.bool q1.Par.Exact), .sv (.bool q1.Par.Confined), .sv (.int .i64 q1.Frame), .sv (.int .i64 q1.Got), .sv (.int .i64 q1.Now.Wide), .sv (.int .i64 q1.Now.High), .sv (.str q1.Now.Dots), .sv (.int .i64 q1.Ref.Wide), .sv (.int .i64 q1.Ref.High), .sv (.str q1.Ref.Dots)]))]⟩) (kW hC [(16, 240), (17, 241), (18, 256), (19, 272), (2000000, 64)]) rfl ⟨rfl, rfl, rfl, rfl, trivial⟩
 refine kf b1 ?_
 refine Xaf ?_
 refine Xae ?_
 refine Xap ?_
 refine Xab ?_
 iterate 3 refine kO hT hC ?_
 refine Vc.nil ?_
 refine kL [2,4,7,8,24,25,26] [32,64,240,241,256,272] [_,_,_,_,_,_,_] [_,_,_,_,_,_] ?_
 refine kX h (fun v6 => ([(26, .sv (.int .i64 v6.1))], [(32, some (.box [.sv (.bool v6.2.1), .sv (.bool v6.2.2.1), .sv (.bool v6.2.2.2.1), .sv (.int .i64 v6.2.2.2.2.1), .sv (.int .i64 v6.2.2.2.2.2.1), .own 240, .own 241, .sv (.int .i64 v6.2.2.2.2.2.2.1), .sv (.bool v6.2.2.2.2.2.2.2.1), .sv (.bool v6.2.2.2.2.2.2.2.2.1), .sv (.bool v6.2.2.2.2.2.2.2.2.2.1), .sv (.int .i64 v6.2.2.2.2.2.2.2.2.2.2.1), .sv (.int .i64 v6.2.2.2.2.2.2.2.2.2.2.2.1), .sv (.int .i64 v6.2.2.2.2.2.2.2.2.2.2.2.2.1), .sv (.int .i64 v6.2.2.2.2.2.2.2.2.2.2.2.2.2.1), .sv (.str v6.2.2.2.2.2.2.2.2.2.2.2.2.2.2.1), .sv (.int .i64 v6.2.2.2.2.2.2.2.2.2.2.2.2.2.2.2.1), .sv (.int .i64 v6.2.2.2.2.2.2.2.2.2.2.2.2.2.2.2.2.1), .sv (.str v6.2.2.2.2.2.2.2.2.2.2.2.2.2.2.2.2.2.1)])), (240, some (.ints .i64 v6.2.2.2.2.2.2.2.2.2.2.2.2.2.2.2.2.2.2.2.2.1)), (241, some (.ints .i64 v6.2.2.2.2.2.2.2.2.2.2.2.2.2.2.2.2.2.2.2.2.2)), (256, some (.row Xxp v6.2.2.2.2.2.2.2.2.2.2.2.2.2.2.2.2.2.2.1)), (272, some (.ints .i64 v6.2.2.2.2.2.2.2.2.2.2.2.2.2.2.2.2.2.2.2.1))])) (fun v11 => ([(24, .any), (25, .any), (26, .any)], [(32, some (.box [.sv (.bool v11.1), .sv (.bool v11.2.1), .sv (.bool v11.2.2.1), .sv (.int .i64 v11.2.2.2.1), .sv (.int .i64 v11.2.2.2.2.1), .own 240, .own 241, .sv (.int .i64 v11.2.2.2.2.2.1), .sv (.bool v11.2.2.2.2.2.2.1), .sv (.bool v11.2.2.2.2.2.2.2.1), .sv (.bool v11.2.2.2.2.2.2.2.2.1), .sv (.int .i64 v11.2.2.2.2.2.2.2.2.2.1), .sv (.int .i64 v11.2.2.2.2.2.2.2.2.2.2.1), .sv (.int .i64 v11.2.2.2.2.2.2.2.2.2.2.2.1), .sv (.int .i64 v11.2.2.2.2.2.2.2.2.2.2.2.2.1), .sv (.str v11.2.2.2.2.2.2.2.2.2.2.2.2.2.1), .sv (.int .i64 v11.2.2.2.2.2.2.2.2.2.2.2.2.2.2.1), .sv (.int .i64 v11.2.2.2.2.2.2.2.2.2.2.2.2.2.2.2.1), .sv (.str v11.2.2.2.2.2.2.2.2.2.2.2.2.2.2.2.2.1)])), (240, some (.ints .i64 v11.2.2.2.2.2.2.2.2.2.2.2.2.2.2.2.2.2.2.2.1)), (241, some (.ints .i64 v11.2.2.2.2.2.2.2.2.2.2.2.2.2.2.2.2.2.2.2.2)), (256, some (.row Xxp v11.2.2.2.2.2.2.2.2.2.2.2.2.2.2.2.2.2.1)), (272, some (.ints .i64 v11.2.2.2.2.2.2.2.2.2.2.2.2.2.2.2.2.2.2.1))])) (kW hC []) (fun v6 s h => ?_) fun v11 h => ?_
 unfold Xgb at h
 refine Xab ?_
 refine kO hT hC ?_
 refine Vc.nil ?_
 refine Xap ?_
 refine kS h ?_ ?_ <;> intro b6 h
 refine kt b6 ?_
 refine Xaf ?_
 refine Xae ?_
 refine kL [2,4,7,8,24,25,26] [32,64,240,241,256,272] [_,_,_,_,_,_,_] [_,_,_,_,_,_] ?_
 refine kA h (fun v12 => ([(8, .own 864)], [(32, some (.box [.sv (.bool v12.1), .sv (.bool v12.2.1), .sv (.bool v12.2.2.1), .sv (.int .i64 v12.2.2.2.1), .sv (.int .i64 v12.2.2.2.2.1), .own 865, .own 866, .sv (.int .i64 v12.2.2.2.2.2.1), .sv (.bool v12.2.2.2.2.2.2.1), .sv (.bool v12.2.2.2.2.2.2.2.1), .sv (.bool v12.2.2.2.2.2.2.2.2.1), .sv (.int .i64 v12.2.2.2.2.2.2.2.2.2.1), .sv (.int .i64 v12.2.2.2.2.2.2.2.2.2.2.1), .sv (.int .i64 v12.2.2.2.2.2.2.2.2.2.2.2.1), .sv (.int .i64 v12.2.2.2.2.2.2.2.2.2.2.2.2.1), .sv (.str v12.2.2.2.2.2.2.2.2.2.2.2.2.2.1), .sv (.int .i64 v12.2.2.2.2.2.2.2.2.2.2.2.2.2.2.1), .sv (.int .i64 v12.2.2.2.2.2.2.2.2.2.2.2.2.2.2.2.1), .sv (.str v12.2.2.2.2.2.2.2.2.2.2.2.2.2.2.2.2.1)])), (256, some (.row Xxp v12.2.2.2.2.2.2.2.2.2.2.2.2.2.2.2.2.2.1)), (864, some (.ints .i64 v12.2.2.2.2.2.2.2.2.2.2.2.2.2.2.2.2.2.2.1)), (865, some (.ints .i64 v12.2.2.2.2.2.2.2.2.2.2.2.2.2.2.2.2.2.2.2.1)), (866, some (.ints .i64 v12.2.2.2.2.2.2.2.2.2.2.2.2.2.2.2.2.2.2.2.2)), (240, none), (241, none), (272, none)])) (fun v12 h => ?_) fun v12 h => ?_
 refine Xaq ?_
 refine Xab ?_
 refine kQ hT hC h fun h => ?_
 iterate 2 refine kO hT hC ?_
 refine kN ?_
 iterate 2 refine kO hT hC ?_
 obtain ⟨q13, hq, h⟩ := Xa6 h
 refine Yku hC [(16, 528), (17, 529)] rfl rfl rfl rfl Tryz.call10 (Ydx hq) rfl (by decide) trivial rfl (.inr ⟨rfl, ⟨trivial, trivial, trivial⟩⟩) rfl ?_
 iterate 9 refine kO hT hC ?_
 refine kN ?_
 iterate 2 refine kO hT hC ?_
 refine kN ?_
 iterate 3 refine kO hT hC ?_
 refine kT hT hC h fun h => ?_
 refine kO hT hC ?_
 refine kN ?_
 refine kO hT hC ?_
 refine kC hC [] Tryz.call55 h (fun _ => Xdp) fun q14 h => ?_
 refine Vc.nil ?_
 refine kS h ?_ ?_ <;> intro b7 h
 refine kt b7 ?_
 refine Xac ?_
 iterate 3 refine kO hT hC ?_
 obtain ⟨hq, h⟩ := Xa2 h
 refine Xzs hT hC rfl rfl rfl rfl ⟨fun _ _ => rfl, by rw [Ylc]; exact hq⟩ ?_
 rw [Ylc]
 refine kO hT hC ?_
 refine Vc.nil ?_
 refine Xar ?_
 obtain rfl := kj h
 exact Xgn (kW hC [(256, 752), (864, 656), (865, 528), (866, 529)])
 refine kf b7 ?_
 refine Xaf ?_
 refine Xar ?_
 obtain rfl := kj h
 exact Xgn (kW hC [(864, 656), (865, 528), (866, 529)])
 refine Xac ?_
 iterate 2 refine kO hT hC ?_
 refine Vc.nil ?_
 obtain rfl := kj h
 exact Yfo (kW hC [(240, 865), (241, 866), (272, 864)])
 refine kf b6 ?_
 refine Xas ?_
 refine Xaz ?_
 exact ku
 refine Xae ?_
 refine Xab ?_
 iterate 6 refine kO hT hC ?_
 refine Vc.nil ?_
 refine Xah ?_
 obtain rfl := kj h
 exact Xbq (τ := ⟨[(4, .ptr 2000000 0), (5, .own 18), (6, .own 19)], [(16, some (.ints .i64 v11.2.2.2.2.2.2.2.2.2.2.2.2.2.2.2.2.2.2.2.1)), (17, some (.ints .i64 v11.2.2.2.2.2.2.2.2.2.2.2.2.2.2.2.2.2.2.2.2)), (18, some (.row Xxp v11.2.2.2.2.2.2.2.2.2.2.2.2.2.2.2.2.2.1)), (19, some (.ints .i64 v11.2.2.2.2.2.2.2.2.2.2.2.2.2.2.2.2.2.2.1)), (2000000, some (.box [.sv (.bool v11.1), .sv (.bool v11.2.1), .sv (.bool v11.2.2.1), .sv (.int .i64 v11.2.2.2.1), .sv (.int .i64 v11.2.2.2.2.1), .own 16, .own 17, .sv (.int .i64 v11.2.2.2.2.2.1), .sv (.bool v11.2.2.2.2.2.2.1), .sv (.bool v11.2.2.2.2.2.2.2.1), .sv (.bool v11.2.2.2.2.2.2.2.2.1), .sv (.int .i64 v11.2.2.2.2.2.2.2.2.2.1), .sv (.int .i64 v11.2.2.2.2.2.2.2.2.2.2.1), .sv (.int .i64 v11.2.2.2.2.2.2.2.2.2.2.2.1), .sv (.int .i64 v11.2.2.2.2.2.2.2.2.2.2.2.2.1), .sv (.str v11.2.2.2.2.2.2.2.2.2.2.2.2.2.1), .sv (.int .i64 v11.2.2.2.2.2.2.2.2.2.2.2.2.2.2.1), .sv (.int .i64 v11.2.2.2.2.2.2.2.2.2.2.2.2.2.2.2.1), .sv (.str v11.2.2.2.2.2.2.2.2.2.2.2.2.2.2.2.2.1)]))]⟩) (kW hC [(16, 240), (17, 241), (18, 256), (19, 272), (2000000, 64)]) rfl ⟨rfl, rfl, rfl, rfl, trivial⟩
def Xrs (r : Bool) : AV := .sv (.bool r)
def Xrr (r : Bool) : Xa4 := []
theorem Xoo {p0 p1 r} (h : Xi0 p0 p1 = some r) : AC Tryz.prog 17 [.sv (Xxp.sv p0), .sv (Xxp.sv p1)] [] (Xrs r) (Xrr r) := by
 refine Xag hT Tryz.func17 rfl fun C hC => ?_
 unfold Xi0 at h
 refine Xab ?_
 refine kO hT hC ?_
 refine Vc.nil ?_
 refine Xap ?_
 refine Xab ?_
 iterate 5 refine kO hT hC ?_
 refine Vc.nil ?_
 refine kS h ?_ ?_ <;> intro b1 h
 refine kt b1 ?_
 refine Xab ?_
 refine kO hT hC ?_
 refine Vc.nil ?_
 refine Xah ?_
 refine Xal ?_
 exact kR
 refine kf b1 ?_
 refine Xaf ?_
 refine Xae ?_
 refine Xap ?_
 refine Xab ?_
 refine kO hT hC ?_
 refine Vc.nil ?_
 refine kL [0,1,5] [] [_,_,_] [] ?_
 obtain ⟨o8, hl, h⟩ := Xa6 h
 refine Xdj (fun v3 => ([(5, .sv (.int .i64 v3))], [])) (fun v6 => ([(0, .any), (1, .any), (5, .any)], [])) (fun r => Xkm C T Tryz.f17.results.toList (Xrs r) (Xrr r)) hl ?_ ?_ ?_ ?_
 apply Xbu hC []
 exact co
 rfl
 decide
 rfl
 intro v3 s hs
 have h := hs
 unfold Xig at h
 refine Xap ?_
 refine Xab ?_
 iterate 4 refine kO hT hC ?_
 refine Vc.nil ?_
 refine kS h ?_ ?_ <;> intro b6 h
 refine kt b6 ?_
 refine Xaf ?_
 refine Xae ?_
 refine Xap ?_
 refine Xaq ?_
 refine Xdn hm ?_
 iterate 2 refine kO hT hC ?_
 refine kQ hT hC h fun h => ?_
 iterate 3 refine kO hT hC ?_
 refine kQ hT hC h fun h => ?_
 refine kO hT hC ?_
 refine kC hC [] Tryz.call12 h (fun _ => Xqa) fun q7 h => ?_
 refine kO hT hC ?_
 refine kD ?_
 refine kS h ?_ ?_ <;> intro b7 h
 refine kt b7 ?_
 refine Xab ?_
 refine kO hT hC ?_
 refine Vc.nil ?_
 refine Xah ?_
 refine Xcf ?_
 refine Xal ?_
 obtain rfl := kj h
 refine Xj5 ?_
 refine Xj3 ?_
 exact Xbq (Xga.refl _) rfl trivial
 refine kf b7 ?_
 refine Xaf ?_
 refine Xar ?_
 refine Xae ?_
 refine Xac ?_
 iterate 3 refine kO hT hC ?_
 refine Vc.nil ?_
 exact kG
 refine kf b6 ?_
 refine Xas ?_
 refine Xaz ?_
 exact kb
 intro v6 e
 subst e
 refine Xae ?_
 refine Xab ?_
 refine kO hT hC ?_
 refine Vc.nil ?_
 refine Xah ?_
 exact kR
 intro r' σ' e hE
 subst e
 obtain rfl := kj h
 refine Xal ?_
 exact hE
def Xyq (r : ByteArray) : AV := .sv (.str r)
def Xyp (r : ByteArray) : Xa4 := []
theorem Xmi {p0 r} (h : Xdr p0 = some r) : AC Tryz.prog 54 [.sv (.int .i64 p0)] [] (Xyq r) (Xyp r) := by
 refine Xag hT Tryz.func54 rfl fun C hC => ?_
 unfold Xdr at h
 refine Xab ?_
 refine kO hT hC ?_
 refine Vc.nil ?_
 refine Xap ?_
 refine Xab ?_
 iterate 2 refine kO hT hC ?_
 refine Vc.nil ?_
 refine kS h ?_ ?_ <;> intro b1 h
 refine kt b1 ?_
 refine Xab ?_
 refine kO hT hC ?_
 refine Vc.nil ?_
 refine Xah ?_
 refine Xal ?_
 exact kR
 refine kf b1 ?_
 refine Xaf ?_
 refine Xae ?_
 refine Xab ?_
 refine kO hT hC ?_
 refine Vc.nil ?_
 refine Xap ?_
 refine kL [0,3] [] [_,_] [] ?_
 refine kX h (fun v2 => ([(0, .sv (.int .i64 v2.1)), (3, .sv (.str v2.2))], [])) (fun v4 => ([(3, .sv (.str v4)), (0, .any)], [])) (kW hC []) (fun v2 s h => ?_) fun v4 h => ?_
 unfold Xit at h
 refine Xap ?_
 refine Xab ?_
 iterate 2 refine kO hT hC ?_
 refine Vc.nil ?_
 refine kS h ?_ ?_ <;> intro b4 h
 refine kt b4 ?_
 refine Xaf ?_
 refine Xae ?_
 refine Xaq ?_
 refine Xab ?_
 refine kO hT hC ?_
 refine kQ hT hC h fun h => ?_
 iterate 5 refine kO hT hC ?_
 refine kQ hT hC h fun h => ?_
 refine kO hT hC ?_
 refine Vc.nil ?_
 refine Xac ?_
 refine kO hT hC ?_
 refine kQ hT hC h fun h => ?_
 refine kO hT hC ?_
 refine Vc.nil ?_
 refine Xar ?_
 exact kG
 refine kf b4 ?_
 refine Xas ?_
 refine Xaz ?_
 exact ku
 refine Xae ?_
 refine Xab ?_
 refine kO hT hC ?_
 refine kQ hT hC h fun h => ?_
 refine kO hT hC ?_
 refine Vc.nil ?_
 refine Xah ?_
 exact kR
def Xyo (r : (Int × (List Pic))) : AV := .sv (.int .i64 r.1)
def Xyn (r : (Int × (List Pic))) : Xa4 := [(0, .row Xxp r.2)]
theorem Ybg {p0 p1 r} (h : Xj2 p0 p1 = some r) : AC Tryz.prog 19 [.own 0, .sv (.int .i64 p1)] [(0, .row Xxp p0)] (Xyo r) (Xyn r) := by
 refine Xag hT Tryz.func19 rfl fun C hC => ?_
 unfold Xj2 at h
 refine Xab ?_
 refine kO hT hC ?_
 refine Vc.nil ?_
 refine Xap ?_
 refine Xab ?_
 refine kO hT hC ?_
 refine Vc.nil ?_
 refine kL [0,1,5] [0] [_,_,_] [_] ?_
 refine kX h (fun v6 => ([(1, .sv (.int .i64 v6.1)), (5, .sv (.int .i64 v6.2.1))], [(0, some (.row Xxp v6.2.2))])) (fun v12 => ([(1, .sv (.int .i64 v12.1)), (0, .any), (5, .any)], [(0, some (.row Xxp v12.2))])) (kW hC []) (fun v6 s h => ?_) fun v12 h => ?_
 unfold Xf5 at h
 refine Xap ?_
 refine Xab ?_
 iterate 4 refine kO hT hC ?_
 refine Vc.nil ?_
 refine kS h ?_ ?_ <;> intro b3 h
 refine kt b3 ?_
 refine Xaf ?_
 refine Xae ?_
 refine Xap ?_
 refine Xaq ?_
 refine Xab ?_
 iterate 3 refine kO hT hC ?_
 refine kQ hT hC h fun h => ?_
 refine kO hT hC ?_
 obtain ⟨hq, h⟩ := Xa2 h
 obtain ⟨s13, hs, h⟩ := Xa6 h
 injection hs with hs
 refine Xzs hT hC rfl rfl rfl rfl hq ?_
 rw [hs]
 refine kN ?_
 iterate 3 refine kO hT hC ?_
 refine kN ?_
 iterate 3 refine kO hT hC ?_
 refine kQ hT hC h fun h => ?_
 refine kO hT hC ?_
 obtain ⟨hq, h⟩ := Xa2 h
 obtain ⟨s14, hs, h⟩ := Xa6 h
 injection hs with hs
 refine Xzs hT hC rfl rfl rfl rfl hq ?_
 rw [hs]
 refine kN ?_
 iterate 3 refine kO hT hC ?_
 refine kN ?_
 iterate 3 refine kO hT hC ?_
 refine kC hC [] Tryz.call54 h (fun _ => Xmi) fun q15 h => ?_
 refine kQ hT hC h fun h => ?_
 refine kO hT hC ?_
 obtain ⟨hq, h⟩ := Xa2 h
 obtain ⟨s16, hs, h⟩ := Xa6 h
 injection hs with hs
 refine Xzs hT hC rfl rfl rfl rfl hq ?_
 rw [hs]
 refine Vc.nil ?_
 refine Xac ?_
 iterate 3 refine kO hT hC ?_
 refine Vc.nil ?_
 refine Xar ?_
 refine Xae ?_
 refine Xac ?_
 iterate 3 refine kO hT hC ?_
 refine Vc.nil ?_
 exact kG
 refine kf b3 ?_
 refine Xas ?_
 refine Xaz ?_
 exact ku
 refine Xae ?_
 refine Xab ?_
 iterate 2 refine kO hT hC ?_
 refine Vc.nil ?_
 refine Xah ?_
 obtain rfl := kj h
 exact Xbq (Xga.refl _) rfl ⟨rfl, trivial⟩
def Xpf (r : Int) : AV := .sv (.int .i64 r)
def Xpe (r : Int) : Xa4 := []
theorem Xqq {p0 p1 r} (h : Xho p0 p1 = some r) : AC Tryz.prog 21 [.sv (Xxp.sv p0), .sv (.int .i64 p1)] [] (Xpf r) (Xpe r) := by
 refine Xag hT Tryz.func21 rfl fun C hC => ?_
 unfold Xho at h
 refine Xab ?_
 refine kO hT hC ?_
 refine Vc.nil ?_
 refine Xap ?_
 refine Xab ?_
 refine kO hT hC ?_
 refine Vc.nil ?_
 refine kL [0,1,5] [] [_,_,_] [] ?_
 obtain ⟨o8, hl, h⟩ := Xa6 h
 refine Xdj (fun v3 => ([(1, .sv (.int .i64 v3.1)), (5, .sv (.int .i64 v3.2))], [])) (fun v6 => ([(1, .sv (.int .i64 v6)), (0, .any), (5, .any)], [])) (fun r => Xkm C T Tryz.f21.results.toList (Xpf r) (Xpe r)) hl ?_ ?_ ?_ ?_
 try dsimp only
 apply Xbu hC []
 exact co
 rfl
 decide
 rfl
 intro v3 s hs
 have h := hs
 unfold Xf3 at h
 refine Xap ?_
 refine Xab ?_
 iterate 4 refine kO hT hC ?_
 refine Vc.nil ?_
 refine kS h ?_ ?_ <;> intro b9 h
 refine kt b9 ?_
 refine Xaf ?_
 refine Xae ?_
 refine Xap ?_
 refine Xaq ?_
 refine Xap ?_
 refine Xab ?_
 iterate 2 refine kO hT hC ?_
 refine kQ hT hC h fun h => ?_
 iterate 4 refine kO hT hC ?_
 refine Vc.nil ?_
 refine kS h ?_ ?_ <;> intro b10 h
 refine kt b10 ?_
 refine Xab ?_
 refine kO hT hC ?_
 refine Vc.nil ?_
 refine Xah ?_
 refine Xal ?_
 refine Xcf ?_
 refine Xal ?_
 obtain rfl := kj h
 refine Xj5 ?_
 refine Xj3 ?_
 exact Xbq (Xga.refl _) rfl trivial
 refine kf b10 ?_
 refine Xaf ?_
 refine Xae ?_
 refine Xab ?_
 iterate 3 refine kO hT hC ?_
 refine Vc.nil ?_
 refine Xap ?_
 refine Xab ?_
 iterate 2 refine kO hT hC ?_
 refine kQ hT hC h fun h => ?_
 iterate 4 refine kO hT hC ?_
 refine Vc.nil ?_
 refine kS h ?_ ?_ <;> intro b11 h
 refine kt b11 ?_
 refine Xab ?_
 refine kO hT hC ?_
 refine Vc.nil ?_
 refine Xah ?_
 refine Xal ?_
 refine Xcf ?_
 refine Xal ?_
 obtain rfl := kj h
 refine Xj5 ?_
 refine Xj3 ?_
 exact Xbq (Xga.refl _) rfl trivial
 refine kf b11 ?_
 refine Xaf ?_
 refine Xae ?_
 refine Xab ?_
 iterate 3 refine kO hT hC ?_
 refine Vc.nil ?_
 refine Xap ?_
 refine Xdn hm ?_
 iterate 2 refine kO hT hC ?_
 refine kQ hT hC h fun h => ?_
 iterate 3 refine kO hT hC ?_
 refine kC hC [] Tryz.call54 h (fun _ => Xmi) fun q7 h => ?_
 refine kO hT hC ?_
 refine kD ?_
 refine kS h ?_ ?_ <;> intro b12 h
 refine kt b12 ?_
 refine Xab ?_
 refine kO hT hC ?_
 refine Vc.nil ?_
 refine Xah ?_
 refine Xal ?_
 refine Xcf ?_
 refine Xal ?_
 obtain rfl := kj h
 refine Xj5 ?_
 refine Xj3 ?_
 exact Xbq (Xga.refl _) rfl trivial
 refine kf b12 ?_
 refine Xaf ?_
 refine Xae ?_
 refine Xac ?_
 iterate 3 refine kO hT hC ?_
 refine Vc.nil ?_
 refine Xar ?_
 refine Xae ?_
 refine Xac ?_
 iterate 3 refine kO hT hC ?_
 refine Vc.nil ?_
 exact kG
 refine kf b9 ?_
 refine Xas ?_
 refine Xaz ?_
 exact kb
 intro v6 e
 subst e
 refine Xae ?_
 refine Xab ?_
 iterate 2 refine kO hT hC ?_
 refine Vc.nil ?_
 refine Xah ?_
 exact kR
 intro r' σ' e hE
 subst e
 obtain rfl := kj h
 refine Xal ?_
 exact hE
def Xoa (r : Int) : AV := .sv (.int .i64 r)
def Xn9 (r : Int) : Xa4 := []
theorem Xyt {p0 p1 r} (h : Xij p0 p1 = some r) : AC Tryz.prog 23 [.sv (Xbh.sv p0), .sv (.int .i64 p1)] [] (Xoa r) (Xn9 r) := by
 refine Xag hT Tryz.func23 rfl fun C hC => ?_
 unfold Xij at h
 refine Xab ?_
 refine kO hT hC ?_
 refine kN ?_
 iterate 5 refine kO hT hC ?_
 refine Vc.nil ?_
 refine Xap ?_
 refine Xab ?_
 iterate 2 refine kO hT hC ?_
 refine Vc.nil ?_
 refine kS h ?_ ?_ <;> intro b1 h
 refine kt b1 ?_
 refine Xab ?_
 refine kO hT hC ?_
 refine Vc.nil ?_
 refine Xah ?_
 refine Xal ?_
 exact kR
 refine kf b1 ?_
 refine Xaf ?_
 refine Xae ?_
 refine Xap ?_
 refine Xab ?_
 refine kO hT hC ?_
 refine Vc.nil ?_
 refine kL [0,1,5] [] [_,_,_] [] ?_
 obtain ⟨o5, hl, h⟩ := Xa6 h
 refine Xdj (fun v2 => ([(1, .sv (.int .i64 v2.1)), (5, .sv (.int .i64 v2.2))], [])) (fun v4 => ([(1, .sv (.int .i64 v4)), (0, .any), (5, .any)], [])) (fun r => Xkm C T Tryz.f23.results.toList (Xoa r) (Xn9 r)) hl ?_ ?_ ?_ ?_
 try dsimp only
 apply Xbu hC []
 exact co
 rfl
 decide
 rfl
 intro v2 s hs
 have h := hs
 unfold Xcy at h
 refine Xap ?_
 refine Xab ?_
 iterate 4 refine kO hT hC ?_
 refine Vc.nil ?_
 refine kS h ?_ ?_ <;> intro b6 h
 refine kt b6 ?_
 refine Xaf ?_
 refine Xae ?_
 refine Xap ?_
 refine Xaq ?_
 refine Xab ?_
 iterate 3 refine kO hT hC ?_
 refine kQ hT hC h fun h => ?_
 iterate 4 refine kO hT hC ?_
 refine kN ?_
 iterate 2 refine kO hT hC ?_
 refine Vc.nil ?_
 refine kS h ?_ ?_ <;> intro b7 h
 refine kt b7 ?_
 refine Xab ?_
 refine kO hT hC ?_
 refine Vc.nil ?_
 refine Xah ?_
 refine Xcf ?_
 refine Xal ?_
 obtain rfl := kj h
 refine Xj5 ?_
 refine Xj3 ?_
 exact Xbq (Xga.refl _) rfl trivial
 refine kf b7 ?_
 refine Xaf ?_
 refine Xar ?_
 refine Xae ?_
 refine Xac ?_
 iterate 3 refine kO hT hC ?_
 refine Vc.nil ?_
 exact kG
 refine kf b6 ?_
 refine Xas ?_
 refine Xaz ?_
 exact kb
 intro v4 e
 subst e
 refine Xae ?_
 refine Xab ?_
 iterate 2 refine kO hT hC ?_
 refine Vc.nil ?_
 refine Xah ?_
 exact kR
 intro r' σ' e hE
 subst e
 obtain rfl := kj h
 refine Xal ?_
 exact hE
def Xwp (r : (List ByteArray)) : AV := .own 16
def Xwo (r : (List ByteArray)) : Xa4 := [(16, .row Xbh r)]
theorem Xhq {p0 r} (h : Xdx p0 = some r) : AC Tryz.prog 25 [.sv (Xbh.sv p0)] [] (Xwp r) (Xwo r) := by
 refine Xag hT Tryz.func25 rfl fun C hC => ?_
 unfold Xdx at h
 refine Xab ?_
 refine kO hT hC ?_
 refine kN ?_
 iterate 2 refine kO hT hC ?_
 obtain ⟨hq, h⟩ := Xa2 h
 refine Xzs hT hC rfl rfl rfl rfl ⟨hq.1, hq.2.1, hq.2.2, by decide⟩ ?_
 refine kO hT hC ?_
 refine Vc.nil ?_
 refine Xap ?_
 refine Xab ?_
 refine kO hT hC ?_
 refine Vc.nil ?_
 refine kL [0,3,4] [112] [_,_,_] [_] ?_
 refine kX h (fun v2 => ([(4, .sv (.int .i64 v2.1))], [(112, some (.row Xbh v2.2))])) (fun v4 => ([(0, .any), (4, .any)], [(112, some (.row Xbh v4))])) (kW hC []) (fun v2 s h => ?_) fun v4 h => ?_
 unfold Xe8 at h
 refine Xap ?_
 refine Xab ?_
 iterate 4 refine kO hT hC ?_
 refine Vc.nil ?_
 refine kS h ?_ ?_ <;> intro b3 h
 refine kt b3 ?_
 refine Xaf ?_
 refine Xae ?_
 refine Xap ?_
 refine Xaq ?_
 refine Xac ?_
 iterate 4 refine kO hT hC ?_
 refine kQ hT hC h fun h => ?_
 refine kO hT hC ?_
 iterate 2 refine kQ hT hC h fun h => ?_
 refine Vc.nil ?_
 refine Xar ?_
 refine Xae ?_
 refine Xac ?_
 iterate 3 refine kO hT hC ?_
 refine Vc.nil ?_
 exact kG
 refine kf b3 ?_
 refine Xas ?_
 refine Xaz ?_
 exact ku
 refine Xae ?_
 refine Xab ?_
 iterate 2 refine kO hT hC ?_
 refine Vc.nil ?_
 refine Xah ?_
 obtain rfl := kj h
 exact Xbq (τ := ⟨[(2, .own 16)], [(16, some (.row Xbh v4))]⟩) (kW hC [(16, 112)]) rfl ⟨rfl, trivial⟩
def Xn8 (r : Bool) : AV := .sv (.bool r)
def Xn7 (r : Bool) : Xa4 := []
theorem Xyk {p0 p1 r} (h : Xih p0 p1 = some r) : AC Tryz.prog 27 [.sv (Xbh.sv p0), .sv (Xbh.sv p1)] [] (Xn8 r) (Xn7 r) := by
 refine Xag hT Tryz.func27 rfl fun C hC => ?_
 unfold Xih at h
 refine Xab ?_
 refine kO hT hC ?_
 refine Vc.nil ?_
 refine Xap ?_
 refine Xab ?_
 iterate 5 refine kO hT hC ?_
 refine Vc.nil ?_
 refine kS h ?_ ?_ <;> intro b1 h
 refine kt b1 ?_
 refine Xab ?_
 refine kO hT hC ?_
 refine Vc.nil ?_
 refine Xah ?_
 refine Xal ?_
 exact kR
 refine kf b1 ?_
 refine Xaf ?_
 refine Xae ?_
 refine Xap ?_
 refine Xab ?_
 refine kO hT hC ?_
 refine Vc.nil ?_
 refine kL [0,1,5] [] [_,_,_] [] ?_
 obtain ⟨o5, hl, h⟩ := Xa6 h
 refine Xdj (fun v2 => ([(5, .sv (.int .i64 v2))], [])) (fun v4 => ([(0, .any), (1, .any), (5, .any)], [])) (fun r => Xkm C T Tryz.f27.results.toList (Xn8 r) (Xn7 r)) hl ?_ ?_ ?_ ?_
 apply Xbu hC []
 exact co
 rfl
 decide
 rfl
 intro v2 s hs
 have h := hs
 unfold Xe7 at h
 refine Xap ?_
 refine Xab ?_
 iterate 4 refine kO hT hC ?_
 refine Vc.nil ?_
 refine kS h ?_ ?_ <;> intro b6 h
 refine kt b6 ?_
 refine Xaf ?_
 refine Xae ?_
 refine Xap ?_
 refine Xaq ?_
 refine Xdn hm ?_
 iterate 2 refine kO hT hC ?_
 refine kQ hT hC h fun h => ?_
 iterate 3 refine kO hT hC ?_
 refine kQ hT hC h fun h => ?_
 iterate 2 refine kO hT hC ?_
 refine kD ?_
 refine kS h ?_ ?_ <;> intro b7 h
 refine kt b7 ?_
 refine Xab ?_
 refine kO hT hC ?_
 refine Vc.nil ?_
 refine Xah ?_
 refine Xcf ?_
 refine Xal ?_
 obtain rfl := kj h
 refine Xj5 ?_
 refine Xj3 ?_
 exact Xbq (Xga.refl _) rfl trivial
 refine kf b7 ?_
 refine Xaf ?_
 refine Xar ?_
 refine Xae ?_
 refine Xac ?_
 iterate 3 refine kO hT hC ?_
 refine Vc.nil ?_
 exact kG
 refine kf b6 ?_
 refine Xas ?_
 refine Xaz ?_
 exact kb
 intro v4 e
 subst e
 refine Xae ?_
 refine Xab ?_
 refine kO hT hC ?_
 refine Vc.nil ?_
 refine Xah ?_
 exact kR
 intro r' σ' e hE
 subst e
 obtain rfl := kj h
 refine Xal ?_
 exact hE
def Xta (r : (Int × (List ByteArray))) : AV := .sv (.int .i64 r.1)
def Xs9 (r : (Int × (List ByteArray))) : Xa4 := [(0, .row Xbh r.2)]
theorem Xuv {p0 p1 r} (h : Xf6 p0 p1 = some r) : AC Tryz.prog 28 [.own 0, .sv (.int .i64 p1)] [(0, .row Xbh p0)] (Xta r) (Xs9 r) := by
 refine Xag hT Tryz.func28 rfl fun C hC => ?_
 unfold Xf6 at h
 refine Xab ?_
 refine kO hT hC ?_
 refine Vc.nil ?_
 refine Xap ?_
 refine Xab ?_
 refine kO hT hC ?_
 refine Vc.nil ?_
 refine kL [0,1,5] [0] [_,_,_] [_] ?_
 refine kX h (fun v3 => ([(1, .sv (.int .i64 v3.1)), (5, .sv (.int .i64 v3.2.1))], [(0, some (.row Xbh v3.2.2))])) (fun v6 => ([(1, .sv (.int .i64 v6.1)), (0, .any), (5, .any)], [(0, some (.row Xbh v6.2))])) (kW hC []) (fun v3 s h => ?_) fun v6 h => ?_
 unfold Xd6 at h
 refine Xap ?_
 refine Xab ?_
 iterate 4 refine kO hT hC ?_
 refine Vc.nil ?_
 refine kS h ?_ ?_ <;> intro b3 h
 refine kt b3 ?_
 refine Xaf ?_
 refine Xae ?_
 refine Xap ?_
 refine Xaq ?_
 refine Xab ?_
 iterate 3 refine kO hT hC ?_
 refine kC hC [] Tryz.call54 h (fun _ => Xmi) fun q7 h => ?_
 iterate 2 refine kQ hT hC h fun h => ?_
 refine Vc.nil ?_
 refine Xac ?_
 iterate 3 refine kO hT hC ?_
 refine Vc.nil ?_
 refine Xar ?_
 refine Xae ?_
 refine Xac ?_
 iterate 3 refine kO hT hC ?_
 refine Vc.nil ?_
 exact kG
 refine kf b3 ?_
 refine Xas ?_
 refine Xaz ?_
 exact ku
 refine Xae ?_
 refine Xab ?_
 iterate 2 refine kO hT hC ?_
 refine Vc.nil ?_
 refine Xah ?_
 obtain rfl := kj h
 exact Xbq (Xga.refl _) rfl ⟨rfl, trivial⟩
def Xq9 (r : Bool) : AV := .sv (.bool r)
def Xq8 (r : Bool) : Xa4 := []
theorem Xro {p0 p1 r} (h : Xgm p0 p1 = some r) : AC Tryz.prog 5 [.agg [.sv (.bool p0.HasSeq), .sv (.bool p0.HasPar), .sv (.bool p0.HasRef), .sv (.int .i64 p0.Seq.Level), .sv (.int .i64 p0.Seq.Bits), .sv (.ints .i64 p0.Seq.Cols), .sv (.ints .i64 p0.Seq.Rows), .sv (.int .i64 p0.Par.Qp), .sv (.bool p0.Par.Large), .sv (.bool p0.Par.Exact), .sv (.bool p0.Par.Confined), .sv (.int .i64 p0.Frame), .sv (.int .i64 p0.Got), .sv (.int .i64 p0.Now.Wide), .sv (.int .i64 p0.Now.High), .sv (.str p0.Now.Dots), .sv (.int .i64 p0.Ref.Wide), .sv (.int .i64 p0.Ref.High), .sv (.str p0.Ref.Dots)], .sv (Xbh.sv p1)] [] (Xq9 r) (Xq8 r) := by
 refine Xag hT Tryz.func5 rfl fun C hC => ?_
 unfold Xgm at h
 refine Xab ?_
 iterate 2 refine kO hT hC ?_
 refine kN ?_
 refine kO hT hC ?_
 refine kN ?_
 iterate 2 refine kO hT hC ?_
 refine kC hC [] Tryz.call7 h (fun _ => Xyr) fun q1 h => ?_
 refine kO hT hC ?_
 refine Vc.nil ?_
 refine Xap ?_
 refine Xab ?_
 iterate 2 refine kO hT hC ?_
 refine Vc.nil ?_
 refine kS h ?_ ?_ <;> intro b1 h
 refine kt b1 ?_
 refine Xab ?_
 refine kO hT hC ?_
 refine Vc.nil ?_
 refine Xah ?_
 refine Xal ?_
 exact kR
 refine kf b1 ?_
 refine Xaf ?_
 refine Xae ?_
 refine Xab ?_
 iterate 2 refine kO hT hC ?_
 refine kC hC [] Tryz.call23 h (fun _ => Xyt) fun q2 h => ?_
 refine kO hT hC ?_
 refine Vc.nil ?_
 refine Xap ?_
 refine Xab ?_
 iterate 2 refine kO hT hC ?_
 refine Vc.nil ?_
 refine kS h ?_ ?_ <;> intro b2 h
 refine kt b2 ?_
 refine Xab ?_
 refine kO hT hC ?_
 refine Vc.nil ?_
 refine Xah ?_
 refine Xal ?_
 exact kR
 refine kf b2 ?_
 refine Xaf ?_
 refine Xae ?_
 refine Xab ?_
 refine kO hT hC ?_
 refine kC hC [(16, 512), (17, 513)] Tryz.call9 h (fun _ => Xhp) fun q3 h => ?_
 refine kO hT hC ?_
 refine kC hC [(16, 544)] Tryz.call25 h (fun _ => Xhq) fun q4 h => ?_
 obtain ⟨q5, hq, h⟩ := Xa6 h
 refine Yku hC [(16, 560), (17, 561), (18, 562), (19, 563)] rfl rfl rfl rfl Tryz.call24 (Yi7 hq) rfl (by decide) trivial rfl (.inr ⟨rfl, ⟨trivial, trivial, fun _ => rfl, trivial, trivial⟩⟩) rfl ?_
 iterate 8 refine kO hT hC ?_
 refine kN ?_
 refine kO hT hC ?_
 refine kC hC [(16, 640), (17, 641)] Tryz.call9 h (fun _ => Xhp) fun q6 h => ?_
 iterate 2 refine kO hT hC ?_
 refine kN ?_
 refine kO hT hC ?_
 refine kC hC [(16, 672)] Tryz.call25 h (fun _ => Xhq) fun q7 h => ?_
 refine kO hT hC ?_
 refine kN ?_
 iterate 2 refine kO hT hC ?_
 obtain ⟨q8, hq, h⟩ := Xa6 h
 refine Yku hC [(16, 736), (17, 737), (18, 738), (19, 739)] rfl rfl rfl rfl Tryz.call26 (Xtf hq) rfl (by decide) trivial rfl (.inr ⟨rfl, ⟨trivial, trivial, fun _ => rfl, trivial, trivial⟩⟩) rfl ?_
 iterate 8 refine kO hT hC ?_
 refine Vc.nil ?_
 refine Xap ?_
 refine kL [1,2,6,7,8,9,10,11,12,13] [32,96,144,176,560,561,562,563,640,641,672,736,737,738,739] [_,_,_,_,_,_,_,_,_,_] [_,_,_,_,_,_,_,_,_,_,_,_,_,_,_] ?_
 refine kA h (fun v9 => ([(65, .sv (.bool v9))], [])) (fun v9 h => ?_) fun v9 h => ?_
 refine Xac ?_
 iterate 2 refine kO hT hC ?_
 refine kC hC [] Tryz.call11 h (fun _ => Xhn) fun q10 h => ?_
 iterate 2 refine kO hT hC ?_
 refine kS h ?_ ?_ <;> intro b3 h
 iterate 2 refine kI hT hC (kn b3) ?_
 refine kE hC (kn b3) [] Tryz.call17 h (fun _ => Xoo) fun q11 h => ?_
 refine kI hT hC (kn b3) ?_
 refine kP hC false (kn b3) ?_
 refine kO hT hC ?_
 refine kS h ?_ ?_ <;> intro b4 h
 iterate 2 refine kI hT hC (kn b4) ?_
 refine kE hC (kn b4) [] Tryz.call18 h (fun _ => Xie) fun q12 h => ?_
 refine kI hT hC (kn b4) ?_
 refine kP hC false (kn b4) ?_
 refine Vc.nil ?_
 exact kM
 iterate 4 refine kF hC (kn b4) ?_
 refine kP hC true (kn b4) ?_
 refine Vc.nil ?_
 exact kM
 iterate 4 refine kF hC (kn b3) ?_
 refine kP hC true (kn b3) ?_
 refine kO hT hC ?_
 iterate 4 refine kF hC rfl ?_
 refine kO hT hC ?_
 refine Vc.nil ?_
 exact kM
 refine kS h ?_ ?_ <;> intro b5 h
 refine kt b5 ?_
 refine Xab ?_
 refine kO hT hC ?_
 refine Vc.nil ?_
 refine Xah ?_
 refine Xal ?_
 exact kR
 refine kf b5 ?_
 refine Xaf ?_
 refine Xae ?_
 refine Xap ?_
 refine Xdn hm ?_
 iterate 2 refine kO hT hC ?_
 refine kC hC [(16, 1088), (17, 1089)] Tryz.call9 h (fun _ => Xhp) fun q13 h => ?_
 refine kC hC [] Tryz.call11 h (fun _ => Xhn) fun q14 h => ?_
 refine kO hT hC ?_
 refine kD ?_
 refine kS h ?_ ?_ <;> intro b6 h
 refine kt b6 ?_
 refine Xab ?_
 refine kO hT hC ?_
 refine Vc.nil ?_
 refine Xah ?_
 refine Xal ?_
 exact kR
 refine kf b6 ?_
 refine Xaf ?_
 refine Xae ?_
 refine Xap ?_
 refine Xab ?_
 iterate 2 refine kO hT hC ?_
 refine kC hC [(16, 1168)] Tryz.call25 h (fun _ => Xhq) fun q15 h => ?_
 refine kC hC [] Tryz.call27 h (fun _ => Xyk) fun q16 h => ?_
 refine kO hT hC ?_
 refine Vc.nil ?_
 refine kS h ?_ ?_ <;> intro b7 h
 refine kt b7 ?_
 refine Xab ?_
 refine kO hT hC ?_
 refine Vc.nil ?_
 refine Xah ?_
 refine Xal ?_
 exact kR
 refine kf b7 ?_
 refine Xaf ?_
 refine Xae ?_
 refine Xab ?_
 refine kO hT hC ?_
 refine kN ?_
 iterate 2 refine kO hT hC ?_
 refine kC hC [(2, 640), (3, 641)] Tryz.call13 h (fun _ => Xnk) fun q17 h => ?_
 refine kO hT hC ?_
 refine kN ?_
 iterate 2 refine kO hT hC ?_
 refine kC hC [(0, 672)] Tryz.call28 h (fun _ => Xuv) fun q18 h => ?_
 refine kO hT hC ?_
 refine Vc.nil ?_
 refine Xap ?_
 refine kL [1,2,6,7,8,11,12,13,14] [32,96,176,560,561,562,563,736,737,738,739] [_,_,_,_,_,_,_,_,_] [_,_,_,_,_,_,_,_,_,_,_] ?_
 refine kA h (fun v19 => ([(101, .sv (.bool v19)), (14, .any)], [])) (fun v19 h => ?_) fun v19 h => ?_
 refine Xac ?_
 iterate 3 refine kO hT hC ?_
 refine kS h ?_ ?_ <;> intro b8 h
 iterate 4 refine kF hC b8 ?_
 refine kP hC true b8 ?_
 refine kO hT hC ?_
 iterate 4 refine kF hC rfl ?_
 iterate 2 refine kO hT hC ?_
 iterate 4 refine kF hC rfl ?_
 refine kO hT hC ?_
 refine Vc.nil ?_
 exact kM
 iterate 2 refine kI hT hC b8 ?_
 refine kE hC b8 [] Tryz.call11 h (fun _ => Xhn) fun q20 h => ?_
 refine kI hT hC b8 ?_
 refine kP hC false b8 ?_
 refine kO hT hC ?_
 refine kS h ?_ ?_ <;> intro b9 h
 iterate 2 refine kI hT hC (kn b9) ?_
 refine kE hC (kn b9) [] Tryz.call17 h (fun _ => Xoo) fun q21 h => ?_
 refine kI hT hC (kn b9) ?_
 refine kP hC false (kn b9) ?_
 refine kO hT hC ?_
 refine kS h ?_ ?_ <;> intro b10 h
 iterate 2 refine kI hT hC (kn b10) ?_
 refine kE hC (kn b10) [] Tryz.call18 h (fun _ => Xie) fun q22 h => ?_
 refine kI hT hC (kn b10) ?_
 refine kP hC false (kn b10) ?_
 refine Vc.nil ?_
 exact kM
 iterate 4 refine kF hC (kn b10) ?_
 refine kP hC true (kn b10) ?_
 refine Vc.nil ?_
 exact kM
 iterate 4 refine kF hC (kn b9) ?_
 refine kP hC true (kn b9) ?_
 refine kO hT hC ?_
 iterate 4 refine kF hC rfl ?_
 refine kO hT hC ?_
 refine Vc.nil ?_
 exact kM
 refine kS h ?_ ?_ <;> intro b11 h
 refine kt b11 ?_
 refine Xab ?_
 refine kO hT hC ?_
 refine Vc.nil ?_
 refine Xah ?_
 refine Xal ?_
 exact kR
 refine kf b11 ?_
 refine Xaf ?_
 refine Xae ?_
 refine Xab ?_
 refine kO hT hC ?_
 refine kN ?_
 iterate 2 refine kO hT hC ?_
 refine kC hC [(2, 736), (3, 737)] Tryz.call13 h (fun _ => Xnk) fun q23 h => ?_
 refine kO hT hC ?_
 refine kN ?_
 iterate 2 refine kO hT hC ?_
 refine kC hC [(0, 738)] Tryz.call19 h (fun _ => Ybg) fun q24 h => ?_
 refine kO hT hC ?_
 refine kN ?_
 iterate 2 refine kO hT hC ?_
 refine kC hC [(0, 739)] Tryz.call20 h (fun _ => Xmg) fun q25 h => ?_
 refine kO hT hC ?_
 refine kN ?_
 refine kO hT hC ?_
 refine kN ?_
 iterate 2 refine kO hT hC ?_
 refine kC hC [] Tryz.call14 h (fun _ => Xnj) fun q26 h => ?_
 refine kO hT hC ?_
 refine Vc.nil ?_
 refine Xap ?_
 refine Xab ?_
 iterate 2 refine kO hT hC ?_
 refine Vc.nil ?_
 refine kS h ?_ ?_ <;> intro b12 h
 refine kt b12 ?_
 refine Xab ?_
 refine kO hT hC ?_
 refine Vc.nil ?_
 refine Xah ?_
 refine Xal ?_
 exact kR
 refine kf b12 ?_
 refine Xaf ?_
 refine Xae ?_
 refine Xab ?_
 iterate 2 refine kO hT hC ?_
 refine kC hC [] Tryz.call21 h (fun _ => Xqq) fun q27 h => ?_
 refine kO hT hC ?_
 refine Vc.nil ?_
 refine Xap ?_
 refine Xab ?_
 iterate 2 refine kO hT hC ?_
 refine Vc.nil ?_
 refine kS h ?_ ?_ <;> intro b13 h
 refine kt b13 ?_
 refine Xab ?_
 refine kO hT hC ?_
 refine Vc.nil ?_
 refine Xah ?_
 refine Xal ?_
 exact kR
 refine kf b13 ?_
 refine Xaf ?_
 refine Xae ?_
 refine Xab ?_
 iterate 2 refine kO hT hC ?_
 refine kC hC [] Tryz.call22 h (fun _ => Xis) fun q28 h => ?_
 refine kO hT hC ?_
 refine Vc.nil ?_
 refine Xap ?_
 refine Xab ?_
 iterate 2 refine kO hT hC ?_
 refine Vc.nil ?_
 refine kS h ?_ ?_ <;> intro b14 h
 refine kt b14 ?_
 refine Xab ?_
 refine kO hT hC ?_
 refine Vc.nil ?_
 refine Xah ?_
 refine Xal ?_
 exact kR
 refine kf b14 ?_
 refine Xaf ?_
 refine Xae ?_
 refine Xap ?_
 refine Xab ?_
 iterate 3 refine kO hT hC ?_
 refine Vc.nil ?_
 refine kS h ?_ ?_ <;> intro b15 h
 refine kt b15 ?_
 refine Xab ?_
 refine kO hT hC ?_
 refine Vc.nil ?_
 refine Xah ?_
 refine Xal ?_
 exact kR
 refine kf b15 ?_
 refine Xaf ?_
 refine Xae ?_
 refine Xab ?_
 refine kO hT hC ?_
 refine kC hC [(16, 2096), (17, 2097)] Tryz.call9 h (fun _ => Xhp) fun q29 h => ?_
 refine kO hT hC ?_
 refine kC hC [(16, 2128)] Tryz.call25 h (fun _ => Xhq) fun q30 h => ?_
 obtain ⟨q31, hq, h⟩ := Xa6 h
 refine Yku hC [(16, 2144), (17, 2145), (18, 2146), (19, 2147)] rfl rfl rfl rfl Tryz.call26 (Xtf hq) rfl (by decide) trivial rfl (.inr ⟨rfl, ⟨trivial, trivial, fun _ => rfl, trivial, trivial⟩⟩) rfl ?_
 iterate 8 refine kO hT hC ?_
 refine Vc.nil ?_
 refine Xap ?_
 refine kL [6,7,8,11,12,13,15,17,18,19] [96,176,272,560,561,562,563,736,737,738,739,2144,2145,2146,2147] [_,_,_,_,_,_,_,_,_,_] [_,_,_,_,_,_,_,_,_,_,_,_,_,_,_] ?_
 refine kA h (fun v32 => ([(153, .sv (.bool v32)), (6, .any), (7, .any), (8, .any), (17, .any), (18, .any), (19, .any)], [(96, none), (272, none), (560, none), (561, none), (562, none), (563, none), (2144, none), (2145, none), (2146, none), (2147, none)])) (fun v32 h => ?_) fun v32 h => ?_
 refine Xac ?_
 iterate 2 refine kO hT hC ?_
 refine kC hC [] Tryz.call11 h (fun _ => Xhn) fun q33 h => ?_
 iterate 2 refine kO hT hC ?_
 refine kS h ?_ ?_ <;> intro b16 h
 iterate 2 refine kI hT hC (kn b16) ?_
 refine kE hC (kn b16) [] Tryz.call17 h (fun _ => Xoo) fun q34 h => ?_
 refine kI hT hC (kn b16) ?_
 refine kP hC false (kn b16) ?_
 refine kO hT hC ?_
 refine kS h ?_ ?_ <;> intro b17 h
 iterate 2 refine kI hT hC (kn b17) ?_
 refine kE hC (kn b17) [] Tryz.call18 h (fun _ => Xie) fun q35 h => ?_
 refine kI hT hC (kn b17) ?_
 refine kP hC false (kn b17) ?_
 refine Vc.nil ?_
 exact kM
 iterate 4 refine kF hC (kn b17) ?_
 refine kP hC true (kn b17) ?_
 refine Vc.nil ?_
 exact kM
 iterate 4 refine kF hC (kn b16) ?_
 refine kP hC true (kn b16) ?_
 refine kO hT hC ?_
 iterate 4 refine kF hC rfl ?_
 refine kO hT hC ?_
 refine Vc.nil ?_
 exact kM
 refine kS h ?_ ?_ <;> intro b18 h
 refine kt b18 ?_
 refine Xab ?_
 refine kO hT hC ?_
 refine Vc.nil ?_
 refine Xah ?_
 refine Xal ?_
 exact kR
 refine kf b18 ?_
 refine Xaf ?_
 refine Xae ?_
 refine Xab ?_
 refine kO hT hC ?_
 refine kN ?_
 iterate 2 refine kO hT hC ?_
 refine kC hC [] Tryz.call14 h (fun _ => Xnj) fun q36 h => ?_
 refine kO hT hC ?_
 refine Vc.nil ?_
 refine Xap ?_
 refine Xab ?_
 iterate 2 refine kO hT hC ?_
 refine Vc.nil ?_
 refine kS h ?_ ?_ <;> intro b19 h
 refine kt b19 ?_
 refine Xab ?_
 refine kO hT hC ?_
 refine Vc.nil ?_
 refine Xah ?_
 refine Xal ?_
 exact kR
 refine kf b19 ?_
 refine Xaf ?_
 refine Xae ?_
 refine Xab ?_
 iterate 2 refine kO hT hC ?_
 refine kC hC [] Tryz.call21 h (fun _ => Xqq) fun q37 h => ?_
 refine kO hT hC ?_
 refine Vc.nil ?_
 refine Xap ?_
 refine Xab ?_
 iterate 2 refine kO hT hC ?_
 refine Vc.nil ?_
 refine kS h ?_ ?_ <;> intro b20 h
 refine kt b20 ?_
 refine Xab ?_
 refine kO hT hC ?_
 refine Vc.nil ?_
 refine Xah ?_
 refine Xal ?_
 exact kR
 refine kf b20 ?_
 refine Xaf ?_
 refine Xae ?_
 refine Xab ?_
 iterate 2 refine kO hT hC ?_
 refine kC hC [] Tryz.call22 h (fun _ => Xis) fun q38 h => ?_
 refine kO hT hC ?_
 refine Vc.nil ?_
 refine Xap ?_
 refine Xab ?_
 iterate 2 refine kO hT hC ?_
 refine Vc.nil ?_
 refine kS h ?_ ?_ <;> intro b21 h
 refine kt b21 ?_
 refine Xab ?_
 refine kO hT hC ?_
 refine Vc.nil ?_
 refine Xah ?_
 refine Xal ?_
 exact kR
 refine kf b21 ?_
 refine Xaf ?_
 refine Xae ?_
 refine Xap ?_
 refine Xab ?_
 iterate 3 refine kO hT hC ?_
 refine Vc.nil ?_
 refine kS h ?_ ?_ <;> intro b22 h
 refine kt b22 ?_
 refine Xab ?_
 refine kO hT hC ?_
 refine Vc.nil ?_
 refine Xah ?_
 refine Xal ?_
 exact kR
 refine kf b22 ?_
 refine Xaf ?_
 refine Xae ?_
 refine Xab ?_
 refine kO hT hC ?_
 refine Vc.nil ?_
 refine Xah ?_
 exact kR
end
end Go.Proofs.YtjgbfopmjpkkhaaGreat.A
