/- Contracts of the functions that the law FnStreams reaches, part 1: each comes to what its pure function tells. Written by a program of this session. Conditions: as each statement tells. -/
import Derived.Test.YtnhflbeahbcklabGreatFFnStreamsx0
namespace Go.Proofs.YtnhflbeahbcklabGreat.A
open Go Go.Proofs Go.Proofs.YtnhflbeahbcklabGreatAL Go.RowKit
set_option linter.unusedVariables false
set_option linter.unusedSimpArgs false
set_option maxRecDepth 100000
set_option maxHeartbeats 2000000
noncomputable section
def Yla (r : Pic) : AV := .agg [.sv (.int .i64 r.Wide), .sv (.int .i64 r.High), .sv (.str r.Dots)]
def Yk9 (r : Pic) : Xbl := []
theorem Yau {p0 p1 r} (h : Xn8 p0 p1 = some r) : AC Tryz.prog 128 [.sv (.int .i64 p0), .sv (.int .i64 p1)] [] (Yla r) (Yk9 r) := by
 refine Xae hT Tryz.func128 rfl fun C hC => ?_
 unfold Xn8 at h
 refine Xad ?_
 refine kO hT hC ?_
 refine Vc.nil (Xa2 ?_)
 refine kL [0,1,4] [64] [_,_,_] [_] ?_
 refine kA h (fun v1 => ([(14, .sv (.bool v1))], [])) (fun v1 h => ?_) fun v1 h => ?_
 refine Xac ?_
 refine kO hT hC ?_
 refine kC hC [] Tryz.call116 h (fun _ => Xak) fun q2 h => ?_
 iterate 2 refine kO hT hC ?_
 refine kS h ?_ ?_ <;> intro b1 h
 refine kI hT hC (kn b1) ?_
 refine kE hC (kn b1) [] Tryz.call116 h (fun _ => Xak) fun q3 h => ?_
 refine kI hT hC (kn b1) ?_
 refine kP hC false (kn b1) ?_
 exact Vc.nil kM
 iterate 3 refine kF hC (kn b1) ?_
 refine kP hC true (kn b1) ?_
 exact Vc.nil kM
 refine kS h ?_ ?_ <;> intro b2 h
 refine kt b2 (Xad ?_)
 iterate 2 refine kO hT hC ?_
 exact Vc.nil (Xah (Xa4 kR))
 refine kf b2 (Xag (Xaf (Xad ?_)))
 iterate 3 refine kO hT hC ?_
 obtain ⟨hq, h⟩ := Xa7 h
 refine Yc7 hT hC rfl rfl rfl rfl ⟨hq.1, hq.2.1, hq.2.2, by decide⟩ ?_
 refine kO hT hC ?_
 refine Vc.nil (Xa2 (Xad ?_))
 iterate 3 refine kO hT hC ?_
 refine Vc.nil ?_
 refine kL [0,1,4,5,21,22] [64,304] [_,_,_,_,_,_] [_,_] ?_
 refine kX h (fun v5 => ([(22, .sv (.int .i64 v5.1))], [(304, some (.ints .u8 v5.2))])) (fun v7 => ([(21, .any), (22, .any)], [(304, some (.ints .u8 v7))])) (kW hC []) (fun v5 s h => ?_) fun v7 h => ?_
 unfold Xmv at h
 refine Xad ?_
 refine kO hT hC ?_
 refine Vc.nil (Xa2 ?_)
 refine kS h ?_ ?_ <;> intro b5 h
 refine kt b5 (Xag (Xaf (Xa2 (Xau (Xad ?_)))))
 iterate 2 refine kO hT hC ?_
 refine Vc.nil (Xac ?_)
 iterate 2 refine kO hT hC ?_
 iterate 2 refine kQ hT hC h fun h => ?_
 refine Vc.nil (Xax (Xaf (Xac ?_)))
 iterate 2 refine kO hT hC ?_
 exact Vc.nil kG
 exact kf b5 (Xaw (Xbd ku))
 refine Xaf (Xad ?_)
 iterate 6 refine kO hT hC ?_
 exact Vc.nil (Xah kR)
def Xsg (r : Bool) : AV := .sv (.bool r)
def Xsf (r : Bool) : Xbl := []
theorem Xnn {p0 p1 p2 r} (h : Xc4 p0 p1 p2 = some r) : AC Tryz.prog 196 [.agg [.sv (.int .i64 p0.Wide), .sv (.int .i64 p0.High), .sv (.str p0.Dots)], .sv (.int .i64 p1), .sv (.int .i64 p2)] [] (Xsg r) (Xsf r) := by
 refine Xae hT Tryz.func196 rfl fun C hC => ?_
 unfold Xc4 at h
 refine Xad ?_
 iterate 2 refine kO hT hC ?_
 refine Vc.nil ?_
 refine kL [1,2,3,6] [48] [_,_,_,_] [_] ?_
 refine kA h (fun v1 => ([(6, .sv (.bool v1)), (1, .any), (2, .any), (3, .any)], [(48, none)])) (fun v1 h => ?_) fun v1 h => ?_
 refine Xac ?_
 refine kO hT hC ?_
 refine kQ hT hC h fun h => ?_
 iterate 2 refine kO hT hC ?_
 refine kS h ?_ ?_ <;> intro b1 h
 refine kI hT hC b1 ?_
 refine kJ hT hC b1 h fun h => ?_
 refine kI hT hC b1 ?_
 refine kP hC true b1 ?_
 refine kO hT hC ?_
 refine kS h ?_ ?_ <;> intro b2 h
 iterate 4 refine kI hT hC b2 ?_
 refine kE hC b2 [] Tryz.call116 h (fun _ => Xak) fun q2 h => ?_
 refine kP hC true b2 ?_
 refine kO hT hC ?_
 refine kS h ?_ ?_ <;> intro b3 h
 iterate 4 refine kI hT hC b3 ?_
 refine kE hC b3 [] Tryz.call116 h (fun _ => Xak) fun q3 h => ?_
 refine kP hC true b3 ?_
 refine kO hT hC ?_
 exact Vc.nil kM
 iterate 5 refine kF hC b3 ?_
 refine kP hC false b3 ?_
 refine kO hT hC ?_
 exact Vc.nil kM
 iterate 5 refine kF hC b2 ?_
 refine kP hC false b2 ?_
 refine kO hT hC ?_
 iterate 5 refine kF hC rfl ?_
 iterate 2 refine kO hT hC ?_
 exact Vc.nil kM
 iterate 3 refine kF hC b1 ?_
 refine kP hC false b1 ?_
 refine kO hT hC ?_
 iterate 5 refine kF hC rfl ?_
 iterate 2 refine kO hT hC ?_
 iterate 5 refine kF hC rfl ?_
 iterate 2 refine kO hT hC ?_
 exact Vc.nil kM
 exact Xah kR
def Xvr (r : Bool) : AV := .sv (.bool r)
def Xvq (r : Bool) : Xbl := []
theorem Xxg {p0 p1 r} (h : Xhb p0 p1 = some r) : AC Tryz.prog 212 [.agg [.sv (.int .i64 p0.Kind), .sv (.int .i64 p0.Mode), .sv (.int .i64 p0.Dx), .sv (.int .i64 p0.Dy), .sv (.ints .i64 p0.Levels)], .agg [.sv (.bool p1.Key), .sv (.int .i64 p1.Qp), .sv (.bool p1.Large), .sv (.bool p1.Exact)]] [] (Xvr r) (Xvq r) := by
 refine Xae hT Tryz.func212 rfl fun C hC => ?_
 unfold Xhb at h
 refine Xad ?_
 iterate 3 refine kO hT hC ?_
 refine Vc.nil ?_
 refine kL [2,3,4] [32,48] [_,_,_] [_,_] ?_
 refine kA h (fun v1 => ([(4, .sv (.bool v1)), (2, .any), (3, .any)], [(32, none), (48, none)])) (fun v1 h => ?_) fun v1 h => ?_
 refine Xac ?_
 iterate 4 refine kO hT hC ?_
 refine kS h ?_ ?_ <;> intro b1 h
 iterate 3 refine kI hT hC (kn b1) ?_
 refine kP hC false (kn b1) ?_
 refine kO hT hC ?_
 exact Vc.nil kM
 iterate 3 refine kF hC (kn b1) ?_
 refine kP hC true (kn b1) ?_
 refine kO hT hC ?_
 exact Vc.nil kM
 exact Xah kR
def Ya9 (r : Int) : AV := .sv (.int .i64 r)
def Ya8 (r : Int) : Xbl := []
theorem Xkh {p0 p1 p2 r} (h : Xep p0 p1 p2 = some r) : AC Tryz.prog 141 [.sv (.int .i64 p0), .sv (.int .i64 p1), .sv (.int .i64 p2)] [] (Ya9 r) (Ya8 r) := by
 refine Xae hT Tryz.func141 rfl fun C hC => ?_
 unfold Xep at h
 refine Xad ?_
 refine kO hT hC ?_
 refine kN ?_
 iterate 6 refine kO hT hC ?_
 exact Vc.nil (Xah kR)
def Ybl (r : Int) : AV := .sv (.int .i64 r)
def Ybk (r : Int) : Xbl := []
theorem Xkl {p0 p1 p2 r} (h : Xeu p0 p1 p2 = some r) : AC Tryz.prog 206 [.agg [.sv (.int .i64 p0.Wide), .sv (.int .i64 p0.High), .sv (.str p0.Dots)], .sv (.int .i64 p1), .sv (.int .i64 p2)] [] (Ybl r) (Ybk r) := by
 refine Xae hT Tryz.func206 rfl fun C hC => ?_
 unfold Xeu at h
 refine Xad ?_
 iterate 2 refine kO hT hC ?_
 refine Vc.nil ?_
 refine Xdw hm ?_
 iterate 6 refine kO hT hC ?_
 refine kC hC [] Tryz.call141 h (fun _ => Xkh) fun q1 h => ?_
 iterate 7 refine kO hT hC ?_
 refine kC hC [] Tryz.call141 h (fun _ => Xkh) fun q2 h => ?_
 refine kO hT hC ?_
 refine kQ hT hC h fun h => ?_
 iterate 2 refine kO hT hC ?_
 exact kD (Xah kR)
def Xxa (r : (List Int)) : AV := .own 16
def Xw9 (r : (List Int)) : Xbl := [(16, .ints .i64 r)]
theorem Xp5 {p0 p1 p2 r} (h : Xgu p0 p1 p2 = some r) : AC Tryz.prog 130 [.agg [.sv (.int .i64 p0.Wide), .sv (.int .i64 p0.High), .sv (.str p0.Dots)], .sv (.int .i64 p1), .sv (.int .i64 p2)] [] (Xxa r) (Xw9 r) := by
 refine Xae hT Tryz.func130 rfl fun C hC => ?_
 unfold Xgu at h
 refine Xad ?_
 iterate 2 refine kO hT hC ?_
 refine kN ?_
 obtain ⟨hq, h⟩ := Xa7 h
 refine Yc7 hT hC rfl rfl rfl rfl ⟨hq.1, hq.2.1, hq.2.2, by decide⟩ ?_
 refine kO hT hC ?_
 refine Vc.nil (Xa2 (Xad ?_))
 refine kO hT hC ?_
 refine Vc.nil ?_
 refine kL [1,2,3,7,11] [48,160] [_,_,_,_,_] [_,_] ?_
 refine kX h (fun v10 => ([(11, .sv (.int .i64 v10.1))], [(160, some (.ints .i64 v10.2))])) (fun v20 => ([(1, .any), (2, .any), (3, .any), (11, .any)], [(160, some (.ints .i64 v20)), (48, none)])) (kW hC []) (fun v10 s h => ?_) fun v20 h => ?_
 unfold Xes at h
 refine Xad ?_
 refine kO hT hC ?_
 refine Vc.nil (Xa2 ?_)
 refine kS h ?_ ?_ <;> intro b9 h
 refine kt b9 (Xag (Xaf (Xa2 (Xau (Xad ?_)))))
 iterate 2 refine kO hT hC ?_
 refine kN ?_
 refine kO hT hC ?_
 refine Vc.nil ?_
 refine kL [1,2,3,7,8,11,14] [48,160] [_,_,_,_,_,_,_] [_,_] ?_
 refine kX h (fun v23 => ([(14, .sv (.int .i64 v23.1))], [(160, some (.ints .i64 v23.2))])) (fun v26 => ([(8, .any), (14, .any)], [(160, some (.ints .i64 v26))])) (kW hC []) (fun v23 s h => ?_) fun v26 h => ?_
 unfold Xet at h
 refine Xad ?_
 refine kO hT hC ?_
 refine Vc.nil (Xa2 ?_)
 refine kS h ?_ ?_ <;> intro b12 h
 refine kt b12 (Xag (Xaf (Xa2 (Xau (Xad ?_)))))
 iterate 2 refine kO hT hC ?_
 refine Vc.nil (Xac ?_)
 iterate 8 refine kO hT hC ?_
 refine kC hC [] Tryz.call206 h (fun _ => Xkl) fun q27 h => ?_
 refine kO hT hC ?_
 refine kT hT hC h fun h => ?_
 refine kO hT hC ?_
 refine Vc.nil (Xax (Xaf (Xac ?_)))
 iterate 2 refine kO hT hC ?_
 refine Vc.nil ?_
 obtain rfl := kj h
 exact Ylz (kW hC [(160, 432)])
 exact kf b12 (Xaw (Xbd ku))
 refine Xax (Xaf (Xac ?_))
 iterate 2 refine kO hT hC ?_
 exact Vc.nil kG
 exact kf b9 (Xaw (Xbd ku))
 refine Xaf (Xad ?_)
 iterate 2 refine kO hT hC ?_
 refine Vc.nil (Xah ?_)
 obtain rfl := kj h
 exact Xdx (τ := ⟨[(6, .own 16)], [(16, some (.ints .i64 v20))]⟩) (kW hC [(16, 160)]) rfl ⟨rfl, trivial⟩
def Xxp (r : (List Int)) : AV := .own 16
def Xxo (r : (List Int)) : Xbl := [(16, .ints .i64 r)]
theorem Xzn {p0 r} (h : Xit p0 = some r) : AC Tryz.prog 266 [.sv (.int .i64 p0)] [] (Xxp r) (Xxo r) := by
 refine Xae hT Tryz.func266 rfl fun C hC => ?_
 unfold Xit at h
 refine Xad ?_
 refine kO hT hC ?_
 refine kN ?_
 iterate 2 refine kO hT hC ?_
 refine Vc.nil (Xa2 (Xad ?_))
 refine kO hT hC ?_
 refine Vc.nil ?_
 refine kL [0,3,4] [128] [_,_,_] [_] ?_
 refine kX h (fun v16 => ([(4, .sv (.int .i64 v16.1))], [(128, some (.ints .i64 v16.2))])) (fun v32 => ([(0, .any), (4, .any)], [(128, some (.ints .i64 v32))])) (kW hC []) (fun v16 s h => ?_) fun v32 h => ?_
 unfold Xg2 at h
 refine Xa2 (Xad ?_)
 iterate 5 refine kO hT hC ?_
 refine Vc.nil ?_
 refine kS h ?_ ?_ <;> intro b27 h
 refine kt b27 (Xag (Xaf (Xa2 (Xau (Xad ?_)))))
 refine kO hT hC ?_
 refine Vc.nil ?_
 refine kL [0,3,4,5] [128] [_,_,_,_] [_] ?_
 refine kX h (fun v37 => ([(5, .sv (.int .i64 v37.1))], [(128, some (.ints .i64 v37.2))])) (fun v42 => ([(5, .any)], [(128, some (.ints .i64 v42))])) (kW hC []) (fun v37 s h => ?_) fun v42 h => ?_
 unfold Xkr at h
 refine Xa2 (Xad ?_)
 iterate 3 refine kO hT hC ?_
 refine Vc.nil ?_
 refine kS h ?_ ?_ <;> intro b36 h
 refine kt b36 (Xag (Xaf ?_))
 refine kL [0,3,4,5] [128] [_,_,_,_] [_] ?_
 refine kA h (fun v43 => ([], [(128, some (.ints .i64 v43))])) (fun v43 h => ?_) fun v43 h => ?_
 refine Xau (Xad ?_)
 iterate 2 refine kO hT hC ?_
 refine Vc.nil ?_
 refine kL [0,3,4,5,6] [128] [_,_,_,_,_] [_] ?_
 refine kA h (fun v44 => ([(6, .sv (.int .i64 v44))], [])) (fun v44 h => ?_) fun v44 h => ?_
 refine Xad ?_
 refine kO hT hC ?_
 refine kQ hT hC h fun h => ?_
 refine kO hT hC ?_
 refine Vc.nil ?_
 refine kS h ?_ ?_ <;> intro b37 h
 refine kt b37 (Xac ?_)
 iterate 4 refine kO hT hC ?_
 exact Vc.nil kM
 exact kf b37 (Xag kM)
 refine Xad ?_
 iterate 4 refine kO hT hC ?_
 refine Vc.nil ?_
 refine kL [0,3,4,5,6,7] [128] [_,_,_,_,_,_] [_] ?_
 refine kA h (fun v45 => ([(38, .sv (.bool v45))], [])) (fun v45 h => ?_) fun v45 h => ?_
 refine Xac ?_
 iterate 4 refine kO hT hC ?_
 refine kS h ?_ ?_ <;> intro b38 h
 iterate 3 refine kI hT hC b38 ?_
 refine kP hC true b38 ?_
 exact Vc.nil kM
 iterate 3 refine kF hC b38 ?_
 refine kP hC false b38 ?_
 exact Vc.nil kM
 refine kS h ?_ ?_ <;> intro b39 h
 refine kt b39 (Xac ?_)
 iterate 7 refine kO hT hC ?_
 refine kT hT hC h fun h => ?_
 refine kO hT hC ?_
 refine Vc.nil (Xax ?_)
 obtain rfl := kj h
 exact Xf5 (kW hC [(128, 736)])
 exact kf b39 (Xag (Xax kM))
 refine Xac ?_
 iterate 3 refine kO hT hC ?_
 exact Vc.nil kG
 exact kf b36 (Xaw (Xbd ku))
 refine Xax (Xaf (Xac ?_))
 iterate 3 refine kO hT hC ?_
 exact Vc.nil kG
 exact kf b27 (Xaw (Xbd ku))
 refine Xaf (Xad ?_)
 iterate 2 refine kO hT hC ?_
 refine Vc.nil (Xah ?_)
 obtain rfl := kj h
 exact Xdx (τ := ⟨[(2, .own 16)], [(16, some (.ints .i64 v32))]⟩) (kW hC [(16, 128)]) rfl ⟨rfl, trivial⟩
def Xxk (r : ((List Int) × Bool)) : AV := .tup [.own 16, .sv (.bool r.2)]
def Xxj (r : ((List Int) × Bool)) : Xbl := [(16, .ints .i64 r.1)]
theorem Xlp {p0 p1 r} (h : Xe5 p0 p1 = some r) : AC Tryz.prog 273 [.sv (.int .i64 p0), .sv (.ints .i64 p1)] [] (Xxk r) (Xxj r) := by
 refine Xae hT Tryz.func273 rfl fun C hC => ?_
 unfold Xe5 at h
 refine Xad ?_
 iterate 2 refine kO hT hC ?_
 refine Vc.nil (Xa2 ?_)
 refine kL [0,1] [] [_,_] [] ?_
 refine kA h (fun v1 => ([(22, .sv (.bool v1))], [])) (fun v1 h => ?_) fun v1 h => ?_
 refine Xac ?_
 iterate 3 refine kO hT hC ?_
 refine kS h ?_ ?_ <;> intro b1 h
 iterate 2 refine kI hT hC b1 ?_
 refine kP hC true b1 ?_
 refine kO hT hC ?_
 refine kS h ?_ ?_ <;> intro b2 h
 iterate 6 refine kF hC b2 ?_
 refine kP hC true b2 ?_
 exact Vc.nil kM
 iterate 6 refine kI hT hC b2 ?_
 refine kP hC false b2 ?_
 exact Vc.nil kM
 iterate 2 refine kF hC b1 ?_
 refine kP hC false b1 ?_
 refine kO hT hC ?_
 iterate 6 refine kI hT hC rfl ?_
 refine kO hT hC ?_
 exact Vc.nil kM
 refine kS h ?_ ?_ <;> intro b3 h
 refine kt b3 (Xad ?_)
 iterate 3 refine kO hT hC ?_
 refine Vc.nil (Xah (Xa4 ?_))
 obtain rfl := kj h
 exact Xdx (τ := ⟨[(4, .own 16), (5, .sv (.bool false))], [(16, some (.ints .i64 ([] : List Int)))]⟩) (kW hC [(16, 368)]) rfl ⟨rfl, trivial⟩
 refine kf b3 (Xag (Xaf (Xad ?_)))
 iterate 2 refine kO hT hC ?_
 obtain ⟨hq, h⟩ := Xa7 h
 refine Yc7 hT hC rfl rfl rfl rfl ⟨hq.1, hq.2.1, hq.2.2, by decide⟩ ?_
 refine kO hT hC ?_
 refine Vc.nil (Xa2 (Xad ?_))
 refine kO hT hC ?_
 refine kC hC [(16, 448)] Tryz.call266 h (fun _ => Xzn) fun q2 h => ?_
 iterate 2 refine kO hT hC ?_
 refine Vc.nil ?_
 refine kL [1,6,28,29,30] [416,448] [_,_,_,_,_] [_,_] ?_
 refine kX h (fun v4 => ([(30, .sv (.int .i64 v4.1))], [(416, some (.ints .i64 v4.2))])) (fun v6 => ([(1, .any), (28, .any), (29, .any), (30, .any)], [(416, some (.ints .i64 v6)), (448, none)])) (kW hC []) (fun v4 s h => ?_) fun v6 h => ?_
 unfold Xh0 at h
 refine Xad ?_
 refine kO hT hC ?_
 refine Vc.nil (Xa2 ?_)
 refine kS h ?_ ?_ <;> intro b6 h
 refine kt b6 (Xag (Xaf (Xa2 (Xau (Xad ?_)))))
 refine kO hT hC ?_
 iterate 2 refine kQ hT hC h fun h => ?_
 iterate 2 refine kO hT hC ?_
 refine Vc.nil (Xac ?_)
 iterate 4 refine kO hT hC ?_
 refine kQ hT hC h fun h => ?_
 refine kO hT hC ?_
 iterate 2 refine kQ hT hC h fun h => ?_
 refine Vc.nil (Xax (Xaf (Xac ?_)))
 iterate 2 refine kO hT hC ?_
 exact Vc.nil kG
 exact kf b6 (Xaw (Xbd ku))
 refine Xaf (Xad ?_)
 iterate 3 refine kO hT hC ?_
 refine Vc.nil (Xah ?_)
 obtain rfl := kj h
 exact Xdx (τ := ⟨[(4, .own 16), (5, .sv (.bool true))], [(16, some (.ints .i64 v6))]⟩) (kW hC [(16, 416)]) rfl ⟨rfl, trivial⟩
def Ye1 (r : Int) : AV := .sv (.int .i64 r)
def Ye0 (r : Int) : Xbl := []
theorem Yh7 {p0 r} (h : Xlo p0 = some r) : AC Tryz.prog 268 [.sv (.int .i64 p0)] [] (Ye1 r) (Ye0 r) := by
 refine Xae hT Tryz.func268 rfl fun C hC => ?_
 unfold Xlo at h
 refine Xad ?_
 refine kO hT hC ?_
 refine Vc.nil (Xa2 (Xad ?_))
 refine kO hT hC ?_
 refine kC hC [] Tryz.call116 h (fun _ => Xak) fun q1 h => ?_
 refine kO hT hC ?_
 refine Vc.nil ?_
 refine kS h ?_ ?_ <;> intro b1 h
 refine kt b1 (Xad ?_)
 refine kO hT hC ?_
 exact Vc.nil (Xah (Xa4 kR))
 refine kf b1 (Xag (Xaf (Xad ?_)))
 iterate 2 refine kO hT hC ?_
 iterate 3 refine kQ hT hC h fun h => ?_
 refine kO hT hC ?_
 iterate 2 refine kQ hT hC h fun h => ?_
 refine kO hT hC ?_
 exact Vc.nil (Xah kR)
def Xw7 (r : Int) : AV := .sv (.int .i64 r)
def Xw6 (r : Int) : Xbl := []
theorem Xy9 {p0 p1 r} (h : Xip p0 p1 = some r) : AC Tryz.prog 274 [.sv (.int .i64 p0), .sv (.int .i64 p1)] [] (Xw7 r) (Xw6 r) := by
 refine Xae hT Tryz.func274 rfl fun C hC => ?_
 unfold Xip at h
 refine Xad ?_
 refine kO hT hC ?_
 refine Vc.nil (Xa2 (Xad ?_))
 refine kO hT hC ?_
 refine kC hC [] Tryz.call116 h (fun _ => Xak) fun q1 h => ?_
 refine kO hT hC ?_
 refine Vc.nil ?_
 refine kS h ?_ ?_ <;> intro b1 h
 refine kt b1 (Xad ?_)
 refine kO hT hC ?_
 exact Vc.nil (Xah (Xa4 kR))
 refine kf b1 (Xag (Xaf (Xad ?_)))
 iterate 2 refine kO hT hC ?_
 refine kC hC [] Tryz.call268 h (fun _ => Yh7) fun q2 h => ?_
 iterate 2 refine kO hT hC ?_
 exact Vc.nil (Xah kR)
def Yex (r : Int) : AV := .sv (.int .i64 r)
def Yew (r : Int) : Xbl := []
theorem Xun {p0 p1 r} (h : Xln p0 p1 = some r) : AC Tryz.prog 298 [.sv (.int .i64 p0), .sv (.int .i64 p1)] [] (Yex r) (Yew r) := by
 refine Xae hT Tryz.func298 rfl fun C hC => ?_
 unfold Xln at h
 refine Xad ?_
 refine kO hT hC ?_
 refine Vc.nil (Xa2 ?_)
 refine kL [0,1] [] [_,_] [] ?_
 refine kA h (fun v1 => ([(13, .sv (.bool v1))], [])) (fun v1 h => ?_) fun v1 h => ?_
 refine Xac ?_
 refine kO hT hC ?_
 refine kC hC [] Tryz.call116 h (fun _ => Xak) fun q2 h => ?_
 iterate 2 refine kO hT hC ?_
 refine kS h ?_ ?_ <;> intro b1 h
 refine kI hT hC (kn b1) ?_
 refine kE hC (kn b1) [] Tryz.call116 h (fun _ => Xak) fun q3 h => ?_
 refine kI hT hC (kn b1) ?_
 refine kP hC false (kn b1) ?_
 exact Vc.nil kM
 iterate 3 refine kF hC (kn b1) ?_
 refine kP hC true (kn b1) ?_
 exact Vc.nil kM
 refine kS h ?_ ?_ <;> intro b2 h
 refine kt b2 (Xad ?_)
 refine kO hT hC ?_
 exact Vc.nil (Xah (Xa4 kR))
 refine kf b2 (Xag (Xaf (Xad ?_)))
 iterate 4 refine kO hT hC ?_
 refine Vc.nil (Xa2 (Xad ?_))
 iterate 3 refine kO hT hC ?_
 refine kQ hT hC h fun h => ?_
 iterate 3 refine kO hT hC ?_
 refine kQ hT hC h fun h => ?_
 iterate 2 refine kO hT hC ?_
 refine kQ hT hC h fun h => ?_
 refine kO hT hC ?_
 refine Vc.nil ?_
 refine kS h ?_ ?_ <;> intro b3 h
 refine kt b3 (Xad ?_)
 refine kO hT hC ?_
 exact Vc.nil (Xah (Xa4 kR))
 refine kf b3 (Xag (Xaf (Xad ?_)))
 refine kO hT hC ?_
 exact Vc.nil (Xah kR)
def Yll (r : (List Int)) : AV := .own 16
def Ylk (r : (List Int)) : Xbl := [(16, .ints .i64 r)]
theorem Yn1 {p0 r} (h : Xsi p0 = some r) : AC Tryz.prog 267 [.sv (.ints .i64 p0)] [] (Yll r) (Ylk r) := by
 refine Xae hT Tryz.func267 rfl fun C hC => ?_
 unfold Xsi at h
 refine Xad ?_
 refine kO hT hC ?_
 refine kN ?_
 obtain ⟨hq, h⟩ := Xa7 h
 refine Yc7 hT hC rfl rfl rfl rfl ⟨hq.1, hq.2.1, hq.2.2, by decide⟩ ?_
 refine kO hT hC ?_
 refine Vc.nil (Xa2 (Xad ?_))
 refine kO hT hC ?_
 refine Vc.nil ?_
 refine kL [0,3,12] [176] [_,_,_] [_] ?_
 refine kX h (fun v31 => ([(12, .sv (.int .i64 v31.1))], [(176, some (.ints .i64 v31.2))])) (fun v62 => ([(0, .any), (12, .any)], [(176, some (.ints .i64 v62))])) (kW hC []) (fun v31 s h => ?_) fun v62 h => ?_
 unfold Xq6 at h
 refine Xad ?_
 refine kO hT hC ?_
 refine Vc.nil (Xa2 ?_)
 refine kS h ?_ ?_ <;> intro b27 h
 refine kt b27 (Xag (Xaf (Xa2 (Xau (Xad ?_)))))
 iterate 2 refine kO hT hC ?_
 refine kN ?_
 refine kO hT hC ?_
 refine Vc.nil ?_
 refine kL [0,3,4,12,15] [176] [_,_,_,_,_] [_] ?_
 refine kX h (fun v72 => ([(15, .sv (.int .i64 v72.1))], [(176, some (.ints .i64 v72.2))])) (fun v82 => ([(4, .any), (15, .any)], [(176, some (.ints .i64 v82))])) (kW hC []) (fun v72 s h => ?_) fun v82 h => ?_
 unfold Xq7 at h
 refine Xad ?_
 refine kO hT hC ?_
 refine Vc.nil (Xa2 ?_)
 refine kS h ?_ ?_ <;> intro b36 h
 refine kt b36 (Xag (Xaf (Xa2 (Xau (Xad ?_)))))
 iterate 2 refine kO hT hC ?_
 refine kN ?_
 refine kO hT hC ?_
 refine Vc.nil ?_
 refine kL [0,3,4,5,12,15,18] [176] [_,_,_,_,_,_,_] [_] ?_
 refine kX h (fun v85 => ([(18, .sv (.int .i64 v85.1))], [(176, some (.ints .i64 v85.2))])) (fun v88 => ([(5, .any), (18, .any)], [(176, some (.ints .i64 v88))])) (kW hC []) (fun v85 s h => ?_) fun v88 h => ?_
 unfold Xkt at h
 refine Xad ?_
 refine kO hT hC ?_
 refine Vc.nil (Xa2 ?_)
 refine kS h ?_ ?_ <;> intro b39 h
 refine kt b39 (Xag (Xaf (Xa2 (Xau (Xad ?_)))))
 iterate 2 refine kO hT hC ?_
 refine Vc.nil ?_
 refine Xf6 hm ?_
 iterate 10 refine kO hT hC ?_
 iterate 2 refine kQ hT hC h fun h => ?_
 iterate 2 refine kO hT hC ?_
 refine kC hC [] Tryz.call298 h (fun _ => Xun) fun q89 h => ?_
 iterate 5 refine kO hT hC ?_
 refine kQ hT hC h fun h => ?_
 iterate 3 refine kO hT hC ?_
 iterate 2 refine kQ hT hC h fun h => ?_
 refine kD (Xax (Xaf (Xac ?_)))
 iterate 2 refine kO hT hC ?_
 exact Vc.nil kG
 exact kf b39 (Xaw (Xbd ku))
 refine Xax (Xaf (Xac ?_))
 iterate 2 refine kO hT hC ?_
 exact Vc.nil kG
 exact kf b36 (Xaw (Xbd ku))
 refine Xax (Xaf (Xac ?_))
 iterate 2 refine kO hT hC ?_
 exact Vc.nil kG
 exact kf b27 (Xaw (Xbd ku))
 refine Xaf (Xad ?_)
 obtain ⟨hq, h⟩ := Xa7 h
 refine Yc7 hT hC rfl rfl rfl rfl ⟨hq.1, hq.2.1, hq.2.2, by decide⟩ ?_
 refine kO hT hC ?_
 refine Vc.nil (Xa2 (Xad ?_))
 refine kO hT hC ?_
 refine Vc.nil ?_
 refine kL [3,7,50] [176,784] [_,_,_] [_,_] ?_
 refine kX h (fun v123 => ([(50, .sv (.int .i64 v123.1))], [(784, some (.ints .i64 v123.2))])) (fun v154 => ([(3, .any), (50, .any)], [(784, some (.ints .i64 v154)), (176, none)])) (kW hC []) (fun v123 s h => ?_) fun v154 h => ?_
 unfold Xpm at h
 refine Xad ?_
 refine kO hT hC ?_
 refine Vc.nil (Xa2 ?_)
 refine kS h ?_ ?_ <;> intro b66 h
 refine kt b66 (Xag (Xaf (Xa2 (Xau (Xad ?_)))))
 iterate 2 refine kO hT hC ?_
 refine kN ?_
 refine kO hT hC ?_
 refine Vc.nil ?_
 refine kL [3,7,8,50,53] [176,784] [_,_,_,_,_] [_,_] ?_
 refine kX h (fun v164 => ([(53, .sv (.int .i64 v164.1))], [(784, some (.ints .i64 v164.2))])) (fun v174 => ([(8, .any), (53, .any)], [(784, some (.ints .i64 v174))])) (kW hC []) (fun v164 s h => ?_) fun v174 h => ?_
 unfold Xpn at h
 refine Xad ?_
 refine kO hT hC ?_
 refine Vc.nil (Xa2 ?_)
 refine kS h ?_ ?_ <;> intro b75 h
 refine kt b75 (Xag (Xaf (Xa2 (Xau (Xad ?_)))))
 iterate 2 refine kO hT hC ?_
 refine kN ?_
 refine kO hT hC ?_
 refine Vc.nil ?_
 refine kL [3,7,8,9,50,53,56] [176,784] [_,_,_,_,_,_,_] [_,_] ?_
 refine kX h (fun v177 => ([(56, .sv (.int .i64 v177.1))], [(784, some (.ints .i64 v177.2))])) (fun v180 => ([(9, .any), (56, .any)], [(784, some (.ints .i64 v180))])) (kW hC []) (fun v177 s h => ?_) fun v180 h => ?_
 unfold Xiu at h
 refine Xad ?_
 refine kO hT hC ?_
 refine Vc.nil (Xa2 ?_)
 refine kS h ?_ ?_ <;> intro b78 h
 refine kt b78 (Xag (Xaf (Xa2 (Xau (Xad ?_)))))
 iterate 2 refine kO hT hC ?_
 refine Vc.nil ?_
 refine Xf6 hm ?_
 iterate 10 refine kO hT hC ?_
 iterate 2 refine kQ hT hC h fun h => ?_
 iterate 2 refine kO hT hC ?_
 refine kC hC [] Tryz.call298 h (fun _ => Xun) fun q181 h => ?_
 iterate 5 refine kO hT hC ?_
 iterate 2 refine kQ hT hC h fun h => ?_
 iterate 2 refine kO hT hC ?_
 iterate 2 refine kQ hT hC h fun h => ?_
 refine kD (Xax (Xaf (Xac ?_)))
 iterate 2 refine kO hT hC ?_
 exact Vc.nil kG
 exact kf b78 (Xaw (Xbd ku))
 refine Xax (Xaf (Xac ?_))
 iterate 2 refine kO hT hC ?_
 exact Vc.nil kG
 exact kf b75 (Xaw (Xbd ku))
 refine Xax (Xaf (Xac ?_))
 iterate 2 refine kO hT hC ?_
 exact Vc.nil kG
 exact kf b66 (Xaw (Xbd ku))
 refine Xaf (Xad ?_)
 iterate 2 refine kO hT hC ?_
 refine Vc.nil (Xah ?_)
 obtain rfl := kj h
 exact Xdx (τ := ⟨[(2, .own 16)], [(16, some (.ints .i64 v154))]⟩) (kW hC [(16, 784)]) rfl ⟨rfl, trivial⟩
def Yid (r : Int) : AV := .sv (.int .i64 r)
def Yic (r : Int) : Xbl := []
theorem Xq3 {p0 p1 r} (h : Xn6 p0 p1 = some r) : AC Tryz.prog 303 [.sv (.int .i64 p0), .sv (.int .i64 p1)] [] (Yid r) (Yic r) := by
 refine Xae hT Tryz.func303 rfl fun C hC => ?_
 unfold Xn6 at h
 refine Xad ?_
 refine kO hT hC ?_
 refine kN ?_
 iterate 2 refine kO hT hC ?_
 refine kQ hT hC h fun h => ?_
 refine kO hT hC ?_
 refine Vc.nil ?_
 refine kL [0,1,5] [] [_,_,_] [] ?_
 refine kA h (fun v1 => ([(5, .sv (.int .i64 v1)), (0, .any), (1, .any)], [])) (fun v1 h => ?_) fun v1 h => ?_
 refine Xad ?_
 iterate 2 refine kO hT hC ?_
 refine kQ hT hC h fun h => ?_
 refine kO hT hC ?_
 refine Vc.nil ?_
 refine kS h ?_ ?_ <;> intro b1 h
 refine kt b1 (Xac ?_)
 iterate 3 refine kO hT hC ?_
 exact Vc.nil kM
 exact kf b1 (Xag kM)
 refine Xad ?_
 iterate 2 refine kO hT hC ?_
 exact Vc.nil (Xah kR)
def Ycb (r : ((List Int) × (List Int))) : AV := .own 0
def Yca (r : ((List Int) × (List Int))) : Xbl := [(0, .ints .i64 r.2)]
theorem Xsh {p0 r} (h : Xjx p0 = some r) : AC Tryz.prog 300 [.own 0] [(0, .ints .i64 p0)] (Ycb r) (Yca r) := by
 refine Xae hT Tryz.func300 rfl fun C hC => ?_
 unfold Xjx at h
 refine Xad ?_
 refine kO hT hC ?_
 refine Vc.nil (Xa2 (Xad ?_))
 iterate 3 refine kO hT hC ?_
 refine Vc.nil ?_
 refine kL [0,5,6,7] [0] [_,_,_,_] [_] ?_
 refine kX h (fun v3 => ([(7, .sv (.int .i64 v3.1))], [(0, some (.ints .i64 v3.2))])) (fun v6 => ([(5, .any), (6, .any), (7, .any)], [(0, some (.ints .i64 v6))])) (kW hC []) (fun v3 s h => ?_) fun v6 h => ?_
 unfold Xof at h
 refine Xad ?_
 refine kO hT hC ?_
 refine Vc.nil (Xa2 ?_)
 refine kS h ?_ ?_ <;> intro b3 h
 refine kt b3 (Xag (Xaf (Xa2 (Xau (Xad ?_)))))
 refine kO hT hC ?_
 iterate 2 refine kQ hT hC h fun h => ?_
 iterate 2 refine kO hT hC ?_
 refine Vc.nil (Xac ?_)
 iterate 4 refine kO hT hC ?_
 refine kC hC [] Tryz.call303 h (fun _ => Xq3) fun q7 h => ?_
 iterate 2 refine kQ hT hC h fun h => ?_
 refine Vc.nil (Xax (Xaf (Xac ?_)))
 iterate 2 refine kO hT hC ?_
 exact Vc.nil kG
 exact kf b3 (Xaw (Xbd ku))
 refine Xaf (Xad ?_)
 iterate 2 refine kO hT hC ?_
 refine Vc.nil (Xah ?_)
 obtain rfl := kj h
 exact Xdx (Xif.refl _) rfl ⟨rfl, trivial⟩
def Xw4 (r : (List Int)) : AV := .own 16
def Xw3 (r : (List Int)) : Xbl := [(16, .ints .i64 r)]
theorem Xy5 {p0 r} (h : Xio p0 = some r) : AC Tryz.prog 275 [.sv (.ints .i64 p0)] [] (Xw4 r) (Xw3 r) := by
 refine Xae hT Tryz.func275 rfl fun C hC => ?_
 unfold Xio at h
 refine Xad ?_
 refine kO hT hC ?_
 refine Vc.nil (Xa2 (Xad ?_))
 refine kO hT hC ?_
 refine kC hC [] Tryz.call197 h (fun _ => Xh1) fun q1 h => ?_
 refine kO hT hC ?_
 refine Vc.nil ?_
 refine kS h ?_ ?_ <;> intro b1 h
 refine kt b1 (Xad ?_)
 iterate 2 refine kO hT hC ?_
 refine Vc.nil (Xah (Xa4 ?_))
 obtain rfl := kj h
 exact Xdx (τ := ⟨[(2, .own 16)], [(16, some (.ints .i64 ([] : List Int)))]⟩) (kW hC [(16, 96)]) rfl ⟨rfl, trivial⟩
 refine kf b1 (Xag (Xaf (Xad ?_)))
 refine kO hT hC ?_
 refine kC hC [(16, 128)] Tryz.call267 h (fun _ => Yn1) fun q2 h => ?_
 refine kC hC [(0, 128)] Tryz.call300 h (fun _ => Xsh) fun q3 h => ?_
 refine kO hT hC ?_
 refine Vc.nil (Xah ?_)
 obtain rfl := kj h
 exact Xdx (τ := ⟨[(2, .own 16)], [(16, some (.ints .i64 q3.2))]⟩) (kW hC [(16, 128)]) rfl ⟨rfl, trivial⟩
def Yeo (r : Int) : AV := .sv (.int .i64 r)
def Yen (r : Int) : Xbl := []
theorem Yhy {p0 r} (h : Xvl p0 = some r) : AC Tryz.prog 299 [.sv (.int .i64 p0)] [] (Yeo r) (Yen r) := by
 refine Xae hT Tryz.func299 rfl fun C hC => ?_
 unfold Xvl at h
 refine Xad ?_
 refine kO hT hC ?_
 refine Vc.nil (Xa2 (Xad ?_))
 refine kO hT hC ?_
 refine kC hC [] Tryz.call116 h (fun _ => Xak) fun q1 h => ?_
 refine kO hT hC ?_
 refine Vc.nil ?_
 refine kS h ?_ ?_ <;> intro b1 h
 refine kt b1 (Xad ?_)
 refine kO hT hC ?_
 exact Vc.nil (Xah (Xa4 kR))
 refine kf b1 (Xag (Xaf (Xad ?_)))
 refine kO hT hC ?_
 iterate 2 refine kQ hT hC h fun h => ?_
 refine kO hT hC ?_
 iterate 2 refine kQ hT hC h fun h => ?_
 iterate 2 refine kO hT hC ?_
 refine Vc.nil (Xa2 (Xau ?_))
 refine kL [3,4] [] [_,_] [] ?_
 refine kA h (fun v2 => ([(14, .sv (.bool v2))], [])) (fun v2 h => ?_) fun v2 h => ?_
 refine Xac ?_
 iterate 3 refine kO hT hC ?_
 refine kS h ?_ ?_ <;> intro b2 h
 iterate 2 refine kI hT hC b2 ?_
 refine kP hC true b2 ?_
 refine kO hT hC ?_
 exact Vc.nil kM
 iterate 2 refine kF hC b2 ?_
 refine kP hC false b2 ?_
 refine kO hT hC ?_
 exact Vc.nil kM
 refine kS h ?_ ?_ <;> intro b3 h
 refine kt b3 (Xad ?_)
 refine kO hT hC ?_
 exact Vc.nil (Xah (Xg6 (Xa4 kR)))
 refine kf b3 ?_
 refine kL [3,4] [] [_,_] [] ?_
 refine kA h (fun v3 => ([(21, .sv (.bool v3)), (3, .any), (4, .any)], [])) (fun v3 h => ?_) fun v3 h => ?_
 refine Xac ?_
 iterate 3 refine kO hT hC ?_
 refine kS h ?_ ?_ <;> intro b4 h
 iterate 2 refine kI hT hC b4 ?_
 refine kP hC true b4 ?_
 refine kO hT hC ?_
 exact Vc.nil kM
 iterate 2 refine kF hC b4 ?_
 refine kP hC false b4 ?_
 refine kO hT hC ?_
 exact Vc.nil kM
 refine kS h ?_ ?_ <;> intro b5 h
 refine kt b5 (Xad ?_)
 refine kO hT hC ?_
 exact Vc.nil (Xah (Xg6 (Xa4 kR)))
 refine kf b5 (Xag (Xax (Xaf (Xad ?_))))
 refine kO hT hC ?_
 exact Vc.nil (Xah kR)
def Ybt (r : Int) : AV := .sv (.int .i64 r)
def Ybs (r : Int) : Xbl := []
theorem Yev {p0 p1 r} (h : Xmw p0 p1 = some r) : AC Tryz.prog 301 [.sv (.int .i64 p0), .sv (.int .i64 p1)] [] (Ybt r) (Ybs r) := by
 refine Xae hT Tryz.func301 rfl fun C hC => ?_
 unfold Xmw at h
 refine Xad ?_
 refine kO hT hC ?_
 refine Vc.nil (Xa2 ?_)
 refine kL [0,1] [] [_,_] [] ?_
 refine kA h (fun v1 => ([(13, .sv (.bool v1))], [])) (fun v1 h => ?_) fun v1 h => ?_
 refine Xac ?_
 refine kO hT hC ?_
 refine kC hC [] Tryz.call116 h (fun _ => Xak) fun q2 h => ?_
 iterate 2 refine kO hT hC ?_
 refine kS h ?_ ?_ <;> intro b1 h
 refine kI hT hC (kn b1) ?_
 refine kE hC (kn b1) [] Tryz.call116 h (fun _ => Xak) fun q3 h => ?_
 refine kI hT hC (kn b1) ?_
 refine kP hC false (kn b1) ?_
 exact Vc.nil kM
 iterate 3 refine kF hC (kn b1) ?_
 refine kP hC true (kn b1) ?_
 exact Vc.nil kM
 refine kS h ?_ ?_ <;> intro b2 h
 refine kt b2 (Xad ?_)
 refine kO hT hC ?_
 exact Vc.nil (Xah (Xa4 kR))
 refine kf b2 (Xag (Xaf (Xad ?_)))
 iterate 9 refine kO hT hC ?_
 refine Vc.nil ?_
 refine Xdw hm ?_
 refine kO hT hC ?_
 refine kQ hT hC h fun h => ?_
 refine kO hT hC ?_
 refine kC hC [] Tryz.call299 h (fun _ => Yhy) fun q4 h => ?_
 iterate 2 refine kQ hT hC h fun h => ?_
 obtain ⟨hq, h⟩ := Xa7 h
 refine Zb5 hT hC rfl rfl rfl rfl rfl rfl hq ?_
 refine kO hT hC ?_
 iterate 2 refine kQ hT hC h fun h => ?_
 refine kO hT hC ?_
 exact kD (Xah kR)
def Xxe (r : Int) : AV := .sv (.int .i64 r)
def Xxd (r : Int) : Xbl := []
theorem Xzc {p0 p1 p2 r} (h : Xiq p0 p1 p2 = some r) : AC Tryz.prog 276 [.sv (.int .i64 p0), .sv (.int .i64 p1), .sv (.int .i64 p2)] [] (Xxe r) (Xxd r) := by
 refine Xae hT Tryz.func276 rfl fun C hC => ?_
 unfold Xiq at h
 refine Xad ?_
 refine kO hT hC ?_
 refine Vc.nil (Xa2 (Xad ?_))
 refine kO hT hC ?_
 refine kC hC [] Tryz.call116 h (fun _ => Xak) fun q1 h => ?_
 refine kO hT hC ?_
 refine Vc.nil ?_
 refine kS h ?_ ?_ <;> intro b1 h
 refine kt b1 (Xad ?_)
 refine kO hT hC ?_
 exact Vc.nil (Xah (Xa4 kR))
 refine kf b1 (Xag (Xaf (Xad ?_)))
 iterate 3 refine kO hT hC ?_
 refine kC hC [] Tryz.call301 h (fun _ => Yev) fun q2 h => ?_
 iterate 2 refine kO hT hC ?_
 exact Vc.nil (Xah kR)
def Xvk (r : (Int × Int × Int × Int)) : AV := .agg [.sv (.int .i64 r.1), .sv (.int .i64 r.2.1), .sv (.int .i64 r.2.2.1), .sv (.int .i64 r.2.2.2)]
def Xvj (r : (Int × Int × Int × Int)) : Xbl := []
theorem Xo5 {p0 p1 p2 p3 r} (h : Xec p0 p1 p2 p3 = some r) : AC Tryz.prog 302 [.sv (.int .i64 p0), .sv (.int .i64 p1), .sv (.int .i64 p2), .sv (.int .i64 p3)] [] (Xvk r) (Xvj r) := by
 refine Xae hT Tryz.func302 rfl fun C hC => ?_
 unfold Xec at h
 refine Xad ?_
 refine kO hT hC ?_
 refine kN ?_
 iterate 7 refine kO hT hC ?_
 refine kC hC [] Tryz.call303 h (fun _ => Xq3) fun q1 h => ?_
 iterate 4 refine kO hT hC ?_
 refine kC hC [] Tryz.call303 h (fun _ => Xq3) fun q2 h => ?_
 iterate 5 refine kO hT hC ?_
 refine kN ?_
 iterate 14 refine kO hT hC ?_
 exact Vc.nil (Xah kR)
def Xlu (r : (List Int)) : AV := .own 16
def Xlt (r : (List Int)) : Xbl := [(16, .ints .i64 r)]
theorem Xm0 {p0 r} (h : Xct p0 = some r) : AC Tryz.prog 270 [.sv (.ints .i64 p0), .fn 302 []] [] (Xlu r) (Xlt r) := by
 refine Xae hT Tryz.func270 rfl fun C hC => ?_
 unfold Xct at h
 refine Xad ?_
 refine kO hT hC ?_
 refine kN ?_
 refine kO hT hC ?_
 refine kC hC [(16, 208)] Tryz.call146 h (fun _ => Xng) fun q1 h => ?_
 refine kO hT hC ?_
 refine Vc.nil (Xa2 (Xad ?_))
 refine kO hT hC ?_
 refine Vc.nil ?_
 refine kL [1,5,6] [208] [_,_,_] [_] ?_
 refine kX h (fun v4 => ([(6, .sv (.int .i64 v4.1))], [(208, some (.ints .i64 v4.2))])) (fun v7 => ([(6, .any)], [(208, some (.ints .i64 v7))])) (kW hC []) (fun v4 s h => ?_) fun v7 h => ?_
 unfold Xf4 at h
 refine Xa2 (Xad ?_)
 iterate 2 refine kO hT hC ?_
 refine Vc.nil ?_
 refine kS h ?_ ?_ <;> intro b3 h
 refine kt b3 (Xag (Xaf (Xa2 (Xau ?_))))
 refine Xdw hm ?_
 iterate 3 refine kO hT hC ?_
 iterate 2 refine kQ hT hC h fun h => ?_
 iterate 3 refine kO hT hC ?_
 iterate 2 refine kQ hT hC h fun h => ?_
 iterate 3 refine kO hT hC ?_
 iterate 2 refine kQ hT hC h fun h => ?_
 iterate 3 refine kO hT hC ?_
 iterate 2 refine kQ hT hC h fun h => ?_
 refine kC hC [] Tryz.call302 h (fun _ => Xo5) fun q8 h => ?_
 iterate 2 refine kO hT hC ?_
 refine kD ?_
 refine Xf6 hm ?_
 iterate 4 refine kO hT hC ?_
 refine kQ hT hC h fun h => ?_
 refine Zb2 hT hC rfl rfl rfl rfl rfl rfl rfl rfl rfl ?_
 obtain ⟨hq, h⟩ := Xa7 h
 refine Yyw hT hC rfl rfl rfl rfl rfl rfl rfl rfl rfl ⟨⟨trivial, hq.1⟩, hq.2⟩ ?_
 refine kD (Xax (Xaf (Xac ?_)))
 iterate 3 refine kO hT hC ?_
 exact Vc.nil kG
 exact kf b3 (Xaw (Xbd ku))
 refine Xaf (Xa2 (Xad ?_))
 refine kO hT hC ?_
 refine Vc.nil ?_
 refine kL [1,5,46] [208] [_,_,_] [_] ?_
 refine kX h (fun v17 => ([(46, .sv (.int .i64 v17.1))], [(208, some (.ints .i64 v17.2))])) (fun v25 => ([(1, .any), (46, .any)], [(208, some (.ints .i64 v25))])) (kW hC []) (fun v17 s h => ?_) fun v25 h => ?_
 unfold Xfl at h
 refine Xad ?_
 refine kO hT hC ?_
 refine Vc.nil (Xa2 ?_)
 refine kS h ?_ ?_ <;> intro b12 h
 refine kt b12 (Xag (Xaf (Xa2 (Xau (Xad ?_)))))
 iterate 2 refine kO hT hC ?_
 refine Vc.nil ?_
 refine Xdw hm ?_
 iterate 3 refine kO hT hC ?_
 iterate 2 refine kQ hT hC h fun h => ?_
 iterate 3 refine kO hT hC ?_
 iterate 2 refine kQ hT hC h fun h => ?_
 iterate 3 refine kO hT hC ?_
 iterate 2 refine kQ hT hC h fun h => ?_
 iterate 3 refine kO hT hC ?_
 iterate 2 refine kQ hT hC h fun h => ?_
 refine kC hC [] Tryz.call302 h (fun _ => Xo5) fun q26 h => ?_
 iterate 2 refine kO hT hC ?_
 refine kD (Xad ?_)
 iterate 2 refine kO hT hC ?_
 refine Vc.nil ?_
 refine kL [1,5,8,46,70,71] [208] [_,_,_,_,_,_] [_] ?_
 refine kX h (fun v28 => ([(71, .sv (.int .i64 v28.1))], [(208, some (.ints .i64 v28.2))])) (fun v30 => ([(8, .any), (70, .any), (71, .any)], [(208, some (.ints .i64 v30))])) (kW hC []) (fun v28 s h => ?_) fun v30 h => ?_
 unfold Xfm at h
 refine Xad ?_
 refine kO hT hC ?_
 refine Vc.nil (Xa2 ?_)
 refine kS h ?_ ?_ <;> intro b15 h
 refine kt b15 (Xag (Xaf (Xa2 (Xau (Xad ?_)))))
 refine kO hT hC ?_
 obtain ⟨hq, h⟩ := Xa7 h
 refine Zb3 hT hC rfl rfl rfl rfl rfl rfl rfl hq ?_
 iterate 2 refine kO hT hC ?_
 refine Vc.nil (Xac ?_)
 iterate 6 refine kO hT hC ?_
 iterate 2 refine kQ hT hC h fun h => ?_
 refine Vc.nil (Xax (Xaf (Xac ?_)))
 iterate 2 refine kO hT hC ?_
 exact Vc.nil kG
 exact kf b15 (Xaw (Xbd ku))
 refine Xax (Xaf (Xac ?_))
 iterate 2 refine kO hT hC ?_
 exact Vc.nil kG
 exact kf b12 (Xaw (Xbd ku))
 refine Xaf (Xad ?_)
 iterate 2 refine kO hT hC ?_
 refine Vc.nil (Xah ?_)
 obtain rfl := kj h
 exact Xdx (τ := ⟨[(4, .own 16)], [(16, some (.ints .i64 v25))]⟩) (kW hC [(16, 208)]) rfl ⟨rfl, trivial⟩
def Xy8 (r : (List Int)) : AV := .own 16
def Xy7 (r : (List Int)) : Xbl := [(16, .ints .i64 r)]
theorem Ybh {p0 r} (h : Xkk p0 = some r) : AC Tryz.prog 277 [.sv (.ints .i64 p0)] [] (Xy8 r) (Xy7 r) := by
 refine Xae hT Tryz.func277 rfl fun C hC => ?_
 unfold Xkk at h
 refine Xad ?_
 refine kO hT hC ?_
 refine Vc.nil (Xa2 (Xad ?_))
 refine kO hT hC ?_
 refine kC hC [] Tryz.call197 h (fun _ => Xh1) fun q1 h => ?_
 refine kO hT hC ?_
 refine Vc.nil ?_
 refine kS h ?_ ?_ <;> intro b1 h
 refine kt b1 (Xad ?_)
 iterate 2 refine kO hT hC ?_
 refine Vc.nil (Xah (Xa4 ?_))
 obtain rfl := kj h
 exact Xdx (τ := ⟨[(2, .own 16)], [(16, some (.ints .i64 ([] : List Int)))]⟩) (kW hC [(16, 96)]) rfl ⟨rfl, trivial⟩
 refine kf b1 (Xag (Xaf (Xad ?_)))
 refine kO hT hC ?_
 refine kC hC [(16, 128)] Tryz.call270 h (fun _ => Xm0) fun q2 h => ?_
 refine kC hC [(0, 128)] Tryz.call300 h (fun _ => Xsh) fun q3 h => ?_
 refine kO hT hC ?_
 refine Vc.nil (Xah ?_)
 obtain rfl := kj h
 exact Xdx (τ := ⟨[(2, .own 16)], [(16, some (.ints .i64 q3.2))]⟩) (kW hC [(16, 128)]) rfl ⟨rfl, trivial⟩
def Yb5 (r : (List Int)) : AV := .own 16
def Yb4 (r : (List Int)) : Xbl := [(16, .ints .i64 r)]
theorem Yfm {p0 r} (h : Xmz p0 = some r) : AC Tryz.prog 240 [.sv (.int .i64 p0)] [] (Yb5 r) (Yb4 r) := by
 refine Xae hT Tryz.func240 rfl fun C hC => ?_
 unfold Xmz at h
 refine Xad ?_
 refine kO hT hC ?_
 refine kN ?_
 iterate 2 refine kO hT hC ?_
 refine Vc.nil (Xa2 (Xad ?_))
 refine kO hT hC ?_
 refine Vc.nil ?_
 refine kL [0,3,7] [96] [_,_,_] [_] ?_
 refine kX h (fun v7 => ([(7, .sv (.int .i64 v7.1))], [(96, some (.ints .i64 v7.2))])) (fun v14 => ([(0, .any), (7, .any)], [(96, some (.ints .i64 v14))])) (kW hC []) (fun v7 s h => ?_) fun v14 h => ?_
 unfold Xje at h
 refine Xad ?_
 refine kO hT hC ?_
 refine Vc.nil (Xa2 ?_)
 refine kS h ?_ ?_ <;> intro b9 h
 refine kt b9 (Xag (Xaf (Xa2 (Xau (Xad ?_)))))
 iterate 2 refine kO hT hC ?_
 refine kN ?_
 refine kO hT hC ?_
 refine Vc.nil ?_
 refine kL [0,3,4,7,10] [96] [_,_,_,_,_] [_] ?_
 refine kX h (fun v16 => ([(10, .sv (.int .i64 v16.1))], [(96, some (.ints .i64 v16.2))])) (fun v18 => ([(4, .any), (10, .any)], [(96, some (.ints .i64 v18))])) (kW hC []) (fun v16 s h => ?_) fun v18 h => ?_
 unfold Xnh at h
 refine Xad ?_
 refine kO hT hC ?_
 refine Vc.nil (Xa2 ?_)
 refine kS h ?_ ?_ <;> intro b12 h
 refine kt b12 (Xag (Xaf (Xa2 (Xau (Xad ?_)))))
 iterate 2 refine kO hT hC ?_
 refine Vc.nil (Xac ?_)
 iterate 3 refine kO hT hC ?_
 refine kQ hT hC h fun h => ?_
 iterate 6 refine kO hT hC ?_
 refine kQ hT hC h fun h => ?_
 iterate 3 refine kO hT hC ?_
 refine kT hT hC h fun h => ?_
 refine kO hT hC ?_
 refine Vc.nil (Xax (Xaf (Xac ?_)))
 iterate 2 refine kO hT hC ?_
 refine Vc.nil ?_
 obtain rfl := kj h
 exact Ylz (kW hC [(96, 432)])
 exact kf b12 (Xaw (Xbd ku))
 refine Xax (Xaf (Xac ?_))
 iterate 2 refine kO hT hC ?_
 exact Vc.nil kG
 exact kf b9 (Xaw (Xbd ku))
 refine Xaf (Xad ?_)
 iterate 2 refine kO hT hC ?_
 refine Vc.nil (Xah ?_)
 obtain rfl := kj h
 exact Xdx (τ := ⟨[(2, .own 16)], [(16, some (.ints .i64 v14))]⟩) (kW hC [(16, 96)]) rfl ⟨rfl, trivial⟩
def Xvn (r : ((List Int) × Bool)) : AV := .tup [.own 16, .sv (.bool r.2)]
def Xvm (r : ((List Int) × Bool)) : Xbl := [(16, .ints .i64 r.1)]
theorem Xw8 {p0 p1 r} (h : Xha p0 p1 = some r) : AC Tryz.prog 246 [.sv (.ints .i64 p0), .agg [.sv (.bool p1.Key), .sv (.int .i64 p1.Qp), .sv (.bool p1.Large), .sv (.bool p1.Exact)]] [] (Xvn r) (Xvm r) := by
 refine Xae hT Tryz.func246 rfl fun C hC => ?_
 unfold Xha at h
 refine Xad ?_
 iterate 3 refine kO hT hC ?_
 refine Vc.nil (Xa2 ?_)
 refine kL [0,3] [48] [_,_] [_] ?_
 refine kA h (fun v1 => ([(26, .sv (.bool v1))], [])) (fun v1 h => ?_) fun v1 h => ?_
 refine Xac ?_
 refine kO hT hC ?_
 refine kC hC [] Tryz.call248 h (fun _ => Xlq) fun q2 h => ?_
 iterate 2 refine kO hT hC ?_
 refine kS h ?_ ?_ <;> intro b1 h
 refine kI hT hC (kn b1) ?_
 refine kE hC (kn b1) [] Tryz.call127 h (fun _ => Xmd) fun q3 h => ?_
 refine kI hT hC (kn b1) ?_
 refine kP hC false (kn b1) ?_
 exact Vc.nil kM
 iterate 3 refine kF hC (kn b1) ?_
 refine kP hC true (kn b1) ?_
 exact Vc.nil kM
 refine kS h ?_ ?_ <;> intro b2 h
 refine kt b2 (Xad ?_)
 iterate 3 refine kO hT hC ?_
 refine Vc.nil (Xah (Xa4 ?_))
 obtain rfl := kj h
 exact Xdx (τ := ⟨[(4, .own 16), (5, .sv (.bool false))], [(16, some (.ints .i64 ([] : List Int)))]⟩) (kW hC [(16, 432)]) rfl ⟨rfl, trivial⟩
 refine kf b2 (Xag (Xaf (Xa2 (Xad ?_))))
 iterate 2 refine kO hT hC ?_
 refine Vc.nil ?_
 refine kS h ?_ ?_ <;> intro b3 h
 refine kt b3 (Xad ?_)
 refine kO hT hC ?_
 refine kC hC [(16, 496)] Tryz.call273 h (fun _ => Xlp) fun q4 h => ?_
 iterate 4 refine kO hT hC ?_
 refine Vc.nil (Xah (Xa4 ?_))
 obtain rfl := kj h
 exact Xdx (τ := ⟨[(4, .own 16), (5, .sv (.bool q4.2))], [(16, some (.ints .i64 q4.1))]⟩) (kW hC [(16, 496)]) rfl ⟨rfl, trivial⟩
 refine kf b3 (Xag (Xaf (Xa2 (Xad ?_))))
 iterate 2 refine kO hT hC ?_
 refine Vc.nil ?_
 refine kS h ?_ ?_ <;> intro b4 h
 refine kt b4 (Xad ?_)
 refine kO hT hC ?_
 refine kC hC [(16, 608)] Tryz.call273 h (fun _ => Xlp) fun q5 h => ?_
 iterate 5 refine kO hT hC ?_
 refine Vc.nil (Xa2 (Xad ?_))
 iterate 3 refine kO hT hC ?_
 refine Vc.nil ?_
 refine kL [3,6,41,42,43] [48,608] [_,_,_,_,_] [_,_] ?_
 refine kX h (fun v8 => ([(43, .sv (.int .i64 v8.1))], [(608, some (.ints .i64 v8.2))])) (fun v11 => ([(3, .any), (41, .any), (42, .any), (43, .any)], [(608, some (.ints .i64 v11)), (48, none)])) (kW hC []) (fun v8 s h => ?_) fun v11 h => ?_
 unfold Xer at h
 refine Xad ?_
 refine kO hT hC ?_
 refine Vc.nil (Xa2 ?_)
 refine kS h ?_ ?_ <;> intro b7 h
 refine kt b7 (Xag (Xaf (Xa2 (Xau (Xad ?_)))))
 refine kO hT hC ?_
 iterate 2 refine kQ hT hC h fun h => ?_
 iterate 2 refine kO hT hC ?_
 refine Vc.nil (Xac ?_)
 iterate 5 refine kO hT hC ?_
 refine kC hC [] Tryz.call274 h (fun _ => Xy9) fun q12 h => ?_
 iterate 2 refine kQ hT hC h fun h => ?_
 refine Vc.nil (Xax (Xaf (Xac ?_)))
 iterate 2 refine kO hT hC ?_
 exact Vc.nil kG
 exact kf b7 (Xaw (Xbd ku))
 refine Xaf (Xad ?_)
 refine kO hT hC ?_
 refine kC hC [(16, 912)] Tryz.call275 h (fun _ => Xy5) fun q14 h => ?_
 iterate 2 refine kO hT hC ?_
 refine Vc.nil (Xah (Xa4 ?_))
 obtain rfl := kj h
 exact Xdx (τ := ⟨[(4, .own 16), (5, .sv (.bool true))], [(16, some (.ints .i64 q14))]⟩) (kW hC [(16, 912)]) rfl ⟨rfl, trivial⟩
 refine kf b4 (Xag (Xaf (Xad ?_)))
 obtain ⟨hq, h⟩ := Xa7 h
 refine Yc7 hT hC rfl rfl rfl rfl ⟨hq.1, hq.2.1, hq.2.2, by decide⟩ ?_
 refine kO hT hC ?_
 refine Vc.nil (Xa2 (Xad ?_))
 refine kO hT hC ?_
 refine Vc.nil ?_
 refine kL [0,3,10,59] [48,928] [_,_,_,_] [_,_] ?_
 refine kX h (fun v32 => ([(59, .sv (.int .i64 v32.1))], [(928, some (.ints .i64 v32.2))])) (fun v50 => ([(0, .any), (3, .any), (59, .any)], [(928, some (.ints .i64 v50)), (48, none)])) (kW hC []) (fun v32 s h => ?_) fun v50 h => ?_
 unfold Xjm at h
 refine Xad ?_
 refine kO hT hC ?_
 refine Vc.nil (Xa2 ?_)
 refine kS h ?_ ?_ <;> intro b22 h
 refine kt b22 (Xag (Xaf (Xa2 (Xau (Xad ?_)))))
 iterate 2 refine kO hT hC ?_
 refine kN ?_
 iterate 6 refine kO hT hC ?_
 refine kQ hT hC h fun h => ?_
 refine kC hC [(16, 1120)] Tryz.call273 h (fun _ => Xlp) fun q51 h => ?_
 iterate 5 refine kO hT hC ?_
 refine Vc.nil (Xa2 (Xad ?_))
 iterate 3 refine kO hT hC ?_
 refine Vc.nil ?_
 refine kL [0,3,10,11,12,59,73,74,75] [48,928,1120] [_,_,_,_,_,_,_,_,_] [_,_,_] ?_
 refine kX h (fun v54 => ([(75, .sv (.int .i64 v54.1))], [(1120, some (.ints .i64 v54.2))])) (fun v57 => ([(73, .any), (74, .any), (75, .any)], [(1120, some (.ints .i64 v57))])) (kW hC []) (fun v54 s h => ?_) fun v57 h => ?_
 unfold Xed at h
 refine Xad ?_
 refine kO hT hC ?_
 refine Vc.nil (Xa2 ?_)
 refine kS h ?_ ?_ <;> intro b25 h
 refine kt b25 (Xag (Xaf (Xa2 (Xau (Xad ?_)))))
 refine kO hT hC ?_
 iterate 2 refine kQ hT hC h fun h => ?_
 iterate 2 refine kO hT hC ?_
 refine Vc.nil (Xac ?_)
 iterate 6 refine kO hT hC ?_
 refine kC hC [] Tryz.call276 h (fun _ => Xzc) fun q58 h => ?_
 iterate 2 refine kQ hT hC h fun h => ?_
 refine Vc.nil (Xax (Xaf (Xac ?_)))
 iterate 2 refine kO hT hC ?_
 exact Vc.nil kG
 exact kf b25 (Xaw (Xbd ku))
 refine Xaf (Xad ?_)
 refine kO hT hC ?_
 refine kC hC [(16, 1440)] Tryz.call277 h (fun _ => Ybh) fun q60 h => ?_
 refine kO hT hC ?_
 refine kN ?_
 refine kO hT hC ?_
 refine kC hC [(16, 1472)] Tryz.call240 h (fun _ => Yfm) fun q61 h => ?_
 iterate 2 refine kO hT hC ?_
 refine Vc.nil ?_
 refine kL [0,3,10,16,59,92,93,94] [48,928,1440,1472] [_,_,_,_,_,_,_,_] [_,_,_,_] ?_
 refine kX h (fun v63 => ([(94, .sv (.int .i64 v63.1))], [(928, some (.ints .i64 v63.2))])) (fun v65 => ([(16, .any), (92, .any), (93, .any), (94, .any)], [(928, some (.ints .i64 v65)), (1440, none), (1472, none)])) (kW hC []) (fun v63 s h => ?_) fun v65 h => ?_
 unfold Xf8 at h
 refine Xad ?_
 refine kO hT hC ?_
 refine Vc.nil (Xa2 ?_)
 refine kS h ?_ ?_ <;> intro b28 h
 refine kt b28 (Xag (Xaf (Xa2 (Xau (Xad ?_)))))
 refine kO hT hC ?_
 iterate 2 refine kQ hT hC h fun h => ?_
 iterate 2 refine kO hT hC ?_
 refine Vc.nil (Xac ?_)
 iterate 4 refine kO hT hC ?_
 iterate 4 refine kQ hT hC h fun h => ?_
 refine Vc.nil (Xax (Xaf (Xac ?_)))
 iterate 2 refine kO hT hC ?_
 exact Vc.nil kG
 exact kf b28 (Xaw (Xbd ku))
 refine Xax (Xaf (Xac ?_))
 iterate 2 refine kO hT hC ?_
 exact Vc.nil kG
 exact kf b22 (Xaw (Xbd ku))
 refine Xaf (Xad ?_)
 iterate 3 refine kO hT hC ?_
 refine Vc.nil (Xah ?_)
 obtain rfl := kj h
 exact Xdx (τ := ⟨[(4, .own 16), (5, .sv (.bool true))], [(16, some (.ints .i64 v50))]⟩) (kW hC [(16, 928)]) rfl ⟨rfl, trivial⟩
def Yem (r : (List Int)) : AV := .own 16
def Yel (r : (List Int)) : Xbl := [(16, .ints .i64 r)]
theorem Xuk {p0 p1 r} (h : Xll p0 p1 = some r) : AC Tryz.prog 247 [.sv (.ints .i64 p0), .sv (.ints .i64 p1)] [] (Yem r) (Yel r) := by
 refine Xae hT Tryz.func247 rfl fun C hC => ?_
 unfold Xll at h
 refine Xad ?_
 refine kO hT hC ?_
 refine kN ?_
 iterate 2 refine kO hT hC ?_
 refine Vc.nil (Xa2 ?_)
 refine kL [0,1,5] [128] [_,_,_] [_] ?_
 refine kA h (fun v1 => ([(16, .sv (.bool v1))], [])) (fun v1 h => ?_) fun v1 h => ?_
 refine Xac ?_
 refine kO hT hC ?_
 refine kC hC [] Tryz.call197 h (fun _ => Xh1) fun q2 h => ?_
 iterate 2 refine kO hT hC ?_
 refine kS h ?_ ?_ <;> intro b1 h
 refine kI hT hC (kn b1) ?_
 refine kE hC (kn b1) [] Tryz.call197 h (fun _ => Xh1) fun q3 h => ?_
 refine kI hT hC (kn b1) ?_
 refine kP hC false (kn b1) ?_
 exact Vc.nil kM
 iterate 3 refine kF hC (kn b1) ?_
 refine kP hC true (kn b1) ?_
 exact Vc.nil kM
 refine kS h ?_ ?_ <;> intro b2 h
 refine kt b2 (Xad ?_)
 iterate 2 refine kO hT hC ?_
 refine Vc.nil (Xah (Xa4 ?_))
 obtain rfl := kj h
 exact Xdx (τ := ⟨[(4, .own 16)], [(16, some (.ints .i64 ([] : List Int)))]⟩) (kW hC [(16, 128)]) rfl ⟨rfl, trivial⟩
 refine kf b2 (Xag (Xaf (Xa2 (Xad ?_))))
 iterate 3 refine kO hT hC ?_
 refine Vc.nil ?_
 refine kL [1,5,18,19,20] [128] [_,_,_,_,_] [_] ?_
 refine kX h (fun v6 => ([(20, .sv (.int .i64 v6.1))], [(128, some (.ints .i64 v6.2))])) (fun v9 => ([(1, .any), (18, .any), (19, .any), (20, .any)], [(128, some (.ints .i64 v9))])) (kW hC []) (fun v6 s h => ?_) fun v9 h => ?_
 unfold Xme at h
 refine Xad ?_
 refine kO hT hC ?_
 refine Vc.nil (Xa2 ?_)
 refine kS h ?_ ?_ <;> intro b5 h
 refine kt b5 (Xag (Xaf (Xa2 (Xau (Xad ?_)))))
 refine kO hT hC ?_
 refine kQ hT hC h fun h => ?_
 iterate 3 refine kO hT hC ?_
 refine Vc.nil (Xac ?_)
 iterate 4 refine kO hT hC ?_
 refine kQ hT hC h fun h => ?_
 iterate 2 refine kO hT hC ?_
 refine kC hC [] Tryz.call141 h (fun _ => Xkh) fun q10 h => ?_
 refine kO hT hC ?_
 refine kT hT hC h fun h => ?_
 refine kO hT hC ?_
 refine Vc.nil (Xax (Xaf (Xac ?_)))
 iterate 2 refine kO hT hC ?_
 refine Vc.nil ?_
 obtain rfl := kj h
 exact Ylz (kW hC [(128, 544)])
 exact kf b5 (Xaw (Xbd ku))
 refine Xaf (Xad ?_)
 iterate 2 refine kO hT hC ?_
 refine Vc.nil (Xah ?_)
 obtain rfl := kj h
 exact Xdx (τ := ⟨[(4, .own 16)], [(16, some (.ints .i64 v9))]⟩) (kW hC [(16, 128)]) rfl ⟨rfl, trivial⟩
def Ybe (r : (Xnc × Bool)) : AV := .tup [.agg [.own 16, .own 17, .sv (.int .i64 r.1.Corner)], .sv (.bool r.2)]
def Ybd (r : (Xnc × Bool)) : Xbl := [(16, .ints .i64 r.1.Above), (17, .ints .i64 r.1.Left)]
theorem Yeg {p0 p1 p2 r} (h : Xmt p0 p1 p2 = some r) : AC Tryz.prog 198 [.agg [.sv (.int .i64 p0.Wide), .sv (.int .i64 p0.High), .sv (.str p0.Dots)], .sv (.int .i64 p1), .sv (.int .i64 p2)] [] (Ybe r) (Ybd r) := by
 refine Xae hT Tryz.func198 rfl fun C hC => ?_
 unfold Xmt at h
 refine Xad ?_
 iterate 3 refine kO hT hC ?_
 refine Vc.nil (Xa2 ?_)
 refine kL [1,2,3,6] [48,96] [_,_,_,_] [_,_] ?_
 refine kA h (fun v1 => ([(19, .sv (.bool v1))], [])) (fun v1 h => ?_) fun v1 h => ?_
 refine Xac ?_
 refine kO hT hC ?_
 refine kC hC [] Tryz.call47 h (fun _ => Xdz) fun q2 h => ?_
 iterate 2 refine kO hT hC ?_
 refine kS h ?_ ?_ <;> intro b1 h
 iterate 3 refine kI hT hC (kn b1) ?_
 refine kE hC (kn b1) [] Tryz.call196 h (fun _ => Xnn) fun q3 h => ?_
 refine kI hT hC (kn b1) ?_
 refine kP hC false (kn b1) ?_
 exact Vc.nil kM
 iterate 5 refine kF hC (kn b1) ?_
 refine kP hC true (kn b1) ?_
 exact Vc.nil kM
 refine kS h ?_ ?_ <;> intro b2 h
 refine kt b2 (Xad ?_)
 iterate 3 refine kO hT hC ?_
 refine Vc.nil (Xah (Xa4 ?_))
 obtain rfl := kj h
 refine Xdx (τ := ⟨[(6, .ptr 2000000 0), (7, .sv (.bool false))], [(16, some (.ints .i64 [])), (17, some (.ints .i64 [])), (2000000, some (.box [.own 16, .own 17, .sv (.int .i64 0)]))]⟩) ?_ rfl ⟨rfl, rfl, trivial⟩
 refine Xyr hC 96 0 1105 (.ints .i64 []) rfl rfl rfl rfl rfl trivial ?_
 refine Xyr hC 96 1 1106 (.ints .i64 []) rfl rfl rfl rfl rfl trivial ?_
 apply Xi9 hC [(16, 1105), (17, 1106), (2000000, 96)]
 exact co
 rfl
 decide
 rfl
 refine kf b2 (Xag (Xaf (Xad ?_)))
 iterate 3 refine kO hT hC ?_
 refine Vc.nil (Xa2 (Xad ?_))
 refine kO hT hC ?_
 refine Vc.nil ?_
 refine kL [1,2,3,6,8,22] [48,96,128] [_,_,_,_,_,_] [_,_,_] ?_
 obtain ⟨v15, hl, h⟩ := Xb6 h
 refine Yyt (fun v9 => ([(22, .sv (.int .i64 v9.1))], [(128, some (.box [.own 1129, .own 1130, .sv (.int .i64 (-1))])), (1129, some (.ints .i64 v9.2.1)), (1130, some (.ints .i64 v9.2.2))])) (fun v15 => ([(22, .any)], [(128, some (.box [.own 1133, .own 1134, .sv (.int .i64 (-1))])), (1133, some (.ints .i64 v15.1)), (1134, some (.ints .i64 v15.2))])) hl ?_ ?_ ?_
 refine Xyr hC 128 0 1135 (.ints .i64 []) rfl rfl rfl rfl rfl trivial ?_
 refine Xyr hC 128 1 1136 (.ints .i64 []) rfl rfl rfl rfl rfl trivial ?_
 try dsimp only
 apply Xi9 hC [(1129, 1135), (1130, 1136)]
 exact co
 rfl
 decide
 rfl
 intro v9 s hs
 have h := hs
 unfold Xkj at h
 refine Xad ?_
 refine kO hT hC ?_
 refine Vc.nil (Xa2 ?_)
 refine kS h ?_ ?_ <;> intro b9 h
 refine kt b9 (Xag (Xaf ?_))
 refine kL [1,2,3,6,8,22] [48,96,128,1129,1130] [_,_,_,_,_,_] [_,_,_,_,_] ?_
 refine kA h (fun v16 => ([], [(1129, some (.ints .i64 v16.1)), (1130, some (.ints .i64 v16.2))])) (fun v16 h => ?_) fun v16 h => ?_
 refine Xau (Xad ?_)
 iterate 2 refine kO hT hC ?_
 refine Vc.nil ?_
 refine kL [1,2,3,6,8,9,22] [48,96,128,1129,1130] [_,_,_,_,_,_,_] [_,_,_,_,_] ?_
 refine kA h (fun v17 => ([], [(1129, some (.ints .i64 v17))])) (fun v17 h => ?_) fun v17 h => ?_
 refine Xad ?_
 iterate 2 refine kO hT hC ?_
 refine Vc.nil ?_
 refine kS h ?_ ?_ <;> intro b10 h
 refine kt b10 ?_
 refine Xf6 hm ?_
 iterate 8 refine kO hT hC ?_
 refine kC hC [] Tryz.call206 h (fun _ => Xkl) fun q18 h => ?_
 refine kO hT hC ?_
 refine kT hT hC h fun h => ?_
 iterate 2 refine kO hT hC ?_
 refine kD ?_
 obtain rfl := kj h
 exact Xf5 (kW hC [(1129, 592)])
 exact kf b10 (Xag kM)
 refine Xad ?_
 iterate 2 refine kO hT hC ?_
 refine Vc.nil ?_
 refine kS h ?_ ?_ <;> intro b11 h
 refine kt b11 ?_
 refine Xf6 hm ?_
 iterate 8 refine kO hT hC ?_
 refine kC hC [] Tryz.call206 h (fun _ => Xkl) fun q19 h => ?_
 refine kO hT hC ?_
 refine kT hT hC h fun h => ?_
 iterate 2 refine kO hT hC ?_
 refine kD (Xax ?_)
 obtain rfl := kj h
 exact Xf5 (kW hC [(1130, 816)])
 exact kf b11 (Xag (Xax kM))
 refine Xac ?_
 iterate 2 refine kO hT hC ?_
 exact Vc.nil kG
 refine kf b9 (Xaw (Xbd ?_))
 obtain rfl := kj h
 exact Yvd (Zay (kW hC [(1133, 1129), (1134, 1130)]))
 refine Xaf ?_
 refine kL [1,2,3,6,8] [48,96,128,1133,1134] [_,_,_,_,_] [_,_,_,_,_] ?_
 refine kA h (fun v21 => ([(1, .any), (2, .any), (3, .any)], [(128, some (.box [.own 1133, .own 1134, .sv (.int .i64 v21)])), (48, none)])) (fun v21 h => ?_) fun v21 h => ?_
 refine kL [1,2,3,6,8] [48,96,128,1133,1134] [_,_,_,_,_] [_,_,_,_,_] ?_
 refine kA h (fun v22 => ([(59, .sv (.bool v22))], [])) (fun v22 h => ?_) fun v22 h => ?_
 refine Xac ?_
 iterate 3 refine kO hT hC ?_
 refine kS h ?_ ?_ <;> intro b12 h
 iterate 2 refine kI hT hC b12 ?_
 refine kP hC true b12 ?_
 exact Vc.nil kM
 iterate 2 refine kF hC b12 ?_
 refine kP hC false b12 ?_
 exact Vc.nil kM
 refine kS h ?_ ?_ <;> intro b13 h
 refine kt b13 (Xac ?_)
 iterate 5 refine kO hT hC ?_
 refine kC hC [] Tryz.call206 h (fun _ => Xkl) fun q23 h => ?_
 iterate 2 refine kO hT hC ?_
 exact Vc.nil kM
 exact kf b13 (Xag kM)
 refine Xad ?_
 iterate 3 refine kO hT hC ?_
 refine Vc.nil (Xah ?_)
 obtain rfl := kj h
 exact Xdx (τ := ⟨[(6, .ptr 2000000 0), (7, .sv (.bool true))], [(16, some (.ints .i64 v15.1)), (17, some (.ints .i64 v15.2)), (2000000, some (.box [.own 16, .own 17, .sv (.int .i64 v21)]))]⟩) (kW hC [(16, 1133), (17, 1134), (2000000, 96)]) rfl ⟨rfl, rfl, trivial⟩
def Xrq (r : Bool) : AV := .sv (.bool r)
def Xrp (r : Bool) : Xbl := []
theorem Yeh {p0 r} (h : Xmu p0 = some r) : AC Tryz.prog 235 [.agg [.sv (.ints .i64 p0.Above), .sv (.ints .i64 p0.Left), .sv (.int .i64 p0.Corner)]] [] (Xrq r) (Xrp r) := by
 refine Xae hT Tryz.func235 rfl fun C hC => ?_
 unfold Xmu at h
 refine Xad ?_
 iterate 2 refine kO hT hC ?_
 refine Vc.nil (Xa2 (Xad ?_))
 iterate 7 refine kO hT hC ?_
 refine Vc.nil ?_
 refine kL [1,9,10,11] [16,144] [_,_,_,_] [_,_] ?_
 obtain ⟨o11, hl, h⟩ := Xb6 h
 refine Xlx (fun v4 => ([(11, .sv (.int .i64 v4))], [])) (fun v8 => ([(9, .any), (10, .any), (11, .any)], [(144, none)])) (fun r => Xvb C T Tryz.f235.results.toList (Xrq r) (Xrp r)) hl ?_ ?_ ?_ ?_
 apply Xi9 hC []
 exact co
 rfl
 decide
 rfl
 intro v4 s hs
 have h := hs
 unfold Xfi at h
 refine Xad ?_
 refine kO hT hC ?_
 refine Vc.nil (Xa2 ?_)
 refine kS h ?_ ?_ <;> intro b7 h
 refine kt b7 (Xag (Xaf (Xa2 (Xau (Xad ?_)))))
 iterate 2 refine kQ hT hC h fun h => ?_
 refine kO hT hC ?_
 refine Vc.nil ?_
 refine kL [1,4,9,10,11] [16,144] [_,_,_,_,_] [_,_] ?_
 refine kA h (fun v9 => ([(22, .sv (.bool v9)), (4, .any)], [])) (fun v9 h => ?_) fun v9 h => ?_
 refine Xac ?_
 iterate 4 refine kO hT hC ?_
 refine kS h ?_ ?_ <;> intro b8 h
 refine kI hT hC b8 ?_
 refine kE hC b8 [] Tryz.call197 h (fun _ => Xh1) fun q10 h => ?_
 refine kI hT hC b8 ?_
 refine kP hC true b8 ?_
 exact Vc.nil kM
 iterate 3 refine kF hC b8 ?_
 refine kP hC false b8 ?_
 exact Vc.nil kM
 refine kS h ?_ ?_ <;> intro b9 h
 refine kt b9 (Xad ?_)
 refine kO hT hC ?_
 refine Vc.nil (Xah (Xg6 (Xa4 ?_)))
 obtain rfl := kj h
 refine Xx5 (Xx1 ?_)
 exact Xdx (Xif.refl _) rfl trivial
 refine kf b9 (Xag (Xax (Xaf (Xac ?_))))
 iterate 2 refine kO hT hC ?_
 exact Vc.nil kG
 exact kf b7 (Xaw (Xbd kb))
 intro v8 e
 subst e
 refine Xaf (Xad ?_)
 iterate 2 refine kO hT hC ?_
 refine kC hC [] Tryz.call116 h (fun _ => Xak) fun q12 h => ?_
 refine kO hT hC ?_
 exact Vc.nil (Xah kR)
 intro r' σ' e hE
 subst e
 obtain rfl := kj h
 refine Xa4 ?_
 exact hE
def Yfj (r : (List Int)) : AV := .sv (.ints .i64 r)
def Yfi (r : (List Int)) : Xbl := []
theorem Xuv {p0 r} (h : Xls p0 = some r) : AC Tryz.prog 243 [.sv (.ints .i64 p0)] [] (Yfj r) (Yfi r) := by
 refine Xae hT Tryz.func243 rfl fun C hC => ?_
 unfold Xls at h
 refine Xad ?_
 refine kO hT hC ?_
 refine Vc.nil (Xa2 (Xad ?_))
 iterate 3 refine kO hT hC ?_
 refine Vc.nil ?_
 refine kS h ?_ ?_ <;> intro b1 h
 refine kt b1 (Xad ?_)
 iterate 2 refine kO hT hC ?_
 refine Vc.nil (Xah (Xa4 ?_))
 obtain rfl := kj h
 exact Xdx (τ := ⟨[(2, .sv (.ints .i64 ([128, 128, 128, 128, 128, 128, 128, 128])))], []⟩) (kW hC []) rfl trivial
 refine kf b1 (Xag (Xaf (Xad ?_)))
 iterate 2 refine kO hT hC ?_
 exact Vc.nil (Xah kR)
def Ybj (r : (List Int)) : AV := .own 16
def Ybi (r : (List Int)) : Xbl := [(16, .ints .i64 r)]
theorem Yei {p0 p1 r} (h : Xjt p0 p1 = some r) : AC Tryz.prog 202 [.sv (.int .i64 p0), .agg [.sv (.ints .i64 p1.Above), .sv (.ints .i64 p1.Left), .sv (.int .i64 p1.Corner)]] [] (Ybj r) (Ybi r) := by
 refine Xae hT Tryz.func202 rfl fun C hC => ?_
 unfold Xjt at h
 refine Xad ?_
 iterate 2 refine kO hT hC ?_
 refine kN ?_
 iterate 2 refine kO hT hC ?_
 refine Vc.nil (Xa2 ?_)
 refine kL [0,3,5] [48,208] [_,_,_] [_,_] ?_
 refine kA h (fun v1 => ([(21, .sv (.bool v1))], [])) (fun v1 h => ?_) fun v1 h => ?_
 refine Xac ?_
 refine kO hT hC ?_
 refine kC hC [] Tryz.call235 h (fun _ => Yeh) fun q2 h => ?_
 iterate 2 refine kO hT hC ?_
 refine kS h ?_ ?_ <;> intro b1 h
 refine kI hT hC (kn b1) ?_
 refine kE hC (kn b1) [] Tryz.call116 h (fun _ => Xak) fun q3 h => ?_
 refine kI hT hC (kn b1) ?_
 refine kP hC false (kn b1) ?_
 exact Vc.nil kM
 iterate 3 refine kF hC (kn b1) ?_
 refine kP hC true (kn b1) ?_
 exact Vc.nil kM
 refine kS h ?_ ?_ <;> intro b2 h
 refine kt b2 (Xad ?_)
 iterate 2 refine kO hT hC ?_
 refine Vc.nil (Xah (Xa4 ?_))
 obtain rfl := kj h
 exact Xdx (τ := ⟨[(4, .own 16)], [(16, some (.ints .i64 ([] : List Int)))]⟩) (kW hC [(16, 208)]) rfl ⟨rfl, trivial⟩
 refine kf b2 (Xag (Xaf (Xad ?_)))
 refine kO hT hC ?_
 refine Vc.nil ?_
 refine kL [0,3,5,6] [48,208] [_,_,_,_] [_,_] ?_
 refine kA h (fun v4 => ([(6, .sv (.int .i64 v4))], [])) (fun v4 h => ?_) fun v4 h => ?_
 refine Xad ?_
 iterate 8 refine kO hT hC ?_
 refine kN ?_
 iterate 2 refine kO hT hC ?_
 refine Vc.nil ?_
 refine kS h ?_ ?_ <;> intro b3 h
 refine kt b3 ?_
 refine Xf6 hm ?_
 iterate 2 refine kO hT hC ?_
 refine kC hC [] Tryz.call195 h (fun _ => Xez) fun q5 h => ?_
 iterate 2 refine kO hT hC ?_
 refine kC hC [] Tryz.call195 h (fun _ => Xez) fun q6 h => ?_
 iterate 2 refine kO hT hC ?_
 refine kQ hT hC h fun h => ?_
 iterate 2 refine kO hT hC ?_
 refine kQ hT hC h fun h => ?_
 refine kO hT hC ?_
 exact kD kM
 exact kf b3 (Xag kM)
 refine Xdw hm ?_
 iterate 2 refine kO hT hC ?_
 refine kC hC [] Tryz.call243 h (fun _ => Xuv) fun q7 h => ?_
 iterate 2 refine kO hT hC ?_
 refine kC hC [] Tryz.call243 h (fun _ => Xuv) fun q8 h => ?_
 iterate 5 refine kO hT hC ?_
 refine kD ?_
 refine kL [0,5,6,8,9,10] [208] [_,_,_,_,_,_] [_] ?_
 refine kA h (fun v9 => ([(10, .sv (.int .i64 v9))], [])) (fun v9 h => ?_) fun v9 h => ?_
 refine Xad ?_
 iterate 2 refine kO hT hC ?_
 refine Vc.nil ?_
 refine kS h ?_ ?_ <;> intro b4 h
 refine kt b4 (Xac ?_)
 refine kO hT hC ?_
 exact Vc.nil kM
 exact kf b4 (Xag kM)
 refine Xa2 (Xad ?_)
 refine kO hT hC ?_
 refine Vc.nil ?_
 refine kL [0,5,6,8,9,10,54] [208] [_,_,_,_,_,_,_] [_] ?_
 refine kX h (fun v22 => ([(54, .sv (.int .i64 v22.1))], [(208, some (.ints .i64 v22.2))])) (fun v35 => ([(0, .any), (6, .any), (8, .any), (9, .any), (10, .any), (54, .any)], [(208, some (.ints .i64 v35))])) (kW hC []) (fun v22 s h => ?_) fun v35 h => ?_
 unfold Xnf at h
 refine Xad ?_
 refine kO hT hC ?_
 refine Vc.nil (Xa2 ?_)
 refine kS h ?_ ?_ <;> intro b31 h
 refine kt b31 (Xag (Xaf (Xa2 (Xau (Xad ?_)))))
 iterate 2 refine kO hT hC ?_
 refine kN ?_
 refine kO hT hC ?_
 refine Vc.nil ?_
 refine kL [0,5,6,8,9,10,11,54,57] [208] [_,_,_,_,_,_,_,_,_] [_] ?_
 refine kX h (fun v39 => ([(57, .sv (.int .i64 v39.1))], [(208, some (.ints .i64 v39.2))])) (fun v43 => ([(11, .any), (57, .any)], [(208, some (.ints .i64 v43))])) (kW hC []) (fun v39 s h => ?_) fun v43 h => ?_
 unfold Xgf at h
 refine Xad ?_
 refine kO hT hC ?_
 refine Vc.nil (Xa2 ?_)
 refine kS h ?_ ?_ <;> intro b40 h
 refine kt b40 (Xag (Xaf ?_))
 refine kL [0,5,6,8,9,10,11,54,57] [208] [_,_,_,_,_,_,_,_,_] [_] ?_
 refine kA h (fun v44 => ([(5, .own 1700)], [(1700, some (.ints .i64 v44)), (208, none)])) (fun v44 h => ?_) fun v44 h => ?_
 refine Xau (Xad ?_)
 iterate 2 refine kO hT hC ?_
 refine kN ?_
 refine kO hT hC ?_
 refine Vc.nil (Xau (Xad ?_))
 iterate 2 refine kO hT hC ?_
 refine Vc.nil ?_
 refine kS h ?_ ?_ <;> intro b41 h
 refine kt b41 (Xac ?_)
 iterate 3 refine kO hT hC ?_
 refine kT hT hC h fun h => ?_
 refine kO hT hC ?_
 refine Vc.nil ?_
 iterate 2 refine Xax ?_
 obtain rfl := kj h
 exact Xf5 (kW hC [(1700, 1296)])
 refine kf b41 (Xad ?_)
 iterate 2 refine kO hT hC ?_
 refine Vc.nil ?_
 refine kS h ?_ ?_ <;> intro b42 h
 refine kt b42 (Xac ?_)
 iterate 3 refine kO hT hC ?_
 refine kQ hT hC h fun h => ?_
 iterate 2 refine kO hT hC ?_
 refine kT hT hC h fun h => ?_
 refine kO hT hC ?_
 refine Vc.nil ?_
 iterate 2 refine Xax ?_
 obtain rfl := kj h
 exact Xf5 (kW hC [(1700, 1440)])
 refine kf b42 (Xad ?_)
 iterate 2 refine kO hT hC ?_
 refine Vc.nil ?_
 refine kS h ?_ ?_ <;> intro b43 h
 refine kt b43 (Xac ?_)
 iterate 3 refine kO hT hC ?_
 refine kQ hT hC h fun h => ?_
 iterate 2 refine kO hT hC ?_
 refine kT hT hC h fun h => ?_
 refine kO hT hC ?_
 refine Vc.nil ?_
 iterate 2 refine Xax ?_
 obtain rfl := kj h
 exact Xf5 (kW hC [(1700, 1584)])
 refine kf b43 ?_
 refine Xf6 hm ?_
 iterate 3 refine kO hT hC ?_
 refine kQ hT hC h fun h => ?_
 iterate 3 refine kO hT hC ?_
 refine kQ hT hC h fun h => ?_
 iterate 4 refine kO hT hC ?_
 refine kC hC [] Tryz.call141 h (fun _ => Xkh) fun q45 h => ?_
 refine kO hT hC ?_
 refine kT hT hC h fun h => ?_
 refine kO hT hC ?_
 refine kD ?_
 iterate 2 refine Xax ?_
 obtain rfl := kj h
 exact Xf5 (kW hC [(1700, 1200)])
 refine Xac ?_
 iterate 2 refine kO hT hC ?_
 refine Vc.nil ?_
 obtain rfl := kj h
 exact Ylz (kW hC [(208, 1700)])
 exact kf b40 (Xaw (Xbd ku))
 refine Xax (Xaf (Xac ?_))
 iterate 2 refine kO hT hC ?_
 exact Vc.nil kG
 exact kf b31 (Xaw (Xbd ku))
 refine Xaf (Xad ?_)
 iterate 2 refine kO hT hC ?_
 refine Vc.nil (Xah ?_)
 obtain rfl := kj h
 exact Xdx (τ := ⟨[(4, .own 16)], [(16, some (.ints .i64 v35))]⟩) (kW hC [(16, 208)]) rfl ⟨rfl, trivial⟩
def Xvp (r : ((List Int) × Bool)) : AV := .tup [.own 16, .sv (.bool r.2)]
def Xvo (r : ((List Int) × Bool)) : Xbl := [(16, .ints .i64 r.1)]
theorem Xxf {p0 p1 p2 p3 p4 p5 p6 p7 r} (h : Xdm p0 p1 p2 p3 p4 p5 p6 p7 = some r) : AC Tryz.prog 205 [.agg [.sv (.int .i64 p0.Wide), .sv (.int .i64 p0.High), .sv (.str p0.Dots)], .agg [.sv (.int .i64 p1.Wide), .sv (.int .i64 p1.High), .sv (.str p1.Dots)], .sv (.int .i64 p2), .sv (.int .i64 p3), .agg [.sv (.bool p4.Key), .sv (.int .i64 p4.Qp), .sv (.bool p4.Large), .sv (.bool p4.Exact)], .sv (.int .i64 p5), .sv (.int .i64 p6), .agg [.sv (.int .i64 p7.Kind), .sv (.int .i64 p7.Mode), .sv (.int .i64 p7.Dx), .sv (.int .i64 p7.Dy), .sv (.ints .i64 p7.Levels)]] [] (Xvp r) (Xvo r) := by
 refine Xae hT Tryz.func205 rfl fun C hC => ?_
 unfold Xdm at h
 refine Xad ?_
 iterate 6 refine kO hT hC ?_
 refine Vc.nil (Xa2 ?_)
 refine kL [2,3,5,6,8,9,12,15] [128,144,192,240] [_,_,_,_,_,_,_,_] [_,_,_,_] ?_
 refine kA h (fun v1 => ([(67, .sv (.bool v1))], [])) (fun v1 h => ?_) fun v1 h => ?_
 refine Xac ?_
 refine kO hT hC ?_
 refine kC hC [] Tryz.call47 h (fun _ => Xdz) fun q2 h => ?_
 iterate 2 refine kO hT hC ?_
 refine kS h ?_ ?_ <;> intro b1 h
 iterate 3 refine kI hT hC (kn b1) ?_
 refine kE hC (kn b1) [] Tryz.call196 h (fun _ => Xnn) fun q3 h => ?_
 refine kI hT hC (kn b1) ?_
 refine kP hC false (kn b1) ?_
 refine kO hT hC ?_
 refine kS h ?_ ?_ <;> intro b2 h
 refine kI hT hC (kn b2) ?_
 refine kE hC (kn b2) [] Tryz.call116 h (fun _ => Xak) fun q4 h => ?_
 refine kI hT hC (kn b2) ?_
 refine kP hC false (kn b2) ?_
 refine kO hT hC ?_
 refine kS h ?_ ?_ <;> intro b3 h
 refine kI hT hC (kn b3) ?_
 refine kE hC (kn b3) [] Tryz.call116 h (fun _ => Xak) fun q5 h => ?_
 refine kI hT hC (kn b3) ?_
 refine kP hC false (kn b3) ?_
 refine kO hT hC ?_
 refine kS h ?_ ?_ <;> intro b4 h
 refine kI hT hC (kn b4) ?_
 refine kE hC (kn b4) [] Tryz.call211 h (fun _ => Xrr) fun q6 h => ?_
 refine kI hT hC (kn b4) ?_
 refine kP hC false (kn b4) ?_
 refine kO hT hC ?_
 refine kS h ?_ ?_ <;> intro b5 h
 refine kI hT hC (kn b5) ?_
 refine kE hC (kn b5) [] Tryz.call127 h (fun _ => Xmd) fun q7 h => ?_
 refine kI hT hC (kn b5) ?_
 refine kP hC false (kn b5) ?_
 refine kO hT hC ?_
 refine kS h ?_ ?_ <;> intro b6 h
 iterate 2 refine kI hT hC (kn b6) ?_
 refine kE hC (kn b6) [] Tryz.call212 h (fun _ => Xxg) fun q8 h => ?_
 refine kI hT hC (kn b6) ?_
 refine kP hC false (kn b6) ?_
 refine kO hT hC ?_
 refine kS h ?_ ?_ <;> intro b7 h
 iterate 4 refine kI hT hC (kn b7) ?_
 refine kS h ?_ ?_ <;> intro b8 h
 refine kI hT hC b8 ?_
 refine kE hC b8 [] Tryz.call47 h (fun _ => Xdz) fun q9 h => ?_
 refine kI hT hC b8 ?_
 refine Xby hC rfl rfl rfl rfl (kn b7) rfl rfl (b := true) b8 rfl rfl rfl trivial ?_
 refine kP hC false (kn b7) ?_
 exact Vc.nil kM
 iterate 3 refine kF hC b8 ?_
 refine Xby hC rfl rfl rfl rfl (kn b7) rfl rfl (b := false) b8 rfl rfl rfl trivial ?_
 refine kP hC false (kn b7) ?_
 exact Vc.nil kM
 iterate 4 refine kF hC (kn b7) ?_
 iterate 3 refine Xlf hC rfl rfl rfl rfl rfl rfl ?_
 refine kF hC (kn b7) ?_
 refine kP hC true (kn b7) ?_
 exact Vc.nil kM
 iterate 4 refine kF hC (kn b6) ?_
 refine kP hC true (kn b6) ?_
 refine kO hT hC ?_
 iterate 4 refine kF hC rfl ?_
 iterate 3 refine Xlf hC rfl rfl rfl rfl rfl rfl ?_
 refine kF hC rfl ?_
 refine kO hT hC ?_
 exact Vc.nil kM
 iterate 3 refine kF hC (kn b5) ?_
 refine kP hC true (kn b5) ?_
 refine kO hT hC ?_
 iterate 4 refine kF hC rfl ?_
 iterate 2 refine kO hT hC ?_
 iterate 4 refine kF hC rfl ?_
 iterate 3 refine Xlf hC rfl rfl rfl rfl rfl rfl ?_
 refine kF hC rfl ?_
 refine kO hT hC ?_
 exact Vc.nil kM
 iterate 3 refine kF hC (kn b4) ?_
 refine kP hC true (kn b4) ?_
 refine kO hT hC ?_
 iterate 3 refine kF hC rfl ?_
 iterate 2 refine kO hT hC ?_
 iterate 4 refine kF hC rfl ?_
 iterate 2 refine kO hT hC ?_
 iterate 4 refine kF hC rfl ?_
 iterate 3 refine Xlf hC rfl rfl rfl rfl rfl rfl ?_
 refine kF hC rfl ?_
 refine kO hT hC ?_
 exact Vc.nil kM
 iterate 3 refine kF hC (kn b3) ?_
 refine kP hC true (kn b3) ?_
 refine kO hT hC ?_
 iterate 3 refine kF hC rfl ?_
 iterate 2 refine kO hT hC ?_
 iterate 3 refine kF hC rfl ?_
 iterate 2 refine kO hT hC ?_
 iterate 4 refine kF hC rfl ?_
 iterate 2 refine kO hT hC ?_
 iterate 4 refine kF hC rfl ?_
 iterate 3 refine Xlf hC rfl rfl rfl rfl rfl rfl ?_
 refine kF hC rfl ?_
 refine kO hT hC ?_
 exact Vc.nil kM
 iterate 3 refine kF hC (kn b2) ?_
 refine kP hC true (kn b2) ?_
 refine kO hT hC ?_
 iterate 3 refine kF hC rfl ?_
 iterate 2 refine kO hT hC ?_
 iterate 3 refine kF hC rfl ?_
 iterate 2 refine kO hT hC ?_
 iterate 3 refine kF hC rfl ?_
 iterate 2 refine kO hT hC ?_
 iterate 4 refine kF hC rfl ?_
 iterate 2 refine kO hT hC ?_
 iterate 4 refine kF hC rfl ?_
 iterate 3 refine Xlf hC rfl rfl rfl rfl rfl rfl ?_
 refine kF hC rfl ?_
 refine kO hT hC ?_
 exact Vc.nil kM
 iterate 5 refine kF hC (kn b1) ?_
 refine kP hC true (kn b1) ?_
 refine kO hT hC ?_
 iterate 3 refine kF hC rfl ?_
 iterate 2 refine kO hT hC ?_
 iterate 3 refine kF hC rfl ?_
 iterate 2 refine kO hT hC ?_
 iterate 3 refine kF hC rfl ?_
 iterate 2 refine kO hT hC ?_
 iterate 3 refine kF hC rfl ?_
 iterate 2 refine kO hT hC ?_
 iterate 4 refine kF hC rfl ?_
 iterate 2 refine kO hT hC ?_
 iterate 4 refine kF hC rfl ?_
 iterate 3 refine Xlf hC rfl rfl rfl rfl rfl rfl ?_
 refine kF hC rfl ?_
 refine kO hT hC ?_
 exact Vc.nil kM
 refine kS h ?_ ?_ <;> intro b9 h
 refine kt b9 (Xad ?_)
 iterate 3 refine kO hT hC ?_
 refine Vc.nil (Xah (Xa4 ?_))
 obtain rfl := kj h
 exact Xdx (τ := ⟨[(16, .own 16), (17, .sv (.bool false))], [(16, some (.ints .i64 ([] : List Int)))]⟩) (kW hC [(16, 1088)]) rfl ⟨rfl, trivial⟩
 refine kf b9 (Xag (Xaf (Xa2 (Xad ?_))))
 iterate 3 refine kO hT hC ?_
 refine Vc.nil ?_
 refine kS h ?_ ?_ <;> intro b10 h
 refine kt b10 (Xad ?_)
 iterate 7 refine kO hT hC ?_
 refine kC hC [(16, 1264)] Tryz.call130 h (fun _ => Xp5) fun q10 h => ?_
 iterate 2 refine kO hT hC ?_
 refine Vc.nil (Xah (Xa4 ?_))
 obtain rfl := kj h
 exact Xdx (τ := ⟨[(16, .own 16), (17, .sv (.bool true))], [(16, some (.ints .i64 q10))]⟩) (kW hC [(16, 1264)]) rfl ⟨rfl, trivial⟩
 refine kf b10 (Xag (Xaf (Xad ?_)))
 iterate 3 refine kO hT hC ?_
 refine kC hC [(16, 1344)] Tryz.call246 h (fun _ => Xw8) fun q11 h => ?_
 iterate 5 refine kO hT hC ?_
 refine Vc.nil (Xa2 (Xad ?_))
 iterate 3 refine kO hT hC ?_
 refine Vc.nil ?_
 refine kS h ?_ ?_ <;> intro b11 h
 refine kt b11 (Xad ?_)
 iterate 13 refine kO hT hC ?_
 refine kC hC [(16, 1648)] Tryz.call130 h (fun _ => Xp5) fun q12 h => ?_
 refine kO hT hC ?_
 refine kC hC [(16, 1680)] Tryz.call247 h (fun _ => Xuk) fun q13 h => ?_
 iterate 2 refine kO hT hC ?_
 refine Vc.nil (Xah (Xa4 ?_))
 obtain rfl := kj h
 exact Xdx (τ := ⟨[(16, .own 16), (17, .sv (.bool true))], [(16, some (.ints .i64 q13))]⟩) (kW hC [(16, 1680)]) rfl ⟨rfl, trivial⟩
 refine kf b11 (Xag (Xaf (Xad ?_)))
 iterate 3 refine kO hT hC ?_
 refine kC hC [(16, 1760), (17, 1761)] Tryz.call198 h (fun _ => Yeg) fun q14 h => ?_
 iterate 6 refine kO hT hC ?_
 refine kN ?_
 iterate 3 refine kO hT hC ?_
 refine kC hC [(16, 1856)] Tryz.call202 h (fun _ => Yei) fun q15 h => ?_
 refine kO hT hC ?_
 refine kC hC [(16, 1888)] Tryz.call247 h (fun _ => Xuk) fun q16 h => ?_
 iterate 2 refine kO hT hC ?_
 refine Vc.nil (Xah ?_)
 obtain rfl := kj h
 exact Xdx (τ := ⟨[(16, .own 16), (17, .sv (.bool true))], [(16, some (.ints .i64 q16))]⟩) (kW hC [(16, 1888)]) rfl ⟨rfl, trivial⟩
def Ylf (r : (List Int)) : AV := .own 16
def Yle (r : (List Int)) : Xbl := [(16, .ints .u8 r)]
theorem Yaw {p0 r} (h : Xqb p0 = some r) : AC Tryz.prog 207 [.agg [.sv (.int .i64 p0.Wide), .sv (.int .i64 p0.High), .sv (.str p0.Dots)]] [] (Ylf r) (Yle r) := by
 refine Xae hT Tryz.func207 rfl fun C hC => ?_
 unfold Xqb at h
 refine Xad ?_
 iterate 2 refine kO hT hC ?_
 refine kN ?_
 iterate 2 refine kO hT hC ?_
 refine kQ hT hC h fun h => ?_
 refine kO hT hC ?_
 refine Vc.nil (Xah ?_)
 obtain rfl := kj h
 exact Xdx (τ := ⟨[(2, .own 16)], [(16, some (.ints .u8 (Xal p0.Dots)))]⟩) (kW hC [(16, 80)]) rfl ⟨rfl, trivial⟩
def Yn0 (r : Pic) : AV := .agg [.sv (.int .i64 r.Wide), .sv (.int .i64 r.High), .sv (.str r.Dots)]
def Ynz (r : Pic) : Xbl := []
theorem Ypw {p0 p1 p2 p3 r} (h : Xte p0 p1 p2 p3 = some r) : AC Tryz.prog 131 [.agg [.sv (.int .i64 p0.Wide), .sv (.int .i64 p0.High), .sv (.str p0.Dots)], .sv (.int .i64 p1), .sv (.int .i64 p2), .sv (.ints .i64 p3)] [] (Yn0 r) (Ynz r) := by
 refine Xae hT Tryz.func131 rfl fun C hC => ?_
 unfold Xte at h
 refine Xad ?_
 iterate 2 refine kO hT hC ?_
 refine kN ?_
 refine kO hT hC ?_
 refine kC hC [(16, 208)] Tryz.call207 h (fun _ => Yaw) fun q1 h => ?_
 refine kO hT hC ?_
 refine Vc.nil (Xa2 (Xad ?_))
 iterate 3 refine kO hT hC ?_
 refine Vc.nil ?_
 refine kL [1,2,4,8,9,14,15,16] [64,128,208] [_,_,_,_,_,_,_,_] [_,_,_] ?_
 refine kX h (fun v3 => ([(16, .sv (.int .i64 v3.1))], [(208, some (.ints .u8 v3.2))])) (fun v5 => ([(1, .any), (2, .any), (14, .any), (15, .any), (16, .any)], [(208, some (.ints .u8 v5))])) (kW hC []) (fun v3 s h => ?_) fun v5 h => ?_
 unfold Xq5 at h
 refine Xad ?_
 refine kO hT hC ?_
 refine Vc.nil (Xa2 ?_)
 refine kS h ?_ ?_ <;> intro b3 h
 refine kt b3 (Xag (Xaf (Xa2 (Xau (Xad ?_)))))
 refine kO hT hC ?_
 refine kQ hT hC h fun h => ?_
 iterate 3 refine kO hT hC ?_
 refine Vc.nil (Xac ?_)
 iterate 3 refine kO hT hC ?_
 refine kQ hT hC h fun h => ?_
 iterate 7 refine kO hT hC ?_
 refine kQ hT hC h fun h => ?_
 iterate 3 refine kO hT hC ?_
 iterate 2 refine kQ hT hC h fun h => ?_
 refine Vc.nil (Xax (Xaf (Xac ?_)))
 iterate 2 refine kO hT hC ?_
 exact Vc.nil kG
 exact kf b3 (Xaw (Xbd ku))
 refine Xaf (Xad ?_)
 iterate 4 refine kO hT hC ?_
 refine kN ?_
 iterate 2 refine kO hT hC ?_
 exact Vc.nil (Xah kR)
def Xp9 (r : (Pic × Bool)) : AV := .tup [.agg [.sv (.int .i64 r.1.Wide), .sv (.int .i64 r.1.High), .sv (.str r.1.Dots)], .sv (.bool r.2)]
def Xp8 (r : (Pic × Bool)) : Xbl := []
theorem Ybu {p0 p1 p2 p3 p4 r} (h : Xko p0 p1 p2 p3 p4 = some r) : AC Tryz.prog 191 [.agg [.sv (.int .i64 p0.Wide), .sv (.int .i64 p0.High), .sv (.str p0.Dots)], .agg [.sv (.int .i64 p1.Left), .sv (.int .i64 p1.Top), .sv (.int .i64 p1.Wide), .sv (.int .i64 p1.High)], .agg [.sv (.bool p2.Key), .sv (.int .i64 p2.Qp), .sv (.bool p2.Large), .sv (.bool p2.Exact)], .sv (.bool p3), .sv (Xe4.sv p4)] [] (Xp9 r) (Xp8 r) := by
 refine Xae hT Tryz.func191 rfl fun C hC => ?_
 unfold Xko at h
 refine Xad ?_
 iterate 5 refine kO hT hC ?_
 refine Vc.nil (Xa2 ?_)
 refine kL [3,4,5,6,7,10] [80,96,112,160] [_,_,_,_,_,_] [_,_,_,_] ?_
 refine kA h (fun v1 => ([(59, .sv (.bool v1))], [])) (fun v1 h => ?_) fun v1 h => ?_
 refine Xac ?_
 iterate 2 refine kO hT hC ?_
 refine kC hC [] Tryz.call126 h (fun _ => Xut) fun q2 h => ?_
 iterate 2 refine kO hT hC ?_
 refine kS h ?_ ?_ <;> intro b1 h
 iterate 2 refine kI hT hC (kn b1) ?_
 refine kE hC (kn b1) [] Tryz.call126 h (fun _ => Xut) fun q3 h => ?_
 refine kI hT hC (kn b1) ?_
 refine kP hC false (kn b1) ?_
 refine kO hT hC ?_
 refine kS h ?_ ?_ <;> intro b2 h
 iterate 2 refine kI hT hC (kn b2) ?_
 refine kE hC (kn b2) [] Tryz.call116 h (fun _ => Xak) fun q4 h => ?_
 refine kI hT hC (kn b2) ?_
 refine kP hC false (kn b2) ?_
 refine kO hT hC ?_
 refine kS h ?_ ?_ <;> intro b3 h
 iterate 2 refine kI hT hC (kn b3) ?_
 refine kE hC (kn b3) [] Tryz.call116 h (fun _ => Xak) fun q5 h => ?_
 refine kI hT hC (kn b3) ?_
 refine kP hC false (kn b3) ?_
 refine kO hT hC ?_
 refine kS h ?_ ?_ <;> intro b4 h
 refine kI hT hC (kn b4) ?_
 refine kE hC (kn b4) [] Tryz.call127 h (fun _ => Xmd) fun q6 h => ?_
 refine kI hT hC (kn b4) ?_
 refine kP hC false (kn b4) ?_
 refine kO hT hC ?_
 refine kS h ?_ ?_ <;> intro b5 h
 iterate 4 refine kI hT hC (kn b5) ?_
 refine kJ hT hC (kn b5) h fun h => ?_
 iterate 2 refine kI hT hC (kn b5) ?_
 refine kJ hT hC (kn b5) h fun h => ?_
 iterate 2 refine kI hT hC (kn b5) ?_
 refine kP hC false (kn b5) ?_
 exact Vc.nil kM
 iterate 10 refine kF hC (kn b5) ?_
 refine kP hC true (kn b5) ?_
 exact Vc.nil kM
 iterate 3 refine kF hC (kn b4) ?_
 refine kP hC true (kn b4) ?_
 refine kO hT hC ?_
 iterate 10 refine kF hC rfl ?_
 refine kO hT hC ?_
 exact Vc.nil kM
 iterate 4 refine kF hC (kn b3) ?_
 refine kP hC true (kn b3) ?_
 refine kO hT hC ?_
 iterate 3 refine kF hC rfl ?_
 iterate 2 refine kO hT hC ?_
 iterate 10 refine kF hC rfl ?_
 refine kO hT hC ?_
 exact Vc.nil kM
 iterate 4 refine kF hC (kn b2) ?_
 refine kP hC true (kn b2) ?_
 refine kO hT hC ?_
 iterate 4 refine kF hC rfl ?_
 iterate 2 refine kO hT hC ?_
 iterate 3 refine kF hC rfl ?_
 iterate 2 refine kO hT hC ?_
 iterate 10 refine kF hC rfl ?_
 refine kO hT hC ?_
 exact Vc.nil kM
 iterate 4 refine kF hC (kn b1) ?_
 refine kP hC true (kn b1) ?_
 refine kO hT hC ?_
 iterate 4 refine kF hC rfl ?_
 iterate 2 refine kO hT hC ?_
 iterate 4 refine kF hC rfl ?_
 iterate 2 refine kO hT hC ?_
 iterate 3 refine kF hC rfl ?_
 iterate 2 refine kO hT hC ?_
 iterate 10 refine kF hC rfl ?_
 refine kO hT hC ?_
 exact Vc.nil kM
 refine kS h ?_ ?_ <;> intro b6 h
 refine kt b6 (Xad ?_)
 iterate 3 refine kO hT hC ?_
 exact Vc.nil (Xah (Xa4 kR))
 refine kf b6 (Xag (Xaf (Xa2 ?_)))
 refine kL [3,4,5,6,7,10] [80,96,112,160] [_,_,_,_,_,_] [_,_,_,_] ?_
 refine kA h (fun v7 => ([(74, .sv (.bool v7))], [])) (fun v7 h => ?_) fun v7 h => ?_
 refine Xac ?_
 iterate 4 refine kO hT hC ?_
 refine kS h ?_ ?_ <;> intro b7 h
 iterate 4 refine kF hC (kn b7) ?_
 iterate 4 refine Xlf hC rfl rfl rfl rfl rfl rfl ?_
 refine kF hC (kn b7) ?_
 refine kP hC false (kn b7) ?_
 exact Vc.nil kM
 refine kI hT hC (kn b7) ?_
 refine kE hC (kn b7) [] Tryz.call47 h (fun _ => Xdz) fun q8 h => ?_
 iterate 2 refine kI hT hC (kn b7) ?_
 refine kS h ?_ ?_ <;> intro b8 h
 iterate 2 refine kI hT hC (kn b8) ?_
 refine kE hC (kn b8) [] Tryz.call233 h (fun _ => Xlm) fun q9 h => ?_
 refine kI hT hC (kn b8) ?_
 refine Xby hC rfl rfl rfl rfl (kn b7) rfl rfl (b := false) (kn b8) rfl rfl rfl trivial ?_
 refine kP hC true (kn b7) ?_
 exact Vc.nil kM
 iterate 4 refine kF hC (kn b8) ?_
 refine Xby hC rfl rfl rfl rfl (kn b7) rfl rfl (b := true) (kn b8) rfl rfl rfl trivial ?_
 refine kP hC true (kn b7) ?_
 exact Vc.nil kM
 refine kS h ?_ ?_ <;> intro b9 h
 refine kt b9 (Xad ?_)
 iterate 3 refine kO hT hC ?_
 exact Vc.nil (Xah (Xa4 kR))
 refine kf b9 (Xag (Xaf ?_))
 refine Xdw hm ?_
 iterate 6 refine kO hT hC ?_
 refine kD ?_
 refine kL [3,4,5,6,7,10,12,13] [80,96,112,160] [_,_,_,_,_,_,_,_] [_,_,_,_] ?_
 refine kA h (fun v10 => ([(12, .sv (.int .i64 v10.1)), (13, .sv (.int .i64 v10.2.1)), (3, .any)], [(80, some (.box [.sv (.int .i64 v10.2.2.1), .sv (.int .i64 v10.2.2.2.1), .sv (.str v10.2.2.2.2)]))])) (fun v10 h => ?_) fun v10 h => ?_
 refine Xad ?_
 refine kO hT hC ?_
 refine Vc.nil ?_
 refine kS h ?_ ?_ <;> intro b10 h
 refine kt b10 (Xad ?_)
 iterate 2 refine kO hT hC ?_
 refine kN ?_
 iterate 3 refine kO hT hC ?_
 refine Vc.nil ?_
 refine kS h ?_ ?_ <;> intro b11 h
 refine kt b11 (Xac ?_)
 iterate 2 refine kO hT hC ?_
 refine kC hC [] Tryz.call234 h (fun _ => Yk5) fun q11 h => ?_
 iterate 4 refine kO hT hC ?_
 exact Vc.nil kM
 exact kf b11 (Xag kM)
 exact kf b10 (Xag kM)
 refine Xad ?_
 iterate 4 refine kO hT hC ?_
 refine kC hC [] Tryz.call128 h (fun _ => Yau) fun q12 h => ?_
 iterate 2 refine kO hT hC ?_
 refine Vc.nil (Xa2 (Xad ?_))
 iterate 3 refine kO hT hC ?_
 refine Vc.nil ?_
 refine kL [5,6,7,10,12,13,14,95,96,97] [80,96,112,160,224] [_,_,_,_,_,_,_,_,_,_] [_,_,_,_,_] ?_
 obtain ⟨o23, hl, h⟩ := Xb6 h
 refine Xlx (fun v16 => ([(97, .sv (.int .i64 v16.1))], [(224, some (.box [.sv (.int .i64 v16.2.1), .sv (.int .i64 v16.2.2.1), .sv (.str v16.2.2.2)]))])) (fun v20 => ([(5, .any), (6, .any), (7, .any), (12, .any), (13, .any), (95, .any), (96, .any), (97, .any)], [(224, some (.box [.sv (.int .i64 v20.1), .sv (.int .i64 v20.2.1), .sv (.str v20.2.2)])), (80, none), (96, none), (112, none)])) (fun r => Xvb C T Tryz.f191.results.toList (Xp9 r) (Xp8 r)) hl ?_ ?_ ?_ ?_
 try dsimp only
 apply Xi9 hC []
 exact co
 rfl
 decide
 rfl
 intro v16 s hs
 have h := hs
 unfold Xb3 at h
 refine Xad ?_
 refine kO hT hC ?_
 refine Vc.nil (Xa2 ?_)
 refine kS h ?_ ?_ <;> intro b16 h
 refine kt b16 (Xag (Xaf (Xa2 (Xau (Xad ?_)))))
 refine kO hT hC ?_
 refine kQ hT hC h fun h => ?_
 iterate 4 refine kO hT hC ?_
 refine Vc.nil ?_
 refine Xdw hm ?_
 iterate 3 refine kO hT hC ?_
 iterate 2 refine kQ hT hC h fun h => ?_
 iterate 4 refine kO hT hC ?_
 iterate 2 refine kQ hT hC h fun h => ?_
 iterate 3 refine kO hT hC ?_
 refine kD (Xad ?_)
 iterate 8 refine kO hT hC ?_
 refine kC hC [(16, 1968)] Tryz.call205 h (fun _ => Xxf) fun q21 h => ?_
 iterate 5 refine kO hT hC ?_
 refine Vc.nil (Xa2 (Xad ?_))
 iterate 2 refine kO hT hC ?_
 refine Vc.nil ?_
 refine kS h ?_ ?_ <;> intro b17 h
 refine kt b17 (Xad ?_)
 iterate 3 refine kO hT hC ?_
 refine Vc.nil (Xah (Xa4 (Xg6 (Xa4 ?_))))
 obtain rfl := kj h
 refine Xx5 (Xx1 ?_)
 exact Xdx (Xif.refl _) rfl trivial
 refine kf b17 (Xag (Xaf (Xac ?_)))
 iterate 4 refine kO hT hC ?_
 refine kC hC [] Tryz.call131 h (fun _ => Ypw) fun q22 h => ?_
 refine kO hT hC ?_
 refine Vc.nil (Xax (Xaf (Xac ?_)))
 iterate 2 refine kO hT hC ?_
 exact Vc.nil kG
 exact kf b16 (Xaw (Xbd kb))
 intro v20 e
 subst e
 refine Xaf (Xad ?_)
 iterate 3 refine kO hT hC ?_
 exact Vc.nil (Xah kR)
 intro r' σ' e hE
 subst e
 obtain rfl := kj h
 refine Xa4 ?_
 exact hE
def Yes (r : (Pic × Bool)) : AV := .tup [.agg [.sv (.int .i64 r.1.Wide), .sv (.int .i64 r.1.High), .sv (.str r.1.Dots)], .sv (.bool r.2)]
def Yer (r : (Pic × Bool)) : Xbl := []
theorem Yh2 {p0 p1 p2 p3 r} (h : Xoa p0 p1 p2 p3 = some r) : AC Tryz.prog 192 [.agg [.sv (.int .i64 p0.Wide), .sv (.int .i64 p0.High), .sv (.str p0.Dots)], .agg [.sv (.int .i64 p1.Wide), .sv (.int .i64 p1.High), .sv (.str p1.Dots)], .sv (.int .i64 p2), .sv (.int .i64 p3)] [] (Yes r) (Yer r) := by
 refine Xae hT Tryz.func192 rfl fun C hC => ?_
 unfold Xoa at h
 refine Xad ?_
 iterate 4 refine kO hT hC ?_
 refine Vc.nil (Xa2 ?_)
 refine kL [2,3,4,5,8] [64,80,128] [_,_,_,_,_] [_,_,_] ?_
 refine kA h (fun v1 => ([(31, .sv (.bool v1))], [])) (fun v1 h => ?_) fun v1 h => ?_
 refine Xac ?_
 refine kO hT hC ?_
 refine kC hC [] Tryz.call47 h (fun _ => Xdz) fun q2 h => ?_
 iterate 2 refine kO hT hC ?_
 refine kS h ?_ ?_ <;> intro b1 h
 refine kI hT hC (kn b1) ?_
 refine kE hC (kn b1) [] Tryz.call47 h (fun _ => Xdz) fun q3 h => ?_
 refine kI hT hC (kn b1) ?_
 refine kP hC false (kn b1) ?_
 refine kO hT hC ?_
 refine kS h ?_ ?_ <;> intro b2 h
 iterate 8 refine kI hT hC (kn b2) ?_
 refine kE hC (kn b2) [] Tryz.call233 h (fun _ => Xlm) fun q4 h => ?_
 refine kI hT hC (kn b2) ?_
 refine kP hC false (kn b2) ?_
 exact Vc.nil kM
 iterate 10 refine kF hC (kn b2) ?_
 refine kP hC true (kn b2) ?_
 exact Vc.nil kM
 iterate 3 refine kF hC (kn b1) ?_
 refine kP hC true (kn b1) ?_
 refine kO hT hC ?_
 iterate 10 refine kF hC rfl ?_
 refine kO hT hC ?_
 exact Vc.nil kM
 refine kS h ?_ ?_ <;> intro b3 h
 refine kt b3 (Xad ?_)
 iterate 3 refine kO hT hC ?_
 exact Vc.nil (Xah (Xa4 kR))
 refine kf b3 (Xag (Xaf (Xad ?_)))
 refine kO hT hC ?_
 refine kC hC [(16, 544)] Tryz.call207 h (fun _ => Yaw) fun q5 h => ?_
 refine kO hT hC ?_
 refine Vc.nil (Xa2 (Xad ?_))
 iterate 3 refine kO hT hC ?_
 refine Vc.nil ?_
 refine kL [2,3,4,5,8,10,36,37] [64,80,128,544] [_,_,_,_,_,_,_,_] [_,_,_,_] ?_
 refine kX h (fun v7 => ([(37, .sv (.int .i64 v7.1))], [(544, some (.ints .u8 v7.2))])) (fun v9 => ([(2, .any), (3, .any), (5, .any), (36, .any), (37, .any)], [(544, some (.ints .u8 v9)), (80, none)])) (kW hC []) (fun v7 s h => ?_) fun v9 h => ?_
 unfold Xmf at h
 refine Xad ?_
 refine kO hT hC ?_
 refine Vc.nil (Xa2 ?_)
 refine kS h ?_ ?_ <;> intro b6 h
 refine kt b6 (Xag (Xaf (Xa2 (Xau (Xad ?_)))))
 iterate 2 refine kO hT hC ?_
 refine Vc.nil ?_
 refine Xf6 hm ?_
 iterate 9 refine kO hT hC ?_
 refine kQ hT hC h fun h => ?_
 iterate 11 refine kO hT hC ?_
 refine kQ hT hC h fun h => ?_
 obtain ⟨hq, h⟩ := Xa7 h
 refine Yyw hT hC rfl rfl rfl rfl rfl rfl rfl rfl rfl ⟨⟨trivial, hq.1⟩, hq.2⟩ ?_
 refine kD (Xax (Xaf (Xac ?_)))
 iterate 2 refine kO hT hC ?_
 exact Vc.nil kG
 exact kf b6 (Xaw (Xbd ku))
 refine Xaf (Xad ?_)
 iterate 4 refine kO hT hC ?_
 refine kN ?_
 iterate 3 refine kO hT hC ?_
 exact Vc.nil (Xah kR)
def Yib (r : Int) : AV := .sv (.int .i64 r)
def Yia (r : Int) : Xbl := []
theorem Yld {p0 p1 r} (h : Xtd p0 p1 = some r) : AC Tryz.prog 72 [.sv (.int .i64 p0), .sv (.int .i64 p1)] [] (Yib r) (Yia r) := by
 refine Xae hT Tryz.func72 rfl fun C hC => ?_
 unfold Xtd at h
 refine Xad ?_
 refine kO hT hC ?_
 refine kN ?_
 iterate 3 refine kO hT hC ?_
 iterate 2 refine kQ hT hC h fun h => ?_
 refine kO hT hC ?_
 exact Vc.nil (Xah kR)
def Xpl (r : (Xar × Int × Pic × Xar)) : AV := .tup [.agg [.sv (.bool r.1.HasSeq), .sv (.bool r.1.HasPar), .sv (.bool r.1.HasRef), .sv (.int .i64 r.1.Seq.Level), .sv (.int .i64 r.1.Seq.Bits), .own 3, .own 4, .sv (.int .i64 r.1.Par.Qp), .sv (.bool r.1.Par.Large), .sv (.bool r.1.Par.Exact), .sv (.bool r.1.Par.Confined), .sv (.int .i64 r.1.Frame), .sv (.int .i64 r.1.Got), .sv (.int .i64 r.1.Now.Wide), .sv (.int .i64 r.1.Now.High), .sv (.str r.1.Now.Dots), .sv (.int .i64 r.1.Ref.Wide), .sv (.int .i64 r.1.Ref.High), .sv (.str r.1.Ref.Dots)], .sv (.int .i64 r.2.1), .agg [.sv (.int .i64 r.2.2.1.Wide), .sv (.int .i64 r.2.2.1.High), .sv (.str r.2.2.1.Dots)]]
def Xpk (r : (Xar × Int × Pic × Xar)) : Xbl := [(3, .ints .i64 r.2.2.2.Seq.Cols), (4, .ints .i64 r.2.2.2.Seq.Rows)]
theorem Xp4 {p0 p1 p2 r} (h : Xdj p0 p1 p2 = some r) : AC Tryz.prog 115 [.agg [.sv (.bool p0.HasSeq), .sv (.bool p0.HasPar), .sv (.bool p0.HasRef), .sv (.int .i64 p0.Seq.Level), .sv (.int .i64 p0.Seq.Bits), .own 3, .own 4, .sv (.int .i64 p0.Par.Qp), .sv (.bool p0.Par.Large), .sv (.bool p0.Par.Exact), .sv (.bool p0.Par.Confined), .sv (.int .i64 p0.Frame), .sv (.int .i64 p0.Got), .sv (.int .i64 p0.Now.Wide), .sv (.int .i64 p0.Now.High), .sv (.str p0.Now.Dots), .sv (.int .i64 p0.Ref.Wide), .sv (.int .i64 p0.Ref.High), .sv (.str p0.Ref.Dots)], .sv (.bool p1), .sv (.str p2)] [(3, .ints .i64 p0.Seq.Cols), (4, .ints .i64 p0.Seq.Rows)] (Xpl r) (Xpk r) := by
 refine Xae hT Tryz.func115 rfl fun C hC => ?_
 unfold Xdj at h
 refine Xad ?_
 iterate 4 refine kO hT hC ?_
 refine Vc.nil (Xa2 ?_)
 refine kL [1,2,3,6,8] [3,4,48,96,128] [_,_,_,_,_] [_,_,_,_,_] ?_
 refine kA h (fun v1 => ([(26, .sv (.bool v1))], [])) (fun v1 h => ?_) fun v1 h => ?_
 refine Xac ?_
 iterate 4 refine kO hT hC ?_
 refine kS h ?_ ?_ <;> intro b1 h
 iterate 3 refine kI hT hC (kn b1) ?_
 refine kP hC false (kn b1) ?_
 exact Vc.nil kM
 iterate 3 refine kF hC (kn b1) ?_
 refine kP hC true (kn b1) ?_
 exact Vc.nil kM
 refine kS h ?_ ?_ <;> intro b2 h
 refine kt b2 (Xad ?_)
 iterate 5 refine kO hT hC ?_
 refine Vc.nil (Xah (Xa4 ?_))
 obtain rfl := kj h
 exact Xdx (Xif.refl _) rfl ⟨rfl, rfl, trivial⟩
 refine kf b2 (Xag (Xaf (Xad ?_)))
 iterate 5 refine kO hT hC ?_
 refine kC hC [] Tryz.call143 h (fun _ => Ybm) fun q2 h => ?_
 iterate 8 refine kO hT hC ?_
 refine Vc.nil (Xa2 (Xau (Xad ?_)))
 iterate 3 refine kO hT hC ?_
 refine Vc.nil ?_
 refine kS h ?_ ?_ <;> intro b3 h
 refine kt b3 (Xad ?_)
 iterate 5 refine kO hT hC ?_
 refine Vc.nil (Xah (Xg6 (Xa4 ?_)))
 obtain rfl := kj h
 exact Xdx (Xif.refl _) rfl ⟨rfl, rfl, trivial⟩
 refine kf b3 (Xad ?_)
 iterate 6 refine kO hT hC ?_
 refine Vc.nil ?_
 refine kS h ?_ ?_ <;> intro b4 h
 refine kt b4 (Xad ?_)
 iterate 5 refine kO hT hC ?_
 refine Vc.nil (Xah (Xg6 (Xa4 ?_)))
 obtain rfl := kj h
 exact Xdx (Xif.refl _) rfl ⟨rfl, rfl, trivial⟩
 refine kf b4 ?_
 refine kL [1,2,3,6,8,9,10] [3,4,48,96,128,144] [_,_,_,_,_,_,_] [_,_,_,_,_,_] ?_
 refine kA h (fun v3 => ([(52, .sv (.bool v3))], [])) (fun v3 h => ?_) fun v3 h => ?_
 refine Xac ?_
 iterate 4 refine kO hT hC ?_
 refine kS h ?_ ?_ <;> intro b5 h
 iterate 5 refine kI hT hC b5 ?_
 refine kP hC true b5 ?_
 refine kO hT hC ?_
 exact Vc.nil kM
 iterate 5 refine kF hC b5 ?_
 refine kP hC false b5 ?_
 refine kO hT hC ?_
 exact Vc.nil kM
 refine kS h ?_ ?_ <;> intro b6 h
 refine kt b6 (Xad ?_)
 iterate 5 refine kO hT hC ?_
 refine Vc.nil (Xah (Xg6 (Xa4 ?_)))
 obtain rfl := kj h
 exact Xdx (Xif.refl _) rfl ⟨rfl, rfl, trivial⟩
 refine kf b6 ?_
 refine kL [1,2,3,6,8,9,10] [3,4,48,96,128,144] [_,_,_,_,_,_,_] [_,_,_,_,_,_] ?_
 refine kA h (fun v4 => ([(65, .sv (.bool v4))], [])) (fun v4 h => ?_) fun v4 h => ?_
 refine Xac ?_
 iterate 3 refine kO hT hC ?_
 refine kS h ?_ ?_ <;> intro b7 h
 iterate 3 refine kF hC (kn b7) ?_
 refine kP hC false (kn b7) ?_
 refine kO hT hC ?_
 exact Vc.nil kM
 iterate 3 refine kI hT hC (kn b7) ?_
 refine kP hC true (kn b7) ?_
 refine kO hT hC ?_
 exact Vc.nil kM
 refine kS h ?_ ?_ <;> intro b8 h
 refine kt b8 (Xad ?_)
 iterate 5 refine kO hT hC ?_
 refine Vc.nil (Xah (Xg6 (Xa4 ?_)))
 obtain rfl := kj h
 exact Xdx (Xif.refl _) rfl ⟨rfl, rfl, trivial⟩
 refine kf b8 (Xag (Xax (Xaf (Xad ?_))))
 iterate 12 refine kO hT hC ?_
 refine Vc.nil ?_
 refine Xdw hm ?_
 iterate 6 refine kO hT hC ?_
 refine kC hC [] Tryz.call189 h (fun _ => Xvs) fun q5 h => ?_
 refine kO hT hC ?_
 refine kC hC [(16, 1504)] Tryz.call188 h (fun _ => Ybr) fun q6 h => ?_
 iterate 5 refine kO hT hC ?_
 refine kD (Xa2 (Xad ?_))
 iterate 2 refine kO hT hC ?_
 refine Vc.nil ?_
 refine kS h ?_ ?_ <;> intro b9 h
 refine kt b9 (Xad ?_)
 iterate 5 refine kO hT hC ?_
 refine Vc.nil (Xah (Xa4 ?_))
 obtain rfl := kj h
 exact Xdx (Xif.refl _) rfl ⟨rfl, rfl, trivial⟩
 refine kf b9 (Xag (Xaf (Xad ?_)))
 iterate 4 refine kO hT hC ?_
 refine kC hC [] Tryz.call190 h (fun _ => Xrs) fun q7 h => ?_
 iterate 6 refine kO hT hC ?_
 refine kN ?_
 iterate 8 refine kO hT hC ?_
 refine kC hC [] Tryz.call191 h (fun _ => Ybu) fun q8 h => ?_
 iterate 6 refine kO hT hC ?_
 refine Vc.nil ?_
 refine kL [3,6,8,9,15,17] [3,4,48,96,128,144,240,272] [_,_,_,_,_,_] [_,_,_,_,_,_,_,_] ?_
 refine kA h (fun v9 => ([], [(48, some (.box [.sv (.bool p0.HasSeq), .sv (.bool p0.HasPar), .sv (.bool p0.HasRef), .sv (.int .i64 p0.Seq.Level), .sv (.int .i64 p0.Seq.Bits), .own 3, .own 4, .sv (.int .i64 p0.Par.Qp), .sv (.bool p0.Par.Large), .sv (.bool p0.Par.Exact), .sv (.bool p0.Par.Confined), .sv (.int .i64 p0.Frame), .sv (.int .i64 p0.Got), .sv (.int .i64 v9.1), .sv (.int .i64 v9.2.1), .sv (.str v9.2.2), .sv (.int .i64 p0.Ref.Wide), .sv (.int .i64 p0.Ref.High), .sv (.str p0.Ref.Dots)]))])) (fun v9 h => ?_) fun v9 h => ?_
 refine Xad ?_
 iterate 3 refine kO hT hC ?_
 refine Vc.nil ?_
 refine kS h ?_ ?_ <;> intro b10 h
 refine kt b10 (Xac ?_)
 iterate 2 refine kO hT hC ?_
 refine kC hC [] Tryz.call125 h (fun _ => Xuo) fun q10 h => ?_
 iterate 2 refine kO hT hC ?_
 refine kC hC [] Tryz.call128 h (fun _ => Yau) fun q11 h => ?_
 iterate 2 refine kO hT hC ?_
 exact Vc.nil kM
 exact kf b10 (Xag kM)
 refine Xad ?_
 iterate 7 refine kO hT hC ?_
 refine kC hC [] Tryz.call192 h (fun _ => Yh2) fun q12 h => ?_
 iterate 5 refine kO hT hC ?_
 refine kN ?_
 iterate 5 refine kO hT hC ?_
 refine kN ?_
 iterate 4 refine kO hT hC ?_
 refine Vc.nil (Xa2 ?_)
 refine Xdw hm ?_
 iterate 4 refine kO hT hC ?_
 refine kC hC [] Tryz.call123 h (fun _ => Xkp) fun q13 h => ?_
 refine kO hT hC ?_
 refine kD ?_
 refine kS h ?_ ?_ <;> intro b11 h
 refine kt b11 (Xad ?_)
 iterate 5 refine kO hT hC ?_
 refine Vc.nil (Xah (Xa4 ?_))
 obtain rfl := kj h
 exact Xdx (Xif.refl _) rfl ⟨rfl, rfl, trivial⟩
 refine kf b11 (Xag (Xaf (Xad ?_)))
 iterate 4 refine kO hT hC ?_
 refine kN ?_
 iterate 2 refine kO hT hC ?_
 refine kN ?_
 iterate 3 refine kO hT hC ?_
 refine kN ?_
 iterate 2 refine kO hT hC ?_
 refine kN ?_
 iterate 5 refine kO hT hC ?_
 refine kC hC [] Tryz.call72 h (fun _ => Yld) fun q14 h => ?_
 iterate 2 refine kO hT hC ?_
 refine Vc.nil ?_
 refine Xdw hm ?_
 iterate 6 refine kO hT hC ?_
 refine kD (Xah ?_)
 obtain rfl := kj h
 exact Xdx (Xif.refl _) rfl ⟨rfl, rfl, trivial⟩
def Ybc (r : (Xar × Int × Pic)) : AV := .tup [.agg [.sv (.bool r.1.HasSeq), .sv (.bool r.1.HasPar), .sv (.bool r.1.HasRef), .sv (.int .i64 r.1.Seq.Level), .sv (.int .i64 r.1.Seq.Bits), .own 16, .own 17, .sv (.int .i64 r.1.Par.Qp), .sv (.bool r.1.Par.Large), .sv (.bool r.1.Par.Exact), .sv (.bool r.1.Par.Confined), .sv (.int .i64 r.1.Frame), .sv (.int .i64 r.1.Got), .sv (.int .i64 r.1.Now.Wide), .sv (.int .i64 r.1.Now.High), .sv (.str r.1.Now.Dots), .sv (.int .i64 r.1.Ref.Wide), .sv (.int .i64 r.1.Ref.High), .sv (.str r.1.Ref.Dots)], .sv (.int .i64 r.2.1), .agg [.sv (.int .i64 r.2.2.Wide), .sv (.int .i64 r.2.2.High), .sv (.str r.2.2.Dots)]]
def Ybb (r : (Xar × Int × Pic)) : Xbl := [(16, .ints .i64 r.1.Seq.Cols), (17, .ints .i64 r.1.Seq.Rows)]
theorem Yef {p0 p1 r} (h : Xjr p0 p1 = some r) : AC Tryz.prog 46 [.agg [.sv (.bool p0.HasSeq), .sv (.bool p0.HasPar), .sv (.bool p0.HasRef), .sv (.int .i64 p0.Seq.Level), .sv (.int .i64 p0.Seq.Bits), .sv (.ints .i64 p0.Seq.Cols), .sv (.ints .i64 p0.Seq.Rows), .sv (.int .i64 p0.Par.Qp), .sv (.bool p0.Par.Large), .sv (.bool p0.Par.Exact), .sv (.bool p0.Par.Confined), .sv (.int .i64 p0.Frame), .sv (.int .i64 p0.Got), .sv (.int .i64 p0.Now.Wide), .sv (.int .i64 p0.Now.High), .sv (.str p0.Now.Dots), .sv (.int .i64 p0.Ref.Wide), .sv (.int .i64 p0.Ref.High), .sv (.str p0.Ref.Dots)], .sv (.str p1)] [] (Ybc r) (Ybb r) := by
 refine Xae hT Tryz.func46 rfl fun C hC => ?_
 unfold Xjr at h
 refine Xad ?_
 iterate 4 refine kO hT hC ?_
 refine kN ?_
 refine kO hT hC ?_
 refine kC hC [(16, 272), (17, 273)] Tryz.call45 h (fun _ => Xob) fun q1 h => ?_
 refine kO hT hC ?_
 refine Vc.nil (Xa2 (Xad ?_))
 refine kO hT hC ?_
 refine kC hC [] Tryz.call111 h (fun _ => Yk7) fun q2 h => ?_
 refine kO hT hC ?_
 refine Vc.nil ?_
 refine kS h ?_ ?_ <;> intro b1 h
 refine kt b1 (Xad ?_)
 iterate 5 refine kO hT hC ?_
 refine Vc.nil (Xah (Xa4 ?_))
 obtain rfl := kj h
 exact Xdx (τ := ⟨[(4, .ptr 2000000 0), (5, .sv (.int .i64 1)), (6, .ptr 2000002 0)], [(16, some (.ints .i64 q1.Seq.Cols)), (17, some (.ints .i64 q1.Seq.Rows)), (2000000, some (.box [.sv (.bool q1.HasSeq), .sv (.bool q1.HasPar), .sv (.bool q1.HasRef), .sv (.int .i64 q1.Seq.Level), .sv (.int .i64 q1.Seq.Bits), .own 16, .own 17, .sv (.int .i64 q1.Par.Qp), .sv (.bool q1.Par.Large), .sv (.bool q1.Par.Exact), .sv (.bool q1.Par.Confined), .sv (.int .i64 q1.Frame), .sv (.int .i64 q1.Got), .sv (.int .i64 q1.Now.Wide), .sv (.int .i64 q1.Now.High), .sv (.str q1.Now.Dots), .sv (.int .i64 q1.Ref.Wide), .sv (.int .i64 q1.Ref.High), .sv (.str q1.Ref.Dots)])), (2000002, some (.box [.sv (.int .i64 0), .sv (.int .i64 0), .sv (.str ⟨#[]⟩)]))]⟩) (kW hC [(16, 272), (17, 273), (2000000, 64), (2000002, 96)]) rfl ⟨rfl, rfl, trivial⟩
 refine kf b1 (Xag (Xaf (Xad ?_)))
 refine kO hT hC ?_
 refine kC hC [] Tryz.call112 h (fun _ => Yh9) fun q3 h => ?_
 iterate 7 refine kO hT hC ?_
 refine Vc.nil (Xa2 (Xad ?_))
 iterate 2 refine kO hT hC ?_
 refine Vc.nil ?_
 refine kS h ?_ ?_ <;> intro b2 h
 refine kt b2 (Xad ?_)
 iterate 5 refine kO hT hC ?_
 refine Vc.nil (Xah (Xa4 ?_))
 obtain rfl := kj h
 exact Xdx (τ := ⟨[(4, .ptr 2000000 0), (5, .sv (.int .i64 2)), (6, .ptr 2000002 0)], [(16, some (.ints .i64 q1.Seq.Cols)), (17, some (.ints .i64 q1.Seq.Rows)), (2000000, some (.box [.sv (.bool q1.HasSeq), .sv (.bool q1.HasPar), .sv (.bool q1.HasRef), .sv (.int .i64 q1.Seq.Level), .sv (.int .i64 q1.Seq.Bits), .own 16, .own 17, .sv (.int .i64 q1.Par.Qp), .sv (.bool q1.Par.Large), .sv (.bool q1.Par.Exact), .sv (.bool q1.Par.Confined), .sv (.int .i64 q1.Frame), .sv (.int .i64 q1.Got), .sv (.int .i64 q1.Now.Wide), .sv (.int .i64 q1.Now.High), .sv (.str q1.Now.Dots), .sv (.int .i64 q1.Ref.Wide), .sv (.int .i64 q1.Ref.High), .sv (.str q1.Ref.Dots)])), (2000002, some (.box [.sv (.int .i64 0), .sv (.int .i64 0), .sv (.str ⟨#[]⟩)]))]⟩) (kW hC [(16, 272), (17, 273), (2000000, 64), (2000002, 96)]) rfl ⟨rfl, rfl, trivial⟩
 refine kf b2 (Xag (Xaf (Xa2 (Xad ?_))))
 refine kO hT hC ?_
 refine Vc.nil (Xau (Xad ?_))
 iterate 2 refine kO hT hC ?_
 refine Vc.nil ?_
 refine kS h ?_ ?_ <;> intro b3 h
 refine kt b3 (Xad ?_)
 refine kO hT hC ?_
 refine kC hC [(16, 608), (17, 609)] Tryz.call113 h (fun _ => Yeu) fun q4 h => ?_
 iterate 8 refine kO hT hC ?_
 refine Vc.nil (Xa2 ?_)
 refine kL [2,4,6,8,10,11,12] [32,64,96,160,272,273,608,609] [_,_,_,_,_,_,_] [_,_,_,_,_,_,_,_] ?_
 refine kA h (fun v5 => ([(49, .sv (.bool v5)), (8, .any), (11, .any), (12, .any)], [])) (fun v5 h => ?_) fun v5 h => ?_
 refine Xac ?_
 iterate 3 refine kO hT hC ?_
 refine kS h ?_ ?_ <;> intro b4 h
 iterate 4 refine kI hT hC (kn b4) ?_
 refine kP hC false (kn b4) ?_
 exact Vc.nil kM
 iterate 4 refine kF hC (kn b4) ?_
 refine kP hC true (kn b4) ?_
 exact Vc.nil kM
 refine kS h ?_ ?_ <;> intro b5 h
 refine kt b5 (Xad ?_)
 iterate 5 refine kO hT hC ?_
 refine Vc.nil (Xah (Xa4 (Xg6 (Xa4 ?_))))
 obtain rfl := kj h
 exact Xdx (τ := ⟨[(4, .ptr 2000000 0), (5, .sv (.int .i64 3)), (6, .ptr 2000002 0)], [(16, some (.ints .i64 q1.Seq.Cols)), (17, some (.ints .i64 q1.Seq.Rows)), (2000000, some (.box [.sv (.bool q1.HasSeq), .sv (.bool q1.HasPar), .sv (.bool q1.HasRef), .sv (.int .i64 q1.Seq.Level), .sv (.int .i64 q1.Seq.Bits), .own 16, .own 17, .sv (.int .i64 q1.Par.Qp), .sv (.bool q1.Par.Large), .sv (.bool q1.Par.Exact), .sv (.bool q1.Par.Confined), .sv (.int .i64 q1.Frame), .sv (.int .i64 q1.Got), .sv (.int .i64 q1.Now.Wide), .sv (.int .i64 q1.Now.High), .sv (.str q1.Now.Dots), .sv (.int .i64 q1.Ref.Wide), .sv (.int .i64 q1.Ref.High), .sv (.str q1.Ref.Dots)])), (2000002, some (.box [.sv (.int .i64 0), .sv (.int .i64 0), .sv (.str ⟨#[]⟩)]))]⟩) (kW hC [(16, 272), (17, 273), (2000000, 64), (2000002, 96)]) rfl ⟨rfl, rfl, trivial⟩
 refine kf b5 (Xag (Xaf (Xad ?_)))
 refine kC hC [] Tryz.call12 h (fun _ => Xpj) fun q6 h => ?_
 refine kO hT hC ?_
 refine kN ?_
 iterate 2 refine kO hT hC ?_
 refine kN ?_
 iterate 3 refine kO hT hC ?_
 refine kN ?_
 iterate 5 refine kO hT hC ?_
 refine Vc.nil (Xah (Xg6 (Xa4 ?_)))
 obtain rfl := kj h
 exact Xdx (τ := ⟨[(4, .ptr 2000000 0), (5, .sv (.int .i64 0)), (6, .ptr 2000002 0)], [(16, some (.ints .i64 q4.1.Cols)), (17, some (.ints .i64 q4.1.Rows)), (2000000, some (.box [.sv (.bool true), .sv (.bool q6.HasPar), .sv (.bool q6.HasRef), .sv (.int .i64 q4.1.Level), .sv (.int .i64 q4.1.Bits), .own 16, .own 17, .sv (.int .i64 q6.Par.Qp), .sv (.bool q6.Par.Large), .sv (.bool q6.Par.Exact), .sv (.bool q6.Par.Confined), .sv (.int .i64 q6.Frame), .sv (.int .i64 q6.Got), .sv (.int .i64 q6.Now.Wide), .sv (.int .i64 q6.Now.High), .sv (.str q6.Now.Dots), .sv (.int .i64 q6.Ref.Wide), .sv (.int .i64 q6.Ref.High), .sv (.str q6.Ref.Dots)])), (2000002, some (.box [.sv (.int .i64 0), .sv (.int .i64 0), .sv (.str ⟨#[]⟩)]))]⟩) (kW hC [(16, 608), (17, 609), (2000000, 64), (2000002, 96)]) rfl ⟨rfl, rfl, trivial⟩
 refine kf b3 (Xad ?_)
 iterate 2 refine kO hT hC ?_
 refine Vc.nil ?_
 refine kS h ?_ ?_ <;> intro b6 h
 refine kt b6 (Xad ?_)
 refine kO hT hC ?_
 refine kC hC [] Tryz.call114 h (fun _ => Yet) fun q7 h => ?_
 iterate 8 refine kO hT hC ?_
 refine Vc.nil (Xa2 ?_)
 refine kL [2,4,6,8,13,14,15] [32,64,96,208,272,273] [_,_,_,_,_,_,_] [_,_,_,_,_,_] ?_
 refine kA h (fun v8 => ([(73, .sv (.bool v8)), (8, .any), (14, .any), (15, .any)], [])) (fun v8 h => ?_) fun v8 h => ?_
 refine Xac ?_
 iterate 3 refine kO hT hC ?_
 refine kS h ?_ ?_ <;> intro b7 h
 iterate 4 refine kI hT hC (kn b7) ?_
 refine kP hC false (kn b7) ?_
 exact Vc.nil kM
 iterate 4 refine kF hC (kn b7) ?_
 refine kP hC true (kn b7) ?_
 exact Vc.nil kM
 refine kS h ?_ ?_ <;> intro b8 h
 refine kt b8 (Xad ?_)
 iterate 5 refine kO hT hC ?_
 refine Vc.nil (Xah (Xa4 (Xg6 (Xa4 ?_))))
 obtain rfl := kj h
 exact Xdx (τ := ⟨[(4, .ptr 2000000 0), (5, .sv (.int .i64 3)), (6, .ptr 2000002 0)], [(16, some (.ints .i64 q1.Seq.Cols)), (17, some (.ints .i64 q1.Seq.Rows)), (2000000, some (.box [.sv (.bool q1.HasSeq), .sv (.bool q1.HasPar), .sv (.bool q1.HasRef), .sv (.int .i64 q1.Seq.Level), .sv (.int .i64 q1.Seq.Bits), .own 16, .own 17, .sv (.int .i64 q1.Par.Qp), .sv (.bool q1.Par.Large), .sv (.bool q1.Par.Exact), .sv (.bool q1.Par.Confined), .sv (.int .i64 q1.Frame), .sv (.int .i64 q1.Got), .sv (.int .i64 q1.Now.Wide), .sv (.int .i64 q1.Now.High), .sv (.str q1.Now.Dots), .sv (.int .i64 q1.Ref.Wide), .sv (.int .i64 q1.Ref.High), .sv (.str q1.Ref.Dots)])), (2000002, some (.box [.sv (.int .i64 0), .sv (.int .i64 0), .sv (.str ⟨#[]⟩)]))]⟩) (kW hC [(16, 272), (17, 273), (2000000, 64), (2000002, 96)]) rfl ⟨rfl, rfl, trivial⟩
 refine kf b8 (Xag (Xaf (Xa2 ?_)))
 refine kL [2,4,6,13] [32,64,96,208,272,273] [_,_,_,_] [_,_,_,_,_,_] ?_
 refine kA h (fun v9 => ([(83, .sv (.bool v9))], [])) (fun v9 h => ?_) fun v9 h => ?_
 refine Xac ?_
 iterate 4 refine kO hT hC ?_
 refine kS h ?_ ?_ <;> intro b9 h
 iterate 3 refine kI hT hC (kn b9) ?_
 refine kP hC false (kn b9) ?_
 exact Vc.nil kM
 iterate 3 refine kF hC (kn b9) ?_
 refine kP hC true (kn b9) ?_
 exact Vc.nil kM
 refine kS h ?_ ?_ <;> intro b10 h
 refine kt b10 (Xad ?_)
 iterate 5 refine kO hT hC ?_
 refine Vc.nil (Xah (Xa4 (Xg6 (Xa4 ?_))))
 obtain rfl := kj h
 exact Xdx (τ := ⟨[(4, .ptr 2000000 0), (5, .sv (.int .i64 4)), (6, .ptr 2000002 0)], [(16, some (.ints .i64 q1.Seq.Cols)), (17, some (.ints .i64 q1.Seq.Rows)), (2000000, some (.box [.sv (.bool q1.HasSeq), .sv (.bool q1.HasPar), .sv (.bool q1.HasRef), .sv (.int .i64 q1.Seq.Level), .sv (.int .i64 q1.Seq.Bits), .own 16, .own 17, .sv (.int .i64 q1.Par.Qp), .sv (.bool q1.Par.Large), .sv (.bool q1.Par.Exact), .sv (.bool q1.Par.Confined), .sv (.int .i64 q1.Frame), .sv (.int .i64 q1.Got), .sv (.int .i64 q1.Now.Wide), .sv (.int .i64 q1.Now.High), .sv (.str q1.Now.Dots), .sv (.int .i64 q1.Ref.Wide), .sv (.int .i64 q1.Ref.High), .sv (.str q1.Ref.Dots)])), (2000002, some (.box [.sv (.int .i64 0), .sv (.int .i64 0), .sv (.str ⟨#[]⟩)]))]⟩) (kW hC [(16, 272), (17, 273), (2000000, 64), (2000002, 96)]) rfl ⟨rfl, rfl, trivial⟩
 refine kf b10 (Xag (Xaf (Xad ?_)))
 iterate 2 refine kO hT hC ?_
 refine kN ?_
 iterate 3 refine kO hT hC ?_
 refine kN ?_
 iterate 5 refine kO hT hC ?_
 refine Vc.nil (Xah (Xg6 (Xa4 ?_)))
 obtain rfl := kj h
 exact Xdx (τ := ⟨[(4, .ptr 2000000 0), (5, .sv (.int .i64 0)), (6, .ptr 2000002 0)], [(16, some (.ints .i64 q1.Seq.Cols)), (17, some (.ints .i64 q1.Seq.Rows)), (2000000, some (.box [.sv (.bool q1.HasSeq), .sv (.bool true), .sv (.bool q1.HasRef), .sv (.int .i64 q1.Seq.Level), .sv (.int .i64 q1.Seq.Bits), .own 16, .own 17, .sv (.int .i64 q7.1.Qp), .sv (.bool q7.1.Large), .sv (.bool q7.1.Exact), .sv (.bool q7.1.Confined), .sv (.int .i64 q1.Frame), .sv (.int .i64 q1.Got), .sv (.int .i64 q1.Now.Wide), .sv (.int .i64 q1.Now.High), .sv (.str q1.Now.Dots), .sv (.int .i64 q1.Ref.Wide), .sv (.int .i64 q1.Ref.High), .sv (.str q1.Ref.Dots)])), (2000002, some (.box [.sv (.int .i64 0), .sv (.int .i64 0), .sv (.str ⟨#[]⟩)]))]⟩) (kW hC [(16, 272), (17, 273), (2000000, 64), (2000002, 96)]) rfl ⟨rfl, rfl, trivial⟩
 refine kf b6 (Xag (Xax (Xaf (Xad ?_))))
 iterate 4 refine kO hT hC ?_
 refine kC hC [(3, 272), (4, 273)] Tryz.call115 h (fun _ => Xp4) fun q11 h => ?_
 iterate 6 refine kO hT hC ?_
 refine Vc.nil (Xah ?_)
 obtain rfl := kj h
 exact Xdx (τ := ⟨[(4, .ptr 2000000 0), (5, .sv (.int .i64 q11.2.1)), (6, .ptr 2000002 0)], [(16, some (.ints .i64 q11.2.2.2.Seq.Cols)), (17, some (.ints .i64 q11.2.2.2.Seq.Rows)), (2000000, some (.box [.sv (.bool q11.1.HasSeq), .sv (.bool q11.1.HasPar), .sv (.bool q11.1.HasRef), .sv (.int .i64 q11.1.Seq.Level), .sv (.int .i64 q11.1.Seq.Bits), .own 16, .own 17, .sv (.int .i64 q11.1.Par.Qp), .sv (.bool q11.1.Par.Large), .sv (.bool q11.1.Par.Exact), .sv (.bool q11.1.Par.Confined), .sv (.int .i64 q11.1.Frame), .sv (.int .i64 q11.1.Got), .sv (.int .i64 q11.1.Now.Wide), .sv (.int .i64 q11.1.Now.High), .sv (.str q11.1.Now.Dots), .sv (.int .i64 q11.1.Ref.Wide), .sv (.int .i64 q11.1.Ref.High), .sv (.str q11.1.Ref.Dots)])), (2000002, some (.box [.sv (.int .i64 q11.2.2.1.Wide), .sv (.int .i64 q11.2.2.1.High), .sv (.str q11.2.2.1.Dots)]))]⟩) (kW hC [(16, 272), (17, 273), (2000000, 64), (2000002, 96)]) rfl ⟨rfl, rfl, trivial⟩
def Yec (r : (Xar × (List Pic) × (List Int))) : AV := .tup [.agg [.sv (.bool r.1.HasSeq), .sv (.bool r.1.HasPar), .sv (.bool r.1.HasRef), .sv (.int .i64 r.1.Seq.Level), .sv (.int .i64 r.1.Seq.Bits), .own 16, .own 17, .sv (.int .i64 r.1.Par.Qp), .sv (.bool r.1.Par.Large), .sv (.bool r.1.Par.Exact), .sv (.bool r.1.Par.Confined), .sv (.int .i64 r.1.Frame), .sv (.int .i64 r.1.Got), .sv (.int .i64 r.1.Now.Wide), .sv (.int .i64 r.1.Now.High), .sv (.str r.1.Now.Dots), .sv (.int .i64 r.1.Ref.Wide), .sv (.int .i64 r.1.Ref.High), .sv (.str r.1.Ref.Dots)], .own 18, .own 19]
def Yeb (r : (Xar × (List Pic) × (List Int))) : Xbl := [(16, .ints .i64 r.1.Seq.Cols), (17, .ints .i64 r.1.Seq.Rows), (18, .row Ymr r.2.1), (19, .ints .i64 r.2.2)]
theorem Xuh {p0 p1 r} (h : Xjl p0 p1 = some r) : AC Tryz.prog 11 [.agg [.sv (.bool p0.HasSeq), .sv (.bool p0.HasPar), .sv (.bool p0.HasRef), .sv (.int .i64 p0.Seq.Level), .sv (.int .i64 p0.Seq.Bits), .sv (.ints .i64 p0.Seq.Cols), .sv (.ints .i64 p0.Seq.Rows), .sv (.int .i64 p0.Par.Qp), .sv (.bool p0.Par.Large), .sv (.bool p0.Par.Exact), .sv (.bool p0.Par.Confined), .sv (.int .i64 p0.Frame), .sv (.int .i64 p0.Got), .sv (.int .i64 p0.Now.Wide), .sv (.int .i64 p0.Now.High), .sv (.str p0.Now.Dots), .sv (.int .i64 p0.Ref.Wide), .sv (.int .i64 p0.Ref.High), .sv (.str p0.Ref.Dots)], .sv (Xbm.sv p1)] [] (Yec r) (Yeb r) := by
 refine Xae hT Tryz.func11 rfl fun C hC => ?_
 unfold Xjl at h
 refine Xad ?_
 iterate 4 refine kO hT hC ?_
 refine kN ?_
 refine kO hT hC ?_
 refine kC hC [(16, 240), (17, 241)] Tryz.call45 h (fun _ => Xob) fun q1 h => ?_
 refine kO hT hC ?_
 refine kN ?_
 iterate 4 refine kO hT hC ?_
 refine Vc.nil (Xa2 (Xad ?_))
 iterate 3 refine kO hT hC ?_
 refine Vc.nil ?_
 refine kS h ?_ ?_ <;> intro b1 h
 refine kt b1 (Xad ?_)
 iterate 6 refine kO hT hC ?_
 refine Vc.nil (Xah (Xa4 ?_))
 obtain rfl := kj h
 exact Xdx (τ := ⟨[(4, .ptr 2000000 0), (5, .own 18), (6, .own 19)], [(16, some (.ints .i64 q1.Seq.Cols)), (17, some (.ints .i64 q1.Seq.Rows)), (18, some (.row Ymr ([] : List Pic))), (19, some (.ints .i64 ([] : List Int))), (2000000, some (.box [.sv (.bool q1.HasSeq), .sv (.bool q1.HasPar), .sv (.bool q1.HasRef), .sv (.int .i64 q1.Seq.Level), .sv (.int .i64 q1.Seq.Bits), .own 16, .own 17, .sv (.int .i64 q1.Par.Qp), .sv (.bool q1.Par.Large), .sv (.bool q1.Par.Exact), .sv (.bool q1.Par.Confined), .sv (.int .i64 q1.Frame), .sv (.int .i64 q1.Got), .sv (.int .i64 q1.Now.Wide), .sv (.int .i64 q1.Now.High), .sv (.str q1.Now.Dots), .sv (.int .i64 q1.Ref.Wide), .sv (.int .i64 q1.Ref.High), .sv (.str q1.Ref.Dots)]))]⟩) (kW hC [(16, 240), (17, 241), (18, 256), (19, 272), (2000000, 64)]) rfl ⟨rfl, rfl, rfl, rfl, trivial⟩
 refine kf b1 (Xag (Xaf (Xa2 (Xad ?_))))
 iterate 3 refine kO hT hC ?_
 refine Vc.nil ?_
 refine kL [2,4,7,8,24,25,26] [32,64,240,241,256,272] [_,_,_,_,_,_,_] [_,_,_,_,_,_] ?_
 refine kX h (fun v6 => ([(26, .sv (.int .i64 v6.1))], [(32, some (.box [.sv (.bool v6.2.1), .sv (.bool v6.2.2.1), .sv (.bool v6.2.2.2.1), .sv (.int .i64 v6.2.2.2.2.1), .sv (.int .i64 v6.2.2.2.2.2.1), .own 240, .own 241, .sv (.int .i64 v6.2.2.2.2.2.2.1), .sv (.bool v6.2.2.2.2.2.2.2.1), .sv (.bool v6.2.2.2.2.2.2.2.2.1), .sv (.bool v6.2.2.2.2.2.2.2.2.2.1), .sv (.int .i64 v6.2.2.2.2.2.2.2.2.2.2.1), .sv (.int .i64 v6.2.2.2.2.2.2.2.2.2.2.2.1), .sv (.int .i64 v6.2.2.2.2.2.2.2.2.2.2.2.2.1), .sv (.int .i64 v6.2.2.2.2.2.2.2.2.2.2.2.2.2.1), .sv (.str v6.2.2.2.2.2.2.2.2.2.2.2.2.2.2.1), .sv (.int .i64 v6.2.2.2.2.2.2.2.2.2.2.2.2.2.2.2.1), .sv (.int .i64 v6.2.2.2.2.2.2.2.2.2.2.2.2.2.2.2.2.1), .sv (.str v6.2.2.2.2.2.2.2.2.2.2.2.2.2.2.2.2.2.1)])), (240, some (.ints .i64 v6.2.2.2.2.2.2.2.2.2.2.2.2.2.2.2.2.2.2.2.2.1)), (241, some (.ints .i64 v6.2.2.2.2.2.2.2.2.2.2.2.2.2.2.2.2.2.2.2.2.2)), (256, some (.row Ymr v6.2.2.2.2.2.2.2.2.2.2.2.2.2.2.2.2.2.2.1)), (272, some (.ints .i64 v6.2.2.2.2.2.2.2.2.2.2.2.2.2.2.2.2.2.2.2.1))])) (fun v11 => ([(24, .any), (25, .any), (26, .any)], [(32, some (.box [.sv (.bool v11.1), .sv (.bool v11.2.1), .sv (.bool v11.2.2.1), .sv (.int .i64 v11.2.2.2.1), .sv (.int .i64 v11.2.2.2.2.1), .own 240, .own 241, .sv (.int .i64 v11.2.2.2.2.2.1), .sv (.bool v11.2.2.2.2.2.2.1), .sv (.bool v11.2.2.2.2.2.2.2.1), .sv (.bool v11.2.2.2.2.2.2.2.2.1), .sv (.int .i64 v11.2.2.2.2.2.2.2.2.2.1), .sv (.int .i64 v11.2.2.2.2.2.2.2.2.2.2.1), .sv (.int .i64 v11.2.2.2.2.2.2.2.2.2.2.2.1), .sv (.int .i64 v11.2.2.2.2.2.2.2.2.2.2.2.2.1), .sv (.str v11.2.2.2.2.2.2.2.2.2.2.2.2.2.1), .sv (.int .i64 v11.2.2.2.2.2.2.2.2.2.2.2.2.2.2.1), .sv (.int .i64 v11.2.2.2.2.2.2.2.2.2.2.2.2.2.2.2.1), .sv (.str v11.2.2.2.2.2.2.2.2.2.2.2.2.2.2.2.2.1)])), (240, some (.ints .i64 v11.2.2.2.2.2.2.2.2.2.2.2.2.2.2.2.2.2.2.2.1)), (241, some (.ints .i64 v11.2.2.2.2.2.2.2.2.2.2.2.2.2.2.2.2.2.2.2.2)), (256, some (.row Ymr v11.2.2.2.2.2.2.2.2.2.2.2.2.2.2.2.2.2.1)), (272, some (.ints .i64 v11.2.2.2.2.2.2.2.2.2.2.2.2.2.2.2.2.2.2.1))])) (kW hC []) (fun v6 s h => ?_) fun v11 h => ?_
 unfold Xgs at h
 refine Xad ?_
 refine kO hT hC ?_
 refine Vc.nil (Xa2 ?_)
 refine kS h ?_ ?_ <;> intro b6 h
 refine kt b6 (Xag (Xaf ?_))
 refine kL [2,4,7,8,24,25,26] [32,64,240,241,256,272] [_,_,_,_,_,_,_] [_,_,_,_,_,_] ?_
 refine kA h (fun v12 => ([(8, .own 864)], [(32, some (.box [.sv (.bool v12.1), .sv (.bool v12.2.1), .sv (.bool v12.2.2.1), .sv (.int .i64 v12.2.2.2.1), .sv (.int .i64 v12.2.2.2.2.1), .own 865, .own 866, .sv (.int .i64 v12.2.2.2.2.2.1), .sv (.bool v12.2.2.2.2.2.2.1), .sv (.bool v12.2.2.2.2.2.2.2.1), .sv (.bool v12.2.2.2.2.2.2.2.2.1), .sv (.int .i64 v12.2.2.2.2.2.2.2.2.2.1), .sv (.int .i64 v12.2.2.2.2.2.2.2.2.2.2.1), .sv (.int .i64 v12.2.2.2.2.2.2.2.2.2.2.2.1), .sv (.int .i64 v12.2.2.2.2.2.2.2.2.2.2.2.2.1), .sv (.str v12.2.2.2.2.2.2.2.2.2.2.2.2.2.1), .sv (.int .i64 v12.2.2.2.2.2.2.2.2.2.2.2.2.2.2.1), .sv (.int .i64 v12.2.2.2.2.2.2.2.2.2.2.2.2.2.2.2.1), .sv (.str v12.2.2.2.2.2.2.2.2.2.2.2.2.2.2.2.2.1)])), (256, some (.row Ymr v12.2.2.2.2.2.2.2.2.2.2.2.2.2.2.2.2.2.1)), (864, some (.ints .i64 v12.2.2.2.2.2.2.2.2.2.2.2.2.2.2.2.2.2.2.1)), (865, some (.ints .i64 v12.2.2.2.2.2.2.2.2.2.2.2.2.2.2.2.2.2.2.2.1)), (866, some (.ints .i64 v12.2.2.2.2.2.2.2.2.2.2.2.2.2.2.2.2.2.2.2.2)), (240, none), (241, none), (272, none)])) (fun v12 h => ?_) fun v12 h => ?_
 refine Xau (Xad ?_)
 refine kQ hT hC h fun h => ?_
 iterate 2 refine kO hT hC ?_
 refine kN ?_
 iterate 2 refine kO hT hC ?_
 obtain ⟨q13, hq, h⟩ := Xb6 h
 refine Ysa hC [(16, 528), (17, 529)] rfl rfl rfl rfl Tryz.call46 (Yef hq) rfl (by decide) trivial rfl (.inr ⟨rfl, ⟨trivial, trivial, trivial⟩⟩) rfl ?_
 iterate 9 refine kO hT hC ?_
 refine kN ?_
 iterate 2 refine kO hT hC ?_
 refine kN ?_
 iterate 3 refine kO hT hC ?_
 refine kT hT hC h fun h => ?_
 refine kO hT hC ?_
 refine kN ?_
 refine kO hT hC ?_
 refine kC hC [] Tryz.call47 h (fun _ => Xdz) fun q14 h => ?_
 refine Vc.nil ?_
 refine kS h ?_ ?_ <;> intro b7 h
 refine kt b7 (Xac ?_)
 iterate 3 refine kO hT hC ?_
 obtain ⟨hq, h⟩ := Xa7 h
 refine Yc7 hT hC rfl rfl rfl rfl ⟨fun _ _ => rfl, by rw [Yt1]; exact hq⟩ ?_
 rw [Yt1]
 refine kO hT hC ?_
 refine Vc.nil (Xax ?_)
 obtain rfl := kj h
 exact Xf5 (kW hC [(256, 752), (864, 656), (865, 528), (866, 529)])
 refine kf b7 (Xag (Xax ?_))
 obtain rfl := kj h
 exact Xf5 (kW hC [(864, 656), (865, 528), (866, 529)])
 refine Xac ?_
 iterate 2 refine kO hT hC ?_
 refine Vc.nil ?_
 obtain rfl := kj h
 exact Ylz (kW hC [(240, 865), (241, 866), (272, 864)])
 exact kf b6 (Xaw (Xbd ku))
 refine Xaf (Xad ?_)
 iterate 6 refine kO hT hC ?_
 refine Vc.nil (Xah ?_)
 obtain rfl := kj h
 exact Xdx (τ := ⟨[(4, .ptr 2000000 0), (5, .own 18), (6, .own 19)], [(16, some (.ints .i64 v11.2.2.2.2.2.2.2.2.2.2.2.2.2.2.2.2.2.2.2.1)), (17, some (.ints .i64 v11.2.2.2.2.2.2.2.2.2.2.2.2.2.2.2.2.2.2.2.2)), (18, some (.row Ymr v11.2.2.2.2.2.2.2.2.2.2.2.2.2.2.2.2.2.1)), (19, some (.ints .i64 v11.2.2.2.2.2.2.2.2.2.2.2.2.2.2.2.2.2.2.1)), (2000000, some (.box [.sv (.bool v11.1), .sv (.bool v11.2.1), .sv (.bool v11.2.2.1), .sv (.int .i64 v11.2.2.2.1), .sv (.int .i64 v11.2.2.2.2.1), .own 16, .own 17, .sv (.int .i64 v11.2.2.2.2.2.1), .sv (.bool v11.2.2.2.2.2.2.1), .sv (.bool v11.2.2.2.2.2.2.2.1), .sv (.bool v11.2.2.2.2.2.2.2.2.1), .sv (.int .i64 v11.2.2.2.2.2.2.2.2.2.1), .sv (.int .i64 v11.2.2.2.2.2.2.2.2.2.2.1), .sv (.int .i64 v11.2.2.2.2.2.2.2.2.2.2.2.1), .sv (.int .i64 v11.2.2.2.2.2.2.2.2.2.2.2.2.1), .sv (.str v11.2.2.2.2.2.2.2.2.2.2.2.2.2.1), .sv (.int .i64 v11.2.2.2.2.2.2.2.2.2.2.2.2.2.2.1), .sv (.int .i64 v11.2.2.2.2.2.2.2.2.2.2.2.2.2.2.2.1), .sv (.str v11.2.2.2.2.2.2.2.2.2.2.2.2.2.2.2.2.1)]))]⟩) (kW hC [(16, 240), (17, 241), (18, 256), (19, 272), (2000000, 64)]) rfl ⟨rfl, rfl, rfl, rfl, trivial⟩
def Xw2 (r : ((List Pic) × (List Int))) : AV := .tup [.own 16, .own 17]
def Xw1 (r : ((List Pic) × (List Int))) : Xbl := [(16, .row Ymr r.1), (17, .ints .i64 r.2)]
theorem Xy4 {p0 r} (h : Xin p0 = some r) : AC Tryz.prog 10 [.sv (.str p0)] [] (Xw2 r) (Xw1 r) := by
 refine Xae hT Tryz.func10 rfl fun C hC => ?_
 unfold Xin at h
 refine Xad ?_
 iterate 2 refine kO hT hC ?_
 refine kN ?_
 refine kC hC [] Tryz.call12 h (fun _ => Xpj) fun q1 h => ?_
 refine kO hT hC ?_
 refine kC hC [(16, 160)] Tryz.call44 h (fun _ => Ye4) fun q2 h => ?_
 obtain ⟨q3, hq, h⟩ := Xb6 h
 refine Ysa hC [(16, 176), (17, 177), (18, 178), (19, 179)] rfl rfl rfl rfl Tryz.call11 (Xuh hq) rfl (by decide) trivial rfl (.inr ⟨rfl, ⟨trivial, trivial, fun _ => rfl, trivial, trivial⟩⟩) rfl ?_
 iterate 8 refine kO hT hC ?_
 refine kN ?_
 iterate 4 refine kO hT hC ?_
 refine Vc.nil (Xah ?_)
 obtain rfl := kj h
 exact Xdx (τ := ⟨[(2, .own 16), (3, .own 17)], [(16, some (.row Ymr q3.2.1)), (17, some (.ints .i64 q3.2.2))]⟩) (kW hC [(16, 178), (17, 179)]) rfl ⟨rfl, rfl, trivial⟩
def Xqj (r : Bool) : AV := .sv (.bool r)
def Xqi (r : Bool) : Xbl := []
theorem Yce {p0 p1 r} (h : Xkw p0 p1 = some r) : AC Tryz.prog 13 [.sv (Ymr.sv p0), .sv (Ymr.sv p1)] [] (Xqj r) (Xqi r) := by
 refine Xae hT Tryz.func13 rfl fun C hC => ?_
 unfold Xkw at h
 refine Xad ?_
 refine kO hT hC ?_
 refine Vc.nil (Xa2 (Xad ?_))
 iterate 5 refine kO hT hC ?_
 refine Vc.nil ?_
 refine kS h ?_ ?_ <;> intro b1 h
 refine kt b1 (Xad ?_)
 refine kO hT hC ?_
 exact Vc.nil (Xah (Xa4 kR))
 refine kf b1 (Xag (Xaf (Xa2 (Xad ?_))))
 refine kO hT hC ?_
 refine Vc.nil ?_
 refine kL [0,1,5] [] [_,_,_] [] ?_
 obtain ⟨o5, hl, h⟩ := Xb6 h
 refine Xlx (fun v2 => ([(5, .sv (.int .i64 v2))], [])) (fun v4 => ([(0, .any), (1, .any), (5, .any)], [])) (fun r => Xvb C T Tryz.f13.results.toList (Xqj r) (Xqi r)) hl ?_ ?_ ?_ ?_
 apply Xi9 hC []
 exact co
 rfl
 decide
 rfl
 intro v2 s hs
 have h := hs
 unfold Xgj at h
 refine Xa2 (Xad ?_)
 iterate 4 refine kO hT hC ?_
 refine Vc.nil ?_
 refine kS h ?_ ?_ <;> intro b6 h
 refine kt b6 (Xag (Xaf (Xa2 (Xau ?_))))
 refine Xdw hm ?_
 iterate 2 refine kO hT hC ?_
 refine kQ hT hC h fun h => ?_
 iterate 3 refine kO hT hC ?_
 refine kQ hT hC h fun h => ?_
 refine kO hT hC ?_
 refine Zch hC rfl rfl rfl rfl Yjv rfl rfl ?_
 refine kD ?_
 refine kS h ?_ ?_ <;> intro b7 h
 refine kt b7 (Xad ?_)
 refine kO hT hC ?_
 refine Vc.nil (Xah (Xg6 (Xa4 ?_)))
 obtain rfl := kj h
 refine Xx5 (Xx1 ?_)
 exact Xdx (Xif.refl _) rfl trivial
 refine kf b7 (Xag (Xax (Xaf (Xac ?_))))
 iterate 3 refine kO hT hC ?_
 exact Vc.nil kG
 exact kf b6 (Xaw (Xbd kb))
 intro v4 e
 subst e
 refine Xaf (Xad ?_)
 refine kO hT hC ?_
 exact Vc.nil (Xah kR)
 intro r' σ' e hE
 subst e
 obtain rfl := kj h
 refine Xa4 ?_
 exact hE
def Xqh (r : Bool) : AV := .sv (.bool r)
def Xqg (r : Bool) : Xbl := []
theorem Ycd {p0 p1 r} (h : Xkv p0 p1 = some r) : AC Tryz.prog 14 [.sv (.ints .i64 p0), .sv (.ints .i64 p1)] [] (Xqh r) (Xqg r) := by
 refine Xae hT Tryz.func14 rfl fun C hC => ?_
 unfold Xkv at h
 refine Xad ?_
 refine kO hT hC ?_
 refine Vc.nil (Xa2 (Xad ?_))
 iterate 5 refine kO hT hC ?_
 refine Vc.nil ?_
 refine kS h ?_ ?_ <;> intro b1 h
 refine kt b1 (Xad ?_)
 refine kO hT hC ?_
 exact Vc.nil (Xah (Xa4 kR))
 refine kf b1 (Xag (Xaf (Xa2 (Xad ?_))))
 refine kO hT hC ?_
 refine Vc.nil ?_
 refine kL [0,1,5] [] [_,_,_] [] ?_
 obtain ⟨o5, hl, h⟩ := Xb6 h
 refine Xlx (fun v2 => ([(5, .sv (.int .i64 v2))], [])) (fun v4 => ([(0, .any), (1, .any), (5, .any)], [])) (fun r => Xvb C T Tryz.f14.results.toList (Xqh r) (Xqg r)) hl ?_ ?_ ?_ ?_
 apply Xi9 hC []
 exact co
 rfl
 decide
 rfl
 intro v2 s hs
 have h := hs
 unfold Xgi at h
 refine Xa2 (Xad ?_)
 iterate 4 refine kO hT hC ?_
 refine Vc.nil ?_
 refine kS h ?_ ?_ <;> intro b6 h
 refine kt b6 (Xag (Xaf (Xa2 (Xau ?_))))
 refine Xdw hm ?_
 iterate 2 refine kO hT hC ?_
 refine kQ hT hC h fun h => ?_
 iterate 3 refine kO hT hC ?_
 refine kQ hT hC h fun h => ?_
 iterate 2 refine kO hT hC ?_
 refine kD ?_
 refine kS h ?_ ?_ <;> intro b7 h
 refine kt b7 (Xad ?_)
 refine kO hT hC ?_
 refine Vc.nil (Xah (Xg6 (Xa4 ?_)))
 obtain rfl := kj h
 refine Xx5 (Xx1 ?_)
 exact Xdx (Xif.refl _) rfl trivial
 refine kf b7 (Xag (Xax (Xaf (Xac ?_))))
 iterate 3 refine kO hT hC ?_
 exact Vc.nil kG
 exact kf b6 (Xaw (Xbd kb))
 intro v4 e
 subst e
 refine Xaf (Xad ?_)
 refine kO hT hC ?_
 exact Vc.nil (Xah kR)
 intro r' σ' e hE
 subst e
 obtain rfl := kj h
 refine Xa4 ?_
 exact hE
def Xo7 (r : Bool) : AV := .sv (.bool r)
def Xo6 (r : Bool) : Xbl := []
theorem Xzs {p0 r} (h : Xmh p0 = some r) : AC Tryz.prog 3 [.sv (.ints .u8 p0)] [] (Xo7 r) (Xo6 r) := by
 refine Xae hT Tryz.func3 rfl fun C hC => ?_
 unfold Xmh at h
 refine Xad ?_
 refine kO hT hC ?_
 refine Vc.nil (Xa2 (Xad ?_))
 refine kO hT hC ?_
 refine kC hC [] Tryz.call7 h (fun _ => Yp2) fun q1 h => ?_
 refine Vc.nil ?_
 refine kS h ?_ ?_ <;> intro b1 h
 refine kt b1 (Xad ?_)
 refine kO hT hC ?_
 exact Vc.nil (Xah (Xa4 kR))
 refine kf b1 (Xag (Xaf (Xad ?_)))
 refine kO hT hC ?_
 refine kC hC [(16, 240)] Tryz.call8 h (fun _ => Xyd) fun q2 h => ?_
 refine kO hT hC ?_
 refine kN ?_
 iterate 2 refine kO hT hC ?_
 obtain ⟨hq, h⟩ := Xa7 h
 refine Yc7 hT hC rfl rfl rfl rfl ⟨fun _ _ => rfl, by rw [Xdb]; exact hq⟩ ?_
 rw [Xdb]
 refine kC hC [] Tryz.call9 h (fun _ => Yhv) fun q3 h => ?_
 iterate 5 refine kO hT hC ?_
 refine kN ?_
 refine kO hT hC ?_
 refine kC hC [(16, 400), (17, 401)] Tryz.call10 h (fun _ => Xy4) fun q4 h => ?_
 iterate 5 refine kO hT hC ?_
 refine kN ?_
 refine kC hC [] Tryz.call12 h (fun _ => Xpj) fun q5 h => ?_
 iterate 2 refine kO hT hC ?_
 obtain ⟨hq, h⟩ := Xa7 h
 refine Yc7 hT hC rfl rfl rfl rfl ⟨fun _ _ => rfl, by rw [Xdb]; exact hq⟩ ?_
 rw [Xdb]
 obtain ⟨q6, hq, h⟩ := Xb6 h
 refine Ysa hC [(16, 528), (17, 529), (18, 530), (19, 531)] rfl rfl rfl rfl Tryz.call11 (Xuh hq) rfl (by decide) trivial rfl (.inr ⟨rfl, ⟨trivial, trivial, fun _ => rfl, trivial, trivial⟩⟩) rfl ?_
 iterate 8 refine kO hT hC ?_
 refine Vc.nil (Xa2 ?_)
 refine kL [3,5,6,7,9,10] [240,400,401,530,531] [_,_,_,_,_,_] [_,_,_,_,_] ?_
 refine kA h (fun v7 => ([(57, .sv (.bool v7)), (3, .any), (5, .any), (9, .any), (10, .any)], [(240, none), (530, none), (531, none)])) (fun v7 h => ?_) fun v7 h => ?_
 refine Xac ?_
 iterate 3 refine kO hT hC ?_
 refine kS h ?_ ?_ <;> intro b2 h
 iterate 2 refine kI hT hC (kn b2) ?_
 refine kE hC (kn b2) [] Tryz.call13 h (fun _ => Yce) fun q8 h => ?_
 refine kI hT hC (kn b2) ?_
 refine kP hC false (kn b2) ?_
 refine kO hT hC ?_
 refine kS h ?_ ?_ <;> intro b3 h
 iterate 2 refine kI hT hC (kn b3) ?_
 refine kE hC (kn b3) [] Tryz.call14 h (fun _ => Ycd) fun q9 h => ?_
 refine kI hT hC (kn b3) ?_
 refine kP hC false (kn b3) ?_
 refine kO hT hC ?_
 refine kS h ?_ ?_ <;> intro b4 h
 iterate 5 refine kI hT hC (kn b4) ?_
 refine kP hC false (kn b4) ?_
 exact Vc.nil kM
 iterate 5 refine kF hC (kn b4) ?_
 refine kP hC true (kn b4) ?_
 exact Vc.nil kM
 iterate 4 refine kF hC (kn b3) ?_
 refine kP hC true (kn b3) ?_
 refine kO hT hC ?_
 iterate 5 refine kF hC rfl ?_
 refine kO hT hC ?_
 exact Vc.nil kM
 iterate 4 refine kF hC (kn b2) ?_
 refine kP hC true (kn b2) ?_
 refine kO hT hC ?_
 iterate 4 refine kF hC rfl ?_
 iterate 2 refine kO hT hC ?_
 iterate 5 refine kF hC rfl ?_
 refine kO hT hC ?_
 exact Vc.nil kM
 refine kS h ?_ ?_ <;> intro b5 h
 refine kt b5 (Xad ?_)
 refine kO hT hC ?_
 exact Vc.nil (Xah (Xa4 kR))
 refine kf b5 (Xag (Xaf (Xa2 (Xad ?_))))
 refine kO hT hC ?_
 refine Vc.nil ?_
 refine kL [6,7,11] [400,401] [_,_,_] [_,_] ?_
 obtain ⟨o14, hl, h⟩ := Xb6 h
 refine Xlx (fun v11 => ([(11, .sv (.int .i64 v11))], [])) (fun v13 => ([(7, .any), (11, .any)], [(401, none)])) (fun r => Xvb C T Tryz.f3.results.toList (Xo7 r) (Xo6 r)) hl ?_ ?_ ?_ ?_
 apply Xi9 hC []
 exact co
 rfl
 decide
 rfl
 intro v11 s hs
 have h := hs
 unfold Xea at h
 refine Xa2 (Xad ?_)
 iterate 4 refine kO hT hC ?_
 refine Vc.nil ?_
 refine kS h ?_ ?_ <;> intro b10 h
 refine kt b10 (Xag (Xaf (Xa2 (Xau (Xad ?_)))))
 iterate 2 refine kO hT hC ?_
 iterate 2 refine kQ hT hC h fun h => ?_
 refine kO hT hC ?_
 refine Vc.nil ?_
 refine kS h ?_ ?_ <;> intro b11 h
 refine kt b11 (Xad ?_)
 refine kO hT hC ?_
 refine Vc.nil (Xah (Xg6 (Xa4 ?_)))
 obtain rfl := kj h
 refine Xx5 (Xx1 ?_)
 exact Xdx (Xif.refl _) rfl trivial
 refine kf b11 (Xag (Xax (Xaf (Xac ?_))))
 iterate 3 refine kO hT hC ?_
 exact Vc.nil kG
 exact kf b10 (Xaw (Xbd kb))
 intro v13 e
 subst e
 refine Xaf (Xad ?_)
 iterate 4 refine kO hT hC ?_
 exact Vc.nil (Xah kR)
 intro r' σ' e hE
 subst e
 obtain rfl := kj h
 refine Xa4 ?_
 exact hE
end
end Go.Proofs.YtnhflbeahbcklabGreat.A
