/- Contracts of the functions that the law FnBestMove reaches, part 0: each comes to what its pure function tells. Written by a program of this session. Conditions: as each statement tells. -/
import Derived.Test.YtlebkepfhdjnmabBFnBestMove
namespace Go.Proofs.Ytlebkepfhdjnmab.A
open Go Go.Proofs Go.Proofs.YtlebkepfhdjnmabAL Go.RowKit
set_option linter.unusedVariables false
set_option linter.unusedSimpArgs false
set_option maxRecDepth 100000
set_option maxHeartbeats 8000000
noncomputable section
def Xmb (r : Bool) : AV := .sv (.bool r)
def Xma (r : Bool) : Xa1 := []
theorem Xm2 {p0 r} (h : Xhu p0 = some r) : AC Try.prog 8 [.sv (.ints .u8 p0)] [] (Xmb r) (Xma r) := by
 refine Xab hT Try.func8 rfl fun C hC => ?_
 unfold Xhu at h
 refine Xad ?_
 refine kO hT hC ?_
 refine kN ?_
 iterate 4 refine kO hT hC ?_
 exact Vc.nil (Xaj kR)
def Xi2 (r : Xap) : AV := .ptr 16 0
def Xi1 (r : Xap) : Xa1 := [(16, .box [.sv (.ints .u8 r.b_), .sv (.int .i64 r.i_), .sv (.int .i64 r.h_)])]
theorem Xe0 {p0 r} (h : Xcc p0 = some r) : AC Try.prog 42 [.sv (.ints .u8 p0)] [] (Xi2 r) (Xi1 r) := by
 refine Xab hT Try.func42 rfl fun C hC => ?_
 unfold Xcc at h
 refine Xad ?_
 refine kO hT hC ?_
 refine kN ?_
 iterate 4 refine kO hT hC ?_
 refine Vc.nil (Xcm (Xad ?_))
 refine kO hT hC ?_
 refine Vc.nil ?_
 refine kL [0,3,4] [] [_,_,_] [] ?_
 refine kX h (fun v3 => ([(3, .sv (.int .i64 v3.1)), (4, .sv (.int .i64 v3.2))], [])) (fun v6 => ([(3, .sv (.int .i64 v6)), (4, .any)], [])) (kW hC []) (fun v3 s h => ?_) fun v6 h => ?_
 unfold Xci at h
 refine Xcm ?_
 refine kL [0,3,4] [] [_,_,_] [] ?_
 refine kA h (fun v7 => ([(15, .sv (.bool v7))], [])) (fun v7 h => ?_) fun v7 h => ?_
 refine Xac ?_
 iterate 5 refine kO hT hC ?_
 refine kS h ?_ ?_ <;> intro b5 h
 iterate 2 refine kI hT hC b5 ?_
 refine kP hC true b5 ?_
 exact Vc.nil kM
 iterate 2 refine kF hC b5 ?_
 refine kP hC false b5 ?_
 exact Vc.nil kM
 refine kS h ?_ ?_ <;> intro b6 h
 refine kt b6 (Xaq (Xah (Xcm (Xbg (Xac ?_)))))
 iterate 4 refine kO hT hC ?_
 refine kQ hT hC h fun h => ?_
 iterate 6 refine kO hT hC ?_
 refine Vc.nil (Xbu (Xah (Xac ?_)))
 iterate 3 refine kO hT hC ?_
 exact Vc.nil kG
 exact kf b6 (Xbj (Xdf ku))
 refine Xah (Xad ?_)
 iterate 5 refine kO hT hC ?_
 refine Vc.nil (Xaj ?_)
 obtain rfl := kj h
 exact Xlj (τ := ⟨[(2, .ptr 16 0)], [(16, some (.box [.sv (.ints .u8 p0), .sv (.int .i64 0), .sv (.int .i64 v6)]))]⟩) (kW hC [(16, 496)]) rfl ⟨rfl, trivial⟩
def Xhj (r : (Int × Xap)) : AV := .sv (.int .i64 r.1)
def Xhi (r : (Int × Xap)) : Xa1 := [(0, .box [.sv (.ints .u8 r.2.b_), .sv (.int .i64 r.2.i_), .sv (.int .i64 r.2.h_)])]
theorem Xas {p0 r} (h : Xar p0 = some r) : AC Try.prog 45 [.ptr 0 0] [(0, .box [.sv (.ints .u8 p0.b_), .sv (.int .i64 p0.i_), .sv (.int .i64 p0.h_)])] (Xhj r) (Xhi r) := by
 refine Xab hT Try.func45 rfl fun C hC => ?_
 unfold Xar at h
 refine Xad ?_
 refine kO hT hC ?_
 refine kN ?_
 iterate 10 refine kO hT hC ?_
 refine Vc.nil ?_
 refine Xeh hm ?_
 iterate 4 refine kO hT hC ?_
 refine kQ hT hC h fun h => ?_
 iterate 4 refine kO hT hC ?_
 refine kQ hT hC h fun h => ?_
 iterate 3 refine kO hT hC ?_
 refine kD ?_
 refine kL [0,3] [0] [_,_] [_] ?_
 refine kA h (fun v1 => ([(3, .sv (.int .i64 v1.1)), (0, .any)], [(0, some (.box [.sv (.ints .u8 p0.b_), .sv (.int .i64 v1.2), .sv (.int .i64 (Xaa .i64 ((Xaa .i64 (p0.h_ * 6364136223846793005)) + 1442695040888963407)))]))])) (fun v1 h => ?_) fun v1 h => ?_
 refine Xeh hm ?_
 iterate 10 refine kO hT hC ?_
 refine kD ?_
 refine kS h ?_ ?_ <;> intro b1 h
 refine kt b1 ?_
 refine Xeh hm ?_
 iterate 9 refine kO hT hC ?_
 refine kQ hT hC h fun h => ?_
 iterate 5 refine kO hT hC ?_
 refine kD (Xac ?_)
 iterate 9 refine kO hT hC ?_
 exact Vc.nil kM
 exact kf b1 (Xaq kM)
 refine Xad ?_
 iterate 2 refine kO hT hC ?_
 refine Vc.nil (Xaj ?_)
 obtain rfl := kj h
 exact Xlj (Xdv.refl _) rfl ⟨rfl, trivial⟩
def Xgs (r : (Int × Xap)) : AV := .sv (.int .i64 r.1)
def Xgr (r : (Int × Xap)) : Xa1 := [(0, .box [.sv (.ints .u8 r.2.b_), .sv (.int .i64 r.2.i_), .sv (.int .i64 r.2.h_)])]
theorem Xan {p0 p1 r} (h : Xai p0 p1 = some r) : AC Try.prog 46 [.ptr 0 0, .sv (.int .i64 p1)] [(0, .box [.sv (.ints .u8 p0.b_), .sv (.int .i64 p0.i_), .sv (.int .i64 p0.h_)])] (Xgs r) (Xgr r) := by
 refine Xab hT Try.func46 rfl fun C hC => ?_
 unfold Xai at h
 refine Xad ?_
 refine kO hT hC ?_
 refine Vc.nil (Xcm (Xad ?_))
 iterate 2 refine kO hT hC ?_
 refine Vc.nil ?_
 refine kS h ?_ ?_ <;> intro b1 h
 refine kt b1 (Xad ?_)
 refine kO hT hC ?_
 refine Vc.nil (Xaj (Xev ?_))
 obtain rfl := kj h
 exact Xlj (Xdv.refl _) rfl ⟨rfl, trivial⟩
 refine kf b1 (Xaq (Xah (Xcm (Xad ?_))))
 iterate 2 refine kO hT hC ?_
 refine Vc.nil ?_
 refine kS h ?_ ?_ <;> intro b2 h
 refine kt b2 (Xad ?_)
 refine kO hT hC ?_
 refine kC hC [(0, 0)] Try.call45 h (fun _ => Xas) fun q1 h => ?_
 refine kO hT hC ?_
 refine kQ hT hC h fun h => ?_
 refine kO hT hC ?_
 refine Vc.nil (Xaj (Xev ?_))
 obtain rfl := kj h
 exact Xlj (Xdv.refl _) rfl ⟨rfl, trivial⟩
 refine kf b2 (Xaq (Xah (Xad ?_)))
 refine kO hT hC ?_
 refine kC hC [(0, 0)] Try.call45 h (fun _ => Xas) fun q2 h => ?_
 refine kO hT hC ?_
 refine kN ?_
 refine kO hT hC ?_
 refine kC hC [(0, 0)] Try.call45 h (fun _ => Xas) fun q3 h => ?_
 refine kO hT hC ?_
 refine kN ?_
 refine kO hT hC ?_
 refine kC hC [(0, 0)] Try.call45 h (fun _ => Xas) fun q4 h => ?_
 refine kO hT hC ?_
 refine kN ?_
 refine kO hT hC ?_
 refine kC hC [(0, 0)] Try.call45 h (fun _ => Xas) fun q5 h => ?_
 refine kO hT hC ?_
 refine kN ?_
 iterate 11 refine kO hT hC ?_
 refine kQ hT hC h fun h => ?_
 refine kO hT hC ?_
 refine Vc.nil (Xaj ?_)
 obtain rfl := kj h
 exact Xlj (Xdv.refl _) rfl ⟨rfl, trivial⟩
def Xhn (r : (ByteArray × Xap)) : AV := .sv (.str r.1)
def Xhm (r : (ByteArray × Xap)) : Xa1 := [(0, .box [.sv (.ints .u8 r.2.b_), .sv (.int .i64 r.2.i_), .sv (.int .i64 r.2.h_)])]
theorem Xi5 {p0 p1 r} (h : Xcp p0 p1 = some r) : AC Try.prog 136 [.ptr 0 0, .sv (.int .i64 p1)] [(0, .box [.sv (.ints .u8 p0.b_), .sv (.int .i64 p0.i_), .sv (.int .i64 p0.h_)])] (Xhn r) (Xhm r) := by
 refine Xab hT Try.func136 rfl fun C hC => ?_
 unfold Xcp at h
 refine Xad ?_
 refine kO hT hC ?_
 refine kN ?_
 iterate 2 refine kO hT hC ?_
 refine kN ?_
 refine kO hT hC ?_
 refine kC hC [(0, 0)] Try.call45 h (fun _ => Xas) fun q1 h => ?_
 refine kO hT hC ?_
 refine Vc.nil (Xcm (Xad ?_))
 refine kO hT hC ?_
 refine Vc.nil ?_
 refine kL [0,1,5,6,7] [0,128] [_,_,_,_,_] [_,_] ?_
 refine kX h (fun v7 => ([(6, .sv (.int .i64 v7.1)), (7, .sv (.int .i64 v7.2.1))], [(0, some (.box [.sv (.ints .u8 v7.2.2.1), .sv (.int .i64 v7.2.2.2.1), .sv (.int .i64 v7.2.2.2.2.1)])), (128, some (.ints .u8 v7.2.2.2.2.2))])) (fun v13 => ([(0, .any), (1, .any), (6, .any), (7, .any)], [(0, some (.box [.sv (.ints .u8 v13.2.1), .sv (.int .i64 v13.2.2.1), .sv (.int .i64 v13.2.2.2)])), (128, some (.ints .u8 v13.1))])) (kW hC []) (fun v7 s h => ?_) fun v13 h => ?_
 unfold Xb4 at h
 refine Xcm (Xad ?_)
 iterate 3 refine kO hT hC ?_
 refine Vc.nil ?_
 refine kS h ?_ ?_ <;> intro b7 h
 refine kt b7 (Xaq (Xah (Xcm (Xbg ?_))))
 refine kL [0,1,5,6,7] [0,128] [_,_,_,_,_] [_,_] ?_
 refine kA h (fun v14 => ([(6, .sv (.int .i64 v14.1))], [(0, some (.box [.sv (.ints .u8 v14.2.1), .sv (.int .i64 v14.2.2.1), .sv (.int .i64 v14.2.2.2)]))])) (fun v14 h => ?_) fun v14 h => ?_
 refine Xad ?_
 refine kO hT hC ?_
 refine kC hC [(0, 0)] Try.call46 h (fun _ => Xan) fun q15 h => ?_
 refine Vc.nil (Xbg (Xad ?_))
 iterate 2 refine kO hT hC ?_
 refine Vc.nil ?_
 refine kS h ?_ ?_ <;> intro b8 h
 refine kt b8 (Xac ?_)
 refine kO hT hC ?_
 refine kC hC [(0, 0)] Try.call45 h (fun _ => Xas) fun q16 h => ?_
 refine kO hT hC ?_
 exact Vc.nil (Xbu kM)
 refine kf b8 (Xad ?_)
 iterate 2 refine kO hT hC ?_
 refine Vc.nil ?_
 refine kS h ?_ ?_ <;> intro b9 h
 refine kt b9 (Xac ?_)
 iterate 2 refine kO hT hC ?_
 refine kC hC [(0, 0)] Try.call46 h (fun _ => Xan) fun q17 h => ?_
 iterate 4 refine kO hT hC ?_
 exact Vc.nil (Xbu kM)
 exact kf b9 (Xaq (Xbu kM))
 refine Xac ?_
 iterate 4 refine kO hT hC ?_
 refine kT hT hC h fun h => ?_
 refine kO hT hC ?_
 refine Vc.nil (Xbu (Xah (Xac ?_)))
 iterate 3 refine kO hT hC ?_
 refine Vc.nil ?_
 obtain rfl := kj h
 exact Xr9 (kW hC [(128, 544)])
 exact kf b7 (Xbj (Xdf ku))
 refine Xah (Xad ?_)
 iterate 3 refine kO hT hC ?_
 refine Vc.nil (Xaj ?_)
 obtain rfl := kj h
 exact Xlj (Xdv.refl _) rfl ⟨rfl, trivial⟩
def Xgu (r : (Pic × Xap)) : AV := .agg [.sv (.int .i64 r.1.Wide), .sv (.int .i64 r.1.High), .sv (.str r.1.Dots)]
def Xgt (r : (Pic × Xap)) : Xa1 := [(0, .box [.sv (.ints .u8 r.2.b_), .sv (.int .i64 r.2.i_), .sv (.int .i64 r.2.h_)])]
theorem Xho {p0 p1 p2 r} (h : Xb5 p0 p1 p2 = some r) : AC Try.prog 93 [.ptr 0 0, .sv (.int .i64 p1), .sv (.int .i64 p2)] [(0, .box [.sv (.ints .u8 p0.b_), .sv (.int .i64 p0.i_), .sv (.int .i64 p0.h_)])] (Xgu r) (Xgt r) := by
 refine Xab hT Try.func93 rfl fun C hC => ?_
 unfold Xb5 at h
 refine Xad ?_
 refine kO hT hC ?_
 refine kN ?_
 iterate 6 refine kO hT hC ?_
 refine kC hC [(0, 0)] Try.call136 h (fun _ => Xi5) fun q1 h => ?_
 iterate 2 refine kO hT hC ?_
 refine Vc.nil (Xaj ?_)
 obtain rfl := kj h
 exact Xlj (Xdv.refl _) rfl ⟨rfl, trivial⟩
def Xfd (r : (Pic × Xap)) : AV := .agg [.sv (.int .i64 r.1.Wide), .sv (.int .i64 r.1.High), .sv (.str r.1.Dots)]
def Xfc (r : (Pic × Xap)) : Xa1 := [(0, .box [.sv (.ints .u8 r.2.b_), .sv (.int .i64 r.2.i_), .sv (.int .i64 r.2.h_)])]
theorem Xf7 {p0 r} (h : Xbe p0 = some r) : AC Try.prog 43 [.ptr 0 0] [(0, .box [.sv (.ints .u8 p0.b_), .sv (.int .i64 p0.i_), .sv (.int .i64 p0.h_)])] (Xfd r) (Xfc r) := by
 refine Xab hT Try.func43 rfl fun C hC => ?_
 unfold Xbe at h
 refine Xad ?_
 refine kO hT hC ?_
 refine kN ?_
 iterate 2 refine kO hT hC ?_
 refine kC hC [(0, 0)] Try.call46 h (fun _ => Xan) fun q1 h => ?_
 iterate 3 refine kO hT hC ?_
 refine kC hC [(0, 0)] Try.call46 h (fun _ => Xan) fun q2 h => ?_
 iterate 2 refine kO hT hC ?_
 refine kC hC [(0, 0)] Try.call93 h (fun _ => Xho) fun q3 h => ?_
 refine kO hT hC ?_
 refine Vc.nil (Xaj ?_)
 obtain rfl := kj h
 exact Xlj (Xdv.refl _) rfl ⟨rfl, trivial⟩
def Xhl (r : (Bool × Xap)) : AV := .sv (.bool r.1)
def Xhk (r : (Bool × Xap)) : Xa1 := [(0, .box [.sv (.ints .u8 r.2.b_), .sv (.int .i64 r.2.i_), .sv (.int .i64 r.2.h_)])]
theorem Xi3 {p0 p1 r} (h : Xco p0 p1 = some r) : AC Try.prog 94 [.ptr 0 0, .sv (.int .i64 p1)] [(0, .box [.sv (.ints .u8 p0.b_), .sv (.int .i64 p0.i_), .sv (.int .i64 p0.h_)])] (Xhl r) (Xhk r) := by
 refine Xab hT Try.func94 rfl fun C hC => ?_
 unfold Xco at h
 refine Xad ?_
 refine kO hT hC ?_
 refine kN ?_
 iterate 2 refine kO hT hC ?_
 refine kC hC [(0, 0)] Try.call46 h (fun _ => Xan) fun q1 h => ?_
 iterate 2 refine kO hT hC ?_
 refine Vc.nil (Xaj ?_)
 obtain rfl := kj h
 exact Xlj (Xdv.refl _) rfl ⟨rfl, trivial⟩
def Xj1 (r : Bool) : AV := .sv (.bool r)
def Xj0 (r : Bool) : Xa1 := []
theorem Xc3 {p0 p1 p2 r} (h : Xbt p0 p1 p2 = some r) : AC Try.prog 48 [.sv (.int .i64 p0), .sv (.int .i64 p1), .sv (.int .i64 p2)] [] (Xj1 r) (Xj0 r) := by
 refine Xab hT Try.func48 rfl fun C hC => ?_
 unfold Xbt at h
 refine Xad ?_
 refine kO hT hC ?_
 refine Vc.nil ?_
 refine kL [0,1,2,6] [] [_,_,_,_] [] ?_
 refine kA h (fun v1 => ([(6, .sv (.bool v1)), (0, .any), (1, .any), (2, .any)], [])) (fun v1 h => ?_) fun v1 h => ?_
 refine Xac ?_
 iterate 4 refine kO hT hC ?_
 refine kS h ?_ ?_ <;> intro b1 h
 iterate 3 refine kI hT hC b1 ?_
 refine kP hC true b1 ?_
 refine kO hT hC ?_
 exact Vc.nil kM
 iterate 3 refine kF hC b1 ?_
 refine kP hC false b1 ?_
 refine kO hT hC ?_
 exact Vc.nil kM
 exact Xaj kR
def Xjz (r : Bool) : AV := .sv (.bool r)
def Xjy (r : Bool) : Xa1 := []
theorem Xf5 {p0 r} (h : Xc9 p0 = some r) : AC Try.prog 47 [.agg [.sv (.int .i64 p0.Wide), .sv (.int .i64 p0.High), .sv (.str p0.Dots)]] [] (Xjz r) (Xjy r) := by
 refine Xab hT Try.func47 rfl fun C hC => ?_
 unfold Xc9 at h
 refine Xad ?_
 iterate 2 refine kO hT hC ?_
 refine Vc.nil ?_
 refine kL [1,2] [16] [_,_] [_] ?_
 refine kA h (fun v1 => ([(2, .sv (.bool v1)), (1, .any)], [(16, none)])) (fun v1 h => ?_) fun v1 h => ?_
 refine Xac ?_
 iterate 2 refine kO hT hC ?_
 refine kC hC [] Try.call48 h (fun _ => Xc3) fun q2 h => ?_
 refine kO hT hC ?_
 refine kS h ?_ ?_ <;> intro b1 h
 iterate 2 refine kI hT hC b1 ?_
 refine kE hC b1 [] Try.call48 h (fun _ => Xc3) fun q3 h => ?_
 refine kP hC true b1 ?_
 refine kO hT hC ?_
 refine kS h ?_ ?_ <;> intro b2 h
 iterate 9 refine kI hT hC b2 ?_
 refine kP hC true b2 ?_
 refine kO hT hC ?_
 exact Vc.nil kM
 iterate 9 refine kF hC b2 ?_
 refine kP hC false b2 ?_
 refine kO hT hC ?_
 exact Vc.nil kM
 iterate 3 refine kF hC b1 ?_
 refine kP hC false b1 ?_
 refine kO hT hC ?_
 iterate 9 refine kF hC rfl ?_
 iterate 2 refine kO hT hC ?_
 exact Vc.nil kM
 exact Xaj kR
def Xhf (r : Int) : AV := .sv (.int .i64 r)
def Xhe (r : Int) : Xa1 := []
theorem Xei {p0 p1 p2 r} (h : Xbs p0 p1 p2 = some r) : AC Try.prog 95 [.sv (.int .i64 p0), .sv (.int .i64 p1), .sv (.int .i64 p2)] [] (Xhf r) (Xhe r) := by
 refine Xab hT Try.func95 rfl fun C hC => ?_
 unfold Xbs at h
 refine Xad ?_
 refine kO hT hC ?_
 refine Vc.nil (Xcm ?_)
 refine kL [0,1,2] [] [_,_,_] [] ?_
 refine kA h (fun v1 => ([(14, .sv (.bool v1))], [])) (fun v1 h => ?_) fun v1 h => ?_
 refine Xac ?_
 iterate 4 refine kO hT hC ?_
 refine kS h ?_ ?_ <;> intro b1 h
 iterate 3 refine kF hC b1 ?_
 refine kP hC true b1 ?_
 exact Vc.nil kM
 iterate 3 refine kI hT hC b1 ?_
 refine kP hC false b1 ?_
 exact Vc.nil kM
 refine kS h ?_ ?_ <;> intro b2 h
 refine kt b2 (Xad ?_)
 iterate 2 refine kO hT hC ?_
 exact Vc.nil (Xaj (Xev kR))
 refine kf b2 (Xaq (Xah (Xcm (Xad ?_))))
 iterate 3 refine kO hT hC ?_
 refine Vc.nil ?_
 refine kS h ?_ ?_ <;> intro b3 h
 refine kt b3 (Xad ?_)
 iterate 2 refine kO hT hC ?_
 exact Vc.nil (Xaj (Xev kR))
 refine kf b3 (Xaq (Xah (Xad ?_)))
 iterate 2 refine kO hT hC ?_
 exact Vc.nil (Xaj kR)
def Xjx (r : Int) : AV := .sv (.int .i64 r)
def Xjw (r : Int) : Xa1 := []
theorem Xf1 {p0 p1 p2 r} (h : Xc8 p0 p1 p2 = some r) : AC Try.prog 49 [.agg [.sv (.int .i64 p0.Wide), .sv (.int .i64 p0.High), .sv (.str p0.Dots)], .sv (.int .i64 p1), .sv (.int .i64 p2)] [] (Xjx r) (Xjw r) := by
 refine Xab hT Try.func49 rfl fun C hC => ?_
 unfold Xc8 at h
 refine Xad ?_
 iterate 2 refine kO hT hC ?_
 refine Vc.nil (Xcm (Xad ?_))
 refine kO hT hC ?_
 refine kC hC [] Try.call47 h (fun _ => Xf5) fun q1 h => ?_
 refine kO hT hC ?_
 refine Vc.nil ?_
 refine kS h ?_ ?_ <;> intro b1 h
 refine kt b1 (Xad ?_)
 refine kO hT hC ?_
 exact Vc.nil (Xaj (Xev kR))
 refine kf b1 (Xaq (Xah ?_))
 refine Xeh hm ?_
 iterate 6 refine kO hT hC ?_
 refine kC hC [] Try.call95 h (fun _ => Xei) fun q2 h => ?_
 iterate 7 refine kO hT hC ?_
 refine kC hC [] Try.call95 h (fun _ => Xei) fun q3 h => ?_
 refine kO hT hC ?_
 refine kQ hT hC h fun h => ?_
 iterate 2 refine kO hT hC ?_
 exact kD (Xaj kR)
def Xhr (r : (Pic × Xap)) : AV := .agg [.sv (.int .i64 r.1.Wide), .sv (.int .i64 r.1.High), .sv (.str r.1.Dots)]
def Xhq (r : (Pic × Xap)) : Xa1 := [(0, .box [.sv (.ints .u8 r.2.b_), .sv (.int .i64 r.2.i_), .sv (.int .i64 r.2.h_)])]
theorem Xi7 {p0 p1 r} (h : Xcq p0 p1 = some r) : AC Try.prog 44 [.ptr 0 0, .agg [.sv (.int .i64 p1.Wide), .sv (.int .i64 p1.High), .sv (.str p1.Dots)]] [(0, .box [.sv (.ints .u8 p0.b_), .sv (.int .i64 p0.i_), .sv (.int .i64 p0.h_)])] (Xhr r) (Xhq r) := by
 refine Xab hT Try.func44 rfl fun C hC => ?_
 unfold Xcq at h
 refine Xad ?_
 iterate 2 refine kO hT hC ?_
 refine kN ?_
 refine kO hT hC ?_
 refine kC hC [(0, 0)] Try.call46 h (fun _ => Xan) fun q1 h => ?_
 iterate 2 refine kO hT hC ?_
 refine kN ?_
 refine kO hT hC ?_
 refine kC hC [(0, 0)] Try.call46 h (fun _ => Xan) fun q2 h => ?_
 iterate 2 refine kO hT hC ?_
 refine Vc.nil ?_
 refine kL [0,3,4,5,6] [0,48,64] [_,_,_,_,_] [_,_,_] ?_
 refine kA h (fun v3 => ([(5, .sv (.int .i64 v3.1)), (6, .sv (.int .i64 v3.2.1))], [(0, some (.box [.sv (.ints .u8 v3.2.2.1), .sv (.int .i64 v3.2.2.2.1), .sv (.int .i64 v3.2.2.2.2)]))])) (fun v3 h => ?_) fun v3 h => ?_
 refine Xad ?_
 refine kO hT hC ?_
 refine kC hC [(0, 0)] Try.call94 h (fun _ => Xi3) fun q4 h => ?_
 refine Vc.nil ?_
 refine kS h ?_ ?_ <;> intro b1 h
 refine kt b1 (Xad ?_)
 refine kO hT hC ?_
 refine Vc.nil (Xac ?_)
 refine kO hT hC ?_
 exact Vc.nil kM
 exact kf b1 (Xaq kM)
 refine Xad ?_
 iterate 2 refine kO hT hC ?_
 refine Vc.nil (Xcm (Xad ?_))
 refine kO hT hC ?_
 refine Vc.nil ?_
 refine kL [0,3,4,5,6,7,8] [0,48,64,288] [_,_,_,_,_,_,_] [_,_,_,_] ?_
 refine kX h (fun v7 => ([(8, .sv (.int .i64 v7.1))], [(288, some (.ints .u8 v7.2))])) (fun v10 => ([(5, .any), (6, .any), (8, .any)], [(288, some (.ints .u8 v10))])) (kW hC []) (fun v7 s h => ?_) fun v10 h => ?_
 unfold Xb6 at h
 refine Xcm (Xad ?_)
 iterate 5 refine kO hT hC ?_
 refine Vc.nil ?_
 refine kS h ?_ ?_ <;> intro b4 h
 refine kt b4 (Xaq (Xah (Xcm (Xbg ?_))))
 refine Xo3 hm ?_
 iterate 5 refine kO hT hC ?_
 refine kQ hT hC h fun h => ?_
 iterate 5 refine kO hT hC ?_
 refine kQ hT hC h fun h => ?_
 iterate 2 refine kO hT hC ?_
 refine kC hC [] Try.call49 h (fun _ => Xf1) fun q11 h => ?_
 iterate 2 refine kO hT hC ?_
 refine kT hT hC h fun h => ?_
 refine kO hT hC ?_
 refine kD (Xbu (Xah (Xac ?_)))
 iterate 3 refine kO hT hC ?_
 refine Vc.nil ?_
 obtain rfl := kj h
 exact Xr9 (kW hC [(288, 688)])
 exact kf b4 (Xbj (Xdf ku))
 refine Xah (Xcm (Xad ?_))
 refine kO hT hC ?_
 refine Vc.nil ?_
 refine kL [0,3,4,7,9] [0,48,64,288] [_,_,_,_,_] [_,_,_,_] ?_
 refine kX h (fun v17 => ([(9, .sv (.int .i64 v17.1))], [(0, some (.box [.sv (.ints .u8 v17.2.1), .sv (.int .i64 v17.2.2.1), .sv (.int .i64 v17.2.2.2.1)])), (288, some (.ints .u8 v17.2.2.2.2))])) (fun v22 => ([(0, .any), (9, .any)], [(0, some (.box [.sv (.ints .u8 v22.2.1), .sv (.int .i64 v22.2.2.1), .sv (.int .i64 v22.2.2.2)])), (288, some (.ints .u8 v22.1))])) (kW hC []) (fun v17 s h => ?_) fun v22 h => ?_
 unfold Xb7 at h
 refine Xcm (Xad ?_)
 iterate 2 refine kO hT hC ?_
 refine kC hC [(0, 0)] Try.call46 h (fun _ => Xan) fun q23 h => ?_
 refine kO hT hC ?_
 refine Vc.nil ?_
 refine kS h ?_ ?_ <;> intro b7 h
 refine kt b7 (Xaq (Xah (Xcm (Xbg (Xac ?_)))))
 iterate 4 refine kO hT hC ?_
 refine kC hC [(0, 0)] Try.call46 h (fun _ => Xan) fun q24 h => ?_
 refine kO hT hC ?_
 refine kC hC [(0, 0)] Try.call45 h (fun _ => Xas) fun q25 h => ?_
 refine kO hT hC ?_
 iterate 2 refine kQ hT hC h fun h => ?_
 refine Vc.nil (Xbu (Xah (Xac ?_)))
 iterate 3 refine kO hT hC ?_
 exact Vc.nil kG
 exact kf b7 (Xbj (Xdf ku))
 refine Xah (Xad ?_)
 iterate 8 refine kO hT hC ?_
 refine Vc.nil (Xaj ?_)
 obtain rfl := kj h
 exact Xlj (Xdv.refl _) rfl ⟨rfl, trivial⟩
def Xgq (r : (Pic × Pic)) : AV := .tup [.agg [.sv (.int .i64 r.1.Wide), .sv (.int .i64 r.1.High), .sv (.str r.1.Dots)], .agg [.sv (.int .i64 r.2.Wide), .sv (.int .i64 r.2.High), .sv (.str r.2.Dots)]]
def Xgp (r : (Pic × Pic)) : Xa1 := []
theorem Xhg {p0 r} (h : Xb3 p0 = some r) : AC Try.prog 9 [.sv (.ints .u8 p0)] [] (Xgq r) (Xgp r) := by
 refine Xab hT Try.func9 rfl fun C hC => ?_
 unfold Xb3 at h
 refine Xad ?_
 iterate 2 refine kO hT hC ?_
 refine kN ?_
 refine kO hT hC ?_
 refine kC hC [(16, 112)] Try.call42 h (fun _ => Xe0) fun q1 h => ?_
 refine kO hT hC ?_
 refine kN ?_
 refine kO hT hC ?_
 refine kC hC [(0, 112)] Try.call43 h (fun _ => Xf7) fun q2 h => ?_
 iterate 2 refine kO hT hC ?_
 refine Vc.nil ?_
 refine Xeh hm ?_
 iterate 3 refine kO hT hC ?_
 refine kC hC [(0, 112)] Try.call44 h (fun _ => Xi7) fun q3 h => ?_
 iterate 2 refine kO hT hC ?_
 exact kD (Xaj kR)
def Xfb (r : (List Int)) : AV := .own 16
def Xfa (r : (List Int)) : Xa1 := [(16, .ints .i64 r)]
theorem Xf3 {p0 r} (h : Xbd p0 = some r) : AC Try.prog 10 [.sv (.ints .u8 p0)] [] (Xfb r) (Xfa r) := by
 refine Xab hT Try.func10 rfl fun C hC => ?_
 unfold Xbd at h
 refine Xad ?_
 refine kO hT hC ?_
 refine kN ?_
 refine kO hT hC ?_
 refine kC hC [(16, 112)] Try.call42 h (fun _ => Xe0) fun q1 h => ?_
 refine kO hT hC ?_
 refine kN ?_
 refine kO hT hC ?_
 refine kC hC [(0, 112)] Try.call45 h (fun _ => Xas) fun q2 h => ?_
 refine kN ?_
 iterate 2 refine kO hT hC ?_
 refine Vc.nil (Xcm (Xad ?_))
 refine kO hT hC ?_
 refine Vc.nil ?_
 refine kL [3,4,5] [112,160] [_,_,_] [_,_] ?_
 refine kX h (fun v5 => ([(5, .sv (.int .i64 v5.1))], [(112, some (.box [.sv (.ints .u8 v5.2.1), .sv (.int .i64 v5.2.2.1), .sv (.int .i64 v5.2.2.2.1)])), (160, some (.ints .i64 v5.2.2.2.2))])) (fun v8 => ([(3, .any), (5, .any)], [(160, some (.ints .i64 v8)), (112, none)])) (kW hC []) (fun v5 s h => ?_) fun v8 h => ?_
 unfold Xa9 at h
 refine Xcm (Xad ?_)
 iterate 2 refine kO hT hC ?_
 refine Vc.nil ?_
 refine kS h ?_ ?_ <;> intro b3 h
 refine kt b3 (Xaq (Xah (Xcm (Xbg (Xac ?_)))))
 iterate 2 refine kO hT hC ?_
 refine kC hC [(0, 112)] Try.call46 h (fun _ => Xan) fun q9 h => ?_
 refine kO hT hC ?_
 refine kT hT hC h fun h => ?_
 refine kO hT hC ?_
 refine Vc.nil (Xbu (Xah (Xac ?_)))
 iterate 3 refine kO hT hC ?_
 refine Vc.nil ?_
 obtain rfl := kj h
 exact Xr9 (kW hC [(160, 304)])
 exact kf b3 (Xbj (Xdf ku))
 refine Xah (Xad ?_)
 iterate 2 refine kO hT hC ?_
 refine Vc.nil (Xaj ?_)
 obtain rfl := kj h
 exact Xlj (τ := ⟨[(2, .own 16)], [(16, some (.ints .i64 v8))]⟩) (kW hC [(16, 160)]) rfl ⟨rfl, trivial⟩
def Xhd (r : (List Int)) : AV := .own 16
def Xhc (r : (List Int)) : Xa1 := [(16, .ints .i64 r)]
theorem Xiz {p0 p1 p2 r} (h : Xcn p0 p1 p2 = some r) : AC Try.prog 11 [.agg [.sv (.int .i64 p0.Wide), .sv (.int .i64 p0.High), .sv (.str p0.Dots)], .sv (.int .i64 p1), .sv (.int .i64 p2)] [] (Xhd r) (Xhc r) := by
 refine Xab hT Try.func11 rfl fun C hC => ?_
 unfold Xcn at h
 refine Xad ?_
 iterate 2 refine kO hT hC ?_
 refine kN ?_
 iterate 2 refine kO hT hC ?_
 refine Vc.nil (Xcm ?_)
 refine kL [1,2,3,7] [48,144] [_,_,_,_] [_,_] ?_
 refine kA h (fun v1 => ([(22, .sv (.bool v1))], [])) (fun v1 h => ?_) fun v1 h => ?_
 refine Xac ?_
 refine kO hT hC ?_
 refine kC hC [] Try.call47 h (fun _ => Xf5) fun q2 h => ?_
 iterate 2 refine kO hT hC ?_
 refine kS h ?_ ?_ <;> intro b1 h
 refine kI hT hC (kn b1) ?_
 refine kE hC (kn b1) [] Try.call48 h (fun _ => Xc3) fun q3 h => ?_
 refine kI hT hC (kn b1) ?_
 refine kP hC false (kn b1) ?_
 refine kO hT hC ?_
 refine kS h ?_ ?_ <;> intro b2 h
 refine kI hT hC (kn b2) ?_
 refine kE hC (kn b2) [] Try.call48 h (fun _ => Xc3) fun q4 h => ?_
 refine kI hT hC (kn b2) ?_
 refine kP hC false (kn b2) ?_
 exact Vc.nil kM
 iterate 3 refine kF hC (kn b2) ?_
 refine kP hC true (kn b2) ?_
 exact Vc.nil kM
 iterate 3 refine kF hC (kn b1) ?_
 refine kP hC true (kn b1) ?_
 refine kO hT hC ?_
 iterate 3 refine kF hC rfl ?_
 refine kO hT hC ?_
 exact Vc.nil kM
 refine kS h ?_ ?_ <;> intro b3 h
 refine kt b3 (Xad ?_)
 iterate 2 refine kO hT hC ?_
 refine Vc.nil (Xaj (Xev ?_))
 obtain rfl := kj h
 exact Xlj (τ := ⟨[(6, .own 16)], [(16, some (.ints .i64 ([] : List Int)))]⟩) (kW hC [(16, 144)]) rfl ⟨rfl, trivial⟩
 refine kf b3 (Xaq (Xah (Xcm (Xad ?_))))
 refine kO hT hC ?_
 refine Vc.nil ?_
 refine kL [1,2,3,7,8] [48,144] [_,_,_,_,_] [_,_] ?_
 refine kX h (fun v7 => ([(8, .sv (.int .i64 v7.1))], [(144, some (.ints .i64 v7.2))])) (fun v10 => ([(1, .any), (2, .any), (3, .any), (8, .any)], [(144, some (.ints .i64 v10)), (48, none)])) (kW hC []) (fun v7 s h => ?_) fun v10 h => ?_
 unfold Xbc at h
 refine Xcm (Xad ?_)
 iterate 2 refine kO hT hC ?_
 refine Vc.nil ?_
 refine kS h ?_ ?_ <;> intro b6 h
 refine kt b6 (Xaq (Xah (Xcm (Xbg (Xac ?_)))))
 iterate 4 refine kO hT hC ?_
 refine kQ hT hC h fun h => ?_
 iterate 3 refine kO hT hC ?_
 refine kQ hT hC h fun h => ?_
 refine kO hT hC ?_
 refine kC hC [] Try.call49 h (fun _ => Xf1) fun q11 h => ?_
 refine kO hT hC ?_
 refine kT hT hC h fun h => ?_
 refine kO hT hC ?_
 refine Vc.nil (Xbu (Xah (Xac ?_)))
 iterate 3 refine kO hT hC ?_
 refine Vc.nil ?_
 obtain rfl := kj h
 exact Xr9 (kW hC [(144, 640)])
 exact kf b6 (Xbj (Xdf ku))
 refine Xah (Xad ?_)
 iterate 2 refine kO hT hC ?_
 refine Vc.nil (Xaj ?_)
 obtain rfl := kj h
 exact Xlj (τ := ⟨[(6, .own 16)], [(16, some (.ints .i64 v10))]⟩) (kW hC [(16, 144)]) rfl ⟨rfl, trivial⟩
def Xik (r : Bool) : AV := .sv (.bool r)
def Xij (r : Bool) : Xa1 := []
theorem Xag {p0 p1 p2 r} (h : Xal p0 p1 p2 = some r) : AC Try.prog 52 [.sv (.int .i64 p0), .sv (.int .i64 p1), .sv (.int .i64 p2)] [] (Xik r) (Xij r) := by
 refine Xab hT Try.func52 rfl fun C hC => ?_
 unfold Xal at h
 refine Xad ?_
 refine kO hT hC ?_
 refine Vc.nil ?_
 refine kL [0,1,2,6] [] [_,_,_,_] [] ?_
 refine kA h (fun v1 => ([(6, .sv (.bool v1)), (0, .any), (1, .any), (2, .any)], [])) (fun v1 h => ?_) fun v1 h => ?_
 refine Xac ?_
 iterate 4 refine kO hT hC ?_
 refine kS h ?_ ?_ <;> intro b1 h
 iterate 3 refine kI hT hC b1 ?_
 refine kP hC true b1 ?_
 refine kO hT hC ?_
 exact Vc.nil kM
 iterate 3 refine kF hC b1 ?_
 refine kP hC false b1 ?_
 refine kO hT hC ?_
 exact Vc.nil kM
 exact Xaj kR
def Xjm (r : Bool) : AV := .sv (.bool r)
def Xjl (r : Bool) : Xa1 := []
theorem Xfl {p0 r} (h : Xc6 p0 = some r) : AC Try.prog 50 [.agg [.sv (.int .i64 p0.Wide), .sv (.int .i64 p0.High), .sv (.str p0.Dots)]] [] (Xjm r) (Xjl r) := by
 refine Xab hT Try.func50 rfl fun C hC => ?_
 unfold Xc6 at h
 refine Xad ?_
 iterate 2 refine kO hT hC ?_
 refine Vc.nil ?_
 refine kL [1,2] [16] [_,_] [_] ?_
 refine kA h (fun v1 => ([(2, .sv (.bool v1)), (1, .any)], [(16, none)])) (fun v1 h => ?_) fun v1 h => ?_
 refine Xac ?_
 iterate 2 refine kO hT hC ?_
 refine kC hC [] Try.call52 h (fun _ => Xag) fun q2 h => ?_
 refine kO hT hC ?_
 refine kS h ?_ ?_ <;> intro b1 h
 iterate 2 refine kI hT hC b1 ?_
 refine kE hC b1 [] Try.call52 h (fun _ => Xag) fun q3 h => ?_
 refine kP hC true b1 ?_
 refine kO hT hC ?_
 refine kS h ?_ ?_ <;> intro b2 h
 iterate 9 refine kI hT hC b2 ?_
 refine kP hC true b2 ?_
 refine kO hT hC ?_
 exact Vc.nil kM
 iterate 9 refine kF hC b2 ?_
 refine kP hC false b2 ?_
 refine kO hT hC ?_
 exact Vc.nil kM
 iterate 3 refine kF hC b1 ?_
 refine kP hC false b1 ?_
 refine kO hT hC ?_
 iterate 9 refine kF hC rfl ?_
 iterate 2 refine kO hT hC ?_
 exact Vc.nil kM
 exact Xaj kR
def Xex (r : Bool) : AV := .sv (.bool r)
def Xew (r : Bool) : Xa1 := []
theorem Xd0 {p0 p1 p2 p3 r} (h : Xbq p0 p1 p2 p3 = some r) : AC Try.prog 51 [.sv (.ints .i64 p0), .sv (.int .i64 p1), .sv (.int .i64 p2), .sv (.int .i64 p3)] [] (Xex r) (Xew r) := by
 refine Xab hT Try.func51 rfl fun C hC => ?_
 unfold Xbq at h
 refine Xad ?_
 refine kO hT hC ?_
 refine Vc.nil (Xcm (Xad ?_))
 iterate 3 refine kO hT hC ?_
 refine Vc.nil ?_
 refine kL [0,1,2,3,11,12,13] [] [_,_,_,_,_,_,_] [] ?_
 obtain ⟨o8, hl, h⟩ := Xfh h
 refine Xrx (fun v3 => ([(13, .sv (.int .i64 v3))], [])) (fun v6 => ([(2, .any), (3, .any), (11, .any), (12, .any), (13, .any)], [])) (fun r => Xrf C T Try.f51.results.toList (Xex r) (Xew r)) hl ?_ ?_ ?_ ?_
 apply Xre hC []
 exact co
 rfl
 decide
 rfl
 intro v3 s hs
 have h := hs
 unfold Xbx at h
 refine Xad ?_
 refine kO hT hC ?_
 refine Vc.nil (Xcm ?_)
 refine kS h ?_ ?_ <;> intro b5 h
 refine kt b5 (Xaq (Xah (Xcm (Xbg (Xad ?_)))))
 refine kQ hT hC h fun h => ?_
 iterate 2 refine kO hT hC ?_
 refine kN ?_
 iterate 3 refine kO hT hC ?_
 refine kC hC [] Try.call52 h (fun _ => Xag) fun q7 h => ?_
 refine kO hT hC ?_
 refine Vc.nil ?_
 refine kS h ?_ ?_ <;> intro b6 h
 refine kt b6 (Xad ?_)
 refine kO hT hC ?_
 refine Vc.nil (Xaj (Xrj (Xev ?_)))
 obtain rfl := kj h
 refine Xs7 (Xs6 ?_)
 exact Xlj (Xdv.refl _) rfl trivial
 refine kf b6 (Xaq (Xbu (Xah (Xac ?_))))
 iterate 2 refine kO hT hC ?_
 exact Vc.nil kG
 exact kf b5 (Xbj (Xdf kb))
 intro v6 e
 subst e
 refine Xah (Xad ?_)
 iterate 5 refine kO hT hC ?_
 exact Vc.nil (Xaj kR)
 intro r' σ' e hE
 subst e
 obtain rfl := kj h
 refine Xev ?_
 exact hE
def Xef (r : Bool) : AV := .sv (.bool r)
def Xee (r : Bool) : Xa1 := []
theorem Xeu {p0 p1 p2 r} (h : Xa5 p0 p1 p2 = some r) : AC Try.prog 53 [.agg [.sv (.int .i64 p0.Wide), .sv (.int .i64 p0.High), .sv (.str p0.Dots)], .sv (.int .i64 p1), .sv (.int .i64 p2)] [] (Xef r) (Xee r) := by
 refine Xab hT Try.func53 rfl fun C hC => ?_
 unfold Xa5 at h
 refine Xad ?_
 iterate 2 refine kO hT hC ?_
 refine Vc.nil ?_
 refine kL [1,2,3,6] [48] [_,_,_,_] [_] ?_
 refine kA h (fun v1 => ([(6, .sv (.bool v1)), (1, .any), (2, .any), (3, .any)], [(48, none)])) (fun v1 h => ?_) fun v1 h => ?_
 refine Xac ?_
 refine kO hT hC ?_
 refine kQ hT hC h fun h => ?_
 iterate 2 refine kO hT hC ?_
 refine kS h ?_ ?_ <;> intro b1 h
 refine kI hT hC b1 ?_
 refine kJ hT hC b1 h fun h => ?_
 refine kI hT hC b1 ?_
 refine kP hC true b1 ?_
 refine kO hT hC ?_
 refine kS h ?_ ?_ <;> intro b2 h
 iterate 4 refine kI hT hC b2 ?_
 refine kE hC b2 [] Try.call52 h (fun _ => Xag) fun q2 h => ?_
 refine kP hC true b2 ?_
 refine kO hT hC ?_
 refine kS h ?_ ?_ <;> intro b3 h
 iterate 4 refine kI hT hC b3 ?_
 refine kE hC b3 [] Try.call52 h (fun _ => Xag) fun q3 h => ?_
 refine kP hC true b3 ?_
 refine kO hT hC ?_
 exact Vc.nil kM
 iterate 5 refine kF hC b3 ?_
 refine kP hC false b3 ?_
 refine kO hT hC ?_
 exact Vc.nil kM
 iterate 5 refine kF hC b2 ?_
 refine kP hC false b2 ?_
 refine kO hT hC ?_
 iterate 5 refine kF hC rfl ?_
 iterate 2 refine kO hT hC ?_
 exact Vc.nil kM
 iterate 3 refine kF hC b1 ?_
 refine kP hC false b1 ?_
 refine kO hT hC ?_
 iterate 5 refine kF hC rfl ?_
 iterate 2 refine kO hT hC ?_
 iterate 5 refine kF hC rfl ?_
 iterate 2 refine kO hT hC ?_
 exact Vc.nil kM
 exact Xaj kR
def Xfq (r : Bool) : AV := .sv (.bool r)
def Xfp (r : Bool) : Xa1 := []
theorem Xgl {p0 p1 r} (h : Xbi p0 p1 = some r) : AC Try.prog 54 [.agg [.sv (.int .i64 p0.Wide), .sv (.int .i64 p0.High), .sv (.str p0.Dots)], .agg [.sv (.int .i64 p1.Left), .sv (.int .i64 p1.Top), .sv (.int .i64 p1.Wide), .sv (.int .i64 p1.High)]] [] (Xfq r) (Xfp r) := by
 refine Xab hT Try.func54 rfl fun C hC => ?_
 unfold Xbi at h
 refine Xad ?_
 iterate 3 refine kO hT hC ?_
 refine Vc.nil ?_
 refine kL [2,3,4] [32,48] [_,_,_] [_,_] ?_
 refine kA h (fun v1 => ([(4, .sv (.bool v1)), (2, .any), (3, .any)], [(32, none), (48, none)])) (fun v1 h => ?_) fun v1 h => ?_
 refine Xac ?_
 iterate 4 refine kO hT hC ?_
 refine kC hC [] Try.call52 h (fun _ => Xag) fun q2 h => ?_
 refine kO hT hC ?_
 refine kS h ?_ ?_ <;> intro b1 h
 iterate 4 refine kI hT hC b1 ?_
 refine kE hC b1 [] Try.call52 h (fun _ => Xag) fun q3 h => ?_
 refine kP hC true b1 ?_
 refine kO hT hC ?_
 refine kS h ?_ ?_ <;> intro b2 h
 iterate 7 refine kI hT hC b2 ?_
 refine kE hC b2 [] Try.call52 h (fun _ => Xag) fun q4 h => ?_
 refine kP hC true b2 ?_
 refine kO hT hC ?_
 refine kS h ?_ ?_ <;> intro b3 h
 iterate 7 refine kI hT hC b3 ?_
 refine kE hC b3 [] Try.call52 h (fun _ => Xag) fun q5 h => ?_
 refine kP hC true b3 ?_
 refine kO hT hC ?_
 exact Vc.nil kM
 iterate 8 refine kF hC b3 ?_
 refine kP hC false b3 ?_
 refine kO hT hC ?_
 exact Vc.nil kM
 iterate 8 refine kF hC b2 ?_
 refine kP hC false b2 ?_
 refine kO hT hC ?_
 iterate 8 refine kF hC rfl ?_
 iterate 2 refine kO hT hC ?_
 exact Vc.nil kM
 iterate 5 refine kF hC b1 ?_
 refine kP hC false b1 ?_
 refine kO hT hC ?_
 iterate 8 refine kF hC rfl ?_
 iterate 2 refine kO hT hC ?_
 iterate 8 refine kF hC rfl ?_
 iterate 2 refine kO hT hC ?_
 exact Vc.nil kM
 exact Xaj kR
def Xg6 (r : Int) : AV := .sv (.int .i64 r)
def Xg5 (r : Int) : Xa1 := []
theorem Xec {p0 p1 p2 r} (h : Xbp p0 p1 p2 = some r) : AC Try.prog 137 [.sv (.int .i64 p0), .sv (.int .i64 p1), .sv (.int .i64 p2)] [] (Xg6 r) (Xg5 r) := by
 refine Xab hT Try.func137 rfl fun C hC => ?_
 unfold Xbp at h
 refine Xad ?_
 refine kO hT hC ?_
 refine kN ?_
 iterate 6 refine kO hT hC ?_
 exact Vc.nil (Xaj kR)
def Xg8 (r : Int) : AV := .sv (.int .i64 r)
def Xg7 (r : Int) : Xa1 := []
theorem Xic {p0 p1 p2 r} (h : Xck p0 p1 p2 = some r) : AC Try.prog 97 [.agg [.sv (.int .i64 p0.Wide), .sv (.int .i64 p0.High), .sv (.str p0.Dots)], .sv (.int .i64 p1), .sv (.int .i64 p2)] [] (Xg8 r) (Xg7 r) := by
 refine Xab hT Try.func97 rfl fun C hC => ?_
 unfold Xck at h
 refine Xad ?_
 iterate 2 refine kO hT hC ?_
 refine Vc.nil ?_
 refine Xeh hm ?_
 iterate 6 refine kO hT hC ?_
 refine kC hC [] Try.call137 h (fun _ => Xec) fun q1 h => ?_
 iterate 7 refine kO hT hC ?_
 refine kC hC [] Try.call137 h (fun _ => Xec) fun q2 h => ?_
 refine kO hT hC ?_
 refine kQ hT hC h fun h => ?_
 iterate 2 refine kO hT hC ?_
 exact kD (Xaj kR)
def Xfo (r : (List Int)) : AV := .own 16
def Xfn (r : (List Int)) : Xa1 := [(16, .ints .i64 r)]
theorem Xdo {p0 p1 p2 r} (h : Xa8 p0 p1 p2 = some r) : AC Try.prog 56 [.agg [.sv (.int .i64 p0.Wide), .sv (.int .i64 p0.High), .sv (.str p0.Dots)], .sv (.int .i64 p1), .sv (.int .i64 p2)] [] (Xfo r) (Xfn r) := by
 refine Xab hT Try.func56 rfl fun C hC => ?_
 unfold Xa8 at h
 refine Xad ?_
 iterate 2 refine kO hT hC ?_
 refine kN ?_
 obtain ⟨hq, h⟩ := Xdi h
 refine Xsr hT hC rfl rfl rfl rfl ⟨hq.1, hq.2.1, hq.2.2, by decide⟩ ?_
 refine kO hT hC ?_
 refine Vc.nil (Xcm (Xad ?_))
 refine kO hT hC ?_
 refine Vc.nil ?_
 refine kL [1,2,3,7,11] [48,160] [_,_,_,_,_] [_,_] ?_
 refine kX h (fun v10 => ([(11, .sv (.int .i64 v10.1))], [(160, some (.ints .i64 v10.2))])) (fun v20 => ([(1, .any), (2, .any), (3, .any), (11, .any)], [(160, some (.ints .i64 v20)), (48, none)])) (kW hC []) (fun v10 s h => ?_) fun v20 h => ?_
 unfold Xa3 at h
 refine Xad ?_
 refine kO hT hC ?_
 refine Vc.nil (Xcm ?_)
 refine kS h ?_ ?_ <;> intro b9 h
 refine kt b9 (Xaq (Xah (Xcm (Xbg (Xad ?_)))))
 iterate 2 refine kO hT hC ?_
 refine kN ?_
 refine kO hT hC ?_
 refine Vc.nil ?_
 refine kL [1,2,3,7,8,11,14] [48,160] [_,_,_,_,_,_,_] [_,_] ?_
 refine kX h (fun v23 => ([(14, .sv (.int .i64 v23.1))], [(160, some (.ints .i64 v23.2))])) (fun v26 => ([(8, .any), (14, .any)], [(160, some (.ints .i64 v26))])) (kW hC []) (fun v23 s h => ?_) fun v26 h => ?_
 unfold Xa4 at h
 refine Xad ?_
 refine kO hT hC ?_
 refine Vc.nil (Xcm ?_)
 refine kS h ?_ ?_ <;> intro b12 h
 refine kt b12 (Xaq (Xah (Xcm (Xbg (Xad ?_)))))
 iterate 2 refine kO hT hC ?_
 refine Vc.nil (Xac ?_)
 iterate 8 refine kO hT hC ?_
 refine kC hC [] Try.call97 h (fun _ => Xic) fun q27 h => ?_
 refine kO hT hC ?_
 refine kT hT hC h fun h => ?_
 refine kO hT hC ?_
 refine Vc.nil (Xbu (Xah (Xac ?_)))
 iterate 2 refine kO hT hC ?_
 refine Vc.nil ?_
 obtain rfl := kj h
 exact Xr9 (kW hC [(160, 432)])
 exact kf b12 (Xbj (Xdf ku))
 refine Xbu (Xah (Xac ?_))
 iterate 2 refine kO hT hC ?_
 exact Vc.nil kG
 exact kf b9 (Xbj (Xdf ku))
 refine Xah (Xad ?_)
 iterate 2 refine kO hT hC ?_
 refine Vc.nil (Xaj ?_)
 obtain rfl := kj h
 exact Xlj (τ := ⟨[(6, .own 16)], [(16, some (.ints .i64 v20))]⟩) (kW hC [(16, 160)]) rfl ⟨rfl, trivial⟩
def Xkw (r : Int) : AV := .sv (.int .i64 r)
def Xkv (r : Int) : Xa1 := []
theorem Xl7 {p0 r} (h : Xfu p0 = some r) : AC Try.prog 96 [.sv (.int .i64 p0)] [] (Xkw r) (Xkv r) := by
 refine Xab hT Try.func96 rfl fun C hC => ?_
 unfold Xfu at h
 refine Xad ?_
 refine kO hT hC ?_
 refine kN ?_
 iterate 5 refine kO hT hC ?_
 exact Vc.nil (Xaj kR)
def Xl5 (r : Int) : AV := .sv (.int .i64 r)
def Xl4 (r : Int) : Xa1 := []
theorem Xig {p0 p1 r} (h : Xem p0 p1 = some r) : AC Try.prog 55 [.sv (.ints .i64 p0), .sv (.ints .i64 p1)] [] (Xl5 r) (Xl4 r) := by
 refine Xab hT Try.func55 rfl fun C hC => ?_
 unfold Xem at h
 refine Xad ?_
 refine kO hT hC ?_
 refine kN ?_
 refine kO hT hC ?_
 refine Vc.nil (Xcm (Xad ?_))
 iterate 3 refine kO hT hC ?_
 refine Vc.nil ?_
 refine kL [1,5,8,9,10] [] [_,_,_,_,_] [] ?_
 refine kX h (fun v3 => ([(5, .sv (.int .i64 v3.1)), (10, .sv (.int .i64 v3.2))], [])) (fun v6 => ([(5, .sv (.int .i64 v6)), (1, .any), (8, .any), (9, .any), (10, .any)], [])) (kW hC []) (fun v3 s h => ?_) fun v6 h => ?_
 unfold Xdc at h
 refine Xad ?_
 refine kO hT hC ?_
 refine Vc.nil (Xcm ?_)
 refine kS h ?_ ?_ <;> intro b3 h
 refine kt b3 (Xaq (Xah (Xcm (Xbg (Xad ?_)))))
 refine kO hT hC ?_
 refine kQ hT hC h fun h => ?_
 iterate 3 refine kO hT hC ?_
 refine Vc.nil (Xac ?_)
 iterate 4 refine kO hT hC ?_
 refine kQ hT hC h fun h => ?_
 iterate 2 refine kO hT hC ?_
 refine kC hC [] Try.call96 h (fun _ => Xl7) fun q7 h => ?_
 iterate 2 refine kO hT hC ?_
 refine Vc.nil (Xbu (Xah (Xac ?_)))
 iterate 2 refine kO hT hC ?_
 exact Vc.nil kG
 exact kf b3 (Xbj (Xdf ku))
 refine Xah (Xad ?_)
 iterate 2 refine kO hT hC ?_
 exact Vc.nil (Xaj kR)
def Xib (r : (Int × Bool)) : AV := .tup [.sv (.int .i64 r.1), .sv (.bool r.2)]
def Xia (r : (Int × Bool)) : Xa1 := []
theorem Xjh {p0 r} (h : Xdb p0 = some r) : AC Try.prog 98 [.sv (.int .i64 p0)] [] (Xib r) (Xia r) := by
 refine Xab hT Try.func98 rfl fun C hC => ?_
 unfold Xdb at h
 refine Xad ?_
 iterate 2 refine kO hT hC ?_
 refine Vc.nil (Xcm (Xbg (Xad ?_)))
 refine kO hT hC ?_
 refine kC hC [] Try.call52 h (fun _ => Xag) fun q1 h => ?_
 iterate 2 refine kO hT hC ?_
 refine Vc.nil ?_
 refine kS h ?_ ?_ <;> intro b1 h
 refine kt b1 (Xad ?_)
 iterate 2 refine kO hT hC ?_
 exact Vc.nil (Xaj (Xrj (Xev kR)))
 refine kf b1 (Xad ?_)
 iterate 3 refine kO hT hC ?_
 refine Vc.nil ?_
 refine kS h ?_ ?_ <;> intro b2 h
 refine kt b2 (Xad ?_)
 iterate 5 refine kO hT hC ?_
 exact Vc.nil (Xaj (Xrj (Xev kR)))
 refine kf b2 (Xaq (Xbu (Xah (Xad ?_))))
 iterate 4 refine kO hT hC ?_
 exact Vc.nil (Xaj kR)
def Xft (r : Int) : AV := .sv (.int .i64 r)
def Xfs (r : Int) : Xa1 := []
theorem Xgm {p0 r} (h : Xcg p0 = some r) : AC Try.prog 156 [.sv (.int .i64 p0)] [] (Xft r) (Xfs r) := by
 refine Xab hT Try.func156 rfl fun C hC => ?_
 unfold Xcg at h
 refine Xad ?_
 refine kO hT hC ?_
 refine kN ?_
 refine kO hT hC ?_
 refine Vc.nil (Xcm ?_)
 refine kL [0,3] [] [_,_] [] ?_
 refine kX h (fun v2 => ([(0, .sv (.int .i64 v2.1)), (3, .sv (.int .i64 v2.2))], [])) (fun v4 => ([(3, .sv (.int .i64 v4)), (0, .any)], [])) (kW hC []) (fun v2 s h => ?_) fun v4 h => ?_
 unfold Xat at h
 refine Xcm (Xad ?_)
 iterate 2 refine kO hT hC ?_
 refine Vc.nil ?_
 refine kS h ?_ ?_ <;> intro b3 h
 refine kt b3 (Xaq (Xah (Xcm (Xbg (Xac ?_)))))
 iterate 3 refine kO hT hC ?_
 refine Vc.nil (Xbu (Xah (Xac ?_)))
 refine kO hT hC ?_
 refine kQ hT hC h fun h => ?_
 refine kO hT hC ?_
 exact Vc.nil kG
 exact kf b3 (Xbj (Xdf ku))
 refine Xah (Xad ?_)
 iterate 2 refine kO hT hC ?_
 exact Vc.nil (Xaj kR)
def Xjs (r : ByteArray) : AV := .sv (.str r)
def Xjr (r : ByteArray) : Xa1 := []
theorem Xkt {p0 p1 r} (h : Xdq p0 p1 = some r) : AC Try.prog 132 [.sv (.int .i64 p0), .sv (.int .i64 p1)] [] (Xjs r) (Xjr r) := by
 refine Xab hT Try.func132 rfl fun C hC => ?_
 unfold Xdq at h
 refine Xad ?_
 refine kO hT hC ?_
 refine kN ?_
 refine kO hT hC ?_
 obtain ⟨hq, h⟩ := Xdi h
 refine Xsr hT hC rfl rfl rfl rfl ⟨hq.1, hq.2.1, hq.2.2, by decide⟩ ?_
 refine kO hT hC ?_
 refine Vc.nil (Xcm (Xad ?_))
 iterate 3 refine kO hT hC ?_
 refine Vc.nil ?_
 refine kL [0,5,6] [128] [_,_,_] [_] ?_
 refine kX h (fun v2 => ([(0, .sv (.int .i64 v2.1)), (6, .sv (.int .i64 v2.2.1))], [(128, some (.ints .u8 v2.2.2))])) (fun v4 => ([(0, .any), (6, .any)], [(128, some (.ints .u8 v4))])) (kW hC []) (fun v2 s h => ?_) fun v4 h => ?_
 unfold Xby at h
 refine Xcm (Xad ?_)
 iterate 2 refine kO hT hC ?_
 refine Vc.nil ?_
 refine kS h ?_ ?_ <;> intro b3 h
 refine kt b3 (Xaq (Xah (Xcm (Xbg (Xad ?_)))))
 iterate 6 refine kO hT hC ?_
 iterate 2 refine kQ hT hC h fun h => ?_
 refine Vc.nil (Xac ?_)
 refine kO hT hC ?_
 refine kQ hT hC h fun h => ?_
 refine kO hT hC ?_
 refine Vc.nil (Xbu (Xah (Xac ?_)))
 iterate 3 refine kO hT hC ?_
 exact Vc.nil kG
 exact kf b3 (Xbj (Xdf ku))
 refine Xah (Xad ?_)
 iterate 3 refine kO hT hC ?_
 exact Vc.nil (Xaj kR)
def Xm0 (r : ByteArray) : AV := .sv (.str r)
def Xmz (r : ByteArray) : Xa1 := []
theorem Xog {p0 r} (h : Xii p0 = some r) : AC Try.prog 131 [.sv (.int .i64 p0)] [] (Xm0 r) (Xmz r) := by
 refine Xab hT Try.func131 rfl fun C hC => ?_
 unfold Xii at h
 refine Xad ?_
 refine kO hT hC ?_
 refine kN ?_
 iterate 4 refine kO hT hC ?_
 refine kC hC [] Try.call156 h (fun _ => Xgm) fun q1 h => ?_
 iterate 2 refine kO hT hC ?_
 refine kC hC [] Try.call132 h (fun _ => Xkt) fun q2 h => ?_
 refine kO hT hC ?_
 exact Vc.nil (Xaj kR)
def Xjq (r : (ByteArray × Bool)) : AV := .tup [.sv (.str r.1), .sv (.bool r.2)]
def Xjp (r : (ByteArray × Bool)) : Xa1 := []
theorem Xks {p0 r} (h : Xel p0 = some r) : AC Try.prog 99 [.sv (.int .i64 p0)] [] (Xjq r) (Xjp r) := by
 refine Xab hT Try.func99 rfl fun C hC => ?_
 unfold Xel at h
 refine Xad ?_
 iterate 2 refine kO hT hC ?_
 refine Vc.nil (Xcm (Xad ?_))
 refine kO hT hC ?_
 refine kC hC [] Try.call52 h (fun _ => Xag) fun q1 h => ?_
 refine kO hT hC ?_
 refine Vc.nil ?_
 refine kS h ?_ ?_ <;> intro b1 h
 refine kt b1 (Xad ?_)
 iterate 2 refine kO hT hC ?_
 exact Vc.nil (Xaj (Xev kR))
 refine kf b1 (Xaq (Xah (Xad ?_)))
 refine kO hT hC ?_
 refine kC hC [] Try.call131 h (fun _ => Xog) fun q2 h => ?_
 iterate 2 refine kO hT hC ?_
 exact Vc.nil (Xaj kR)
def Xjo (r : (ByteArray × Bool)) : AV := .tup [.sv (.str r.1), .sv (.bool r.2)]
def Xjn (r : (ByteArray × Bool)) : Xa1 := []
theorem Xkq {p0 r} (h : Xdp p0 = some r) : AC Try.prog 57 [.sv (.int .i64 p0)] [] (Xjo r) (Xjn r) := by
 refine Xab hT Try.func57 rfl fun C hC => ?_
 unfold Xdp at h
 refine Xad ?_
 iterate 2 refine kO hT hC ?_
 refine kN ?_
 refine kO hT hC ?_
 refine kC hC [] Try.call98 h (fun _ => Xjh) fun q1 h => ?_
 iterate 5 refine kO hT hC ?_
 refine Vc.nil (Xcm (Xad ?_))
 iterate 2 refine kO hT hC ?_
 refine Vc.nil ?_
 refine kS h ?_ ?_ <;> intro b1 h
 refine kt b1 (Xad ?_)
 iterate 2 refine kO hT hC ?_
 exact Vc.nil (Xaj (Xev kR))
 refine kf b1 (Xaq (Xah (Xad ?_)))
 refine kO hT hC ?_
 refine kC hC [] Try.call99 h (fun _ => Xks) fun q2 h => ?_
 iterate 4 refine kO hT hC ?_
 exact Vc.nil (Xaj kR)
def Xie (r : Int) : AV := .sv (.int .i64 r)
def Xid (r : Int) : Xa1 := []
theorem Xce {p0 r} (h : Xba p0 = some r) : AC Try.prog 15 [.sv (.int .i64 p0)] [] (Xie r) (Xid r) := by
 refine Xab hT Try.func15 rfl fun C hC => ?_
 unfold Xba at h
 refine Xad ?_
 refine kO hT hC ?_
 refine kN ?_
 refine kO hT hC ?_
 refine kC hC [] Try.call57 h (fun _ => Xkq) fun q1 h => ?_
 iterate 5 refine kO hT hC ?_
 refine kN ?_
 iterate 3 refine kO hT hC ?_
 exact Vc.nil (Xaj kR)
def Xgk (r : (Int × Int × Int)) : AV := .tup [.sv (.int .i64 r.1), .sv (.int .i64 r.2.1), .sv (.int .i64 r.2.2)]
def Xgj (r : (Int × Int × Int)) : Xa1 := []
theorem Xg1 {p0 p1 p2 p3 p4 r} (h : Xbw p0 p1 p2 p3 p4 = some r) : AC Try.prog 12 [.agg [.sv (.int .i64 p0.Wide), .sv (.int .i64 p0.High), .sv (.str p0.Dots)], .sv (.ints .i64 p1), .sv (.int .i64 p2), .sv (.int .i64 p3), .sv (.int .i64 p4)] [] (Xgk r) (Xgj r) := by
 refine Xab hT Try.func12 rfl fun C hC => ?_
 unfold Xbw at h
 refine Xad ?_
 iterate 4 refine kO hT hC ?_
 refine Vc.nil (Xcm ?_)
 refine kL [1,2,3,4,5] [80] [_,_,_,_,_] [_] ?_
 refine kA h (fun v1 => ([(38, .sv (.bool v1))], [])) (fun v1 h => ?_) fun v1 h => ?_
 refine Xac ?_
 refine kO hT hC ?_
 refine kC hC [] Try.call50 h (fun _ => Xfl) fun q2 h => ?_
 iterate 2 refine kO hT hC ?_
 refine kS h ?_ ?_ <;> intro b1 h
 refine kI hT hC (kn b1) ?_
 refine kE hC (kn b1) [] Try.call51 h (fun _ => Xd0) fun q3 h => ?_
 refine kI hT hC (kn b1) ?_
 refine kP hC false (kn b1) ?_
 refine kO hT hC ?_
 refine kS h ?_ ?_ <;> intro b2 h
 refine kI hT hC (kn b2) ?_
 refine kE hC (kn b2) [] Try.call52 h (fun _ => Xag) fun q4 h => ?_
 refine kI hT hC (kn b2) ?_
 refine kP hC false (kn b2) ?_
 refine kO hT hC ?_
 refine kS h ?_ ?_ <;> intro b3 h
 iterate 3 refine kI hT hC (kn b3) ?_
 refine kE hC (kn b3) [] Try.call53 h (fun _ => Xeu) fun q5 h => ?_
 refine kI hT hC (kn b3) ?_
 refine kP hC false (kn b3) ?_
 exact Vc.nil kM
 iterate 5 refine kF hC (kn b3) ?_
 refine kP hC true (kn b3) ?_
 exact Vc.nil kM
 iterate 3 refine kF hC (kn b2) ?_
 refine kP hC true (kn b2) ?_
 refine kO hT hC ?_
 iterate 5 refine kF hC rfl ?_
 refine kO hT hC ?_
 exact Vc.nil kM
 iterate 3 refine kF hC (kn b1) ?_
 refine kP hC true (kn b1) ?_
 refine kO hT hC ?_
 iterate 3 refine kF hC rfl ?_
 iterate 2 refine kO hT hC ?_
 iterate 5 refine kF hC rfl ?_
 refine kO hT hC ?_
 exact Vc.nil kM
 refine kS h ?_ ?_ <;> intro b4 h
 refine kt b4 (Xad ?_)
 iterate 3 refine kO hT hC ?_
 exact Vc.nil (Xaj (Xev kR))
 refine kf b4 (Xaq (Xah (Xad ?_)))
 iterate 3 refine kO hT hC ?_
 refine Vc.nil (Xcm (Xad ?_))
 iterate 3 refine kO hT hC ?_
 refine Vc.nil ?_
 refine kL [1,2,3,4,5,13,14,15,16] [80] [_,_,_,_,_,_,_,_,_] [_] ?_
 refine kX h (fun v33 => ([(13, .sv (.int .i64 v33.1)), (14, .sv (.int .i64 v33.2.1)), (15, .sv (.int .i64 v33.2.2.1)), (16, .sv (.int .i64 v33.2.2.2))], [])) (fun v61 => ([(13, .sv (.int .i64 v61.1)), (14, .sv (.int .i64 v61.2.1)), (15, .sv (.int .i64 v61.2.2)), (1, .any), (2, .any), (3, .any), (4, .any), (5, .any), (16, .any)], [(80, none)])) (kW hC []) (fun v33 s h => ?_) fun v61 h => ?_
 unfold Xbf at h
 refine Xcm (Xad ?_)
 iterate 3 refine kO hT hC ?_
 refine Vc.nil ?_
 refine kS h ?_ ?_ <;> intro b31 h
 refine kt b31 (Xaq (Xah (Xcm (Xbg (Xad ?_)))))
 iterate 3 refine kO hT hC ?_
 refine Vc.nil ?_
 refine kL [1,2,3,4,5,13,14,15,16,17] [80] [_,_,_,_,_,_,_,_,_,_] [_] ?_
 refine kX h (fun v70 => ([(13, .sv (.int .i64 v70.1)), (14, .sv (.int .i64 v70.2.1)), (15, .sv (.int .i64 v70.2.2.1)), (17, .sv (.int .i64 v70.2.2.2))], [])) (fun v79 => ([(13, .sv (.int .i64 v79.1)), (14, .sv (.int .i64 v79.2.1)), (15, .sv (.int .i64 v79.2.2)), (17, .any)], [])) (kW hC []) (fun v70 s h => ?_) fun v79 h => ?_
 unfold Xa0 at h
 refine Xcm (Xad ?_)
 iterate 3 refine kO hT hC ?_
 refine Vc.nil ?_
 refine kS h ?_ ?_ <;> intro b40 h
 refine kt b40 (Xaq (Xah ?_))
 refine kL [1,2,3,4,5,13,14,15,16,17] [80] [_,_,_,_,_,_,_,_,_,_] [_] ?_
 refine kA h (fun v80 => ([(13, .sv (.int .i64 v80.1)), (14, .sv (.int .i64 v80.2.1)), (15, .sv (.int .i64 v80.2.2))], [])) (fun v80 h => ?_) fun v80 h => ?_
 refine Xbg (Xcm (Xad ?_))
 iterate 8 refine kO hT hC ?_
 refine kC hC [] Try.call54 h (fun _ => Xgl) fun q81 h => ?_
 refine kO hT hC ?_
 refine Vc.nil ?_
 refine kS h ?_ ?_ <;> intro b41 h
 exact kt b41 (Xbj (Xdf (Xo6 kM)))
 refine kf b41 (Xaq (Xah (Xad ?_)))
 iterate 8 refine kO hT hC ?_
 refine kC hC [(16, 1136)] Try.call56 h (fun _ => Xdo) fun q82 h => ?_
 refine kC hC [] Try.call55 h (fun _ => Xig) fun q83 h => ?_
 refine kO hT hC ?_
 refine kC hC [] Try.call15 h (fun _ => Xce) fun q84 h => ?_
 iterate 2 refine kO hT hC ?_
 refine kC hC [] Try.call15 h (fun _ => Xce) fun q85 h => ?_
 iterate 2 refine kO hT hC ?_
 refine Vc.nil ?_
 refine kL [1,2,3,4,5,13,14,15,16,17,18] [80] [_,_,_,_,_,_,_,_,_,_,_] [_] ?_
 refine kA h (fun v86 => ([(85, .sv (.bool v86))], [])) (fun v86 h => ?_) fun v86 h => ?_
 refine Xac ?_
 iterate 3 refine kO hT hC ?_
 refine kS h ?_ ?_ <;> intro b42 h
 iterate 3 refine kF hC b42 ?_
 refine kP hC true b42 ?_
 exact Vc.nil kM
 iterate 3 refine kI hT hC b42 ?_
 refine kP hC false b42 ?_
 exact Vc.nil kM
 refine kS h ?_ ?_ <;> intro b43 h
 refine kt b43 (Xac ?_)
 iterate 6 refine kO hT hC ?_
 exact Vc.nil (Xbu kM)
 exact kf b43 (Xaq (Xbu kM))
 refine Xac ?_
 iterate 3 refine kO hT hC ?_
 exact Vc.nil kG
 exact kf b40 (Xbj (Xdf ku))
 refine Xbu (Xah (Xac ?_))
 iterate 3 refine kO hT hC ?_
 exact Vc.nil kG
 exact kf b31 (Xbj (Xdf ku))
 refine Xah (Xad ?_)
 iterate 6 refine kO hT hC ?_
 exact Vc.nil (Xaj kR)
def Xg4 (r : (List Int)) : AV := .own 16
def Xg3 (r : (List Int)) : Xa1 := [(16, .ints .i64 r)]
theorem Xea {p0 p1 p2 r} (h : Xbo p0 p1 p2 = some r) : AC Try.prog 14 [.agg [.sv (.int .i64 p0.Wide), .sv (.int .i64 p0.High), .sv (.str p0.Dots)], .sv (.int .i64 p1), .sv (.int .i64 p2)] [] (Xg4 r) (Xg3 r) := by
 refine Xab hT Try.func14 rfl fun C hC => ?_
 unfold Xbo at h
 refine Xad ?_
 iterate 2 refine kO hT hC ?_
 refine Vc.nil (Xcm ?_)
 refine kL [1,2,3] [48] [_,_,_] [_] ?_
 refine kA h (fun v1 => ([(19, .sv (.bool v1))], [])) (fun v1 h => ?_) fun v1 h => ?_
 refine Xac ?_
 refine kO hT hC ?_
 refine kC hC [] Try.call50 h (fun _ => Xfl) fun q2 h => ?_
 iterate 2 refine kO hT hC ?_
 refine kS h ?_ ?_ <;> intro b1 h
 refine kI hT hC (kn b1) ?_
 refine kE hC (kn b1) [] Try.call52 h (fun _ => Xag) fun q3 h => ?_
 refine kI hT hC (kn b1) ?_
 refine kP hC false (kn b1) ?_
 refine kO hT hC ?_
 refine kS h ?_ ?_ <;> intro b2 h
 refine kI hT hC (kn b2) ?_
 refine kE hC (kn b2) [] Try.call52 h (fun _ => Xag) fun q4 h => ?_
 refine kI hT hC (kn b2) ?_
 refine kP hC false (kn b2) ?_
 exact Vc.nil kM
 iterate 3 refine kF hC (kn b2) ?_
 refine kP hC true (kn b2) ?_
 exact Vc.nil kM
 iterate 3 refine kF hC (kn b1) ?_
 refine kP hC true (kn b1) ?_
 refine kO hT hC ?_
 iterate 3 refine kF hC rfl ?_
 refine kO hT hC ?_
 exact Vc.nil kM
 refine kS h ?_ ?_ <;> intro b3 h
 refine kt b3 (Xad ?_)
 iterate 2 refine kO hT hC ?_
 refine Vc.nil (Xaj (Xev ?_))
 obtain rfl := kj h
 exact Xlj (τ := ⟨[(6, .own 16)], [(16, some (.ints .i64 ([] : List Int)))]⟩) (kW hC [(16, 320)]) rfl ⟨rfl, trivial⟩
 refine kf b3 (Xaq (Xah (Xad ?_)))
 iterate 3 refine kO hT hC ?_
 refine kC hC [(16, 384)] Try.call56 h (fun _ => Xdo) fun q5 h => ?_
 refine kO hT hC ?_
 refine Vc.nil (Xaj ?_)
 obtain rfl := kj h
 exact Xlj (τ := ⟨[(6, .own 16)], [(16, some (.ints .i64 q5))]⟩) (kW hC [(16, 384)]) rfl ⟨rfl, trivial⟩
def Xjk (r : Int) : AV := .sv (.int .i64 r)
def Xjj (r : Int) : Xa1 := []
theorem Xfj {p0 p1 r} (h : Xc5 p0 p1 = some r) : AC Try.prog 13 [.sv (.ints .i64 p0), .sv (.ints .i64 p1)] [] (Xjk r) (Xjj r) := by
 refine Xab hT Try.func13 rfl fun C hC => ?_
 unfold Xc5 at h
 refine Xad ?_
 refine kO hT hC ?_
 refine Vc.nil (Xcm ?_)
 refine kL [0,1] [] [_,_] [] ?_
 refine kA h (fun v1 => ([(12, .sv (.bool v1))], [])) (fun v1 h => ?_) fun v1 h => ?_
 refine Xac ?_
 refine kO hT hC ?_
 refine kC hC [] Try.call51 h (fun _ => Xd0) fun q2 h => ?_
 iterate 2 refine kO hT hC ?_
 refine kS h ?_ ?_ <;> intro b1 h
 refine kI hT hC (kn b1) ?_
 refine kE hC (kn b1) [] Try.call51 h (fun _ => Xd0) fun q3 h => ?_
 refine kI hT hC (kn b1) ?_
 refine kP hC false (kn b1) ?_
 exact Vc.nil kM
 iterate 3 refine kF hC (kn b1) ?_
 refine kP hC true (kn b1) ?_
 exact Vc.nil kM
 refine kS h ?_ ?_ <;> intro b2 h
 refine kt b2 (Xad ?_)
 refine kO hT hC ?_
 exact Vc.nil (Xaj (Xev kR))
 refine kf b2 (Xaq (Xah (Xad ?_)))
 iterate 2 refine kO hT hC ?_
 refine kC hC [] Try.call55 h (fun _ => Xig) fun q4 h => ?_
 refine kO hT hC ?_
 exact Vc.nil (Xaj kR)
def Xe8 (r : Bool) : AV := .sv (.bool r)
def Xe7 (r : Bool) : Xa1 := []
theorem Xfw {p0 r} (h : Xb0 p0 = some r) : AC Try.prog 3 [.sv (.ints .u8 p0)] [] (Xe8 r) (Xe7 r) := by
 refine Xab hT Try.func3 rfl fun C hC => ?_
 unfold Xb0 at h
 refine Xad ?_
 refine kO hT hC ?_
 refine Vc.nil (Xcm (Xad ?_))
 refine kO hT hC ?_
 refine kC hC [] Try.call8 h (fun _ => Xm2) fun q1 h => ?_
 refine Vc.nil ?_
 refine kS h ?_ ?_ <;> intro b1 h
 refine kt b1 (Xad ?_)
 refine kO hT hC ?_
 exact Vc.nil (Xaj (Xev kR))
 refine kf b1 (Xaq (Xah (Xad ?_)))
 refine kO hT hC ?_
 refine kC hC [] Try.call9 h (fun _ => Xhg) fun q2 h => ?_
 iterate 7 refine kO hT hC ?_
 refine kN ?_
 refine kO hT hC ?_
 refine kC hC [(16, 352)] Try.call10 h (fun _ => Xf3) fun q3 h => ?_
 refine kO hT hC ?_
 refine Vc.nil ?_
 refine Xeh hm ?_
 refine kO hT hC ?_
 iterate 2 refine kQ hT hC h fun h => ?_
 iterate 2 refine kO hT hC ?_
 iterate 2 refine kQ hT hC h fun h => ?_
 iterate 2 refine kO hT hC ?_
 refine kD ?_
 refine Xeh hm ?_
 refine kO hT hC ?_
 iterate 2 refine kQ hT hC h fun h => ?_
 iterate 2 refine kO hT hC ?_
 iterate 2 refine kQ hT hC h fun h => ?_
 iterate 2 refine kO hT hC ?_
 refine kD (Xad ?_)
 iterate 3 refine kO hT hC ?_
 refine kC hC [(16, 672)] Try.call11 h (fun _ => Xiz) fun q4 h => ?_
 refine kO hT hC ?_
 refine Vc.nil ?_
 refine Xeh hm ?_
 iterate 3 refine kO hT hC ?_
 refine kT hT hC h fun h => ?_
 iterate 3 refine kO hT hC ?_
 iterate 3 refine kQ hT hC h fun h => ?_
 refine kC hC [] Try.call12 h (fun _ => Xg1) fun q5 h => ?_
 iterate 7 refine kO hT hC ?_
 refine kD ?_
 refine Xeh hm ?_
 iterate 2 refine kO hT hC ?_
 refine kT hT hC h fun h => ?_
 iterate 7 refine kO hT hC ?_
 refine kC hC [(16, 1088)] Try.call14 h (fun _ => Xea) fun q6 h => ?_
 refine kC hC [] Try.call13 h (fun _ => Xfj) fun q7 h => ?_
 refine kO hT hC ?_
 refine kC hC [] Try.call15 h (fun _ => Xce) fun q8 h => ?_
 iterate 2 refine kO hT hC ?_
 refine kC hC [] Try.call15 h (fun _ => Xce) fun q9 h => ?_
 iterate 2 refine kO hT hC ?_
 refine kD ?_
 refine Xeh hm ?_
 iterate 2 refine kO hT hC ?_
 refine kT hT hC h fun h => ?_
 iterate 3 refine kO hT hC ?_
 refine kC hC [(16, 1312)] Try.call14 h (fun _ => Xea) fun q10 h => ?_
 refine kC hC [] Try.call13 h (fun _ => Xfj) fun q11 h => ?_
 iterate 2 refine kO hT hC ?_
 refine kD ?_
 refine kL [2,3,5,6,7,9,10,11,12,13] [48,352] [_,_,_,_,_,_,_,_,_,_] [_,_] ?_
 refine kA h (fun v12 => ([(2, .sv (.bool v12)), (3, .any), (5, .any), (6, .any), (7, .any), (9, .any), (10, .any), (11, .any), (12, .any), (13, .any)], [(48, none), (352, none)])) (fun v12 h => ?_) fun v12 h => ?_
 refine Xac ?_
 iterate 4 refine kO hT hC ?_
 refine kS h ?_ ?_ <;> intro b2 h
 iterate 2 refine kI hT hC b2 ?_
 refine kP hC true b2 ?_
 refine kO hT hC ?_
 refine kS h ?_ ?_ <;> intro b3 h
 iterate 3 refine kI hT hC b3 ?_
 refine kP hC true b3 ?_
 refine kO hT hC ?_
 refine kS h ?_ ?_ <;> intro b4 h
 iterate 2 refine kI hT hC b4 ?_
 iterate 3 refine kJ hT hC b4 h fun h => ?_
 iterate 2 refine kI hT hC b4 ?_
 refine kP hC true b4 ?_
 refine kO hT hC ?_
 refine kS h ?_ ?_ <;> intro b5 h
 iterate 2 refine kI hT hC b5 ?_
 iterate 3 refine kJ hT hC b5 h fun h => ?_
 refine kI hT hC b5 ?_
 refine kP hC true b5 ?_
 refine kO hT hC ?_
 refine kS h ?_ ?_ <;> intro b6 h
 iterate 2 refine kI hT hC b6 ?_
 iterate 3 refine kJ hT hC b6 h fun h => ?_
 iterate 2 refine kI hT hC b6 ?_
 refine kP hC true b6 ?_
 refine kO hT hC ?_
 refine kS h ?_ ?_ <;> intro b7 h
 iterate 2 refine kI hT hC b7 ?_
 iterate 3 refine kJ hT hC b7 h fun h => ?_
 refine kI hT hC b7 ?_
 refine kP hC true b7 ?_
 refine kO hT hC ?_
 refine kS h ?_ ?_ <;> intro b8 h
 iterate 4 refine kI hT hC b8 ?_
 refine kP hC true b8 ?_
 refine kO hT hC ?_
 refine kS h ?_ ?_ <;> intro b9 h
 iterate 4 refine kI hT hC b9 ?_
 refine kP hC true b9 ?_
 refine kO hT hC ?_
 refine kS h ?_ ?_ <;> intro b10 h
 iterate 7 refine kI hT hC b10 ?_
 refine kP hC true b10 ?_
 refine kO hT hC ?_
 refine kS h ?_ ?_ <;> intro b11 h
 iterate 7 refine kI hT hC b11 ?_
 refine kP hC true b11 ?_
 refine kO hT hC ?_
 exact Vc.nil kM
 iterate 7 refine kF hC b11 ?_
 refine kP hC false b11 ?_
 refine kO hT hC ?_
 exact Vc.nil kM
 iterate 7 refine kF hC b10 ?_
 refine kP hC false b10 ?_
 refine kO hT hC ?_
 iterate 7 refine kF hC rfl ?_
 iterate 2 refine kO hT hC ?_
 exact Vc.nil kM
 iterate 4 refine kF hC b9 ?_
 refine kP hC false b9 ?_
 refine kO hT hC ?_
 iterate 7 refine kF hC rfl ?_
 iterate 2 refine kO hT hC ?_
 iterate 7 refine kF hC rfl ?_
 iterate 2 refine kO hT hC ?_
 exact Vc.nil kM
 iterate 4 refine kF hC b8 ?_
 refine kP hC false b8 ?_
 refine kO hT hC ?_
 iterate 4 refine kF hC rfl ?_
 iterate 2 refine kO hT hC ?_
 iterate 7 refine kF hC rfl ?_
 iterate 2 refine kO hT hC ?_
 iterate 7 refine kF hC rfl ?_
 iterate 2 refine kO hT hC ?_
 exact Vc.nil kM
 iterate 6 refine kF hC b7 ?_
 refine kP hC false b7 ?_
 refine kO hT hC ?_
 iterate 4 refine kF hC rfl ?_
 iterate 2 refine kO hT hC ?_
 iterate 4 refine kF hC rfl ?_
 iterate 2 refine kO hT hC ?_
 iterate 7 refine kF hC rfl ?_
 iterate 2 refine kO hT hC ?_
 iterate 7 refine kF hC rfl ?_
 iterate 2 refine kO hT hC ?_
 exact Vc.nil kM
 iterate 7 refine kF hC b6 ?_
 refine kP hC false b6 ?_
 refine kO hT hC ?_
 iterate 6 refine kF hC rfl ?_
 iterate 2 refine kO hT hC ?_
 iterate 4 refine kF hC rfl ?_
 iterate 2 refine kO hT hC ?_
 iterate 4 refine kF hC rfl ?_
 iterate 2 refine kO hT hC ?_
 iterate 7 refine kF hC rfl ?_
 iterate 2 refine kO hT hC ?_
 iterate 7 refine kF hC rfl ?_
 iterate 2 refine kO hT hC ?_
 exact Vc.nil kM
 iterate 6 refine kF hC b5 ?_
 refine kP hC false b5 ?_
 refine kO hT hC ?_
 iterate 7 refine kF hC rfl ?_
 iterate 2 refine kO hT hC ?_
 iterate 6 refine kF hC rfl ?_
 iterate 2 refine kO hT hC ?_
 iterate 4 refine kF hC rfl ?_
 iterate 2 refine kO hT hC ?_
 iterate 4 refine kF hC rfl ?_
 iterate 2 refine kO hT hC ?_
 iterate 7 refine kF hC rfl ?_
 iterate 2 refine kO hT hC ?_
 iterate 7 refine kF hC rfl ?_
 iterate 2 refine kO hT hC ?_
 exact Vc.nil kM
 iterate 7 refine kF hC b4 ?_
 refine kP hC false b4 ?_
 refine kO hT hC ?_
 iterate 6 refine kF hC rfl ?_
 iterate 2 refine kO hT hC ?_
 iterate 7 refine kF hC rfl ?_
 iterate 2 refine kO hT hC ?_
 iterate 6 refine kF hC rfl ?_
 iterate 2 refine kO hT hC ?_
 iterate 4 refine kF hC rfl ?_
 iterate 2 refine kO hT hC ?_
 iterate 4 refine kF hC rfl ?_
 iterate 2 refine kO hT hC ?_
 iterate 7 refine kF hC rfl ?_
 iterate 2 refine kO hT hC ?_
 iterate 7 refine kF hC rfl ?_
 iterate 2 refine kO hT hC ?_
 exact Vc.nil kM
 iterate 3 refine kF hC b3 ?_
 refine kP hC false b3 ?_
 refine kO hT hC ?_
 iterate 7 refine kF hC rfl ?_
 iterate 2 refine kO hT hC ?_
 iterate 6 refine kF hC rfl ?_
 iterate 2 refine kO hT hC ?_
 iterate 7 refine kF hC rfl ?_
 iterate 2 refine kO hT hC ?_
 iterate 6 refine kF hC rfl ?_
 iterate 2 refine kO hT hC ?_
 iterate 4 refine kF hC rfl ?_
 iterate 2 refine kO hT hC ?_
 iterate 4 refine kF hC rfl ?_
 iterate 2 refine kO hT hC ?_
 iterate 7 refine kF hC rfl ?_
 iterate 2 refine kO hT hC ?_
 iterate 7 refine kF hC rfl ?_
 iterate 2 refine kO hT hC ?_
 exact Vc.nil kM
 iterate 2 refine kF hC b2 ?_
 refine kP hC false b2 ?_
 refine kO hT hC ?_
 iterate 3 refine kF hC rfl ?_
 iterate 2 refine kO hT hC ?_
 iterate 7 refine kF hC rfl ?_
 iterate 2 refine kO hT hC ?_
 iterate 6 refine kF hC rfl ?_
 iterate 2 refine kO hT hC ?_
 iterate 7 refine kF hC rfl ?_
 iterate 2 refine kO hT hC ?_
 iterate 6 refine kF hC rfl ?_
 iterate 2 refine kO hT hC ?_
 iterate 4 refine kF hC rfl ?_
 iterate 2 refine kO hT hC ?_
 iterate 4 refine kF hC rfl ?_
 iterate 2 refine kO hT hC ?_
 iterate 7 refine kF hC rfl ?_
 iterate 2 refine kO hT hC ?_
 iterate 7 refine kF hC rfl ?_
 iterate 2 refine kO hT hC ?_
 exact Vc.nil kM
 exact Xaj kR
end
end Go.Proofs.Ytlebkepfhdjnmab.A
