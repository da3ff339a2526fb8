/- Contracts of the functions that the law FnSends reaches, part 0: each comes to what its pure function tells. Written by a program of this session. Conditions: as each statement tells. -/
import Derived.Test.YtlebkepfhdjnmacBFnSends
namespace Go.Proofs.Ytlebkepfhdjnmac.A
open Go Go.Proofs Go.Proofs.YtlebkepfhdjnmacAL Go.RowKit
set_option linter.unusedVariables false
set_option linter.unusedSimpArgs false
set_option maxRecDepth 100000
set_option maxHeartbeats 8000000
noncomputable section
def Ygo (r : Bool) : AV := .sv (.bool r)
def Ygn (r : Bool) : Xbg := []
theorem Yh4 {p0 r} (h : Xyl p0 = some r) : AC Try.prog 8 [.sv (.ints .u8 p0)] [] (Ygo r) (Ygn r) := by
 refine Xaf hT Try.func8 rfl fun C hC => ?_
 unfold Xyl at h
 refine Xad ?_
 refine kO hT hC ?_
 refine kN ?_
 iterate 4 refine kO hT hC ?_
 exact Vc.nil (Xah kR)
def Ya2 (r : Xa7) : AV := .ptr 16 0
def Ya1 (r : Xa7) : Xbg := [(16, .box [.sv (.ints .u8 r.b_), .sv (.int .i64 r.i_), .sv (.int .i64 r.h_)])]
theorem Xnm {p0 r} (h : Xhw p0 = some r) : AC Try.prog 41 [.sv (.ints .u8 p0)] [] (Ya2 r) (Ya1 r) := by
 refine Xaf hT Try.func41 rfl fun C hC => ?_
 unfold Xhw at h
 refine Xad ?_
 refine kO hT hC ?_
 refine kN ?_
 iterate 4 refine kO hT hC ?_
 refine Vc.nil (Xax (Xad ?_))
 refine kO hT hC ?_
 refine Vc.nil ?_
 refine kL [0,3,4] [] [_,_,_] [] ?_
 refine kX h (fun v3 => ([(3, .sv (.int .i64 v3.1)), (4, .sv (.int .i64 v3.2))], [])) (fun v6 => ([(3, .sv (.int .i64 v6)), (4, .any)], [])) (kW hC []) (fun v3 s h => ?_) fun v6 h => ?_
 unfold Xkp at h
 refine Xax ?_
 refine kL [0,3,4] [] [_,_,_] [] ?_
 refine kA h (fun v7 => ([(15, .sv (.bool v7))], [])) (fun v7 h => ?_) fun v7 h => ?_
 refine Xac ?_
 iterate 5 refine kO hT hC ?_
 refine kS h ?_ ?_ <;> intro b5 h
 iterate 2 refine kI hT hC b5 ?_
 refine kP hC true b5 ?_
 exact Vc.nil kM
 iterate 2 refine kF hC b5 ?_
 refine kP hC false b5 ?_
 exact Vc.nil kM
 refine kS h ?_ ?_ <;> intro b6 h
 refine kt b6 (Xag (Xae (Xax (Xap (Xac ?_)))))
 iterate 4 refine kO hT hC ?_
 refine kQ hT hC h fun h => ?_
 iterate 6 refine kO hT hC ?_
 refine Vc.nil (Xas (Xae (Xac ?_)))
 iterate 3 refine kO hT hC ?_
 exact Vc.nil kG
 exact kf b6 (Xar (Xa1 ku))
 refine Xae (Xad ?_)
 iterate 5 refine kO hT hC ?_
 refine Vc.nil (Xah ?_)
 obtain rfl := kj h
 exact Xel (τ := ⟨[(2, .ptr 16 0)], [(16, some (.box [.sv (.ints .u8 p0), .sv (.int .i64 0), .sv (.int .i64 v6)]))]⟩) (kW hC [(16, 496)]) rfl ⟨rfl, trivial⟩
def Xx5 (r : (Int × Xa7)) : AV := .sv (.int .i64 r.1)
def Xx4 (r : (Int × Xa7)) : Xbg := [(0, .box [.sv (.ints .u8 r.2.b_), .sv (.int .i64 r.2.i_), .sv (.int .i64 r.2.h_)])]
theorem Xcd {p0 r} (h : Xbv p0 = some r) : AC Try.prog 45 [.ptr 0 0] [(0, .box [.sv (.ints .u8 p0.b_), .sv (.int .i64 p0.i_), .sv (.int .i64 p0.h_)])] (Xx5 r) (Xx4 r) := by
 refine Xaf hT Try.func45 rfl fun C hC => ?_
 unfold Xbv at h
 refine Xad ?_
 refine kO hT hC ?_
 refine kN ?_
 iterate 10 refine kO hT hC ?_
 refine Vc.nil ?_
 refine Xgx hm ?_
 iterate 4 refine kO hT hC ?_
 refine kQ hT hC h fun h => ?_
 iterate 4 refine kO hT hC ?_
 refine kQ hT hC h fun h => ?_
 iterate 3 refine kO hT hC ?_
 refine kD ?_
 refine kL [0,3] [0] [_,_] [_] ?_
 refine kA h (fun v1 => ([(3, .sv (.int .i64 v1.1)), (0, .any)], [(0, some (.box [.sv (.ints .u8 p0.b_), .sv (.int .i64 v1.2), .sv (.int .i64 (Xaa .i64 ((Xaa .i64 (p0.h_ * 6364136223846793005)) + 1442695040888963407)))]))])) (fun v1 h => ?_) fun v1 h => ?_
 refine Xgx hm ?_
 iterate 10 refine kO hT hC ?_
 refine kD ?_
 refine kS h ?_ ?_ <;> intro b1 h
 refine kt b1 ?_
 refine Xgx hm ?_
 iterate 9 refine kO hT hC ?_
 refine kQ hT hC h fun h => ?_
 iterate 5 refine kO hT hC ?_
 refine kD (Xac ?_)
 iterate 9 refine kO hT hC ?_
 exact Vc.nil kM
 exact kf b1 (Xag kM)
 refine Xad ?_
 iterate 2 refine kO hT hC ?_
 refine Vc.nil (Xah ?_)
 obtain rfl := kj h
 exact Xel (Xjg.refl _) rfl ⟨rfl, trivial⟩
def Xwa (r : (Int × Xa7)) : AV := .sv (.int .i64 r.1)
def Xv9 (r : (Int × Xa7)) : Xbg := [(0, .box [.sv (.ints .u8 r.2.b_), .sv (.int .i64 r.2.i_), .sv (.int .i64 r.2.h_)])]
theorem Xba {p0 p1 r} (h : Xa4 p0 p1 = some r) : AC Try.prog 46 [.ptr 0 0, .sv (.int .i64 p1)] [(0, .box [.sv (.ints .u8 p0.b_), .sv (.int .i64 p0.i_), .sv (.int .i64 p0.h_)])] (Xwa r) (Xv9 r) := by
 refine Xaf hT Try.func46 rfl fun C hC => ?_
 unfold Xa4 at h
 refine Xad ?_
 refine kO hT hC ?_
 refine Vc.nil (Xax (Xad ?_))
 iterate 2 refine kO hT hC ?_
 refine Vc.nil ?_
 refine kS h ?_ ?_ <;> intro b1 h
 refine kt b1 (Xad ?_)
 refine kO hT hC ?_
 refine Vc.nil (Xah (Xa5 ?_))
 obtain rfl := kj h
 exact Xel (Xjg.refl _) rfl ⟨rfl, trivial⟩
 refine kf b1 (Xag (Xae (Xax (Xad ?_))))
 iterate 2 refine kO hT hC ?_
 refine Vc.nil ?_
 refine kS h ?_ ?_ <;> intro b2 h
 refine kt b2 (Xad ?_)
 refine kO hT hC ?_
 refine kC hC [(0, 0)] Try.call45 h (fun _ => Xcd) fun q1 h => ?_
 refine kO hT hC ?_
 refine kQ hT hC h fun h => ?_
 refine kO hT hC ?_
 refine Vc.nil (Xah (Xa5 ?_))
 obtain rfl := kj h
 exact Xel (Xjg.refl _) rfl ⟨rfl, trivial⟩
 refine kf b2 (Xag (Xae (Xad ?_)))
 refine kO hT hC ?_
 refine kC hC [(0, 0)] Try.call45 h (fun _ => Xcd) fun q2 h => ?_
 refine kO hT hC ?_
 refine kN ?_
 refine kO hT hC ?_
 refine kC hC [(0, 0)] Try.call45 h (fun _ => Xcd) fun q3 h => ?_
 refine kO hT hC ?_
 refine kN ?_
 refine kO hT hC ?_
 refine kC hC [(0, 0)] Try.call45 h (fun _ => Xcd) fun q4 h => ?_
 refine kO hT hC ?_
 refine kN ?_
 refine kO hT hC ?_
 refine kC hC [(0, 0)] Try.call45 h (fun _ => Xcd) fun q5 h => ?_
 refine kO hT hC ?_
 refine kN ?_
 iterate 11 refine kO hT hC ?_
 refine kQ hT hC h fun h => ?_
 refine kO hT hC ?_
 refine Vc.nil (Xah ?_)
 obtain rfl := kj h
 exact Xel (Xjg.refl _) rfl ⟨rfl, trivial⟩
def Xx9 (r : (ByteArray × Xa7)) : AV := .sv (.str r.1)
def Xx8 (r : (ByteArray × Xa7)) : Xbg := [(0, .box [.sv (.ints .u8 r.2.b_), .sv (.int .i64 r.2.i_), .sv (.int .i64 r.2.h_)])]
theorem Ya3 {p0 p1 r} (h : Xk2 p0 p1 = some r) : AC Try.prog 134 [.ptr 0 0, .sv (.int .i64 p1)] [(0, .box [.sv (.ints .u8 p0.b_), .sv (.int .i64 p0.i_), .sv (.int .i64 p0.h_)])] (Xx9 r) (Xx8 r) := by
 refine Xaf hT Try.func134 rfl fun C hC => ?_
 unfold Xk2 at h
 refine Xad ?_
 refine kO hT hC ?_
 refine kN ?_
 iterate 2 refine kO hT hC ?_
 refine kN ?_
 refine kO hT hC ?_
 refine kC hC [(0, 0)] Try.call45 h (fun _ => Xcd) fun q1 h => ?_
 refine kO hT hC ?_
 refine Vc.nil (Xax (Xad ?_))
 refine kO hT hC ?_
 refine Vc.nil ?_
 refine kL [0,1,5,6,7] [0,128] [_,_,_,_,_] [_,_] ?_
 refine kX h (fun v7 => ([(6, .sv (.int .i64 v7.1)), (7, .sv (.int .i64 v7.2.1))], [(0, some (.box [.sv (.ints .u8 v7.2.2.1), .sv (.int .i64 v7.2.2.2.1), .sv (.int .i64 v7.2.2.2.2.1)])), (128, some (.ints .u8 v7.2.2.2.2.2))])) (fun v13 => ([(0, .any), (1, .any), (6, .any), (7, .any)], [(0, some (.box [.sv (.ints .u8 v13.2.1), .sv (.int .i64 v13.2.2.1), .sv (.int .i64 v13.2.2.2)])), (128, some (.ints .u8 v13.1))])) (kW hC []) (fun v7 s h => ?_) fun v13 h => ?_
 unfold Xi6 at h
 refine Xax (Xad ?_)
 iterate 3 refine kO hT hC ?_
 refine Vc.nil ?_
 refine kS h ?_ ?_ <;> intro b7 h
 refine kt b7 (Xag (Xae (Xax (Xap ?_))))
 refine kL [0,1,5,6,7] [0,128] [_,_,_,_,_] [_,_] ?_
 refine kA h (fun v14 => ([(6, .sv (.int .i64 v14.1))], [(0, some (.box [.sv (.ints .u8 v14.2.1), .sv (.int .i64 v14.2.2.1), .sv (.int .i64 v14.2.2.2)]))])) (fun v14 h => ?_) fun v14 h => ?_
 refine Xad ?_
 refine kO hT hC ?_
 refine kC hC [(0, 0)] Try.call46 h (fun _ => Xba) fun q15 h => ?_
 refine Vc.nil (Xap (Xad ?_))
 iterate 2 refine kO hT hC ?_
 refine Vc.nil ?_
 refine kS h ?_ ?_ <;> intro b8 h
 refine kt b8 (Xac ?_)
 refine kO hT hC ?_
 refine kC hC [(0, 0)] Try.call45 h (fun _ => Xcd) fun q16 h => ?_
 refine kO hT hC ?_
 exact Vc.nil (Xas kM)
 refine kf b8 (Xad ?_)
 iterate 2 refine kO hT hC ?_
 refine Vc.nil ?_
 refine kS h ?_ ?_ <;> intro b9 h
 refine kt b9 (Xac ?_)
 iterate 2 refine kO hT hC ?_
 refine kC hC [(0, 0)] Try.call46 h (fun _ => Xba) fun q17 h => ?_
 iterate 4 refine kO hT hC ?_
 exact Vc.nil (Xas kM)
 exact kf b9 (Xag (Xas kM))
 refine Xac ?_
 iterate 4 refine kO hT hC ?_
 refine kT hT hC h fun h => ?_
 refine kO hT hC ?_
 refine Vc.nil (Xas (Xae (Xac ?_)))
 iterate 3 refine kO hT hC ?_
 refine Vc.nil ?_
 obtain rfl := kj h
 exact Yfr (kW hC [(128, 544)])
 exact kf b7 (Xar (Xa1 ku))
 refine Xae (Xad ?_)
 iterate 3 refine kO hT hC ?_
 refine Vc.nil (Xah ?_)
 obtain rfl := kj h
 exact Xel (Xjg.refl _) rfl ⟨rfl, trivial⟩
def Xwd (r : (Pic × Xa7)) : AV := .agg [.sv (.int .i64 r.1.Wide), .sv (.int .i64 r.1.High), .sv (.str r.1.Dots)]
def Xwc (r : (Pic × Xa7)) : Xbg := [(0, .box [.sv (.ints .u8 r.2.b_), .sv (.int .i64 r.2.i_), .sv (.int .i64 r.2.h_)])]
theorem Xya {p0 p1 p2 r} (h : Xi7 p0 p1 p2 = some r) : AC Try.prog 89 [.ptr 0 0, .sv (.int .i64 p1), .sv (.int .i64 p2)] [(0, .box [.sv (.ints .u8 p0.b_), .sv (.int .i64 p0.i_), .sv (.int .i64 p0.h_)])] (Xwd r) (Xwc r) := by
 refine Xaf hT Try.func89 rfl fun C hC => ?_
 unfold Xi7 at h
 refine Xad ?_
 refine kO hT hC ?_
 refine kN ?_
 iterate 6 refine kO hT hC ?_
 refine kC hC [(0, 0)] Try.call134 h (fun _ => Ya3) fun q1 h => ?_
 iterate 2 refine kO hT hC ?_
 refine Vc.nil (Xah ?_)
 obtain rfl := kj h
 exact Xel (Xjg.refl _) rfl ⟨rfl, trivial⟩
def Xs8 (r : (Pic × Xa7)) : AV := .agg [.sv (.int .i64 r.1.Wide), .sv (.int .i64 r.1.High), .sv (.str r.1.Dots)]
def Xs7 (r : (Pic × Xa7)) : Xbg := [(0, .box [.sv (.ints .u8 r.2.b_), .sv (.int .i64 r.2.i_), .sv (.int .i64 r.2.h_)])]
theorem Xu1 {p0 r} (h : Xgk p0 = some r) : AC Try.prog 42 [.ptr 0 0] [(0, .box [.sv (.ints .u8 p0.b_), .sv (.int .i64 p0.i_), .sv (.int .i64 p0.h_)])] (Xs8 r) (Xs7 r) := by
 refine Xaf hT Try.func42 rfl fun C hC => ?_
 unfold Xgk at h
 refine Xad ?_
 refine kO hT hC ?_
 refine kN ?_
 iterate 2 refine kO hT hC ?_
 refine kC hC [(0, 0)] Try.call46 h (fun _ => Xba) fun q1 h => ?_
 iterate 3 refine kO hT hC ?_
 refine kC hC [(0, 0)] Try.call46 h (fun _ => Xba) fun q2 h => ?_
 iterate 2 refine kO hT hC ?_
 refine kC hC [(0, 0)] Try.call89 h (fun _ => Xya) fun q3 h => ?_
 refine kO hT hC ?_
 refine Vc.nil (Xah ?_)
 obtain rfl := kj h
 exact Xel (Xjg.refl _) rfl ⟨rfl, trivial⟩
def Xx7 (r : (Bool × Xa7)) : AV := .sv (.bool r.1)
def Xx6 (r : (Bool × Xa7)) : Xbg := [(0, .box [.sv (.ints .u8 r.2.b_), .sv (.int .i64 r.2.i_), .sv (.int .i64 r.2.h_)])]
theorem Xmk {p0 p1 r} (h : Xgi p0 p1 = some r) : AC Try.prog 90 [.ptr 0 0, .sv (.int .i64 p1)] [(0, .box [.sv (.ints .u8 p0.b_), .sv (.int .i64 p0.i_), .sv (.int .i64 p0.h_)])] (Xx7 r) (Xx6 r) := by
 refine Xaf hT Try.func90 rfl fun C hC => ?_
 unfold Xgi at h
 refine Xad ?_
 refine kO hT hC ?_
 refine kN ?_
 iterate 2 refine kO hT hC ?_
 refine kC hC [(0, 0)] Try.call46 h (fun _ => Xba) fun q1 h => ?_
 iterate 2 refine kO hT hC ?_
 refine Vc.nil (Xah ?_)
 obtain rfl := kj h
 exact Xel (Xjg.refl _) rfl ⟨rfl, trivial⟩
def Ycq (r : Bool) : AV := .sv (.bool r)
def Ycp (r : Bool) : Xbg := []
theorem Xu0 {p0 p1 p2 r} (h : Xao p0 p1 p2 = some r) : AC Try.prog 48 [.sv (.int .i64 p0), .sv (.int .i64 p1), .sv (.int .i64 p2)] [] (Ycq r) (Ycp r) := by
 refine Xaf hT Try.func48 rfl fun C hC => ?_
 unfold Xao at h
 refine Xad ?_
 refine kO hT hC ?_
 refine Vc.nil ?_
 refine kL [0,1,2,6] [] [_,_,_,_] [] ?_
 refine kA h (fun v1 => ([(6, .sv (.bool v1)), (0, .any), (1, .any), (2, .any)], [])) (fun v1 h => ?_) fun v1 h => ?_
 refine Xac ?_
 iterate 4 refine kO hT hC ?_
 refine kS h ?_ ?_ <;> intro b1 h
 iterate 3 refine kI hT hC b1 ?_
 refine kP hC true b1 ?_
 refine kO hT hC ?_
 exact Vc.nil kM
 iterate 3 refine kF hC b1 ?_
 refine kP hC false b1 ?_
 refine kO hT hC ?_
 exact Vc.nil kM
 exact Xah kR
def Ycm (r : Bool) : AV := .sv (.bool r)
def Ycl (r : Bool) : Xbg := []
theorem Yfe {p0 r} (h : Xfp p0 = some r) : AC Try.prog 47 [.agg [.sv (.int .i64 p0.Wide), .sv (.int .i64 p0.High), .sv (.str p0.Dots)]] [] (Ycm r) (Ycl r) := by
 refine Xaf hT Try.func47 rfl fun C hC => ?_
 unfold Xfp at h
 refine Xad ?_
 iterate 2 refine kO hT hC ?_
 refine Vc.nil ?_
 refine kL [1,2] [16] [_,_] [_] ?_
 refine kA h (fun v1 => ([(2, .sv (.bool v1)), (1, .any)], [(16, none)])) (fun v1 h => ?_) fun v1 h => ?_
 refine Xac ?_
 iterate 2 refine kO hT hC ?_
 refine kC hC [] Try.call48 h (fun _ => Xu0) fun q2 h => ?_
 refine kO hT hC ?_
 refine kS h ?_ ?_ <;> intro b1 h
 iterate 2 refine kI hT hC b1 ?_
 refine kE hC b1 [] Try.call48 h (fun _ => Xu0) fun q3 h => ?_
 refine kP hC true b1 ?_
 refine kO hT hC ?_
 refine kS h ?_ ?_ <;> intro b2 h
 iterate 9 refine kI hT hC b2 ?_
 refine kP hC true b2 ?_
 refine kO hT hC ?_
 exact Vc.nil kM
 iterate 9 refine kF hC b2 ?_
 refine kP hC false b2 ?_
 refine kO hT hC ?_
 exact Vc.nil kM
 iterate 3 refine kF hC b1 ?_
 refine kP hC false b1 ?_
 refine kO hT hC ?_
 iterate 9 refine kF hC rfl ?_
 iterate 2 refine kO hT hC ?_
 exact Vc.nil kM
 exact Xah kR
def Xxz (r : Int) : AV := .sv (.int .i64 r)
def Xxy (r : Int) : Xbg := []
theorem Xqo {p0 p1 p2 r} (h : Xeb p0 p1 p2 = some r) : AC Try.prog 91 [.sv (.int .i64 p0), .sv (.int .i64 p1), .sv (.int .i64 p2)] [] (Xxz r) (Xxy r) := by
 refine Xaf hT Try.func91 rfl fun C hC => ?_
 unfold Xeb at h
 refine Xad ?_
 refine kO hT hC ?_
 refine Vc.nil (Xax ?_)
 refine kL [0,1,2] [] [_,_,_] [] ?_
 refine kA h (fun v1 => ([(14, .sv (.bool v1))], [])) (fun v1 h => ?_) fun v1 h => ?_
 refine Xac ?_
 iterate 4 refine kO hT hC ?_
 refine kS h ?_ ?_ <;> intro b1 h
 iterate 3 refine kF hC b1 ?_
 refine kP hC true b1 ?_
 exact Vc.nil kM
 iterate 3 refine kI hT hC b1 ?_
 refine kP hC false b1 ?_
 exact Vc.nil kM
 refine kS h ?_ ?_ <;> intro b2 h
 refine kt b2 (Xad ?_)
 iterate 2 refine kO hT hC ?_
 exact Vc.nil (Xah (Xa5 kR))
 refine kf b2 (Xag (Xae (Xax (Xad ?_))))
 iterate 3 refine kO hT hC ?_
 refine Vc.nil ?_
 refine kS h ?_ ?_ <;> intro b3 h
 refine kt b3 (Xad ?_)
 iterate 2 refine kO hT hC ?_
 exact Vc.nil (Xah (Xa5 kR))
 refine kf b3 (Xag (Xae (Xad ?_)))
 iterate 2 refine kO hT hC ?_
 exact Vc.nil (Xah kR)
def Ycj (r : Int) : AV := .sv (.int .i64 r)
def Yci (r : Int) : Xbg := []
theorem Yfd {p0 p1 p2 r} (h : Xd0 p0 p1 p2 = some r) : AC Try.prog 49 [.agg [.sv (.int .i64 p0.Wide), .sv (.int .i64 p0.High), .sv (.str p0.Dots)], .sv (.int .i64 p1), .sv (.int .i64 p2)] [] (Ycj r) (Yci r) := by
 refine Xaf hT Try.func49 rfl fun C hC => ?_
 unfold Xd0 at h
 refine Xad ?_
 iterate 2 refine kO hT hC ?_
 refine Vc.nil (Xax (Xad ?_))
 refine kO hT hC ?_
 refine kC hC [] Try.call47 h (fun _ => Yfe) fun q1 h => ?_
 refine kO hT hC ?_
 refine Vc.nil ?_
 refine kS h ?_ ?_ <;> intro b1 h
 refine kt b1 (Xad ?_)
 refine kO hT hC ?_
 exact Vc.nil (Xah (Xa5 kR))
 refine kf b1 (Xag (Xae ?_))
 refine Xgx hm ?_
 iterate 6 refine kO hT hC ?_
 refine kC hC [] Try.call91 h (fun _ => Xqo) fun q2 h => ?_
 iterate 7 refine kO hT hC ?_
 refine kC hC [] Try.call91 h (fun _ => Xqo) fun q3 h => ?_
 refine kO hT hC ?_
 refine kQ hT hC h fun h => ?_
 iterate 2 refine kO hT hC ?_
 exact kD (Xah kR)
def Xyf (r : (Pic × Xa7)) : AV := .agg [.sv (.int .i64 r.1.Wide), .sv (.int .i64 r.1.High), .sv (.str r.1.Dots)]
def Xye (r : (Pic × Xa7)) : Xbg := [(0, .box [.sv (.ints .u8 r.2.b_), .sv (.int .i64 r.2.i_), .sv (.int .i64 r.2.h_)])]
theorem Ya9 {p0 p1 r} (h : Xk5 p0 p1 = some r) : AC Try.prog 43 [.ptr 0 0, .agg [.sv (.int .i64 p1.Wide), .sv (.int .i64 p1.High), .sv (.str p1.Dots)]] [(0, .box [.sv (.ints .u8 p0.b_), .sv (.int .i64 p0.i_), .sv (.int .i64 p0.h_)])] (Xyf r) (Xye r) := by
 refine Xaf hT Try.func43 rfl fun C hC => ?_
 unfold Xk5 at h
 refine Xad ?_
 iterate 2 refine kO hT hC ?_
 refine kN ?_
 refine kO hT hC ?_
 refine kC hC [(0, 0)] Try.call46 h (fun _ => Xba) fun q1 h => ?_
 iterate 2 refine kO hT hC ?_
 refine kN ?_
 refine kO hT hC ?_
 refine kC hC [(0, 0)] Try.call46 h (fun _ => Xba) fun q2 h => ?_
 iterate 2 refine kO hT hC ?_
 refine Vc.nil ?_
 refine kL [0,3,4,5,6] [0,48,64] [_,_,_,_,_] [_,_,_] ?_
 refine kA h (fun v3 => ([(5, .sv (.int .i64 v3.1)), (6, .sv (.int .i64 v3.2.1))], [(0, some (.box [.sv (.ints .u8 v3.2.2.1), .sv (.int .i64 v3.2.2.2.1), .sv (.int .i64 v3.2.2.2.2)]))])) (fun v3 h => ?_) fun v3 h => ?_
 refine Xad ?_
 refine kO hT hC ?_
 refine kC hC [(0, 0)] Try.call90 h (fun _ => Xmk) fun q4 h => ?_
 refine Vc.nil ?_
 refine kS h ?_ ?_ <;> intro b1 h
 refine kt b1 (Xad ?_)
 refine kO hT hC ?_
 refine Vc.nil (Xac ?_)
 refine kO hT hC ?_
 exact Vc.nil kM
 exact kf b1 (Xag kM)
 refine Xad ?_
 iterate 2 refine kO hT hC ?_
 refine Vc.nil (Xax (Xad ?_))
 refine kO hT hC ?_
 refine Vc.nil ?_
 refine kL [0,3,4,5,6,7,8] [0,48,64,288] [_,_,_,_,_,_,_] [_,_,_,_] ?_
 refine kX h (fun v7 => ([(8, .sv (.int .i64 v7.1))], [(288, some (.ints .u8 v7.2))])) (fun v10 => ([(5, .any), (6, .any), (8, .any)], [(288, some (.ints .u8 v10))])) (kW hC []) (fun v7 s h => ?_) fun v10 h => ?_
 unfold Xja at h
 refine Xax (Xad ?_)
 iterate 5 refine kO hT hC ?_
 refine Vc.nil ?_
 refine kS h ?_ ?_ <;> intro b4 h
 refine kt b4 (Xag (Xae (Xax (Xap ?_))))
 refine Xhu hm ?_
 iterate 5 refine kO hT hC ?_
 refine kQ hT hC h fun h => ?_
 iterate 5 refine kO hT hC ?_
 refine kQ hT hC h fun h => ?_
 iterate 2 refine kO hT hC ?_
 refine kC hC [] Try.call49 h (fun _ => Yfd) fun q11 h => ?_
 iterate 2 refine kO hT hC ?_
 refine kT hT hC h fun h => ?_
 refine kO hT hC ?_
 refine kD (Xas (Xae (Xac ?_)))
 iterate 3 refine kO hT hC ?_
 refine Vc.nil ?_
 obtain rfl := kj h
 exact Yfr (kW hC [(288, 688)])
 exact kf b4 (Xar (Xa1 ku))
 refine Xae (Xax (Xad ?_))
 refine kO hT hC ?_
 refine Vc.nil ?_
 refine kL [0,3,4,7,9] [0,48,64,288] [_,_,_,_,_] [_,_,_,_] ?_
 refine kX h (fun v17 => ([(9, .sv (.int .i64 v17.1))], [(0, some (.box [.sv (.ints .u8 v17.2.1), .sv (.int .i64 v17.2.2.1), .sv (.int .i64 v17.2.2.2.1)])), (288, some (.ints .u8 v17.2.2.2.2))])) (fun v22 => ([(0, .any), (9, .any)], [(0, some (.box [.sv (.ints .u8 v22.2.1), .sv (.int .i64 v22.2.2.1), .sv (.int .i64 v22.2.2.2)])), (288, some (.ints .u8 v22.1))])) (kW hC []) (fun v17 s h => ?_) fun v22 h => ?_
 unfold Xjb at h
 refine Xax (Xad ?_)
 iterate 2 refine kO hT hC ?_
 refine kC hC [(0, 0)] Try.call46 h (fun _ => Xba) fun q23 h => ?_
 refine kO hT hC ?_
 refine Vc.nil ?_
 refine kS h ?_ ?_ <;> intro b7 h
 refine kt b7 (Xag (Xae (Xax (Xap (Xac ?_)))))
 iterate 4 refine kO hT hC ?_
 refine kC hC [(0, 0)] Try.call46 h (fun _ => Xba) fun q24 h => ?_
 refine kO hT hC ?_
 refine kC hC [(0, 0)] Try.call45 h (fun _ => Xcd) fun q25 h => ?_
 refine kO hT hC ?_
 iterate 2 refine kQ hT hC h fun h => ?_
 refine Vc.nil (Xas (Xae (Xac ?_)))
 iterate 3 refine kO hT hC ?_
 exact Vc.nil kG
 exact kf b7 (Xar (Xa1 ku))
 refine Xae (Xad ?_)
 iterate 8 refine kO hT hC ?_
 refine Vc.nil (Xah ?_)
 obtain rfl := kj h
 exact Xel (Xjg.refl _) rfl ⟨rfl, trivial⟩
def Xv6 (r : (Pic × Pic)) : AV := .tup [.agg [.sv (.int .i64 r.1.Wide), .sv (.int .i64 r.1.High), .sv (.str r.1.Dots)], .agg [.sv (.int .i64 r.2.Wide), .sv (.int .i64 r.2.High), .sv (.str r.2.Dots)]]
def Xv5 (r : (Pic × Pic)) : Xbg := []
theorem Xx2 {p0 r} (h : Xiz p0 = some r) : AC Try.prog 9 [.sv (.ints .u8 p0)] [] (Xv6 r) (Xv5 r) := by
 refine Xaf hT Try.func9 rfl fun C hC => ?_
 unfold Xiz at h
 refine Xad ?_
 iterate 2 refine kO hT hC ?_
 refine kN ?_
 refine kO hT hC ?_
 refine kC hC [(16, 112)] Try.call41 h (fun _ => Xnm) fun q1 h => ?_
 refine kO hT hC ?_
 refine kN ?_
 refine kO hT hC ?_
 refine kC hC [(0, 112)] Try.call42 h (fun _ => Xu1) fun q2 h => ?_
 iterate 2 refine kO hT hC ?_
 refine Vc.nil ?_
 refine Xgx hm ?_
 iterate 3 refine kO hT hC ?_
 refine kC hC [(0, 112)] Try.call43 h (fun _ => Ya9) fun q3 h => ?_
 iterate 2 refine kO hT hC ?_
 exact kD (Xah kR)
def Xrl (r : (Par × Xa7)) : AV := .agg [.sv (.int .i64 r.1.Qp), .sv (.bool r.1.Large), .sv (.bool r.1.Exact), .sv (.bool r.1.Confined)]
def Xrk (r : (Par × Xa7)) : Xbg := [(0, .box [.sv (.ints .u8 r.2.b_), .sv (.int .i64 r.2.i_), .sv (.int .i64 r.2.h_)])]
theorem Xs5 {p0 r} (h : Xfl p0 = some r) : AC Try.prog 70 [.ptr 0 0] [(0, .box [.sv (.ints .u8 p0.b_), .sv (.int .i64 p0.i_), .sv (.int .i64 p0.h_)])] (Xrl r) (Xrk r) := by
 refine Xaf hT Try.func70 rfl fun C hC => ?_
 unfold Xfl at h
 refine Xad ?_
 refine kO hT hC ?_
 refine kN ?_
 refine kO hT hC ?_
 refine kC hC [(0, 0)] Try.call46 h (fun _ => Xba) fun q1 h => ?_
 refine kO hT hC ?_
 refine kC hC [(0, 0)] Try.call90 h (fun _ => Xmk) fun q2 h => ?_
 iterate 4 refine kO hT hC ?_
 refine Vc.nil ?_
 refine kL [0,2,3] [0,32,48] [_,_,_] [_,_,_] ?_
 refine kA h (fun v3 => ([(0, .any)], [(0, some (.box [.sv (.ints .u8 v3.2.2.1), .sv (.int .i64 v3.2.2.2.1), .sv (.int .i64 v3.2.2.2.2)])), (48, some (.box [.sv (.int .i64 q1.1), .sv (.bool v3.1), .sv (.bool v3.2.1), .sv (.bool (!q2.1))]))])) (fun v3 h => ?_) fun v3 h => ?_
 refine Xad ?_
 refine kO hT hC ?_
 refine kC hC [(0, 0)] Try.call46 h (fun _ => Xba) fun q4 h => ?_
 refine Vc.nil (Xap (Xad ?_))
 iterate 2 refine kO hT hC ?_
 refine Vc.nil ?_
 refine kS h ?_ ?_ <;> intro b1 h
 refine kt b1 (Xac ?_)
 iterate 2 refine kO hT hC ?_
 exact Vc.nil (Xas kM)
 refine kf b1 (Xad ?_)
 iterate 2 refine kO hT hC ?_
 refine Vc.nil ?_
 refine kS h ?_ ?_ <;> intro b2 h
 refine kt b2 (Xac ?_)
 iterate 2 refine kO hT hC ?_
 exact Vc.nil (Xas kM)
 exact kf b2 (Xag (Xas kM))
 refine Xad ?_
 iterate 2 refine kO hT hC ?_
 refine Vc.nil (Xah ?_)
 obtain rfl := kj h
 exact Xel (Xjg.refl _) rfl ⟨rfl, trivial⟩
def Xyd (r : (Xdm × Xa7)) : AV := .agg [.sv (.bool r.1.Key), .sv (.int .i64 r.1.Qp), .sv (.bool r.1.Large), .sv (.bool r.1.Exact)]
def Xyc (r : (Xdm × Xa7)) : Xbg := [(0, .box [.sv (.ints .u8 r.2.b_), .sv (.int .i64 r.2.i_), .sv (.int .i64 r.2.h_)])]
theorem Ya6 {p0 r} (h : Xk3 p0 = some r) : AC Try.prog 44 [.ptr 0 0] [(0, .box [.sv (.ints .u8 p0.b_), .sv (.int .i64 p0.i_), .sv (.int .i64 p0.h_)])] (Xyd r) (Xyc r) := by
 refine Xaf hT Try.func44 rfl fun C hC => ?_
 unfold Xk3 at h
 refine Xad ?_
 refine kO hT hC ?_
 refine kN ?_
 refine kO hT hC ?_
 refine kC hC [(0, 0)] Try.call70 h (fun _ => Xs5) fun q1 h => ?_
 iterate 2 refine kO hT hC ?_
 refine Vc.nil ?_
 refine Xgx hm ?_
 refine kO hT hC ?_
 refine kC hC [(0, 0)] Try.call90 h (fun _ => Xmk) fun q2 h => ?_
 iterate 8 refine kO hT hC ?_
 refine kD (Xah ?_)
 obtain rfl := kj h
 exact Xel (Xjg.refl _) rfl ⟨rfl, trivial⟩
def Xv4 (r : Xdm) : AV := .agg [.sv (.bool r.Key), .sv (.int .i64 r.Qp), .sv (.bool r.Large), .sv (.bool r.Exact)]
def Xv3 (r : Xdm) : Xbg := []
theorem Xx0 {p0 r} (h : Xiy p0 = some r) : AC Try.prog 10 [.sv (.ints .u8 p0)] [] (Xv4 r) (Xv3 r) := by
 refine Xaf hT Try.func10 rfl fun C hC => ?_
 unfold Xiy at h
 refine Xad ?_
 refine kO hT hC ?_
 refine kN ?_
 refine kO hT hC ?_
 refine kC hC [(16, 64)] Try.call41 h (fun _ => Xnm) fun q1 h => ?_
 refine kC hC [(0, 64)] Try.call44 h (fun _ => Ya6) fun q2 h => ?_
 refine kO hT hC ?_
 exact Vc.nil (Xah kR)
def Xs3 (r : (List Int)) : AV := .own 16
def Xs2 (r : (List Int)) : Xbg := [(16, .ints .i64 r)]
theorem Xux {p0 r} (h : Xge p0 = some r) : AC Try.prog 11 [.sv (.ints .u8 p0)] [] (Xs3 r) (Xs2 r) := by
 refine Xaf hT Try.func11 rfl fun C hC => ?_
 unfold Xge at h
 refine Xad ?_
 refine kO hT hC ?_
 refine kN ?_
 refine kO hT hC ?_
 refine kC hC [(16, 112)] Try.call41 h (fun _ => Xnm) fun q1 h => ?_
 refine kO hT hC ?_
 refine kN ?_
 refine kO hT hC ?_
 refine kC hC [(0, 112)] Try.call45 h (fun _ => Xcd) fun q2 h => ?_
 refine kN ?_
 iterate 2 refine kO hT hC ?_
 refine Vc.nil (Xax (Xad ?_))
 refine kO hT hC ?_
 refine Vc.nil ?_
 refine kL [3,4,5] [112,160] [_,_,_] [_,_] ?_
 refine kX h (fun v5 => ([(5, .sv (.int .i64 v5.1))], [(112, some (.box [.sv (.ints .u8 v5.2.1), .sv (.int .i64 v5.2.2.1), .sv (.int .i64 v5.2.2.2.1)])), (160, some (.ints .i64 v5.2.2.2.2))])) (fun v8 => ([(3, .any), (5, .any)], [(160, some (.ints .i64 v8)), (112, none)])) (kW hC []) (fun v5 s h => ?_) fun v8 h => ?_
 unfold Xft at h
 refine Xax (Xad ?_)
 iterate 2 refine kO hT hC ?_
 refine Vc.nil ?_
 refine kS h ?_ ?_ <;> intro b3 h
 refine kt b3 (Xag (Xae (Xax (Xap (Xac ?_)))))
 iterate 2 refine kO hT hC ?_
 refine kC hC [(0, 112)] Try.call46 h (fun _ => Xba) fun q9 h => ?_
 refine kO hT hC ?_
 refine kT hT hC h fun h => ?_
 refine kO hT hC ?_
 refine Vc.nil (Xas (Xae (Xac ?_)))
 iterate 3 refine kO hT hC ?_
 refine Vc.nil ?_
 obtain rfl := kj h
 exact Yfr (kW hC [(160, 304)])
 exact kf b3 (Xar (Xa1 ku))
 refine Xae (Xad ?_)
 iterate 2 refine kO hT hC ?_
 refine Vc.nil (Xah ?_)
 obtain rfl := kj h
 exact Xel (τ := ⟨[(2, .own 16)], [(16, some (.ints .i64 v8))]⟩) (kW hC [(16, 160)]) rfl ⟨rfl, trivial⟩
def Yab (r : Bool) : AV := .sv (.bool r)
def Yaa (r : Bool) : Xbg := []
theorem Xaj {p0 p1 p2 r} (h : Xal p0 p1 p2 = some r) : AC Try.prog 53 [.sv (.int .i64 p0), .sv (.int .i64 p1), .sv (.int .i64 p2)] [] (Yab r) (Yaa r) := by
 refine Xaf hT Try.func53 rfl fun C hC => ?_
 unfold Xal at h
 refine Xad ?_
 refine kO hT hC ?_
 refine Vc.nil ?_
 refine kL [0,1,2,6] [] [_,_,_,_] [] ?_
 refine kA h (fun v1 => ([(6, .sv (.bool v1)), (0, .any), (1, .any), (2, .any)], [])) (fun v1 h => ?_) fun v1 h => ?_
 refine Xac ?_
 iterate 4 refine kO hT hC ?_
 refine kS h ?_ ?_ <;> intro b1 h
 iterate 3 refine kI hT hC b1 ?_
 refine kP hC true b1 ?_
 refine kO hT hC ?_
 exact Vc.nil kM
 iterate 3 refine kF hC b1 ?_
 refine kP hC false b1 ?_
 refine kO hT hC ?_
 exact Vc.nil kM
 exact Xah kR
def Yb0 (r : Bool) : AV := .sv (.bool r)
def Ybz (r : Bool) : Xbg := []
theorem Xcs {p0 r} (h : Xb3 p0 = some r) : AC Try.prog 50 [.agg [.sv (.int .i64 p0.Wide), .sv (.int .i64 p0.High), .sv (.str p0.Dots)]] [] (Yb0 r) (Ybz r) := by
 refine Xaf hT Try.func50 rfl fun C hC => ?_
 unfold Xb3 at h
 refine Xad ?_
 iterate 2 refine kO hT hC ?_
 refine Vc.nil ?_
 refine kL [1,2] [16] [_,_] [_] ?_
 refine kA h (fun v1 => ([(2, .sv (.bool v1)), (1, .any)], [(16, none)])) (fun v1 h => ?_) fun v1 h => ?_
 refine Xac ?_
 iterate 2 refine kO hT hC ?_
 refine kC hC [] Try.call53 h (fun _ => Xaj) fun q2 h => ?_
 refine kO hT hC ?_
 refine kS h ?_ ?_ <;> intro b1 h
 iterate 2 refine kI hT hC b1 ?_
 refine kE hC b1 [] Try.call53 h (fun _ => Xaj) fun q3 h => ?_
 refine kP hC true b1 ?_
 refine kO hT hC ?_
 refine kS h ?_ ?_ <;> intro b2 h
 iterate 9 refine kI hT hC b2 ?_
 refine kP hC true b2 ?_
 refine kO hT hC ?_
 exact Vc.nil kM
 iterate 9 refine kF hC b2 ?_
 refine kP hC false b2 ?_
 refine kO hT hC ?_
 exact Vc.nil kM
 iterate 3 refine kF hC b1 ?_
 refine kP hC false b1 ?_
 refine kO hT hC ?_
 iterate 9 refine kF hC rfl ?_
 iterate 2 refine kO hT hC ?_
 exact Vc.nil kM
 exact Xah kR
def Xqf (r : Bool) : AV := .sv (.bool r)
def Xqe (r : Bool) : Xbg := []
theorem Xem {p0 p1 p2 r} (h : Xbr p0 p1 p2 = some r) : AC Try.prog 51 [.agg [.sv (.int .i64 p0.Wide), .sv (.int .i64 p0.High), .sv (.str p0.Dots)], .sv (.int .i64 p1), .sv (.int .i64 p2)] [] (Xqf r) (Xqe r) := by
 refine Xaf hT Try.func51 rfl fun C hC => ?_
 unfold Xbr at h
 refine Xad ?_
 iterate 2 refine kO hT hC ?_
 refine Vc.nil ?_
 refine kL [1,2,3,6] [48] [_,_,_,_] [_] ?_
 refine kA h (fun v1 => ([(6, .sv (.bool v1)), (1, .any), (2, .any), (3, .any)], [(48, none)])) (fun v1 h => ?_) fun v1 h => ?_
 refine Xac ?_
 refine kO hT hC ?_
 refine kQ hT hC h fun h => ?_
 iterate 2 refine kO hT hC ?_
 refine kS h ?_ ?_ <;> intro b1 h
 refine kI hT hC b1 ?_
 refine kJ hT hC b1 h fun h => ?_
 refine kI hT hC b1 ?_
 refine kP hC true b1 ?_
 refine kO hT hC ?_
 refine kS h ?_ ?_ <;> intro b2 h
 iterate 4 refine kI hT hC b2 ?_
 refine kE hC b2 [] Try.call53 h (fun _ => Xaj) fun q2 h => ?_
 refine kP hC true b2 ?_
 refine kO hT hC ?_
 refine kS h ?_ ?_ <;> intro b3 h
 iterate 4 refine kI hT hC b3 ?_
 refine kE hC b3 [] Try.call53 h (fun _ => Xaj) fun q3 h => ?_
 refine kP hC true b3 ?_
 refine kO hT hC ?_
 exact Vc.nil kM
 iterate 5 refine kF hC b3 ?_
 refine kP hC false b3 ?_
 refine kO hT hC ?_
 exact Vc.nil kM
 iterate 5 refine kF hC b2 ?_
 refine kP hC false b2 ?_
 refine kO hT hC ?_
 iterate 5 refine kF hC rfl ?_
 iterate 2 refine kO hT hC ?_
 exact Vc.nil kM
 iterate 3 refine kF hC b1 ?_
 refine kP hC false b1 ?_
 refine kO hT hC ?_
 iterate 5 refine kF hC rfl ?_
 iterate 2 refine kO hT hC ?_
 iterate 5 refine kF hC rfl ?_
 iterate 2 refine kO hT hC ?_
 exact Vc.nil kM
 exact Xah kR
def Xry (r : Bool) : AV := .sv (.bool r)
def Xrx (r : Bool) : Xbg := []
theorem Xbs {p0 p1 p2 p3 r} (h : Xbf p0 p1 p2 p3 = some r) : AC Try.prog 52 [.sv (.ints .i64 p0), .sv (.int .i64 p1), .sv (.int .i64 p2), .sv (.int .i64 p3)] [] (Xry r) (Xrx r) := by
 refine Xaf hT Try.func52 rfl fun C hC => ?_
 unfold Xbf at h
 refine Xad ?_
 refine kO hT hC ?_
 refine Vc.nil (Xax (Xad ?_))
 iterate 3 refine kO hT hC ?_
 refine Vc.nil ?_
 refine kL [0,1,2,3,11,12,13] [] [_,_,_,_,_,_,_] [] ?_
 obtain ⟨o8, hl, h⟩ := Xbj h
 refine Xpb (fun v3 => ([(13, .sv (.int .i64 v3))], [])) (fun v6 => ([(2, .any), (3, .any), (11, .any), (12, .any), (13, .any)], [])) (fun r => Xyu C T Try.f52.results.toList (Xry r) (Xrx r)) hl ?_ ?_ ?_ ?_
 apply Xhi hC []
 exact co
 rfl
 decide
 rfl
 intro v3 s hs
 have h := hs
 unfold Xio at h
 refine Xad ?_
 refine kO hT hC ?_
 refine Vc.nil (Xax ?_)
 refine kS h ?_ ?_ <;> intro b5 h
 refine kt b5 (Xag (Xae (Xax (Xap (Xad ?_)))))
 refine kQ hT hC h fun h => ?_
 iterate 2 refine kO hT hC ?_
 refine kN ?_
 iterate 3 refine kO hT hC ?_
 refine kC hC [] Try.call53 h (fun _ => Xaj) fun q7 h => ?_
 refine kO hT hC ?_
 refine Vc.nil ?_
 refine kS h ?_ ?_ <;> intro b6 h
 refine kt b6 (Xad ?_)
 refine kO hT hC ?_
 refine Vc.nil (Xah (Xp3 (Xa5 ?_)))
 obtain rfl := kj h
 refine Ye1 (Yex ?_)
 exact Xel (Xjg.refl _) rfl trivial
 refine kf b6 (Xag (Xas (Xae (Xac ?_))))
 iterate 2 refine kO hT hC ?_
 exact Vc.nil kG
 exact kf b5 (Xar (Xa1 kb))
 intro v6 e
 subst e
 refine Xae (Xad ?_)
 iterate 5 refine kO hT hC ?_
 exact Vc.nil (Xah kR)
 intro r' σ' e hE
 subst e
 obtain rfl := kj h
 refine Xa5 ?_
 exact hE
def Xzc (r : Bool) : AV := .sv (.bool r)
def Xzb (r : Bool) : Xbg := []
theorem Xde {p0 r} (h : Xc3 p0 = some r) : AC Try.prog 27 [.agg [.sv (.bool p0.Key), .sv (.int .i64 p0.Qp), .sv (.bool p0.Large), .sv (.bool p0.Exact)]] [] (Xzc r) (Xzb r) := by
 refine Xaf hT Try.func27 rfl fun C hC => ?_
 unfold Xc3 at h
 refine Xad ?_
 iterate 2 refine kO hT hC ?_
 refine Vc.nil ?_
 refine kL [1,2] [16] [_,_] [_] ?_
 refine kA h (fun v1 => ([(2, .sv (.bool v1)), (1, .any)], [(16, none)])) (fun v1 h => ?_) fun v1 h => ?_
 refine Xac ?_
 iterate 2 refine kO hT hC ?_
 refine kC hC [] Try.call53 h (fun _ => Xaj) fun q2 h => ?_
 refine kO hT hC ?_
 refine kS h ?_ ?_ <;> intro b1 h
 iterate 3 refine kI hT hC b1 ?_
 refine kS h ?_ ?_ <;> intro b2 h
 iterate 2 refine kI hT hC b2 ?_
 refine Xda hC rfl rfl rfl rfl b1 rfl rfl (b := true) b2 rfl rfl rfl trivial ?_
 refine kI hT hC b1 ?_
 refine kP hC true b1 ?_
 refine kO hT hC ?_
 exact Vc.nil kM
 iterate 2 refine kF hC b2 ?_
 refine Xda hC rfl rfl rfl rfl b1 rfl rfl (b := false) b2 rfl rfl rfl trivial ?_
 refine kI hT hC b1 ?_
 refine kP hC true b1 ?_
 refine kO hT hC ?_
 exact Vc.nil kM
 iterate 3 refine kF hC b1 ?_
 iterate 2 refine Xom hC rfl rfl rfl rfl rfl rfl ?_
 iterate 2 refine kF hC b1 ?_
 refine kP hC false b1 ?_
 refine kO hT hC ?_
 exact Vc.nil kM
 exact Xah kR
def Xw4 (r : Int) : AV := .sv (.int .i64 r)
def Xw3 (r : Int) : Xbg := []
theorem Xie {p0 p1 p2 r} (h : Xd4 p0 p1 p2 = some r) : AC Try.prog 103 [.sv (.int .i64 p0), .sv (.int .i64 p1), .sv (.int .i64 p2)] [] (Xw4 r) (Xw3 r) := by
 refine Xaf hT Try.func103 rfl fun C hC => ?_
 unfold Xd4 at h
 refine Xad ?_
 refine kO hT hC ?_
 refine kN ?_
 iterate 6 refine kO hT hC ?_
 exact Vc.nil (Xah kR)
def Xxb (r : Int) : AV := .sv (.int .i64 r)
def Xxa (r : Int) : Xbg := []
theorem Xii {p0 p1 p2 r} (h : Xd8 p0 p1 p2 = some r) : AC Try.prog 92 [.agg [.sv (.int .i64 p0.Wide), .sv (.int .i64 p0.High), .sv (.str p0.Dots)], .sv (.int .i64 p1), .sv (.int .i64 p2)] [] (Xxb r) (Xxa r) := by
 refine Xaf hT Try.func92 rfl fun C hC => ?_
 unfold Xd8 at h
 refine Xad ?_
 iterate 2 refine kO hT hC ?_
 refine Vc.nil ?_
 refine Xgx hm ?_
 iterate 6 refine kO hT hC ?_
 refine kC hC [] Try.call103 h (fun _ => Xie) fun q1 h => ?_
 iterate 7 refine kO hT hC ?_
 refine kC hC [] Try.call103 h (fun _ => Xie) fun q2 h => ?_
 refine kO hT hC ?_
 refine kQ hT hC h fun h => ?_
 iterate 2 refine kO hT hC ?_
 exact kD (Xah kR)
def Xw6 (r : (Xg4 × Bool)) : AV := .tup [.agg [.own 16, .own 17, .sv (.int .i64 r.1.Corner)], .sv (.bool r.2)]
def Xw5 (r : (Xg4 × Bool)) : Xbg := [(16, .ints .i64 r.1.Above), (17, .ints .i64 r.1.Left)]
theorem Xqb {p0 p1 p2 r} (h : Xhz p0 p1 p2 = some r) : AC Try.prog 54 [.agg [.sv (.int .i64 p0.Wide), .sv (.int .i64 p0.High), .sv (.str p0.Dots)], .sv (.int .i64 p1), .sv (.int .i64 p2)] [] (Xw6 r) (Xw5 r) := by
 refine Xaf hT Try.func54 rfl fun C hC => ?_
 unfold Xhz at h
 refine Xad ?_
 iterate 3 refine kO hT hC ?_
 refine Vc.nil (Xax ?_)
 refine kL [1,2,3,6] [48,96] [_,_,_,_] [_,_] ?_
 refine kA h (fun v1 => ([(19, .sv (.bool v1))], [])) (fun v1 h => ?_) fun v1 h => ?_
 refine Xac ?_
 refine kO hT hC ?_
 refine kC hC [] Try.call50 h (fun _ => Xcs) fun q2 h => ?_
 iterate 2 refine kO hT hC ?_
 refine kS h ?_ ?_ <;> intro b1 h
 iterate 3 refine kI hT hC (kn b1) ?_
 refine kE hC (kn b1) [] Try.call51 h (fun _ => Xem) fun q3 h => ?_
 refine kI hT hC (kn b1) ?_
 refine kP hC false (kn b1) ?_
 exact Vc.nil kM
 iterate 5 refine kF hC (kn b1) ?_
 refine kP hC true (kn b1) ?_
 exact Vc.nil kM
 refine kS h ?_ ?_ <;> intro b2 h
 refine kt b2 (Xad ?_)
 iterate 3 refine kO hT hC ?_
 refine Vc.nil (Xah (Xa5 ?_))
 obtain rfl := kj h
 refine Xel (τ := ⟨[(6, .ptr 2000000 0), (7, .sv (.bool false))], [(16, some (.ints .i64 [])), (17, some (.ints .i64 [])), (2000000, some (.box [.own 16, .own 17, .sv (.int .i64 0)]))]⟩) ?_ rfl ⟨rfl, rfl, trivial⟩
 refine Xqw hC 96 0 1105 (.ints .i64 []) rfl rfl rfl rfl rfl trivial ?_
 refine Xqw hC 96 1 1106 (.ints .i64 []) rfl rfl rfl rfl rfl trivial ?_
 apply Xhi hC [(16, 1105), (17, 1106), (2000000, 96)]
 exact co
 rfl
 decide
 rfl
 refine kf b2 (Xag (Xae (Xad ?_)))
 iterate 3 refine kO hT hC ?_
 refine Vc.nil (Xax (Xad ?_))
 refine kO hT hC ?_
 refine Vc.nil ?_
 refine kL [1,2,3,6,8,22] [48,96,128] [_,_,_,_,_,_] [_,_,_] ?_
 obtain ⟨v15, hl, h⟩ := Xbj h
 refine Yot (fun v9 => ([(22, .sv (.int .i64 v9.1))], [(128, some (.box [.own 1129, .own 1130, .sv (.int .i64 (-1))])), (1129, some (.ints .i64 v9.2.1)), (1130, some (.ints .i64 v9.2.2))])) (fun v15 => ([(22, .any)], [(128, some (.box [.own 1133, .own 1134, .sv (.int .i64 (-1))])), (1133, some (.ints .i64 v15.1)), (1134, some (.ints .i64 v15.2))])) hl ?_ ?_ ?_
 refine Xqw hC 128 0 1135 (.ints .i64 []) rfl rfl rfl rfl rfl trivial ?_
 refine Xqw hC 128 1 1136 (.ints .i64 []) rfl rfl rfl rfl rfl trivial ?_
 try dsimp only
 apply Xhi hC [(1129, 1135), (1130, 1136)]
 exact co
 rfl
 decide
 rfl
 intro v9 s hs
 have h := hs
 unfold Xig at h
 refine Xad ?_
 refine kO hT hC ?_
 refine Vc.nil (Xax ?_)
 refine kS h ?_ ?_ <;> intro b9 h
 refine kt b9 (Xag (Xae ?_))
 refine kL [1,2,3,6,8,22] [48,96,128,1129,1130] [_,_,_,_,_,_] [_,_,_,_,_] ?_
 refine kA h (fun v16 => ([], [(1129, some (.ints .i64 v16.1)), (1130, some (.ints .i64 v16.2))])) (fun v16 h => ?_) fun v16 h => ?_
 refine Xap (Xad ?_)
 iterate 2 refine kO hT hC ?_
 refine Vc.nil ?_
 refine kL [1,2,3,6,8,9,22] [48,96,128,1129,1130] [_,_,_,_,_,_,_] [_,_,_,_,_] ?_
 refine kA h (fun v17 => ([], [(1129, some (.ints .i64 v17))])) (fun v17 h => ?_) fun v17 h => ?_
 refine Xad ?_
 iterate 2 refine kO hT hC ?_
 refine Vc.nil ?_
 refine kS h ?_ ?_ <;> intro b10 h
 refine kt b10 ?_
 refine Xhu hm ?_
 iterate 8 refine kO hT hC ?_
 refine kC hC [] Try.call92 h (fun _ => Xii) fun q18 h => ?_
 refine kO hT hC ?_
 refine kT hT hC h fun h => ?_
 iterate 2 refine kO hT hC ?_
 refine kD ?_
 obtain rfl := kj h
 exact Xhc (kW hC [(1129, 592)])
 exact kf b10 (Xag kM)
 refine Xad ?_
 iterate 2 refine kO hT hC ?_
 refine Vc.nil ?_
 refine kS h ?_ ?_ <;> intro b11 h
 refine kt b11 ?_
 refine Xhu hm ?_
 iterate 8 refine kO hT hC ?_
 refine kC hC [] Try.call92 h (fun _ => Xii) fun q19 h => ?_
 refine kO hT hC ?_
 refine kT hT hC h fun h => ?_
 iterate 2 refine kO hT hC ?_
 refine kD (Xas ?_)
 obtain rfl := kj h
 exact Xhc (kW hC [(1130, 816)])
 exact kf b11 (Xag (Xas kM))
 refine Xac ?_
 iterate 2 refine kO hT hC ?_
 exact Vc.nil kG
 refine kf b9 (Xar (Xa1 ?_))
 obtain rfl := kj h
 exact Yl4 (Yql (kW hC [(1133, 1129), (1134, 1130)]))
 refine Xae ?_
 refine kL [1,2,3,6,8] [48,96,128,1133,1134] [_,_,_,_,_] [_,_,_,_,_] ?_
 refine kA h (fun v21 => ([(1, .any), (2, .any), (3, .any)], [(128, some (.box [.own 1133, .own 1134, .sv (.int .i64 v21)])), (48, none)])) (fun v21 h => ?_) fun v21 h => ?_
 refine kL [1,2,3,6,8] [48,96,128,1133,1134] [_,_,_,_,_] [_,_,_,_,_] ?_
 refine kA h (fun v22 => ([(59, .sv (.bool v22))], [])) (fun v22 h => ?_) fun v22 h => ?_
 refine Xac ?_
 iterate 3 refine kO hT hC ?_
 refine kS h ?_ ?_ <;> intro b12 h
 iterate 2 refine kI hT hC b12 ?_
 refine kP hC true b12 ?_
 exact Vc.nil kM
 iterate 2 refine kF hC b12 ?_
 refine kP hC false b12 ?_
 exact Vc.nil kM
 refine kS h ?_ ?_ <;> intro b13 h
 refine kt b13 (Xac ?_)
 iterate 5 refine kO hT hC ?_
 refine kC hC [] Try.call92 h (fun _ => Xii) fun q23 h => ?_
 iterate 2 refine kO hT hC ?_
 exact Vc.nil kM
 exact kf b13 (Xag kM)
 refine Xad ?_
 iterate 3 refine kO hT hC ?_
 refine Vc.nil (Xah ?_)
 obtain rfl := kj h
 exact Xel (τ := ⟨[(6, .ptr 2000000 0), (7, .sv (.bool true))], [(16, some (.ints .i64 v15.1)), (17, some (.ints .i64 v15.2)), (2000000, some (.box [.own 16, .own 17, .sv (.int .i64 v21)]))]⟩) (kW hC [(16, 1133), (17, 1134), (2000000, 96)]) rfl ⟨rfl, rfl, trivial⟩
def Xpn (r : Bool) : AV := .sv (.bool r)
def Xpm (r : Bool) : Xbg := []
theorem Xqc {p0 r} (h : Xh0 p0 = some r) : AC Try.prog 93 [.agg [.sv (.ints .i64 p0.Above), .sv (.ints .i64 p0.Left), .sv (.int .i64 p0.Corner)]] [] (Xpn r) (Xpm r) := by
 refine Xaf hT Try.func93 rfl fun C hC => ?_
 unfold Xh0 at h
 refine Xad ?_
 iterate 2 refine kO hT hC ?_
 refine Vc.nil (Xax (Xad ?_))
 iterate 7 refine kO hT hC ?_
 refine Vc.nil ?_
 refine kL [1,9,10,11] [16,144] [_,_,_,_] [_,_] ?_
 obtain ⟨o11, hl, h⟩ := Xbj h
 refine Xpb (fun v4 => ([(11, .sv (.int .i64 v4))], [])) (fun v8 => ([(9, .any), (10, .any), (11, .any)], [(144, none)])) (fun r => Xyu C T Try.f93.results.toList (Xpn r) (Xpm r)) hl ?_ ?_ ?_ ?_
 apply Xhi hC []
 exact co
 rfl
 decide
 rfl
 intro v4 s hs
 have h := hs
 unfold Xeo at h
 refine Xad ?_
 refine kO hT hC ?_
 refine Vc.nil (Xax ?_)
 refine kS h ?_ ?_ <;> intro b7 h
 refine kt b7 (Xag (Xae (Xax (Xap (Xad ?_)))))
 iterate 2 refine kQ hT hC h fun h => ?_
 refine kO hT hC ?_
 refine Vc.nil ?_
 refine kL [1,4,9,10,11] [16,144] [_,_,_,_,_] [_,_] ?_
 refine kA h (fun v9 => ([(22, .sv (.bool v9)), (4, .any)], [])) (fun v9 h => ?_) fun v9 h => ?_
 refine Xac ?_
 iterate 4 refine kO hT hC ?_
 refine kS h ?_ ?_ <;> intro b8 h
 refine kI hT hC b8 ?_
 refine kE hC b8 [] Try.call52 h (fun _ => Xbs) fun q10 h => ?_
 refine kI hT hC b8 ?_
 refine kP hC true b8 ?_
 exact Vc.nil kM
 iterate 3 refine kF hC b8 ?_
 refine kP hC false b8 ?_
 exact Vc.nil kM
 refine kS h ?_ ?_ <;> intro b9 h
 refine kt b9 (Xad ?_)
 refine kO hT hC ?_
 refine Vc.nil (Xah (Xp3 (Xa5 ?_)))
 obtain rfl := kj h
 refine Ye1 (Yex ?_)
 exact Xel (Xjg.refl _) rfl trivial
 refine kf b9 (Xag (Xas (Xae (Xac ?_))))
 iterate 2 refine kO hT hC ?_
 exact Vc.nil kG
 exact kf b7 (Xar (Xa1 kb))
 intro v8 e
 subst e
 refine Xae (Xad ?_)
 iterate 2 refine kO hT hC ?_
 refine kC hC [] Try.call53 h (fun _ => Xaj) fun q12 h => ?_
 refine kO hT hC ?_
 exact Vc.nil (Xah kR)
 intro r' σ' e hE
 subst e
 obtain rfl := kj h
 refine Xa5 ?_
 exact hE
def Ycd (r : Int) : AV := .sv (.int .i64 r)
def Ycc (r : Int) : Xbg := []
theorem Xul {p0 r} (h : Xh6 p0 = some r) : AC Try.prog 101 [.sv (.ints .i64 p0)] [] (Ycd r) (Ycc r) := by
 refine Xaf hT Try.func101 rfl fun C hC => ?_
 unfold Xh6 at h
 refine Xad ?_
 refine kO hT hC ?_
 refine kN ?_
 refine kO hT hC ?_
 refine Vc.nil (Xax (Xad ?_))
 iterate 3 refine kO hT hC ?_
 refine Vc.nil ?_
 refine kL [3,6,7,8] [] [_,_,_,_] [] ?_
 refine kX h (fun v2 => ([(3, .sv (.int .i64 v2.1)), (8, .sv (.int .i64 v2.2))], [])) (fun v4 => ([(3, .sv (.int .i64 v4)), (6, .any), (7, .any), (8, .any)], [])) (kW hC []) (fun v2 s h => ?_) fun v4 h => ?_
 unfold Xo2 at h
 refine Xad ?_
 refine kO hT hC ?_
 refine Vc.nil (Xax ?_)
 refine kS h ?_ ?_ <;> intro b3 h
 refine kt b3 (Xag (Xae (Xax (Xap (Xad ?_)))))
 refine kQ hT hC h fun h => ?_
 iterate 2 refine kO hT hC ?_
 refine Vc.nil (Xac ?_)
 iterate 4 refine kO hT hC ?_
 refine Vc.nil (Xas (Xae (Xac ?_)))
 iterate 2 refine kO hT hC ?_
 exact Vc.nil kG
 exact kf b3 (Xar (Xa1 ku))
 refine Xae (Xad ?_)
 iterate 2 refine kO hT hC ?_
 exact Vc.nil (Xah kR)
def Xz6 (r : (List Int)) : AV := .sv (.ints .i64 r)
def Xz5 (r : (List Int)) : Xbg := []
theorem Xrz {p0 r} (h : Xju p0 = some r) : AC Try.prog 102 [.sv (.ints .i64 p0)] [] (Xz6 r) (Xz5 r) := by
 refine Xaf hT Try.func102 rfl fun C hC => ?_
 unfold Xju at h
 refine Xad ?_
 refine kO hT hC ?_
 refine Vc.nil (Xax (Xad ?_))
 iterate 3 refine kO hT hC ?_
 refine Vc.nil ?_
 refine kS h ?_ ?_ <;> intro b1 h
 refine kt b1 (Xad ?_)
 iterate 2 refine kO hT hC ?_
 refine Vc.nil (Xah (Xa5 ?_))
 obtain rfl := kj h
 exact Xel (τ := ⟨[(2, .sv (.ints .i64 ([128, 128, 128, 128, 128, 128, 128, 128])))], []⟩) (kW hC []) rfl trivial
 refine kf b1 (Xag (Xae (Xad ?_)))
 iterate 2 refine kO hT hC ?_
 exact Vc.nil (Xah kR)
def Xw9 (r : (List Int)) : AV := .own 16
def Xw8 (r : (List Int)) : Xbg := [(16, .ints .i64 r)]
theorem Xl4 {p0 p1 r} (h : Xe2 p0 p1 = some r) : AC Try.prog 58 [.sv (.int .i64 p0), .agg [.sv (.ints .i64 p1.Above), .sv (.ints .i64 p1.Left), .sv (.int .i64 p1.Corner)]] [] (Xw9 r) (Xw8 r) := by
 refine Xaf hT Try.func58 rfl fun C hC => ?_
 unfold Xe2 at h
 refine Xad ?_
 iterate 2 refine kO hT hC ?_
 refine kN ?_
 iterate 2 refine kO hT hC ?_
 refine Vc.nil (Xax ?_)
 refine kL [0,3,5] [48,208] [_,_,_] [_,_] ?_
 refine kA h (fun v1 => ([(21, .sv (.bool v1))], [])) (fun v1 h => ?_) fun v1 h => ?_
 refine Xac ?_
 refine kO hT hC ?_
 refine kC hC [] Try.call93 h (fun _ => Xqc) fun q2 h => ?_
 iterate 2 refine kO hT hC ?_
 refine kS h ?_ ?_ <;> intro b1 h
 refine kI hT hC (kn b1) ?_
 refine kE hC (kn b1) [] Try.call53 h (fun _ => Xaj) fun q3 h => ?_
 refine kI hT hC (kn b1) ?_
 refine kP hC false (kn b1) ?_
 exact Vc.nil kM
 iterate 3 refine kF hC (kn b1) ?_
 refine kP hC true (kn b1) ?_
 exact Vc.nil kM
 refine kS h ?_ ?_ <;> intro b2 h
 refine kt b2 (Xad ?_)
 iterate 2 refine kO hT hC ?_
 refine Vc.nil (Xah (Xa5 ?_))
 obtain rfl := kj h
 exact Xel (τ := ⟨[(4, .own 16)], [(16, some (.ints .i64 ([] : List Int)))]⟩) (kW hC [(16, 208)]) rfl ⟨rfl, trivial⟩
 refine kf b2 (Xag (Xae (Xad ?_)))
 refine kO hT hC ?_
 refine Vc.nil ?_
 refine kL [0,3,5,6] [48,208] [_,_,_,_] [_,_] ?_
 refine kA h (fun v4 => ([(6, .sv (.int .i64 v4))], [])) (fun v4 h => ?_) fun v4 h => ?_
 refine Xad ?_
 iterate 8 refine kO hT hC ?_
 refine kN ?_
 iterate 2 refine kO hT hC ?_
 refine Vc.nil ?_
 refine kS h ?_ ?_ <;> intro b3 h
 refine kt b3 ?_
 refine Xhu hm ?_
 iterate 2 refine kO hT hC ?_
 refine kC hC [] Try.call101 h (fun _ => Xul) fun q5 h => ?_
 iterate 2 refine kO hT hC ?_
 refine kC hC [] Try.call101 h (fun _ => Xul) fun q6 h => ?_
 iterate 2 refine kO hT hC ?_
 refine kQ hT hC h fun h => ?_
 iterate 2 refine kO hT hC ?_
 refine kQ hT hC h fun h => ?_
 refine kO hT hC ?_
 exact kD kM
 exact kf b3 (Xag kM)
 refine Xgx hm ?_
 iterate 2 refine kO hT hC ?_
 refine kC hC [] Try.call102 h (fun _ => Xrz) fun q7 h => ?_
 iterate 2 refine kO hT hC ?_
 refine kC hC [] Try.call102 h (fun _ => Xrz) fun q8 h => ?_
 iterate 5 refine kO hT hC ?_
 refine kD ?_
 refine kL [0,5,6,8,9,10] [208] [_,_,_,_,_,_] [_] ?_
 refine kA h (fun v9 => ([(10, .sv (.int .i64 v9))], [])) (fun v9 h => ?_) fun v9 h => ?_
 refine Xad ?_
 iterate 2 refine kO hT hC ?_
 refine Vc.nil ?_
 refine kS h ?_ ?_ <;> intro b4 h
 refine kt b4 (Xac ?_)
 refine kO hT hC ?_
 exact Vc.nil kM
 exact kf b4 (Xag kM)
 refine Xax (Xad ?_)
 refine kO hT hC ?_
 refine Vc.nil ?_
 refine kL [0,5,6,8,9,10,54] [208] [_,_,_,_,_,_,_] [_] ?_
 refine kX h (fun v22 => ([(54, .sv (.int .i64 v22.1))], [(208, some (.ints .i64 v22.2))])) (fun v35 => ([(0, .any), (6, .any), (8, .any), (9, .any), (10, .any), (54, .any)], [(208, some (.ints .i64 v35))])) (kW hC []) (fun v22 s h => ?_) fun v35 h => ?_
 unfold Xla at h
 refine Xad ?_
 refine kO hT hC ?_
 refine Vc.nil (Xax ?_)
 refine kS h ?_ ?_ <;> intro b31 h
 refine kt b31 (Xag (Xae (Xax (Xap (Xad ?_)))))
 iterate 2 refine kO hT hC ?_
 refine kN ?_
 refine kO hT hC ?_
 refine Vc.nil ?_
 refine kL [0,5,6,8,9,10,11,54,57] [208] [_,_,_,_,_,_,_,_,_] [_] ?_
 refine kX h (fun v39 => ([(57, .sv (.int .i64 v39.1))], [(208, some (.ints .i64 v39.2))])) (fun v43 => ([(11, .any), (57, .any)], [(208, some (.ints .i64 v43))])) (kW hC []) (fun v39 s h => ?_) fun v43 h => ?_
 unfold Xfh at h
 refine Xad ?_
 refine kO hT hC ?_
 refine Vc.nil (Xax ?_)
 refine kS h ?_ ?_ <;> intro b40 h
 refine kt b40 (Xag (Xae ?_))
 refine kL [0,5,6,8,9,10,11,54,57] [208] [_,_,_,_,_,_,_,_,_] [_] ?_
 refine kA h (fun v44 => ([(5, .own 1700)], [(1700, some (.ints .i64 v44)), (208, none)])) (fun v44 h => ?_) fun v44 h => ?_
 refine Xap (Xad ?_)
 iterate 2 refine kO hT hC ?_
 refine kN ?_
 refine kO hT hC ?_
 refine Vc.nil (Xap (Xad ?_))
 iterate 2 refine kO hT hC ?_
 refine Vc.nil ?_
 refine kS h ?_ ?_ <;> intro b41 h
 refine kt b41 (Xac ?_)
 iterate 3 refine kO hT hC ?_
 refine kT hT hC h fun h => ?_
 refine kO hT hC ?_
 refine Vc.nil ?_
 iterate 2 refine Xas ?_
 obtain rfl := kj h
 exact Xhc (kW hC [(1700, 1296)])
 refine kf b41 (Xad ?_)
 iterate 2 refine kO hT hC ?_
 refine Vc.nil ?_
 refine kS h ?_ ?_ <;> intro b42 h
 refine kt b42 (Xac ?_)
 iterate 3 refine kO hT hC ?_
 refine kQ hT hC h fun h => ?_
 iterate 2 refine kO hT hC ?_
 refine kT hT hC h fun h => ?_
 refine kO hT hC ?_
 refine Vc.nil ?_
 iterate 2 refine Xas ?_
 obtain rfl := kj h
 exact Xhc (kW hC [(1700, 1440)])
 refine kf b42 (Xad ?_)
 iterate 2 refine kO hT hC ?_
 refine Vc.nil ?_
 refine kS h ?_ ?_ <;> intro b43 h
 refine kt b43 (Xac ?_)
 iterate 3 refine kO hT hC ?_
 refine kQ hT hC h fun h => ?_
 iterate 2 refine kO hT hC ?_
 refine kT hT hC h fun h => ?_
 refine kO hT hC ?_
 refine Vc.nil ?_
 iterate 2 refine Xas ?_
 obtain rfl := kj h
 exact Xhc (kW hC [(1700, 1584)])
 refine kf b43 ?_
 refine Xhu hm ?_
 iterate 3 refine kO hT hC ?_
 refine kQ hT hC h fun h => ?_
 iterate 3 refine kO hT hC ?_
 refine kQ hT hC h fun h => ?_
 iterate 4 refine kO hT hC ?_
 refine kC hC [] Try.call103 h (fun _ => Xie) fun q45 h => ?_
 refine kO hT hC ?_
 refine kT hT hC h fun h => ?_
 refine kO hT hC ?_
 refine kD ?_
 iterate 2 refine Xas ?_
 obtain rfl := kj h
 exact Xhc (kW hC [(1700, 1200)])
 refine Xac ?_
 iterate 2 refine kO hT hC ?_
 refine Vc.nil ?_
 obtain rfl := kj h
 exact Yfr (kW hC [(208, 1700)])
 exact kf b40 (Xar (Xa1 ku))
 refine Xas (Xae (Xac ?_))
 iterate 2 refine kO hT hC ?_
 exact Vc.nil kG
 exact kf b31 (Xar (Xa1 ku))
 refine Xae (Xad ?_)
 iterate 2 refine kO hT hC ?_
 refine Vc.nil (Xah ?_)
 obtain rfl := kj h
 exact Xel (τ := ⟨[(4, .own 16)], [(16, some (.ints .i64 v35))]⟩) (kW hC [(16, 208)]) rfl ⟨rfl, trivial⟩
def Yei (r : Int) : AV := .sv (.int .i64 r)
def Yeh (r : Int) : Xbg := []
theorem Xqi {p0 r} (h : Xkw p0 = some r) : AC Try.prog 104 [.sv (.int .i64 p0)] [] (Yei r) (Yeh r) := by
 refine Xaf hT Try.func104 rfl fun C hC => ?_
 unfold Xkw at h
 refine Xad ?_
 refine kO hT hC ?_
 refine kN ?_
 iterate 5 refine kO hT hC ?_
 exact Vc.nil (Xah kR)
def Ygh (r : Int) : AV := .sv (.int .i64 r)
def Ygg (r : Int) : Xbg := []
theorem Xst {p0 p1 r} (h : Xm2 p0 p1 = some r) : AC Try.prog 59 [.sv (.ints .i64 p0), .sv (.ints .i64 p1)] [] (Ygh r) (Ygg r) := by
 refine Xaf hT Try.func59 rfl fun C hC => ?_
 unfold Xm2 at h
 refine Xad ?_
 refine kO hT hC ?_
 refine kN ?_
 refine kO hT hC ?_
 refine Vc.nil (Xax (Xad ?_))
 iterate 3 refine kO hT hC ?_
 refine Vc.nil ?_
 refine kL [1,5,8,9,10] [] [_,_,_,_,_] [] ?_
 refine kX h (fun v3 => ([(5, .sv (.int .i64 v3.1)), (10, .sv (.int .i64 v3.2))], [])) (fun v6 => ([(5, .sv (.int .i64 v6)), (1, .any), (8, .any), (9, .any), (10, .any)], [])) (kW hC []) (fun v3 s h => ?_) fun v6 h => ?_
 unfold Xl7 at h
 refine Xad ?_
 refine kO hT hC ?_
 refine Vc.nil (Xax ?_)
 refine kS h ?_ ?_ <;> intro b3 h
 refine kt b3 (Xag (Xae (Xax (Xap (Xad ?_)))))
 refine kO hT hC ?_
 refine kQ hT hC h fun h => ?_
 iterate 3 refine kO hT hC ?_
 refine Vc.nil (Xac ?_)
 iterate 4 refine kO hT hC ?_
 refine kQ hT hC h fun h => ?_
 iterate 2 refine kO hT hC ?_
 refine kC hC [] Try.call104 h (fun _ => Xqi) fun q7 h => ?_
 iterate 2 refine kO hT hC ?_
 refine Vc.nil (Xas (Xae (Xac ?_)))
 iterate 2 refine kO hT hC ?_
 exact Vc.nil kG
 exact kf b3 (Xar (Xa1 ku))
 refine Xae (Xad ?_)
 iterate 2 refine kO hT hC ?_
 exact Vc.nil (Xah kR)
def Xud (r : Int) : AV := .sv (.int .i64 r)
def Xuc (r : Int) : Xbg := []
theorem Xvt {p0 r} (h : Xkd p0 = some r) : AC Try.prog 150 [.sv (.int .i64 p0)] [] (Xud r) (Xuc r) := by
 refine Xaf hT Try.func150 rfl fun C hC => ?_
 unfold Xkd at h
 refine Xad ?_
 refine kO hT hC ?_
 refine kN ?_
 refine kO hT hC ?_
 refine Vc.nil (Xax ?_)
 refine kL [0,3] [] [_,_] [] ?_
 refine kX h (fun v2 => ([(0, .sv (.int .i64 v2.1)), (3, .sv (.int .i64 v2.2))], [])) (fun v4 => ([(3, .sv (.int .i64 v4)), (0, .any)], [])) (kW hC []) (fun v2 s h => ?_) fun v4 h => ?_
 unfold Xcj at h
 refine Xax (Xad ?_)
 iterate 2 refine kO hT hC ?_
 refine Vc.nil ?_
 refine kS h ?_ ?_ <;> intro b3 h
 refine kt b3 (Xag (Xae (Xax (Xap (Xac ?_)))))
 iterate 3 refine kO hT hC ?_
 refine Vc.nil (Xas (Xae (Xac ?_)))
 refine kO hT hC ?_
 refine kQ hT hC h fun h => ?_
 refine kO hT hC ?_
 exact Vc.nil kG
 exact kf b3 (Xar (Xa1 ku))
 refine Xae (Xad ?_)
 iterate 2 refine kO hT hC ?_
 exact Vc.nil (Xah kR)
def Ycb (r : ByteArray) : AV := .sv (.str r)
def Yca (r : ByteArray) : Xbg := []
theorem Yef {p0 p1 r} (h : Xn6 p0 p1 = some r) : AC Try.prog 149 [.sv (.int .i64 p0), .sv (.int .i64 p1)] [] (Ycb r) (Yca r) := by
 refine Xaf hT Try.func149 rfl fun C hC => ?_
 unfold Xn6 at h
 refine Xad ?_
 refine kO hT hC ?_
 refine kN ?_
 refine kO hT hC ?_
 obtain ⟨hq, h⟩ := Xaw h
 refine Yjv hT hC rfl rfl rfl rfl ⟨hq.1, hq.2.1, hq.2.2, by decide⟩ ?_
 refine kO hT hC ?_
 refine Vc.nil (Xax (Xad ?_))
 iterate 3 refine kO hT hC ?_
 refine Vc.nil ?_
 refine kL [0,5,6] [128] [_,_,_] [_] ?_
 refine kX h (fun v2 => ([(0, .sv (.int .i64 v2.1)), (6, .sv (.int .i64 v2.2.1))], [(128, some (.ints .u8 v2.2.2))])) (fun v4 => ([(0, .any), (6, .any)], [(128, some (.ints .u8 v4))])) (kW hC []) (fun v2 s h => ?_) fun v4 h => ?_
 unfold Xir at h
 refine Xax (Xad ?_)
 iterate 2 refine kO hT hC ?_
 refine Vc.nil ?_
 refine kS h ?_ ?_ <;> intro b3 h
 refine kt b3 (Xag (Xae (Xax (Xap (Xad ?_)))))
 iterate 6 refine kO hT hC ?_
 iterate 2 refine kQ hT hC h fun h => ?_
 refine Vc.nil (Xac ?_)
 refine kO hT hC ?_
 refine kQ hT hC h fun h => ?_
 refine kO hT hC ?_
 refine Vc.nil (Xas (Xae (Xac ?_)))
 iterate 3 refine kO hT hC ?_
 exact Vc.nil kG
 exact kf b3 (Xar (Xa1 ku))
 refine Xae (Xad ?_)
 iterate 3 refine kO hT hC ?_
 exact Vc.nil (Xah kR)
def Yh0 (r : ByteArray) : AV := .sv (.str r)
def Yhz (r : ByteArray) : Xbg := []
theorem Xly {p0 r} (h : Xlh p0 = some r) : AC Try.prog 116 [.sv (.int .i64 p0)] [] (Yh0 r) (Yhz r) := by
 refine Xaf hT Try.func116 rfl fun C hC => ?_
 unfold Xlh at h
 refine Xad ?_
 refine kO hT hC ?_
 refine kN ?_
 iterate 4 refine kO hT hC ?_
 refine kC hC [] Try.call150 h (fun _ => Xvt) fun q1 h => ?_
 iterate 2 refine kO hT hC ?_
 refine kC hC [] Try.call149 h (fun _ => Yef) fun q2 h => ?_
 refine kO hT hC ?_
 exact Vc.nil (Xah kR)
def Yb5 (r : (ByteArray × Bool)) : AV := .tup [.sv (.str r.1), .sv (.bool r.2)]
def Yb4 (r : (ByteArray × Bool)) : Xbg := []
theorem Xt6 {p0 r} (h : Xlw p0 = some r) : AC Try.prog 135 [.sv (.int .i64 p0)] [] (Yb5 r) (Yb4 r) := by
 refine Xaf hT Try.func135 rfl fun C hC => ?_
 unfold Xlw at h
 refine Xad ?_
 iterate 2 refine kO hT hC ?_
 refine Vc.nil (Xax (Xad ?_))
 refine kO hT hC ?_
 refine kC hC [] Try.call53 h (fun _ => Xaj) fun q1 h => ?_
 refine kO hT hC ?_
 refine Vc.nil ?_
 refine kS h ?_ ?_ <;> intro b1 h
 refine kt b1 (Xad ?_)
 iterate 2 refine kO hT hC ?_
 exact Vc.nil (Xah (Xa5 kR))
 refine kf b1 (Xag (Xae (Xad ?_)))
 refine kO hT hC ?_
 refine kC hC [] Try.call116 h (fun _ => Xly) fun q2 h => ?_
 iterate 2 refine kO hT hC ?_
 exact Vc.nil (Xah kR)
def Xzz (r : Int) : AV := .sv (.int .i64 r)
def Xzy (r : Int) : Xbg := []
theorem Yb6 {p0 r} (h : Xjr p0 = some r) : AC Try.prog 94 [.sv (.int .i64 p0)] [] (Xzz r) (Xzy r) := by
 refine Xaf hT Try.func94 rfl fun C hC => ?_
 unfold Xjr at h
 refine Xad ?_
 refine kO hT hC ?_
 refine kN ?_
 refine kO hT hC ?_
 refine kC hC [] Try.call135 h (fun _ => Xt6) fun q1 h => ?_
 iterate 5 refine kO hT hC ?_
 refine kN ?_
 iterate 3 refine kO hT hC ?_
 exact Vc.nil (Xah kR)
def Xtm (r : (Int × Int)) : AV := .tup [.sv (.int .i64 r.1), .sv (.int .i64 r.2)]
def Xtl (r : (Int × Int)) : Xbg := []
theorem Xvc {p0 p1 r} (h : Xg6 p0 p1 = some r) : AC Try.prog 55 [.sv (.ints .i64 p0), .agg [.sv (.ints .i64 p1.Above), .sv (.ints .i64 p1.Left), .sv (.int .i64 p1.Corner)]] [] (Xtm r) (Xtl r) := by
 refine Xaf hT Try.func55 rfl fun C hC => ?_
 unfold Xg6 at h
 refine Xad ?_
 iterate 3 refine kO hT hC ?_
 refine Vc.nil (Xax ?_)
 refine kL [0,3] [48] [_,_] [_] ?_
 refine kA h (fun v1 => ([(17, .sv (.bool v1))], [])) (fun v1 h => ?_) fun v1 h => ?_
 refine Xac ?_
 refine kO hT hC ?_
 refine kC hC [] Try.call93 h (fun _ => Xqc) fun q2 h => ?_
 iterate 2 refine kO hT hC ?_
 refine kS h ?_ ?_ <;> intro b1 h
 refine kI hT hC (kn b1) ?_
 refine kE hC (kn b1) [] Try.call52 h (fun _ => Xbs) fun q3 h => ?_
 refine kI hT hC (kn b1) ?_
 refine kP hC false (kn b1) ?_
 exact Vc.nil kM
 iterate 3 refine kF hC (kn b1) ?_
 refine kP hC true (kn b1) ?_
 exact Vc.nil kM
 refine kS h ?_ ?_ <;> intro b2 h
 refine kt b2 (Xad ?_)
 iterate 2 refine kO hT hC ?_
 exact Vc.nil (Xah (Xa5 kR))
 refine kf b2 (Xag (Xae (Xad ?_)))
 iterate 2 refine kO hT hC ?_
 refine Vc.nil (Xax (Xad ?_))
 refine kO hT hC ?_
 refine Vc.nil ?_
 refine kL [0,3,6,7,8] [48] [_,_,_,_,_] [_] ?_
 refine kX h (fun v16 => ([(6, .sv (.int .i64 v16.1)), (7, .sv (.int .i64 v16.2.1)), (8, .sv (.int .i64 v16.2.2))], [])) (fun v23 => ([(6, .sv (.int .i64 v23.1)), (7, .sv (.int .i64 v23.2)), (0, .any), (3, .any), (8, .any)], [(48, none)])) (kW hC []) (fun v16 s h => ?_) fun v23 h => ?_
 unfold Xgm at h
 refine Xax (Xad ?_)
 iterate 2 refine kO hT hC ?_
 refine Vc.nil ?_
 refine kS h ?_ ?_ <;> intro b12 h
 refine kt b12 (Xag (Xae ?_))
 refine kL [0,3,6,7,8] [48] [_,_,_,_,_] [_] ?_
 refine kA h (fun v24 => ([(6, .sv (.int .i64 v24.1)), (7, .sv (.int .i64 v24.2))], [])) (fun v24 h => ?_) fun v24 h => ?_
 refine Xap (Xad ?_)
 iterate 3 refine kO hT hC ?_
 refine kC hC [(16, 400)] Try.call58 h (fun _ => Xl4) fun q25 h => ?_
 refine kC hC [] Try.call59 h (fun _ => Xst) fun q26 h => ?_
 refine kO hT hC ?_
 refine kC hC [] Try.call94 h (fun _ => Yb6) fun q27 h => ?_
 iterate 2 refine kO hT hC ?_
 refine Vc.nil ?_
 refine kL [0,3,6,7,8,9] [48] [_,_,_,_,_,_] [_] ?_
 refine kA h (fun v28 => ([(36, .sv (.bool v28))], [])) (fun v28 h => ?_) fun v28 h => ?_
 refine Xac ?_
 iterate 3 refine kO hT hC ?_
 refine kS h ?_ ?_ <;> intro b13 h
 iterate 3 refine kF hC b13 ?_
 refine kP hC true b13 ?_
 exact Vc.nil kM
 iterate 3 refine kI hT hC b13 ?_
 refine kP hC false b13 ?_
 exact Vc.nil kM
 refine kS h ?_ ?_ <;> intro b14 h
 refine kt b14 (Xac ?_)
 iterate 4 refine kO hT hC ?_
 exact Vc.nil (Xas kM)
 exact kf b14 (Xag (Xas kM))
 refine Xac ?_
 iterate 3 refine kO hT hC ?_
 exact Vc.nil kG
 exact kf b12 (Xar (Xa1 ku))
 refine Xae (Xad ?_)
 iterate 4 refine kO hT hC ?_
 exact Vc.nil (Xah kR)
def Xvv (r : (List Int)) : AV := .own 16
def Xvu (r : (List Int)) : Xbg := [(16, .ints .i64 r)]
theorem Xps {p0 p1 r} (h : Xfb p0 p1 = some r) : AC Try.prog 57 [.sv (.ints .i64 p0), .sv (.ints .i64 p1)] [] (Xvv r) (Xvu r) := by
 refine Xaf hT Try.func57 rfl fun C hC => ?_
 unfold Xfb at h
 refine Xad ?_
 refine kO hT hC ?_
 refine kN ?_
 iterate 2 refine kO hT hC ?_
 refine Vc.nil (Xax (Xad ?_))
 iterate 3 refine kO hT hC ?_
 refine Vc.nil ?_
 refine kL [1,5,9,10,11] [128] [_,_,_,_,_] [_] ?_
 refine kX h (fun v2 => ([(11, .sv (.int .i64 v2.1))], [(128, some (.ints .i64 v2.2))])) (fun v4 => ([(1, .any), (9, .any), (10, .any), (11, .any)], [(128, some (.ints .i64 v4))])) (kW hC []) (fun v2 s h => ?_) fun v4 h => ?_
 unfold Xhk at h
 refine Xad ?_
 refine kO hT hC ?_
 refine Vc.nil (Xax ?_)
 refine kS h ?_ ?_ <;> intro b3 h
 refine kt b3 (Xag (Xae (Xax (Xap (Xad ?_)))))
 refine kO hT hC ?_
 refine kQ hT hC h fun h => ?_
 iterate 3 refine kO hT hC ?_
 refine Vc.nil (Xac ?_)
 iterate 4 refine kO hT hC ?_
 refine kQ hT hC h fun h => ?_
 iterate 3 refine kO hT hC ?_
 refine kT hT hC h fun h => ?_
 refine kO hT hC ?_
 refine Vc.nil (Xas (Xae (Xac ?_)))
 iterate 2 refine kO hT hC ?_
 refine Vc.nil ?_
 obtain rfl := kj h
 exact Yfr (kW hC [(128, 384)])
 exact kf b3 (Xar (Xa1 ku))
 refine Xae (Xad ?_)
 iterate 2 refine kO hT hC ?_
 refine Vc.nil (Xah ?_)
 obtain rfl := kj h
 exact Xel (τ := ⟨[(4, .own 16)], [(16, some (.ints .i64 v4))]⟩) (kW hC [(16, 128)]) rfl ⟨rfl, trivial⟩
def Xui (r : (List Int)) : AV := .own 16
def Xuh (r : (List Int)) : Xbg := [(16, .ints .i64 r)]
theorem Xn3 {p0 r} (h : Xfn p0 = some r) : AC Try.prog 136 [.sv (.int .i64 p0)] [] (Xui r) (Xuh r) := by
 refine Xaf hT Try.func136 rfl fun C hC => ?_
 unfold Xfn at h
 refine Xad ?_
 refine kO hT hC ?_
 refine kN ?_
 iterate 2 refine kO hT hC ?_
 refine Vc.nil (Xax (Xad ?_))
 refine kO hT hC ?_
 refine Vc.nil ?_
 refine kL [0,3,4] [128] [_,_,_] [_] ?_
 refine kX h (fun v16 => ([(4, .sv (.int .i64 v16.1))], [(128, some (.ints .i64 v16.2))])) (fun v32 => ([(0, .any), (4, .any)], [(128, some (.ints .i64 v32))])) (kW hC []) (fun v16 s h => ?_) fun v32 h => ?_
 unfold Xfs at h
 refine Xax (Xad ?_)
 iterate 5 refine kO hT hC ?_
 refine Vc.nil ?_
 refine kS h ?_ ?_ <;> intro b27 h
 refine kt b27 (Xag (Xae (Xax (Xap (Xad ?_)))))
 refine kO hT hC ?_
 refine Vc.nil ?_
 refine kL [0,3,4,5] [128] [_,_,_,_] [_] ?_
 refine kX h (fun v37 => ([(5, .sv (.int .i64 v37.1))], [(128, some (.ints .i64 v37.2))])) (fun v42 => ([(5, .any)], [(128, some (.ints .i64 v42))])) (kW hC []) (fun v37 s h => ?_) fun v42 h => ?_
 unfold Xip at h
 refine Xax (Xad ?_)
 iterate 3 refine kO hT hC ?_
 refine Vc.nil ?_
 refine kS h ?_ ?_ <;> intro b36 h
 refine kt b36 (Xag (Xae ?_))
 refine kL [0,3,4,5] [128] [_,_,_,_] [_] ?_
 refine kA h (fun v43 => ([], [(128, some (.ints .i64 v43))])) (fun v43 h => ?_) fun v43 h => ?_
 refine Xap (Xad ?_)
 iterate 2 refine kO hT hC ?_
 refine Vc.nil ?_
 refine kL [0,3,4,5,6] [128] [_,_,_,_,_] [_] ?_
 refine kA h (fun v44 => ([(6, .sv (.int .i64 v44))], [])) (fun v44 h => ?_) fun v44 h => ?_
 refine Xad ?_
 refine kO hT hC ?_
 refine kQ hT hC h fun h => ?_
 refine kO hT hC ?_
 refine Vc.nil ?_
 refine kS h ?_ ?_ <;> intro b37 h
 refine kt b37 (Xac ?_)
 iterate 4 refine kO hT hC ?_
 exact Vc.nil kM
 exact kf b37 (Xag kM)
 refine Xad ?_
 iterate 4 refine kO hT hC ?_
 refine Vc.nil ?_
 refine kL [0,3,4,5,6,7] [128] [_,_,_,_,_,_] [_] ?_
 refine kA h (fun v45 => ([(38, .sv (.bool v45))], [])) (fun v45 h => ?_) fun v45 h => ?_
 refine Xac ?_
 iterate 4 refine kO hT hC ?_
 refine kS h ?_ ?_ <;> intro b38 h
 iterate 3 refine kI hT hC b38 ?_
 refine kP hC true b38 ?_
 exact Vc.nil kM
 iterate 3 refine kF hC b38 ?_
 refine kP hC false b38 ?_
 exact Vc.nil kM
 refine kS h ?_ ?_ <;> intro b39 h
 refine kt b39 (Xac ?_)
 iterate 7 refine kO hT hC ?_
 refine kT hT hC h fun h => ?_
 refine kO hT hC ?_
 refine Vc.nil (Xas ?_)
 obtain rfl := kj h
 exact Xhc (kW hC [(128, 736)])
 exact kf b39 (Xag (Xas kM))
 refine Xac ?_
 iterate 3 refine kO hT hC ?_
 exact Vc.nil kG
 exact kf b36 (Xar (Xa1 ku))
 refine Xas (Xae (Xac ?_))
 iterate 3 refine kO hT hC ?_
 exact Vc.nil kG
 exact kf b27 (Xar (Xa1 ku))
 refine Xae (Xad ?_)
 iterate 2 refine kO hT hC ?_
 refine Vc.nil (Xah ?_)
 obtain rfl := kj h
 exact Xel (τ := ⟨[(2, .own 16)], [(16, some (.ints .i64 v32))]⟩) (kW hC [(16, 128)]) rfl ⟨rfl, trivial⟩
def Xxg (r : ((List Int) × Bool)) : AV := .tup [.own 16, .sv (.bool r.2)]
def Xxf (r : ((List Int) × Bool)) : Xbg := [(16, .ints .i64 r.1)]
theorem Xl6 {p0 p1 r} (h : Xfz p0 p1 = some r) : AC Try.prog 95 [.sv (.int .i64 p0), .sv (.ints .i64 p1)] [] (Xxg r) (Xxf r) := by
 refine Xaf hT Try.func95 rfl fun C hC => ?_
 unfold Xfz at h
 refine Xad ?_
 iterate 2 refine kO hT hC ?_
 refine kN ?_
 iterate 2 refine kO hT hC ?_
 refine Vc.nil (Xax ?_)
 refine kL [0,1,6] [144] [_,_,_] [_] ?_
 refine kA h (fun v1 => ([(23, .sv (.bool v1))], [])) (fun v1 h => ?_) fun v1 h => ?_
 refine Xac ?_
 iterate 3 refine kO hT hC ?_
 refine kS h ?_ ?_ <;> intro b1 h
 iterate 2 refine kI hT hC b1 ?_
 refine kP hC true b1 ?_
 refine kO hT hC ?_
 refine kS h ?_ ?_ <;> intro b2 h
 iterate 6 refine kF hC b2 ?_
 refine kP hC true b2 ?_
 exact Vc.nil kM
 iterate 6 refine kI hT hC b2 ?_
 refine kP hC false b2 ?_
 exact Vc.nil kM
 iterate 2 refine kF hC b1 ?_
 refine kP hC false b1 ?_
 refine kO hT hC ?_
 iterate 6 refine kI hT hC rfl ?_
 refine kO hT hC ?_
 exact Vc.nil kM
 refine kS h ?_ ?_ <;> intro b3 h
 refine kt b3 (Xad ?_)
 iterate 3 refine kO hT hC ?_
 refine Vc.nil (Xah (Xa5 ?_))
 obtain rfl := kj h
 exact Xel (τ := ⟨[(4, .own 16), (5, .sv (.bool false))], [(16, some (.ints .i64 ([] : List Int)))]⟩) (kW hC [(16, 144)]) rfl ⟨rfl, trivial⟩
 refine kf b3 (Xag (Xae (Xax (Xad ?_))))
 refine kO hT hC ?_
 refine kC hC [(16, 416)] Try.call136 h (fun _ => Xn3) fun q2 h => ?_
 iterate 2 refine kO hT hC ?_
 refine Vc.nil ?_
 refine kL [1,6,26,27,28] [144,416] [_,_,_,_,_] [_,_] ?_
 refine kX h (fun v4 => ([(28, .sv (.int .i64 v4.1))], [(144, some (.ints .i64 v4.2))])) (fun v6 => ([(1, .any), (26, .any), (27, .any), (28, .any)], [(144, some (.ints .i64 v6)), (416, none)])) (kW hC []) (fun v4 s h => ?_) fun v6 h => ?_
 unfold Xil at h
 refine Xad ?_
 refine kO hT hC ?_
 refine Vc.nil (Xax ?_)
 refine kS h ?_ ?_ <;> intro b6 h
 refine kt b6 (Xag (Xae (Xax (Xap (Xad ?_)))))
 iterate 2 refine kQ hT hC h fun h => ?_
 refine kO hT hC ?_
 refine Vc.nil (Xac ?_)
 iterate 3 refine kO hT hC ?_
 refine kQ hT hC h fun h => ?_
 iterate 2 refine kO hT hC ?_
 refine kT hT hC h fun h => ?_
 refine kO hT hC ?_
 refine Vc.nil (Xas (Xae (Xac ?_)))
 iterate 2 refine kO hT hC ?_
 refine Vc.nil ?_
 obtain rfl := kj h
 exact Yfr (kW hC [(144, 608)])
 exact kf b6 (Xar (Xa1 ku))
 refine Xae (Xad ?_)
 iterate 3 refine kO hT hC ?_
 refine Vc.nil (Xah ?_)
 obtain rfl := kj h
 exact Xel (τ := ⟨[(4, .own 16), (5, .sv (.bool true))], [(16, some (.ints .i64 v6))]⟩) (kW hC [(16, 144)]) rfl ⟨rfl, trivial⟩
def Xzs (r : Int) : AV := .sv (.int .i64 r)
def Xzr (r : Int) : Xbg := []
theorem Xrw {p0 p1 r} (h : Xjq p0 p1 = some r) : AC Try.prog 166 [.sv (.int .i64 p0), .sv (.int .i64 p1)] [] (Xzs r) (Xzr r) := by
 refine Xaf hT Try.func166 rfl fun C hC => ?_
 unfold Xjq at h
 refine Xad ?_
 refine kO hT hC ?_
 refine Vc.nil (Xax ?_)
 refine kL [0,1] [] [_,_] [] ?_
 refine kA h (fun v1 => ([(13, .sv (.bool v1))], [])) (fun v1 h => ?_) fun v1 h => ?_
 refine Xac ?_
 refine kO hT hC ?_
 refine kC hC [] Try.call53 h (fun _ => Xaj) fun q2 h => ?_
 iterate 2 refine kO hT hC ?_
 refine kS h ?_ ?_ <;> intro b1 h
 refine kI hT hC (kn b1) ?_
 refine kE hC (kn b1) [] Try.call53 h (fun _ => Xaj) fun q3 h => ?_
 refine kI hT hC (kn b1) ?_
 refine kP hC false (kn b1) ?_
 exact Vc.nil kM
 iterate 3 refine kF hC (kn b1) ?_
 refine kP hC true (kn b1) ?_
 exact Vc.nil kM
 refine kS h ?_ ?_ <;> intro b2 h
 refine kt b2 (Xad ?_)
 refine kO hT hC ?_
 exact Vc.nil (Xah (Xa5 kR))
 refine kf b2 (Xag (Xae (Xad ?_)))
 iterate 4 refine kO hT hC ?_
 refine Vc.nil (Xax (Xad ?_))
 iterate 3 refine kO hT hC ?_
 refine kQ hT hC h fun h => ?_
 iterate 3 refine kO hT hC ?_
 refine kQ hT hC h fun h => ?_
 iterate 2 refine kO hT hC ?_
 refine kQ hT hC h fun h => ?_
 refine kO hT hC ?_
 refine Vc.nil ?_
 refine kS h ?_ ?_ <;> intro b3 h
 refine kt b3 (Xad ?_)
 refine kO hT hC ?_
 exact Vc.nil (Xah (Xa5 kR))
 refine kf b3 (Xag (Xae (Xad ?_)))
 refine kO hT hC ?_
 exact Vc.nil (Xah kR)
def Yel (r : (List Int)) : AV := .own 16
def Yek (r : (List Int)) : Xbg := [(16, .ints .i64 r)]
theorem Xwo {p0 r} (h : Xn7 p0 = some r) : AC Try.prog 137 [.sv (.ints .i64 p0)] [] (Yel r) (Yek r) := by
 refine Xaf hT Try.func137 rfl fun C hC => ?_
 unfold Xn7 at h
 refine Xad ?_
 refine kO hT hC ?_
 refine kN ?_
 obtain ⟨hq, h⟩ := Xaw h
 refine Yjv hT hC rfl rfl rfl rfl ⟨hq.1, hq.2.1, hq.2.2, by decide⟩ ?_
 refine kO hT hC ?_
 refine Vc.nil (Xax (Xad ?_))
 refine kO hT hC ?_
 refine Vc.nil ?_
 refine kL [0,3,12] [176] [_,_,_] [_] ?_
 refine kX h (fun v31 => ([(12, .sv (.int .i64 v31.1))], [(176, some (.ints .i64 v31.2))])) (fun v62 => ([(0, .any), (12, .any)], [(176, some (.ints .i64 v62))])) (kW hC []) (fun v31 s h => ?_) fun v62 h => ?_
 unfold Xo3 at h
 refine Xad ?_
 refine kO hT hC ?_
 refine Vc.nil (Xax ?_)
 refine kS h ?_ ?_ <;> intro b27 h
 refine kt b27 (Xag (Xae (Xax (Xap (Xad ?_)))))
 iterate 2 refine kO hT hC ?_
 refine kN ?_
 refine kO hT hC ?_
 refine Vc.nil ?_
 refine kL [0,3,4,12,15] [176] [_,_,_,_,_] [_] ?_
 refine kX h (fun v72 => ([(15, .sv (.int .i64 v72.1))], [(176, some (.ints .i64 v72.2))])) (fun v82 => ([(4, .any), (15, .any)], [(176, some (.ints .i64 v82))])) (kW hC []) (fun v72 s h => ?_) fun v82 h => ?_
 unfold Xo4 at h
 refine Xad ?_
 refine kO hT hC ?_
 refine Vc.nil (Xax ?_)
 refine kS h ?_ ?_ <;> intro b36 h
 refine kt b36 (Xag (Xae (Xax (Xap (Xad ?_)))))
 iterate 2 refine kO hT hC ?_
 refine kN ?_
 refine kO hT hC ?_
 refine Vc.nil ?_
 refine kL [0,3,4,5,12,15,18] [176] [_,_,_,_,_,_,_] [_] ?_
 refine kX h (fun v85 => ([(18, .sv (.int .i64 v85.1))], [(176, some (.ints .i64 v85.2))])) (fun v88 => ([(5, .any), (18, .any)], [(176, some (.ints .i64 v88))])) (kW hC []) (fun v85 s h => ?_) fun v88 h => ?_
 unfold Xis at h
 refine Xad ?_
 refine kO hT hC ?_
 refine Vc.nil (Xax ?_)
 refine kS h ?_ ?_ <;> intro b39 h
 refine kt b39 (Xag (Xae (Xax (Xap (Xad ?_)))))
 iterate 2 refine kO hT hC ?_
 refine Vc.nil ?_
 refine Xhu hm ?_
 iterate 10 refine kO hT hC ?_
 iterate 2 refine kQ hT hC h fun h => ?_
 iterate 2 refine kO hT hC ?_
 refine kC hC [] Try.call166 h (fun _ => Xrw) fun q89 h => ?_
 iterate 5 refine kO hT hC ?_
 refine kQ hT hC h fun h => ?_
 iterate 3 refine kO hT hC ?_
 iterate 2 refine kQ hT hC h fun h => ?_
 refine kD (Xas (Xae (Xac ?_)))
 iterate 2 refine kO hT hC ?_
 exact Vc.nil kG
 exact kf b39 (Xar (Xa1 ku))
 refine Xas (Xae (Xac ?_))
 iterate 2 refine kO hT hC ?_
 exact Vc.nil kG
 exact kf b36 (Xar (Xa1 ku))
 refine Xas (Xae (Xac ?_))
 iterate 2 refine kO hT hC ?_
 exact Vc.nil kG
 exact kf b27 (Xar (Xa1 ku))
 refine Xae (Xad ?_)
 obtain ⟨hq, h⟩ := Xaw h
 refine Yjv hT hC rfl rfl rfl rfl ⟨hq.1, hq.2.1, hq.2.2, by decide⟩ ?_
 refine kO hT hC ?_
 refine Vc.nil (Xax (Xad ?_))
 refine kO hT hC ?_
 refine Vc.nil ?_
 refine kL [3,7,50] [176,784] [_,_,_] [_,_] ?_
 refine kX h (fun v123 => ([(50, .sv (.int .i64 v123.1))], [(784, some (.ints .i64 v123.2))])) (fun v154 => ([(3, .any), (50, .any)], [(784, some (.ints .i64 v154)), (176, none)])) (kW hC []) (fun v123 s h => ?_) fun v154 h => ?_
 unfold Xnf at h
 refine Xad ?_
 refine kO hT hC ?_
 refine Vc.nil (Xax ?_)
 refine kS h ?_ ?_ <;> intro b66 h
 refine kt b66 (Xag (Xae (Xax (Xap (Xad ?_)))))
 iterate 2 refine kO hT hC ?_
 refine kN ?_
 refine kO hT hC ?_
 refine Vc.nil ?_
 refine kL [3,7,8,50,53] [176,784] [_,_,_,_,_] [_,_] ?_
 refine kX h (fun v164 => ([(53, .sv (.int .i64 v164.1))], [(784, some (.ints .i64 v164.2))])) (fun v174 => ([(8, .any), (53, .any)], [(784, some (.ints .i64 v174))])) (kW hC []) (fun v164 s h => ?_) fun v174 h => ?_
 unfold Xng at h
 refine Xad ?_
 refine kO hT hC ?_
 refine Vc.nil (Xax ?_)
 refine kS h ?_ ?_ <;> intro b75 h
 refine kt b75 (Xag (Xae (Xax (Xap (Xad ?_)))))
 iterate 2 refine kO hT hC ?_
 refine kN ?_
 refine kO hT hC ?_
 refine Vc.nil ?_
 refine kL [3,7,8,9,50,53,56] [176,784] [_,_,_,_,_,_,_] [_,_] ?_
 refine kX h (fun v177 => ([(56, .sv (.int .i64 v177.1))], [(784, some (.ints .i64 v177.2))])) (fun v180 => ([(9, .any), (56, .any)], [(784, some (.ints .i64 v180))])) (kW hC []) (fun v177 s h => ?_) fun v180 h => ?_
 unfold Xhb at h
 refine Xad ?_
 refine kO hT hC ?_
 refine Vc.nil (Xax ?_)
 refine kS h ?_ ?_ <;> intro b78 h
 refine kt b78 (Xag (Xae (Xax (Xap (Xad ?_)))))
 iterate 2 refine kO hT hC ?_
 refine Vc.nil ?_
 refine Xhu hm ?_
 iterate 10 refine kO hT hC ?_
 iterate 2 refine kQ hT hC h fun h => ?_
 iterate 2 refine kO hT hC ?_
 refine kC hC [] Try.call166 h (fun _ => Xrw) fun q181 h => ?_
 iterate 5 refine kO hT hC ?_
 iterate 2 refine kQ hT hC h fun h => ?_
 iterate 2 refine kO hT hC ?_
 iterate 2 refine kQ hT hC h fun h => ?_
 refine kD (Xas (Xae (Xac ?_)))
 iterate 2 refine kO hT hC ?_
 exact Vc.nil kG
 exact kf b78 (Xar (Xa1 ku))
 refine Xas (Xae (Xac ?_))
 iterate 2 refine kO hT hC ?_
 exact Vc.nil kG
 exact kf b75 (Xar (Xa1 ku))
 refine Xas (Xae (Xac ?_))
 iterate 2 refine kO hT hC ?_
 exact Vc.nil kG
 exact kf b66 (Xar (Xa1 ku))
 refine Xae (Xad ?_)
 iterate 2 refine kO hT hC ?_
 refine Vc.nil (Xah ?_)
 obtain rfl := kj h
 exact Xel (τ := ⟨[(2, .own 16)], [(16, some (.ints .i64 v154))]⟩) (kW hC [(16, 784)]) rfl ⟨rfl, trivial⟩
def Ybw (r : (List Int)) : AV := .own 16
def Ybv (r : (List Int)) : Xbg := [(16, .ints .i64 r)]
theorem Yd3 {p0 r} (h : Xns p0 = some r) : AC Try.prog 96 [.sv (.ints .i64 p0)] [] (Ybw r) (Ybv r) := by
 refine Xaf hT Try.func96 rfl fun C hC => ?_
 unfold Xns at h
 refine Xad ?_
 refine kO hT hC ?_
 refine Vc.nil (Xax (Xad ?_))
 refine kO hT hC ?_
 refine kC hC [] Try.call52 h (fun _ => Xbs) fun q1 h => ?_
 refine kO hT hC ?_
 refine Vc.nil ?_
 refine kS h ?_ ?_ <;> intro b1 h
 refine kt b1 (Xad ?_)
 iterate 2 refine kO hT hC ?_
 refine Vc.nil (Xah (Xa5 ?_))
 obtain rfl := kj h
 exact Xel (τ := ⟨[(2, .own 16)], [(16, some (.ints .i64 ([] : List Int)))]⟩) (kW hC [(16, 96)]) rfl ⟨rfl, trivial⟩
 refine kf b1 (Xag (Xae (Xad ?_)))
 refine kO hT hC ?_
 refine kC hC [(16, 128)] Try.call137 h (fun _ => Xwo) fun q2 h => ?_
 refine kO hT hC ?_
 refine Vc.nil (Xah ?_)
 obtain rfl := kj h
 exact Xel (τ := ⟨[(2, .own 16)], [(16, some (.ints .i64 q2))]⟩) (kW hC [(16, 128)]) rfl ⟨rfl, trivial⟩
def Xzu (r : Int) : AV := .sv (.int .i64 r)
def Xzt (r : Int) : Xbg := []
theorem Xne {p0 r} (h : Xf1 p0 = some r) : AC Try.prog 31 [.sv (.int .i64 p0)] [] (Xzu r) (Xzt r) := by
 refine Xaf hT Try.func31 rfl fun C hC => ?_
 unfold Xf1 at h
 refine Xad ?_
 refine kO hT hC ?_
 refine Vc.nil (Xax (Xad ?_))
 refine kO hT hC ?_
 refine kC hC [] Try.call53 h (fun _ => Xaj) fun q1 h => ?_
 refine kO hT hC ?_
 refine Vc.nil ?_
 refine kS h ?_ ?_ <;> intro b1 h
 refine kt b1 (Xad ?_)
 refine kO hT hC ?_
 exact Vc.nil (Xah (Xa5 kR))
 refine kf b1 (Xag (Xae (Xad ?_)))
 iterate 2 refine kO hT hC ?_
 iterate 3 refine kQ hT hC h fun h => ?_
 refine kO hT hC ?_
 iterate 2 refine kQ hT hC h fun h => ?_
 refine kO hT hC ?_
 exact Vc.nil (Xah kR)
def Xz9 (r : Int) : AV := .sv (.int .i64 r)
def Xz8 (r : Int) : Xbg := []
theorem Xr0 {p0 p1 r} (h : Xmc p0 p1 = some r) : AC Try.prog 138 [.sv (.int .i64 p0), .sv (.int .i64 p1)] [] (Xz9 r) (Xz8 r) := by
 refine Xaf hT Try.func138 rfl fun C hC => ?_
 unfold Xmc at h
 refine Xad ?_
 refine kO hT hC ?_
 refine Vc.nil (Xax (Xad ?_))
 iterate 2 refine kO hT hC ?_
 refine Vc.nil ?_
 refine kS h ?_ ?_ <;> intro b1 h
 refine kt b1 (Xad ?_)
 iterate 3 refine kO hT hC ?_
 exact Vc.nil (Xah (Xa5 kR))
 refine kf b1 (Xag (Xae (Xad ?_)))
 iterate 2 refine kO hT hC ?_
 exact Vc.nil (Xah kR)
def Xsk (r : Int) : AV := .sv (.int .i64 r)
def Xsj (r : Int) : Xbg := []
theorem Xts {p0 p1 r} (h : Xfx p0 p1 = some r) : AC Try.prog 97 [.sv (.int .i64 p0), .sv (.int .i64 p1)] [] (Xsk r) (Xsj r) := by
 refine Xaf hT Try.func97 rfl fun C hC => ?_
 unfold Xfx at h
 refine Xad ?_
 refine kO hT hC ?_
 refine Vc.nil (Xax ?_)
 refine kL [0,1] [] [_,_] [] ?_
 refine kA h (fun v1 => ([(13, .sv (.bool v1))], [])) (fun v1 h => ?_) fun v1 h => ?_
 refine Xac ?_
 refine kO hT hC ?_
 refine kC hC [] Try.call53 h (fun _ => Xaj) fun q2 h => ?_
 iterate 2 refine kO hT hC ?_
 refine kS h ?_ ?_ <;> intro b1 h
 refine kI hT hC (kn b1) ?_
 refine kE hC (kn b1) [] Try.call53 h (fun _ => Xaj) fun q3 h => ?_
 refine kI hT hC (kn b1) ?_
 refine kP hC false (kn b1) ?_
 exact Vc.nil kM
 iterate 3 refine kF hC (kn b1) ?_
 refine kP hC true (kn b1) ?_
 exact Vc.nil kM
 refine kS h ?_ ?_ <;> intro b2 h
 refine kt b2 (Xad ?_)
 refine kO hT hC ?_
 exact Vc.nil (Xah (Xa5 kR))
 refine kf b2 (Xag (Xae (Xad ?_)))
 refine kO hT hC ?_
 refine kC hC [] Try.call31 h (fun _ => Xne) fun q4 h => ?_
 refine kO hT hC ?_
 refine kN ?_
 refine kO hT hC ?_
 refine kC hC [] Try.call104 h (fun _ => Xqi) fun q5 h => ?_
 refine kO hT hC ?_
 refine kQ hT hC h fun h => ?_
 iterate 2 refine kO hT hC ?_
 refine kQ hT hC h fun h => ?_
 refine kO hT hC ?_
 refine kC hC [] Try.call138 h (fun _ => Xr0) fun q6 h => ?_
 refine kO hT hC ?_
 exact Vc.nil (Xah kR)
def Xxn (r : (List Int)) : AV := .own 16
def Xxm (r : (List Int)) : Xbg := [(16, .ints .i64 r)]
theorem Xqg {p0 r} (h : Xh2 p0 = some r) : AC Try.prog 98 [.sv (.int .i64 p0)] [] (Xxn r) (Xxm r) := by
 refine Xaf hT Try.func98 rfl fun C hC => ?_
 unfold Xh2 at h
 refine Xad ?_
 refine kO hT hC ?_
 refine kN ?_
 iterate 2 refine kO hT hC ?_
 refine Vc.nil (Xax (Xad ?_))
 refine kO hT hC ?_
 refine Vc.nil ?_
 refine kL [0,3,7] [96] [_,_,_] [_] ?_
 refine kX h (fun v7 => ([(7, .sv (.int .i64 v7.1))], [(96, some (.ints .i64 v7.2))])) (fun v14 => ([(0, .any), (7, .any)], [(96, some (.ints .i64 v14))])) (kW hC []) (fun v7 s h => ?_) fun v14 h => ?_
 unfold Xhl at h
 refine Xad ?_
 refine kO hT hC ?_
 refine Vc.nil (Xax ?_)
 refine kS h ?_ ?_ <;> intro b9 h
 refine kt b9 (Xag (Xae (Xax (Xap (Xad ?_)))))
 iterate 2 refine kO hT hC ?_
 refine kN ?_
 refine kO hT hC ?_
 refine Vc.nil ?_
 refine kL [0,3,4,7,10] [96] [_,_,_,_,_] [_] ?_
 refine kX h (fun v16 => ([(10, .sv (.int .i64 v16.1))], [(96, some (.ints .i64 v16.2))])) (fun v18 => ([(4, .any), (10, .any)], [(96, some (.ints .i64 v18))])) (kW hC []) (fun v16 s h => ?_) fun v18 h => ?_
 unfold Xlg at h
 refine Xad ?_
 refine kO hT hC ?_
 refine Vc.nil (Xax ?_)
 refine kS h ?_ ?_ <;> intro b12 h
 refine kt b12 (Xag (Xae (Xax (Xap (Xad ?_)))))
 iterate 2 refine kO hT hC ?_
 refine Vc.nil (Xac ?_)
 iterate 3 refine kO hT hC ?_
 refine kQ hT hC h fun h => ?_
 iterate 6 refine kO hT hC ?_
 refine kQ hT hC h fun h => ?_
 iterate 3 refine kO hT hC ?_
 refine kT hT hC h fun h => ?_
 refine kO hT hC ?_
 refine Vc.nil (Xas (Xae (Xac ?_)))
 iterate 2 refine kO hT hC ?_
 refine Vc.nil ?_
 obtain rfl := kj h
 exact Yfr (kW hC [(96, 432)])
 exact kf b12 (Xar (Xa1 ku))
 refine Xas (Xae (Xac ?_))
 iterate 2 refine kO hT hC ?_
 exact Vc.nil kG
 exact kf b9 (Xar (Xa1 ku))
 refine Xae (Xad ?_)
 iterate 2 refine kO hT hC ?_
 refine Vc.nil (Xah ?_)
 obtain rfl := kj h
 exact Xel (τ := ⟨[(2, .own 16)], [(16, some (.ints .i64 v14))]⟩) (kW hC [(16, 96)]) rfl ⟨rfl, trivial⟩
def Xvs (r : (List Int)) : AV := .own 16
def Xvr (r : (List Int)) : Xbg := [(16, .ints .i64 r)]
theorem Xpr {p0 r} (h : Xgp p0 = some r) : AC Try.prog 167 [.sv (.ints .i64 p0)] [] (Xvs r) (Xvr r) := by
 refine Xaf hT Try.func167 rfl fun C hC => ?_
 unfold Xgp at h
 refine Xad ?_
 refine kO hT hC ?_
 refine kN ?_
 iterate 2 refine kO hT hC ?_
 refine kT hT hC h fun h => ?_
 refine kO hT hC ?_
 refine Vc.nil (Xah ?_)
 obtain rfl := kj h
 exact Xel (τ := ⟨[(2, .own 16)], [(16, some (.ints .i64 (([] : List Int) ++ p0)))]⟩) (kW hC [(16, 80)]) rfl ⟨rfl, trivial⟩
def Xzg (r : (Int × Int × Int × Int)) : AV := .agg [.sv (.int .i64 r.1), .sv (.int .i64 r.2.1), .sv (.int .i64 r.2.2.1), .sv (.int .i64 r.2.2.2)]
def Xzf (r : (Int × Int × Int × Int)) : Xbg := []
theorem Xrq {p0 p1 p2 p3 r} (h : Xjk p0 p1 p2 p3 = some r) : AC Try.prog 140 [.sv (.int .i64 p0), .sv (.int .i64 p1), .sv (.int .i64 p2), .sv (.int .i64 p3)] [] (Xzg r) (Xzf r) := by
 refine Xaf hT Try.func140 rfl fun C hC => ?_
 unfold Xjk at h
 refine Xad ?_
 refine kO hT hC ?_
 refine kN ?_
 iterate 34 refine kO hT hC ?_
 exact Vc.nil (Xah kR)
def Xme (r : (List Int)) : AV := .own 16
def Xmd (r : (List Int)) : Xbg := [(16, .ints .i64 r)]
theorem Xmt {p0 r} (h : Xdc p0 = some r) : AC Try.prog 139 [.sv (.ints .i64 p0), .fn 140 []] [] (Xme r) (Xmd r) := by
 refine Xaf hT Try.func139 rfl fun C hC => ?_
 unfold Xdc at h
 refine Xad ?_
 refine kO hT hC ?_
 refine kN ?_
 refine kO hT hC ?_
 refine kC hC [(16, 208)] Try.call167 h (fun _ => Xpr) fun q1 h => ?_
 refine kO hT hC ?_
 refine Vc.nil (Xax (Xad ?_))
 refine kO hT hC ?_
 refine Vc.nil ?_
 refine kL [1,5,6] [208] [_,_,_] [_] ?_
 refine kX h (fun v4 => ([(6, .sv (.int .i64 v4.1))], [(208, some (.ints .i64 v4.2))])) (fun v7 => ([(6, .any)], [(208, some (.ints .i64 v7))])) (kW hC []) (fun v4 s h => ?_) fun v7 h => ?_
 unfold Xgw at h
 refine Xax (Xad ?_)
 iterate 2 refine kO hT hC ?_
 refine Vc.nil ?_
 refine kS h ?_ ?_ <;> intro b3 h
 refine kt b3 (Xag (Xae (Xax (Xap ?_))))
 refine Xgx hm ?_
 iterate 3 refine kO hT hC ?_
 iterate 2 refine kQ hT hC h fun h => ?_
 iterate 3 refine kO hT hC ?_
 iterate 2 refine kQ hT hC h fun h => ?_
 iterate 3 refine kO hT hC ?_
 iterate 2 refine kQ hT hC h fun h => ?_
 iterate 3 refine kO hT hC ?_
 iterate 2 refine kQ hT hC h fun h => ?_
 refine kC hC [] Try.call140 h (fun _ => Xrq) fun q8 h => ?_
 iterate 2 refine kO hT hC ?_
 refine kD ?_
 refine Xhu hm ?_
 iterate 4 refine kO hT hC ?_
 refine kQ hT hC h fun h => ?_
 refine Yq2 hT hC rfl rfl rfl rfl rfl rfl rfl rfl rfl ?_
 obtain ⟨hq, h⟩ := Xaw h
 refine Yox hT hC rfl rfl rfl rfl rfl rfl rfl rfl rfl ⟨⟨trivial, hq.1⟩, hq.2⟩ ?_
 refine kD (Xas (Xae (Xac ?_)))
 iterate 3 refine kO hT hC ?_
 exact Vc.nil kG
 exact kf b3 (Xar (Xa1 ku))
 refine Xae (Xax (Xad ?_))
 refine kO hT hC ?_
 refine Vc.nil ?_
 refine kL [1,5,46] [208] [_,_,_] [_] ?_
 refine kX h (fun v17 => ([(46, .sv (.int .i64 v17.1))], [(208, some (.ints .i64 v17.2))])) (fun v25 => ([(1, .any), (46, .any)], [(208, some (.ints .i64 v25))])) (kW hC []) (fun v17 s h => ?_) fun v25 h => ?_
 unfold Xf6 at h
 refine Xad ?_
 refine kO hT hC ?_
 refine Vc.nil (Xax ?_)
 refine kS h ?_ ?_ <;> intro b12 h
 refine kt b12 (Xag (Xae (Xax (Xap (Xad ?_)))))
 iterate 2 refine kO hT hC ?_
 refine Vc.nil ?_
 refine Xgx hm ?_
 iterate 3 refine kO hT hC ?_
 iterate 2 refine kQ hT hC h fun h => ?_
 iterate 3 refine kO hT hC ?_
 iterate 2 refine kQ hT hC h fun h => ?_
 iterate 3 refine kO hT hC ?_
 iterate 2 refine kQ hT hC h fun h => ?_
 iterate 3 refine kO hT hC ?_
 iterate 2 refine kQ hT hC h fun h => ?_
 refine kC hC [] Try.call140 h (fun _ => Xrq) fun q26 h => ?_
 iterate 2 refine kO hT hC ?_
 refine kD (Xad ?_)
 iterate 2 refine kO hT hC ?_
 refine Vc.nil ?_
 refine kL [1,5,8,46,70,71] [208] [_,_,_,_,_,_] [_] ?_
 refine kX h (fun v28 => ([(71, .sv (.int .i64 v28.1))], [(208, some (.ints .i64 v28.2))])) (fun v30 => ([(8, .any), (70, .any), (71, .any)], [(208, some (.ints .i64 v30))])) (kW hC []) (fun v28 s h => ?_) fun v30 h => ?_
 unfold Xf7 at h
 refine Xad ?_
 refine kO hT hC ?_
 refine Vc.nil (Xax ?_)
 refine kS h ?_ ?_ <;> intro b15 h
 refine kt b15 (Xag (Xae (Xax (Xap (Xad ?_)))))
 refine kO hT hC ?_
 obtain ⟨hq, h⟩ := Xaw h
 refine Yq3 hT hC rfl rfl rfl rfl rfl rfl rfl hq ?_
 iterate 2 refine kO hT hC ?_
 refine Vc.nil (Xac ?_)
 iterate 6 refine kO hT hC ?_
 iterate 2 refine kQ hT hC h fun h => ?_
 refine Vc.nil (Xas (Xae (Xac ?_)))
 iterate 2 refine kO hT hC ?_
 exact Vc.nil kG
 exact kf b15 (Xar (Xa1 ku))
 refine Xas (Xae (Xac ?_))
 iterate 2 refine kO hT hC ?_
 exact Vc.nil kG
 exact kf b12 (Xar (Xa1 ku))
 refine Xae (Xad ?_)
 iterate 2 refine kO hT hC ?_
 refine Vc.nil (Xah ?_)
 obtain rfl := kj h
 exact Xel (τ := ⟨[(4, .own 16)], [(16, some (.ints .i64 v25))]⟩) (kW hC [(16, 208)]) rfl ⟨rfl, trivial⟩
def Yd5 (r : (List Int)) : AV := .own 16
def Yd4 (r : (List Int)) : Xbg := [(16, .ints .i64 r)]
theorem Yge {p0 r} (h : Xqd p0 = some r) : AC Try.prog 99 [.sv (.ints .i64 p0)] [] (Yd5 r) (Yd4 r) := by
 refine Xaf hT Try.func99 rfl fun C hC => ?_
 unfold Xqd at h
 refine Xad ?_
 refine kO hT hC ?_
 refine Vc.nil (Xax (Xad ?_))
 refine kO hT hC ?_
 refine kC hC [] Try.call52 h (fun _ => Xbs) fun q1 h => ?_
 refine kO hT hC ?_
 refine Vc.nil ?_
 refine kS h ?_ ?_ <;> intro b1 h
 refine kt b1 (Xad ?_)
 iterate 2 refine kO hT hC ?_
 refine Vc.nil (Xah (Xa5 ?_))
 obtain rfl := kj h
 exact Xel (τ := ⟨[(2, .own 16)], [(16, some (.ints .i64 ([] : List Int)))]⟩) (kW hC [(16, 96)]) rfl ⟨rfl, trivial⟩
 refine kf b1 (Xag (Xae (Xad ?_)))
 refine kO hT hC ?_
 refine kC hC [(16, 128)] Try.call139 h (fun _ => Xmt) fun q2 h => ?_
 refine kO hT hC ?_
 refine Vc.nil (Xah ?_)
 obtain rfl := kj h
 exact Xel (τ := ⟨[(2, .own 16)], [(16, some (.ints .i64 q2))]⟩) (kW hC [(16, 128)]) rfl ⟨rfl, trivial⟩
def Xzk (r : Int) : AV := .sv (.int .i64 r)
def Xzj (r : Int) : Xbg := []
theorem Xrs {p0 r} (h : Xov p0 = some r) : AC Try.prog 168 [.sv (.int .i64 p0)] [] (Xzk r) (Xzj r) := by
 refine Xaf hT Try.func168 rfl fun C hC => ?_
 unfold Xov at h
 refine Xad ?_
 refine kO hT hC ?_
 refine Vc.nil (Xax (Xad ?_))
 refine kO hT hC ?_
 refine kC hC [] Try.call53 h (fun _ => Xaj) fun q1 h => ?_
 refine kO hT hC ?_
 refine Vc.nil ?_
 refine kS h ?_ ?_ <;> intro b1 h
 refine kt b1 (Xad ?_)
 refine kO hT hC ?_
 exact Vc.nil (Xah (Xa5 kR))
 refine kf b1 (Xag (Xae (Xad ?_)))
 refine kO hT hC ?_
 iterate 2 refine kQ hT hC h fun h => ?_
 refine kO hT hC ?_
 iterate 2 refine kQ hT hC h fun h => ?_
 iterate 2 refine kO hT hC ?_
 refine Vc.nil (Xax (Xap ?_))
 refine kL [3,4] [] [_,_] [] ?_
 refine kA h (fun v2 => ([(14, .sv (.bool v2))], [])) (fun v2 h => ?_) fun v2 h => ?_
 refine Xac ?_
 iterate 3 refine kO hT hC ?_
 refine kS h ?_ ?_ <;> intro b2 h
 iterate 2 refine kI hT hC b2 ?_
 refine kP hC true b2 ?_
 refine kO hT hC ?_
 exact Vc.nil kM
 iterate 2 refine kF hC b2 ?_
 refine kP hC false b2 ?_
 refine kO hT hC ?_
 exact Vc.nil kM
 refine kS h ?_ ?_ <;> intro b3 h
 refine kt b3 (Xad ?_)
 refine kO hT hC ?_
 exact Vc.nil (Xah (Xp3 (Xa5 kR)))
 refine kf b3 ?_
 refine kL [3,4] [] [_,_] [] ?_
 refine kA h (fun v3 => ([(21, .sv (.bool v3)), (3, .any), (4, .any)], [])) (fun v3 h => ?_) fun v3 h => ?_
 refine Xac ?_
 iterate 3 refine kO hT hC ?_
 refine kS h ?_ ?_ <;> intro b4 h
 iterate 2 refine kI hT hC b4 ?_
 refine kP hC true b4 ?_
 refine kO hT hC ?_
 exact Vc.nil kM
 iterate 2 refine kF hC b4 ?_
 refine kP hC false b4 ?_
 refine kO hT hC ?_
 exact Vc.nil kM
 refine kS h ?_ ?_ <;> intro b5 h
 refine kt b5 (Xad ?_)
 refine kO hT hC ?_
 exact Vc.nil (Xah (Xp3 (Xa5 kR)))
 refine kf b5 (Xag (Xas (Xae (Xad ?_))))
 refine kO hT hC ?_
 exact Vc.nil (Xah kR)
def Xxi (r : Int) : AV := .sv (.int .i64 r)
def Xxh (r : Int) : Xbg := []
theorem Xzq {p0 p1 r} (h : Xku p0 p1 = some r) : AC Try.prog 141 [.sv (.int .i64 p0), .sv (.int .i64 p1)] [] (Xxi r) (Xxh r) := by
 refine Xaf hT Try.func141 rfl fun C hC => ?_
 unfold Xku at h
 refine Xad ?_
 refine kO hT hC ?_
 refine Vc.nil (Xax ?_)
 refine kL [0,1] [] [_,_] [] ?_
 refine kA h (fun v1 => ([(13, .sv (.bool v1))], [])) (fun v1 h => ?_) fun v1 h => ?_
 refine Xac ?_
 refine kO hT hC ?_
 refine kC hC [] Try.call53 h (fun _ => Xaj) fun q2 h => ?_
 iterate 2 refine kO hT hC ?_
 refine kS h ?_ ?_ <;> intro b1 h
 refine kI hT hC (kn b1) ?_
 refine kE hC (kn b1) [] Try.call53 h (fun _ => Xaj) fun q3 h => ?_
 refine kI hT hC (kn b1) ?_
 refine kP hC false (kn b1) ?_
 exact Vc.nil kM
 iterate 3 refine kF hC (kn b1) ?_
 refine kP hC true (kn b1) ?_
 exact Vc.nil kM
 refine kS h ?_ ?_ <;> intro b2 h
 refine kt b2 (Xad ?_)
 refine kO hT hC ?_
 exact Vc.nil (Xah (Xa5 kR))
 refine kf b2 (Xag (Xae (Xad ?_)))
 iterate 9 refine kO hT hC ?_
 refine Vc.nil ?_
 refine Xgx hm ?_
 refine kO hT hC ?_
 refine kQ hT hC h fun h => ?_
 refine kO hT hC ?_
 refine kC hC [] Try.call168 h (fun _ => Xrs) fun q4 h => ?_
 iterate 2 refine kQ hT hC h fun h => ?_
 obtain ⟨hq, h⟩ := Xaw h
 refine Yq5 hT hC rfl rfl rfl rfl rfl rfl hq ?_
 refine kO hT hC ?_
 exact kD (Xah kR)
def Xso (r : Int) : AV := .sv (.int .i64 r)
def Xsn (r : Int) : Xbg := []
theorem Xt1 {p0 p1 p2 r} (h : Xf0 p0 p1 p2 = some r) : AC Try.prog 100 [.sv (.int .i64 p0), .sv (.int .i64 p1), .sv (.int .i64 p2)] [] (Xso r) (Xsn r) := by
 refine Xaf hT Try.func100 rfl fun C hC => ?_
 unfold Xf0 at h
 refine Xad ?_
 refine kO hT hC ?_
 refine Vc.nil (Xax ?_)
 refine kL [0,1,2] [] [_,_,_] [] ?_
 refine kA h (fun v1 => ([(20, .sv (.bool v1))], [])) (fun v1 h => ?_) fun v1 h => ?_
 refine Xac ?_
 refine kO hT hC ?_
 refine kC hC [] Try.call53 h (fun _ => Xaj) fun q2 h => ?_
 iterate 2 refine kO hT hC ?_
 refine kS h ?_ ?_ <;> intro b1 h
 refine kI hT hC (kn b1) ?_
 refine kE hC (kn b1) [] Try.call53 h (fun _ => Xaj) fun q3 h => ?_
 refine kI hT hC (kn b1) ?_
 refine kP hC false (kn b1) ?_
 refine kO hT hC ?_
 refine kS h ?_ ?_ <;> intro b2 h
 refine kI hT hC (kn b2) ?_
 refine kE hC (kn b2) [] Try.call53 h (fun _ => Xaj) fun q4 h => ?_
 refine kI hT hC (kn b2) ?_
 refine kP hC false (kn b2) ?_
 exact Vc.nil kM
 iterate 3 refine kF hC (kn b2) ?_
 refine kP hC true (kn b2) ?_
 exact Vc.nil kM
 iterate 3 refine kF hC (kn b1) ?_
 refine kP hC true (kn b1) ?_
 refine kO hT hC ?_
 iterate 3 refine kF hC rfl ?_
 refine kO hT hC ?_
 exact Vc.nil kM
 refine kS h ?_ ?_ <;> intro b3 h
 refine kt b3 (Xad ?_)
 refine kO hT hC ?_
 exact Vc.nil (Xah (Xa5 kR))
 refine kf b3 (Xag (Xae (Xad ?_)))
 refine kO hT hC ?_
 refine kQ hT hC h fun h => ?_
 refine kO hT hC ?_
 refine kQ hT hC h fun h => ?_
 refine kO hT hC ?_
 refine kN ?_
 refine kO hT hC ?_
 refine kC hC [] Try.call104 h (fun _ => Xqi) fun q5 h => ?_
 iterate 2 refine kO hT hC ?_
 refine kC hC [] Try.call141 h (fun _ => Xzq) fun q6 h => ?_
 iterate 2 refine kO hT hC ?_
 refine kQ hT hC h fun h => ?_
 iterate 2 refine kO hT hC ?_
 refine kQ hT hC h fun h => ?_
 refine kO hT hC ?_
 refine kC hC [] Try.call138 h (fun _ => Xr0) fun q7 h => ?_
 refine kO hT hC ?_
 exact Vc.nil (Xah kR)
def Xvk (r : ((List Int) × Bool)) : AV := .tup [.own 16, .sv (.bool r.2)]
def Xvj (r : ((List Int) × Bool)) : Xbg := [(16, .ints .i64 r.1)]
theorem Xpo {p0 p1 r} (h : Xe8 p0 p1 = some r) : AC Try.prog 56 [.sv (.ints .i64 p0), .agg [.sv (.bool p1.Key), .sv (.int .i64 p1.Qp), .sv (.bool p1.Large), .sv (.bool p1.Exact)]] [] (Xvk r) (Xvj r) := by
 refine Xaf hT Try.func56 rfl fun C hC => ?_
 unfold Xe8 at h
 refine Xad ?_
 iterate 3 refine kO hT hC ?_
 refine Vc.nil (Xax ?_)
 refine kL [0,3] [48] [_,_] [_] ?_
 refine kA h (fun v1 => ([(26, .sv (.bool v1))], [])) (fun v1 h => ?_) fun v1 h => ?_
 refine Xac ?_
 refine kO hT hC ?_
 refine kC hC [] Try.call52 h (fun _ => Xbs) fun q2 h => ?_
 iterate 2 refine kO hT hC ?_
 refine kS h ?_ ?_ <;> intro b1 h
 refine kI hT hC (kn b1) ?_
 refine kE hC (kn b1) [] Try.call27 h (fun _ => Xde) fun q3 h => ?_
 refine kI hT hC (kn b1) ?_
 refine kP hC false (kn b1) ?_
 exact Vc.nil kM
 iterate 3 refine kF hC (kn b1) ?_
 refine kP hC true (kn b1) ?_
 exact Vc.nil kM
 refine kS h ?_ ?_ <;> intro b2 h
 refine kt b2 (Xad ?_)
 iterate 3 refine kO hT hC ?_
 refine Vc.nil (Xah (Xa5 ?_))
 obtain rfl := kj h
 exact Xel (τ := ⟨[(4, .own 16), (5, .sv (.bool false))], [(16, some (.ints .i64 ([] : List Int)))]⟩) (kW hC [(16, 432)]) rfl ⟨rfl, trivial⟩
 refine kf b2 (Xag (Xae (Xax (Xad ?_))))
 iterate 2 refine kO hT hC ?_
 refine Vc.nil ?_
 refine kS h ?_ ?_ <;> intro b3 h
 refine kt b3 (Xad ?_)
 refine kO hT hC ?_
 refine kC hC [(16, 496)] Try.call95 h (fun _ => Xl6) fun q4 h => ?_
 iterate 4 refine kO hT hC ?_
 refine Vc.nil (Xah (Xa5 ?_))
 obtain rfl := kj h
 exact Xel (τ := ⟨[(4, .own 16), (5, .sv (.bool q4.2))], [(16, some (.ints .i64 q4.1))]⟩) (kW hC [(16, 496)]) rfl ⟨rfl, trivial⟩
 refine kf b3 (Xag (Xae (Xax (Xad ?_))))
 iterate 2 refine kO hT hC ?_
 refine Vc.nil ?_
 refine kS h ?_ ?_ <;> intro b4 h
 refine kt b4 (Xad ?_)
 refine kO hT hC ?_
 refine kC hC [(16, 592)] Try.call96 h (fun _ => Yd3) fun q5 h => ?_
 refine kO hT hC ?_
 refine Vc.nil (Xax (Xad ?_))
 iterate 3 refine kO hT hC ?_
 refine Vc.nil ?_
 refine kL [3,6,38,39,40] [48,592] [_,_,_,_,_] [_,_] ?_
 refine kX h (fun v8 => ([(40, .sv (.int .i64 v8.1))], [(592, some (.ints .i64 v8.2))])) (fun v11 => ([(3, .any), (38, .any), (39, .any), (40, .any)], [(592, some (.ints .i64 v11)), (48, none)])) (kW hC []) (fun v8 s h => ?_) fun v11 h => ?_
 unfold Xhj at h
 refine Xad ?_
 refine kO hT hC ?_
 refine Vc.nil (Xax ?_)
 refine kS h ?_ ?_ <;> intro b7 h
 refine kt b7 (Xag (Xae (Xax (Xap (Xad ?_)))))
 refine kO hT hC ?_
 iterate 2 refine kQ hT hC h fun h => ?_
 iterate 2 refine kO hT hC ?_
 refine Vc.nil (Xac ?_)
 iterate 5 refine kO hT hC ?_
 refine kC hC [] Try.call97 h (fun _ => Xts) fun q12 h => ?_
 iterate 2 refine kQ hT hC h fun h => ?_
 refine Vc.nil (Xas (Xae (Xac ?_)))
 iterate 2 refine kO hT hC ?_
 exact Vc.nil kG
 exact kf b7 (Xar (Xa1 ku))
 refine Xae (Xad ?_)
 refine kO hT hC ?_
 refine kC hC [(16, 864)] Try.call95 h (fun _ => Xl6) fun q14 h => ?_
 iterate 4 refine kO hT hC ?_
 refine Vc.nil (Xah (Xa5 ?_))
 obtain rfl := kj h
 exact Xel (τ := ⟨[(4, .own 16), (5, .sv (.bool q14.2))], [(16, some (.ints .i64 q14.1))]⟩) (kW hC [(16, 864)]) rfl ⟨rfl, trivial⟩
 refine kf b4 (Xag (Xae (Xad ?_)))
 iterate 2 refine kO hT hC ?_
 refine Vc.nil (Xax (Xad ?_))
 refine kO hT hC ?_
 refine Vc.nil ?_
 refine kL [0,3,9,58] [48,912] [_,_,_,_] [_,_] ?_
 refine kX h (fun v32 => ([(58, .sv (.int .i64 v32.1))], [(912, some (.ints .i64 v32.2))])) (fun v50 => ([(0, .any), (3, .any), (58, .any)], [(912, some (.ints .i64 v50)), (48, none)])) (kW hC []) (fun v32 s h => ?_) fun v50 h => ?_
 unfold Xjm at h
 refine Xad ?_
 refine kO hT hC ?_
 refine Vc.nil (Xax ?_)
 refine kS h ?_ ?_ <;> intro b22 h
 refine kt b22 (Xag (Xae (Xax (Xap (Xad ?_)))))
 iterate 2 refine kO hT hC ?_
 refine kN ?_
 iterate 2 refine kO hT hC ?_
 refine Vc.nil (Xax (Xad ?_))
 refine kO hT hC ?_
 refine kC hC [(16, 1008)] Try.call98 h (fun _ => Xqg) fun q51 h => ?_
 iterate 2 refine kO hT hC ?_
 refine Vc.nil ?_
 refine kL [0,3,9,11,58,63,64,65] [48,912,976,1008] [_,_,_,_,_,_,_,_] [_,_,_,_] ?_
 refine kX h (fun v53 => ([(65, .sv (.int .i64 v53.1))], [(976, some (.ints .i64 v53.2))])) (fun v55 => ([(63, .any), (64, .any), (65, .any)], [(976, some (.ints .i64 v55)), (1008, none)])) (kW hC []) (fun v53 s h => ?_) fun v55 h => ?_
 unfold Xep at h
 refine Xad ?_
 refine kO hT hC ?_
 refine Vc.nil (Xax ?_)
 refine kS h ?_ ?_ <;> intro b25 h
 refine kt b25 (Xag (Xae (Xax (Xap (Xad ?_)))))
 iterate 2 refine kQ hT hC h fun h => ?_
 refine kO hT hC ?_
 refine Vc.nil (Xac ?_)
 iterate 3 refine kO hT hC ?_
 refine kQ hT hC h fun h => ?_
 iterate 2 refine kO hT hC ?_
 refine kT hT hC h fun h => ?_
 refine kO hT hC ?_
 refine Vc.nil (Xas (Xae (Xac ?_)))
 iterate 2 refine kO hT hC ?_
 refine Vc.nil ?_
 obtain rfl := kj h
 exact Yfr (kW hC [(976, 1200)])
 exact kf b25 (Xar (Xa1 ku))
 refine Xae (Xad ?_)
 refine kO hT hC ?_
 refine kC hC [(16, 1248)] Try.call99 h (fun _ => Yge) fun q57 h => ?_
 refine kO hT hC ?_
 refine Vc.nil (Xax (Xad ?_))
 iterate 3 refine kO hT hC ?_
 refine Vc.nil ?_
 refine kL [0,3,9,14,58,79,80,81] [48,912,1248] [_,_,_,_,_,_,_,_] [_,_,_] ?_
 refine kX h (fun v60 => ([(81, .sv (.int .i64 v60.1))], [(1248, some (.ints .i64 v60.2))])) (fun v63 => ([(79, .any), (80, .any), (81, .any)], [(1248, some (.ints .i64 v63))])) (kW hC []) (fun v60 s h => ?_) fun v63 h => ?_
 unfold Xgn at h
 refine Xad ?_
 refine kO hT hC ?_
 refine Vc.nil (Xax ?_)
 refine kS h ?_ ?_ <;> intro b28 h
 refine kt b28 (Xag (Xae (Xax (Xap (Xad ?_)))))
 refine kO hT hC ?_
 iterate 2 refine kQ hT hC h fun h => ?_
 iterate 2 refine kO hT hC ?_
 refine Vc.nil (Xac ?_)
 iterate 6 refine kO hT hC ?_
 refine kC hC [] Try.call100 h (fun _ => Xt1) fun q64 h => ?_
 iterate 2 refine kQ hT hC h fun h => ?_
 refine Vc.nil (Xas (Xae (Xac ?_)))
 iterate 2 refine kO hT hC ?_
 exact Vc.nil kG
 exact kf b28 (Xar (Xa1 ku))
 refine Xae (Xad ?_)
 refine kO hT hC ?_
 refine kC hC [(16, 1552)] Try.call95 h (fun _ => Xl6) fun q66 h => ?_
 iterate 5 refine kO hT hC ?_
 refine Vc.nil (Xac ?_)
 iterate 2 refine kO hT hC ?_
 refine kT hT hC h fun h => ?_
 refine kO hT hC ?_
 refine Vc.nil (Xas (Xae (Xac ?_)))
 iterate 2 refine kO hT hC ?_
 refine Vc.nil ?_
 obtain rfl := kj h
 exact Yfr (kW hC [(912, 1632)])
 exact kf b22 (Xar (Xa1 ku))
 refine Xae (Xad ?_)
 iterate 3 refine kO hT hC ?_
 refine Vc.nil (Xah ?_)
 obtain rfl := kj h
 exact Xel (τ := ⟨[(4, .own 16), (5, .sv (.bool true))], [(16, some (.ints .i64 v50))]⟩) (kW hC [(16, 912)]) rfl ⟨rfl, trivial⟩
def Xtv (r : (List Int)) : AV := .own 16
def Xtu (r : (List Int)) : Xbg := [(16, .ints .i64 r)]
theorem Xdj {p0 p1 p2 r} (h : Xbq p0 p1 p2 = some r) : AC Try.prog 60 [.agg [.sv (.int .i64 p0.Wide), .sv (.int .i64 p0.High), .sv (.str p0.Dots)], .sv (.int .i64 p1), .sv (.int .i64 p2)] [] (Xtv r) (Xtu r) := by
 refine Xaf hT Try.func60 rfl fun C hC => ?_
 unfold Xbq at h
 refine Xad ?_
 iterate 2 refine kO hT hC ?_
 refine kN ?_
 obtain ⟨hq, h⟩ := Xaw h
 refine Yjv hT hC rfl rfl rfl rfl ⟨hq.1, hq.2.1, hq.2.2, by decide⟩ ?_
 refine kO hT hC ?_
 refine Vc.nil (Xax (Xad ?_))
 refine kO hT hC ?_
 refine Vc.nil ?_
 refine kL [1,2,3,7,11] [48,160] [_,_,_,_,_] [_,_] ?_
 refine kX h (fun v10 => ([(11, .sv (.int .i64 v10.1))], [(160, some (.ints .i64 v10.2))])) (fun v20 => ([(1, .any), (2, .any), (3, .any), (11, .any)], [(160, some (.ints .i64 v20)), (48, none)])) (kW hC []) (fun v10 s h => ?_) fun v20 h => ?_
 unfold Xd6 at h
 refine Xad ?_
 refine kO hT hC ?_
 refine Vc.nil (Xax ?_)
 refine kS h ?_ ?_ <;> intro b9 h
 refine kt b9 (Xag (Xae (Xax (Xap (Xad ?_)))))
 iterate 2 refine kO hT hC ?_
 refine kN ?_
 refine kO hT hC ?_
 refine Vc.nil ?_
 refine kL [1,2,3,7,8,11,14] [48,160] [_,_,_,_,_,_,_] [_,_] ?_
 refine kX h (fun v23 => ([(14, .sv (.int .i64 v23.1))], [(160, some (.ints .i64 v23.2))])) (fun v26 => ([(8, .any), (14, .any)], [(160, some (.ints .i64 v26))])) (kW hC []) (fun v23 s h => ?_) fun v26 h => ?_
 unfold Xd7 at h
 refine Xad ?_
 refine kO hT hC ?_
 refine Vc.nil (Xax ?_)
 refine kS h ?_ ?_ <;> intro b12 h
 refine kt b12 (Xag (Xae (Xax (Xap (Xad ?_)))))
 iterate 2 refine kO hT hC ?_
 refine Vc.nil (Xac ?_)
 iterate 8 refine kO hT hC ?_
 refine kC hC [] Try.call92 h (fun _ => Xii) fun q27 h => ?_
 refine kO hT hC ?_
 refine kT hT hC h fun h => ?_
 refine kO hT hC ?_
 refine Vc.nil (Xas (Xae (Xac ?_)))
 iterate 2 refine kO hT hC ?_
 refine Vc.nil ?_
 obtain rfl := kj h
 exact Yfr (kW hC [(160, 432)])
 exact kf b12 (Xar (Xa1 ku))
 refine Xas (Xae (Xac ?_))
 iterate 2 refine kO hT hC ?_
 exact Vc.nil kG
 exact kf b9 (Xar (Xa1 ku))
 refine Xae (Xad ?_)
 iterate 2 refine kO hT hC ?_
 refine Vc.nil (Xah ?_)
 obtain rfl := kj h
 exact Xel (τ := ⟨[(6, .own 16)], [(16, some (.ints .i64 v20))]⟩) (kW hC [(16, 160)]) rfl ⟨rfl, trivial⟩
def Xtx (r : Bool) : AV := .sv (.bool r)
def Xtw (r : Bool) : Xbg := []
theorem Xjn {p0 p1 r} (h : Xb7 p0 p1 = some r) : AC Try.prog 75 [.agg [.sv (.int .i64 p0.Wide), .sv (.int .i64 p0.High), .sv (.str p0.Dots)], .agg [.sv (.int .i64 p1.Left), .sv (.int .i64 p1.Top), .sv (.int .i64 p1.Wide), .sv (.int .i64 p1.High)]] [] (Xtx r) (Xtw r) := by
 refine Xaf hT Try.func75 rfl fun C hC => ?_
 unfold Xb7 at h
 refine Xad ?_
 iterate 3 refine kO hT hC ?_
 refine Vc.nil ?_
 refine kL [2,3,4] [32,48] [_,_,_] [_,_] ?_
 refine kA h (fun v1 => ([(4, .sv (.bool v1)), (2, .any), (3, .any)], [(32, none), (48, none)])) (fun v1 h => ?_) fun v1 h => ?_
 refine Xac ?_
 iterate 4 refine kO hT hC ?_
 refine kC hC [] Try.call53 h (fun _ => Xaj) fun q2 h => ?_
 refine kO hT hC ?_
 refine kS h ?_ ?_ <;> intro b1 h
 iterate 4 refine kI hT hC b1 ?_
 refine kE hC b1 [] Try.call53 h (fun _ => Xaj) fun q3 h => ?_
 refine kP hC true b1 ?_
 refine kO hT hC ?_
 refine kS h ?_ ?_ <;> intro b2 h
 iterate 7 refine kI hT hC b2 ?_
 refine kE hC b2 [] Try.call53 h (fun _ => Xaj) fun q4 h => ?_
 refine kP hC true b2 ?_
 refine kO hT hC ?_
 refine kS h ?_ ?_ <;> intro b3 h
 iterate 7 refine kI hT hC b3 ?_
 refine kE hC b3 [] Try.call53 h (fun _ => Xaj) fun q5 h => ?_
 refine kP hC true b3 ?_
 refine kO hT hC ?_
 exact Vc.nil kM
 iterate 8 refine kF hC b3 ?_
 refine kP hC false b3 ?_
 refine kO hT hC ?_
 exact Vc.nil kM
 iterate 8 refine kF hC b2 ?_
 refine kP hC false b2 ?_
 refine kO hT hC ?_
 iterate 8 refine kF hC rfl ?_
 iterate 2 refine kO hT hC ?_
 exact Vc.nil kM
 iterate 5 refine kF hC b1 ?_
 refine kP hC false b1 ?_
 refine kO hT hC ?_
 iterate 8 refine kF hC rfl ?_
 iterate 2 refine kO hT hC ?_
 iterate 8 refine kF hC rfl ?_
 iterate 2 refine kO hT hC ?_
 exact Vc.nil kM
 exact Xah kR
def Xze (r : (Int × Bool)) : AV := .tup [.sv (.int .i64 r.1), .sv (.bool r.2)]
def Xzd (r : (Int × Bool)) : Xbg := []
theorem Xro {p0 r} (h : Xjj p0 = some r) : AC Try.prog 151 [.sv (.int .i64 p0)] [] (Xze r) (Xzd r) := by
 refine Xaf hT Try.func151 rfl fun C hC => ?_
 unfold Xjj at h
 refine Xad ?_
 iterate 2 refine kO hT hC ?_
 refine Vc.nil (Xax (Xap (Xad ?_)))
 refine kO hT hC ?_
 refine kC hC [] Try.call53 h (fun _ => Xaj) fun q1 h => ?_
 iterate 2 refine kO hT hC ?_
 refine Vc.nil ?_
 refine kS h ?_ ?_ <;> intro b1 h
 refine kt b1 (Xad ?_)
 iterate 2 refine kO hT hC ?_
 exact Vc.nil (Xah (Xp3 (Xa5 kR)))
 refine kf b1 (Xad ?_)
 iterate 3 refine kO hT hC ?_
 refine Vc.nil ?_
 refine kS h ?_ ?_ <;> intro b2 h
 refine kt b2 (Xad ?_)
 iterate 5 refine kO hT hC ?_
 exact Vc.nil (Xah (Xp3 (Xa5 kR)))
 refine kf b2 (Xag (Xas (Xae (Xad ?_))))
 iterate 4 refine kO hT hC ?_
 exact Vc.nil (Xah kR)
def Yb2 (r : (ByteArray × Bool)) : AV := .tup [.sv (.str r.1), .sv (.bool r.2)]
def Yb1 (r : (ByteArray × Bool)) : Xbg := []
theorem Xow {p0 r} (h : Xjo p0 = some r) : AC Try.prog 117 [.sv (.int .i64 p0)] [] (Yb2 r) (Yb1 r) := by
 refine Xaf hT Try.func117 rfl fun C hC => ?_
 unfold Xjo at h
 refine Xad ?_
 iterate 2 refine kO hT hC ?_
 refine kN ?_
 refine kO hT hC ?_
 refine kC hC [] Try.call151 h (fun _ => Xro) fun q1 h => ?_
 iterate 5 refine kO hT hC ?_
 refine Vc.nil (Xax (Xad ?_))
 iterate 2 refine kO hT hC ?_
 refine Vc.nil ?_
 refine kS h ?_ ?_ <;> intro b1 h
 refine kt b1 (Xad ?_)
 iterate 2 refine kO hT hC ?_
 exact Vc.nil (Xah (Xa5 kR))
 refine kf b1 (Xag (Xae (Xad ?_)))
 refine kO hT hC ?_
 refine kC hC [] Try.call135 h (fun _ => Xt6) fun q2 h => ?_
 iterate 4 refine kO hT hC ?_
 exact Vc.nil (Xah kR)
def Xzp (r : Int) : AV := .sv (.int .i64 r)
def Xzo (r : Int) : Xbg := []
theorem Xrv {p0 r} (h : Xjp p0 = some r) : AC Try.prog 105 [.sv (.int .i64 p0)] [] (Xzp r) (Xzo r) := by
 refine Xaf hT Try.func105 rfl fun C hC => ?_
 unfold Xjp at h
 refine Xad ?_
 refine kO hT hC ?_
 refine kN ?_
 refine kO hT hC ?_
 refine kC hC [] Try.call117 h (fun _ => Xow) fun q1 h => ?_
 iterate 5 refine kO hT hC ?_
 refine kN ?_
 iterate 3 refine kO hT hC ?_
 exact Vc.nil (Xah kR)
def Xve (r : (Int × Int × Int)) : AV := .tup [.sv (.int .i64 r.1), .sv (.int .i64 r.2.1), .sv (.int .i64 r.2.2)]
def Xvd (r : (Int × Int × Int)) : Xbg := []
theorem Xw1 {p0 p1 p2 p3 p4 r} (h : Xdb p0 p1 p2 p3 p4 = some r) : AC Try.prog 61 [.agg [.sv (.int .i64 p0.Wide), .sv (.int .i64 p0.High), .sv (.str p0.Dots)], .sv (.ints .i64 p1), .sv (.int .i64 p2), .sv (.int .i64 p3), .sv (.int .i64 p4)] [] (Xve r) (Xvd r) := by
 refine Xaf hT Try.func61 rfl fun C hC => ?_
 unfold Xdb at h
 refine Xad ?_
 iterate 4 refine kO hT hC ?_
 refine Vc.nil (Xax ?_)
 refine kL [1,2,3,4,5] [80] [_,_,_,_,_] [_] ?_
 refine kA h (fun v1 => ([(38, .sv (.bool v1))], [])) (fun v1 h => ?_) fun v1 h => ?_
 refine Xac ?_
 refine kO hT hC ?_
 refine kC hC [] Try.call50 h (fun _ => Xcs) fun q2 h => ?_
 iterate 2 refine kO hT hC ?_
 refine kS h ?_ ?_ <;> intro b1 h
 refine kI hT hC (kn b1) ?_
 refine kE hC (kn b1) [] Try.call52 h (fun _ => Xbs) fun q3 h => ?_
 refine kI hT hC (kn b1) ?_
 refine kP hC false (kn b1) ?_
 refine kO hT hC ?_
 refine kS h ?_ ?_ <;> intro b2 h
 refine kI hT hC (kn b2) ?_
 refine kE hC (kn b2) [] Try.call53 h (fun _ => Xaj) fun q4 h => ?_
 refine kI hT hC (kn b2) ?_
 refine kP hC false (kn b2) ?_
 refine kO hT hC ?_
 refine kS h ?_ ?_ <;> intro b3 h
 iterate 3 refine kI hT hC (kn b3) ?_
 refine kE hC (kn b3) [] Try.call51 h (fun _ => Xem) fun q5 h => ?_
 refine kI hT hC (kn b3) ?_
 refine kP hC false (kn b3) ?_
 exact Vc.nil kM
 iterate 5 refine kF hC (kn b3) ?_
 refine kP hC true (kn b3) ?_
 exact Vc.nil kM
 iterate 3 refine kF hC (kn b2) ?_
 refine kP hC true (kn b2) ?_
 refine kO hT hC ?_
 iterate 5 refine kF hC rfl ?_
 refine kO hT hC ?_
 exact Vc.nil kM
 iterate 3 refine kF hC (kn b1) ?_
 refine kP hC true (kn b1) ?_
 refine kO hT hC ?_
 iterate 3 refine kF hC rfl ?_
 iterate 2 refine kO hT hC ?_
 iterate 5 refine kF hC rfl ?_
 refine kO hT hC ?_
 exact Vc.nil kM
 refine kS h ?_ ?_ <;> intro b4 h
 refine kt b4 (Xad ?_)
 iterate 3 refine kO hT hC ?_
 exact Vc.nil (Xah (Xa5 kR))
 refine kf b4 (Xag (Xae (Xad ?_)))
 iterate 3 refine kO hT hC ?_
 refine Vc.nil (Xax (Xad ?_))
 iterate 3 refine kO hT hC ?_
 refine Vc.nil ?_
 refine kL [1,2,3,4,5,13,14,15,16] [80] [_,_,_,_,_,_,_,_,_] [_] ?_
 refine kX h (fun v33 => ([(13, .sv (.int .i64 v33.1)), (14, .sv (.int .i64 v33.2.1)), (15, .sv (.int .i64 v33.2.2.1)), (16, .sv (.int .i64 v33.2.2.2))], [])) (fun v61 => ([(13, .sv (.int .i64 v61.1)), (14, .sv (.int .i64 v61.2.1)), (15, .sv (.int .i64 v61.2.2)), (1, .any), (2, .any), (3, .any), (4, .any), (5, .any), (16, .any)], [(80, none)])) (kW hC []) (fun v33 s h => ?_) fun v61 h => ?_
 unfold Xen at h
 refine Xax (Xad ?_)
 iterate 3 refine kO hT hC ?_
 refine Vc.nil ?_
 refine kS h ?_ ?_ <;> intro b31 h
 refine kt b31 (Xag (Xae (Xax (Xap (Xad ?_)))))
 iterate 3 refine kO hT hC ?_
 refine Vc.nil ?_
 refine kL [1,2,3,4,5,13,14,15,16,17] [80] [_,_,_,_,_,_,_,_,_,_] [_] ?_
 refine kX h (fun v70 => ([(13, .sv (.int .i64 v70.1)), (14, .sv (.int .i64 v70.2.1)), (15, .sv (.int .i64 v70.2.2.1)), (17, .sv (.int .i64 v70.2.2.2))], [])) (fun v79 => ([(13, .sv (.int .i64 v79.1)), (14, .sv (.int .i64 v79.2.1)), (15, .sv (.int .i64 v79.2.2)), (17, .any)], [])) (kW hC []) (fun v70 s h => ?_) fun v79 h => ?_
 unfold Xci at h
 refine Xax (Xad ?_)
 iterate 3 refine kO hT hC ?_
 refine Vc.nil ?_
 refine kS h ?_ ?_ <;> intro b40 h
 refine kt b40 (Xag (Xae ?_))
 refine kL [1,2,3,4,5,13,14,15,16,17] [80] [_,_,_,_,_,_,_,_,_,_] [_] ?_
 refine kA h (fun v80 => ([(13, .sv (.int .i64 v80.1)), (14, .sv (.int .i64 v80.2.1)), (15, .sv (.int .i64 v80.2.2))], [])) (fun v80 h => ?_) fun v80 h => ?_
 refine Xap (Xax (Xad ?_))
 iterate 8 refine kO hT hC ?_
 refine kC hC [] Try.call75 h (fun _ => Xjn) fun q81 h => ?_
 refine kO hT hC ?_
 refine Vc.nil ?_
 refine kS h ?_ ?_ <;> intro b41 h
 exact kt b41 (Xar (Xa1 (Yis kM)))
 refine kf b41 (Xag (Xae (Xad ?_)))
 iterate 8 refine kO hT hC ?_
 refine kC hC [(16, 1136)] Try.call60 h (fun _ => Xdj) fun q82 h => ?_
 refine kC hC [] Try.call59 h (fun _ => Xst) fun q83 h => ?_
 refine kO hT hC ?_
 refine kC hC [] Try.call105 h (fun _ => Xrv) fun q84 h => ?_
 iterate 2 refine kO hT hC ?_
 refine kC hC [] Try.call105 h (fun _ => Xrv) fun q85 h => ?_
 iterate 2 refine kO hT hC ?_
 refine Vc.nil ?_
 refine kL [1,2,3,4,5,13,14,15,16,17,18] [80] [_,_,_,_,_,_,_,_,_,_,_] [_] ?_
 refine kA h (fun v86 => ([(85, .sv (.bool v86))], [])) (fun v86 h => ?_) fun v86 h => ?_
 refine Xac ?_
 iterate 3 refine kO hT hC ?_
 refine kS h ?_ ?_ <;> intro b42 h
 iterate 3 refine kF hC b42 ?_
 refine kP hC true b42 ?_
 exact Vc.nil kM
 iterate 3 refine kI hT hC b42 ?_
 refine kP hC false b42 ?_
 exact Vc.nil kM
 refine kS h ?_ ?_ <;> intro b43 h
 refine kt b43 (Xac ?_)
 iterate 6 refine kO hT hC ?_
 exact Vc.nil (Xas kM)
 exact kf b43 (Xag (Xas kM))
 refine Xac ?_
 iterate 3 refine kO hT hC ?_
 exact Vc.nil kG
 exact kf b40 (Xar (Xa1 ku))
 refine Xas (Xae (Xac ?_))
 iterate 3 refine kO hT hC ?_
 exact Vc.nil kG
 exact kf b31 (Xar (Xa1 ku))
 refine Xae (Xad ?_)
 iterate 6 refine kO hT hC ?_
 exact Vc.nil (Xah kR)
def Xua (r : Bool) : AV := .sv (.bool r)
def Xt9 (r : Bool) : Xbg := []
theorem Xjt {p0 r} (h : Xef p0 = some r) : AC Try.prog 65 [.sv (.ints .i64 p0)] [] (Xua r) (Xt9 r) := by
 refine Xaf hT Try.func65 rfl fun C hC => ?_
 unfold Xef at h
 refine Xad ?_
 refine kO hT hC ?_
 refine kN ?_
 refine kO hT hC ?_
 refine kC hC [] Try.call52 h (fun _ => Xbs) fun q1 h => ?_
 refine kO hT hC ?_
 exact Vc.nil (Xah kR)
def Xvo (r : Bool) : AV := .sv (.bool r)
def Xvn (r : Bool) : Xbg := []
theorem Xlb {p0 r} (h : Xe9 p0 = some r) : AC Try.prog 15 [.agg [.sv (.int .i64 p0.Kind), .sv (.int .i64 p0.Mode), .sv (.int .i64 p0.Dx), .sv (.int .i64 p0.Dy), .sv (.ints .i64 p0.Levels)]] [] (Xvo r) (Xvn r) := by
 refine Xaf hT Try.func15 rfl fun C hC => ?_
 unfold Xe9 at h
 refine Xad ?_
 iterate 2 refine kO hT hC ?_
 refine Vc.nil (Xax (Xad ?_))
 iterate 2 refine kO hT hC ?_
 refine Vc.nil (Xap (Xad ?_))
 iterate 2 refine kO hT hC ?_
 refine Vc.nil ?_
 refine kS h ?_ ?_ <;> intro b1 h
 refine kt b1 ?_
 refine kL [1,2] [16] [_,_] [_] ?_
 refine kA h (fun v1 => ([(2, .sv (.bool v1)), (1, .any)], [(16, none)])) (fun v1 h => ?_) fun v1 h => ?_
 refine Xac ?_
 iterate 4 refine kO hT hC ?_
 refine kS h ?_ ?_ <;> intro b2 h
 iterate 3 refine kI hT hC b2 ?_
 refine kP hC true b2 ?_
 refine kO hT hC ?_
 refine kS h ?_ ?_ <;> intro b3 h
 iterate 3 refine kI hT hC b3 ?_
 refine kP hC true b3 ?_
 refine kO hT hC ?_
 refine kS h ?_ ?_ <;> intro b4 h
 iterate 4 refine kI hT hC b4 ?_
 refine kP hC true b4 ?_
 refine kO hT hC ?_
 exact Vc.nil kM
 iterate 4 refine kF hC b4 ?_
 refine kP hC false b4 ?_
 refine kO hT hC ?_
 exact Vc.nil kM
 iterate 3 refine kF hC b3 ?_
 refine kP hC false b3 ?_
 refine kO hT hC ?_
 iterate 4 refine kF hC rfl ?_
 iterate 2 refine kO hT hC ?_
 exact Vc.nil kM
 iterate 3 refine kF hC b2 ?_
 refine kP hC false b2 ?_
 refine kO hT hC ?_
 iterate 3 refine kF hC rfl ?_
 iterate 2 refine kO hT hC ?_
 iterate 4 refine kF hC rfl ?_
 iterate 2 refine kO hT hC ?_
 exact Vc.nil kM
 exact Xah (Xp3 (Xa5 kR))
 refine kf b1 (Xad ?_)
 iterate 2 refine kO hT hC ?_
 refine Vc.nil ?_
 refine kS h ?_ ?_ <;> intro b5 h
 refine kt b5 ?_
 refine kL [1,2] [16] [_,_] [_] ?_
 refine kA h (fun v2 => ([(2, .sv (.bool v2)), (1, .any)], [(16, none)])) (fun v2 h => ?_) fun v2 h => ?_
 refine Xac ?_
 iterate 4 refine kO hT hC ?_
 refine kS h ?_ ?_ <;> intro b6 h
 iterate 2 refine kI hT hC b6 ?_
 refine kE hC b6 [] Try.call53 h (fun _ => Xaj) fun q3 h => ?_
 refine kP hC true b6 ?_
 refine kO hT hC ?_
 refine kS h ?_ ?_ <;> intro b7 h
 iterate 2 refine kI hT hC b7 ?_
 refine kE hC b7 [] Try.call53 h (fun _ => Xaj) fun q4 h => ?_
 refine kP hC true b7 ?_
 refine kO hT hC ?_
 refine kS h ?_ ?_ <;> intro b8 h
 iterate 2 refine kI hT hC b8 ?_
 refine kE hC b8 [] Try.call65 h (fun _ => Xjt) fun q5 h => ?_
 refine kP hC true b8 ?_
 refine kO hT hC ?_
 exact Vc.nil kM
 iterate 3 refine kF hC b8 ?_
 refine kP hC false b8 ?_
 refine kO hT hC ?_
 exact Vc.nil kM
 iterate 3 refine kF hC b7 ?_
 refine kP hC false b7 ?_
 refine kO hT hC ?_
 iterate 3 refine kF hC rfl ?_
 iterate 2 refine kO hT hC ?_
 exact Vc.nil kM
 iterate 3 refine kF hC b6 ?_
 refine kP hC false b6 ?_
 refine kO hT hC ?_
 iterate 3 refine kF hC rfl ?_
 iterate 2 refine kO hT hC ?_
 iterate 3 refine kF hC rfl ?_
 iterate 2 refine kO hT hC ?_
 exact Vc.nil kM
 exact Xah (Xp3 (Xa5 kR))
 refine kf b5 (Xad ?_)
 iterate 2 refine kO hT hC ?_
 refine Vc.nil ?_
 refine kS h ?_ ?_ <;> intro b9 h
 refine kt b9 ?_
 refine kL [1,2] [16] [_,_] [_] ?_
 refine kA h (fun v6 => ([(2, .sv (.bool v6)), (1, .any)], [(16, none)])) (fun v6 h => ?_) fun v6 h => ?_
 refine Xac ?_
 iterate 2 refine kO hT hC ?_
 refine kC hC [] Try.call53 h (fun _ => Xaj) fun q7 h => ?_
 refine kO hT hC ?_
 refine kS h ?_ ?_ <;> intro b10 h
 iterate 3 refine kI hT hC b10 ?_
 refine kP hC true b10 ?_
 refine kO hT hC ?_
 refine kS h ?_ ?_ <;> intro b11 h
 iterate 3 refine kI hT hC b11 ?_
 refine kP hC true b11 ?_
 refine kO hT hC ?_
 refine kS h ?_ ?_ <;> intro b12 h
 iterate 2 refine kI hT hC b12 ?_
 refine kE hC b12 [] Try.call65 h (fun _ => Xjt) fun q8 h => ?_
 refine kP hC true b12 ?_
 refine kO hT hC ?_
 exact Vc.nil kM
 iterate 3 refine kF hC b12 ?_
 refine kP hC false b12 ?_
 refine kO hT hC ?_
 exact Vc.nil kM
 iterate 3 refine kF hC b11 ?_
 refine kP hC false b11 ?_
 refine kO hT hC ?_
 iterate 3 refine kF hC rfl ?_
 iterate 2 refine kO hT hC ?_
 exact Vc.nil kM
 iterate 3 refine kF hC b10 ?_
 refine kP hC false b10 ?_
 refine kO hT hC ?_
 iterate 3 refine kF hC rfl ?_
 iterate 2 refine kO hT hC ?_
 iterate 3 refine kF hC rfl ?_
 iterate 2 refine kO hT hC ?_
 exact Vc.nil kM
 exact Xah (Xp3 (Xa5 kR))
 refine kf b9 (Xag (Xas (Xae (Xad ?_))))
 refine kO hT hC ?_
 exact Vc.nil (Xah kR)
def Xss (r : Bool) : AV := .sv (.bool r)
def Xsr (r : Bool) : Xbg := []
theorem Xm1 {p0 p1 r} (h : Xdq p0 p1 = some r) : AC Try.prog 62 [.agg [.sv (.int .i64 p0.Kind), .sv (.int .i64 p0.Mode), .sv (.int .i64 p0.Dx), .sv (.int .i64 p0.Dy), .sv (.ints .i64 p0.Levels)], .agg [.sv (.bool p1.Key), .sv (.int .i64 p1.Qp), .sv (.bool p1.Large), .sv (.bool p1.Exact)]] [] (Xss r) (Xsr r) := by
 refine Xaf hT Try.func62 rfl fun C hC => ?_
 unfold Xdq at h
 refine Xad ?_
 iterate 3 refine kO hT hC ?_
 refine Vc.nil ?_
 refine kL [2,3,4] [32,48] [_,_,_] [_,_] ?_
 refine kA h (fun v1 => ([(4, .sv (.bool v1)), (2, .any), (3, .any)], [(32, none), (48, none)])) (fun v1 h => ?_) fun v1 h => ?_
 refine Xac ?_
 iterate 4 refine kO hT hC ?_
 refine kS h ?_ ?_ <;> intro b1 h
 iterate 3 refine kI hT hC (kn b1) ?_
 refine kP hC false (kn b1) ?_
 refine kO hT hC ?_
 exact Vc.nil kM
 iterate 3 refine kF hC (kn b1) ?_
 refine kP hC true (kn b1) ?_
 refine kO hT hC ?_
 exact Vc.nil kM
 exact Xah kR
def Xt8 (r : ((List Int) × Bool)) : AV := .tup [.own 16, .sv (.bool r.2)]
def Xt7 (r : ((List Int) × Bool)) : Xbg := [(16, .ints .i64 r.1)]
theorem Xjs {p0 p1 r} (h : Xee p0 p1 = some r) : AC Try.prog 106 [.sv (.int .i64 p0), .sv (.ints .i64 p1)] [] (Xt8 r) (Xt7 r) := by
 refine Xaf hT Try.func106 rfl fun C hC => ?_
 unfold Xee at h
 refine Xad ?_
 iterate 2 refine kO hT hC ?_
 refine Vc.nil (Xax ?_)
 refine kL [0,1] [] [_,_] [] ?_
 refine kA h (fun v1 => ([(22, .sv (.bool v1))], [])) (fun v1 h => ?_) fun v1 h => ?_
 refine Xac ?_
 iterate 3 refine kO hT hC ?_
 refine kS h ?_ ?_ <;> intro b1 h
 iterate 2 refine kI hT hC b1 ?_
 refine kP hC true b1 ?_
 refine kO hT hC ?_
 refine kS h ?_ ?_ <;> intro b2 h
 iterate 6 refine kF hC b2 ?_
 refine kP hC true b2 ?_
 exact Vc.nil kM
 iterate 6 refine kI hT hC b2 ?_
 refine kP hC false b2 ?_
 exact Vc.nil kM
 iterate 2 refine kF hC b1 ?_
 refine kP hC false b1 ?_
 refine kO hT hC ?_
 iterate 6 refine kI hT hC rfl ?_
 refine kO hT hC ?_
 exact Vc.nil kM
 refine kS h ?_ ?_ <;> intro b3 h
 refine kt b3 (Xad ?_)
 iterate 3 refine kO hT hC ?_
 refine Vc.nil (Xah (Xa5 ?_))
 obtain rfl := kj h
 exact Xel (τ := ⟨[(4, .own 16), (5, .sv (.bool false))], [(16, some (.ints .i64 ([] : List Int)))]⟩) (kW hC [(16, 368)]) rfl ⟨rfl, trivial⟩
 refine kf b3 (Xag (Xae (Xad ?_)))
 iterate 2 refine kO hT hC ?_
 obtain ⟨hq, h⟩ := Xaw h
 refine Yjv hT hC rfl rfl rfl rfl ⟨hq.1, hq.2.1, hq.2.2, by decide⟩ ?_
 refine kO hT hC ?_
 refine Vc.nil (Xax (Xad ?_))
 refine kO hT hC ?_
 refine kC hC [(16, 448)] Try.call136 h (fun _ => Xn3) fun q2 h => ?_
 iterate 2 refine kO hT hC ?_
 refine Vc.nil ?_
 refine kL [1,6,28,29,30] [416,448] [_,_,_,_,_] [_,_] ?_
 refine kX h (fun v4 => ([(30, .sv (.int .i64 v4.1))], [(416, some (.ints .i64 v4.2))])) (fun v6 => ([(1, .any), (28, .any), (29, .any), (30, .any)], [(416, some (.ints .i64 v6)), (448, none)])) (kW hC []) (fun v4 s h => ?_) fun v6 h => ?_
 unfold Xgo at h
 refine Xad ?_
 refine kO hT hC ?_
 refine Vc.nil (Xax ?_)
 refine kS h ?_ ?_ <;> intro b6 h
 refine kt b6 (Xag (Xae (Xax (Xap (Xad ?_)))))
 refine kO hT hC ?_
 iterate 2 refine kQ hT hC h fun h => ?_
 iterate 2 refine kO hT hC ?_
 refine Vc.nil (Xac ?_)
 iterate 4 refine kO hT hC ?_
 refine kQ hT hC h fun h => ?_
 refine kO hT hC ?_
 iterate 2 refine kQ hT hC h fun h => ?_
 refine Vc.nil (Xas (Xae (Xac ?_)))
 iterate 2 refine kO hT hC ?_
 exact Vc.nil kG
 exact kf b6 (Xar (Xa1 ku))
 refine Xae (Xad ?_)
 iterate 3 refine kO hT hC ?_
 refine Vc.nil (Xah ?_)
 obtain rfl := kj h
 exact Xel (τ := ⟨[(4, .own 16), (5, .sv (.bool true))], [(16, some (.ints .i64 v6))]⟩) (kW hC [(16, 416)]) rfl ⟨rfl, trivial⟩
def Xtr (r : Int) : AV := .sv (.int .i64 r)
def Xtq (r : Int) : Xbg := []
theorem Xvi {p0 p1 r} (h : Xg8 p0 p1 = some r) : AC Try.prog 107 [.sv (.int .i64 p0), .sv (.int .i64 p1)] [] (Xtr r) (Xtq r) := by
 refine Xaf hT Try.func107 rfl fun C hC => ?_
 unfold Xg8 at h
 refine Xad ?_
 refine kO hT hC ?_
 refine Vc.nil (Xax (Xad ?_))
 refine kO hT hC ?_
 refine kC hC [] Try.call53 h (fun _ => Xaj) fun q1 h => ?_
 refine kO hT hC ?_
 refine Vc.nil ?_
 refine kS h ?_ ?_ <;> intro b1 h
 refine kt b1 (Xad ?_)
 refine kO hT hC ?_
 exact Vc.nil (Xah (Xa5 kR))
 refine kf b1 (Xag (Xae (Xad ?_)))
 iterate 2 refine kO hT hC ?_
 refine kC hC [] Try.call31 h (fun _ => Xne) fun q2 h => ?_
 iterate 2 refine kO hT hC ?_
 exact Vc.nil (Xah kR)
def Yb8 (r : Int) : AV := .sv (.int .i64 r)
def Yb7 (r : Int) : Xbg := []
theorem Xoy {p0 p1 r} (h : Xlx p0 p1 = some r) : AC Try.prog 145 [.sv (.int .i64 p0), .sv (.int .i64 p1)] [] (Yb8 r) (Yb7 r) := by
 refine Xaf hT Try.func145 rfl fun C hC => ?_
 unfold Xlx at h
 refine Xad ?_
 refine kO hT hC ?_
 refine kN ?_
 iterate 2 refine kO hT hC ?_
 refine kQ hT hC h fun h => ?_
 refine kO hT hC ?_
 refine Vc.nil ?_
 refine kL [0,1,5] [] [_,_,_] [] ?_
 refine kA h (fun v1 => ([(5, .sv (.int .i64 v1)), (0, .any), (1, .any)], [])) (fun v1 h => ?_) fun v1 h => ?_
 refine Xad ?_
 iterate 2 refine kO hT hC ?_
 refine kQ hT hC h fun h => ?_
 refine kO hT hC ?_
 refine Vc.nil ?_
 refine kS h ?_ ?_ <;> intro b1 h
 refine kt b1 (Xac ?_)
 iterate 3 refine kO hT hC ?_
 exact Vc.nil kM
 exact kf b1 (Xag kM)
 refine Xad ?_
 iterate 2 refine kO hT hC ?_
 exact Vc.nil (Xah kR)
def Xxu (r : ((List Int) × (List Int))) : AV := .own 0
def Xxt (r : ((List Int) × (List Int))) : Xbg := [(0, .ints .i64 r.2)]
theorem Xqh {p0 r} (h : Xh5 p0 = some r) : AC Try.prog 142 [.own 0] [(0, .ints .i64 p0)] (Xxu r) (Xxt r) := by
 refine Xaf hT Try.func142 rfl fun C hC => ?_
 unfold Xh5 at h
 refine Xad ?_
 refine kO hT hC ?_
 refine Vc.nil (Xax (Xad ?_))
 iterate 3 refine kO hT hC ?_
 refine Vc.nil ?_
 refine kL [0,5,6,7] [0] [_,_,_,_] [_] ?_
 refine kX h (fun v3 => ([(7, .sv (.int .i64 v3.1))], [(0, some (.ints .i64 v3.2))])) (fun v6 => ([(5, .any), (6, .any), (7, .any)], [(0, some (.ints .i64 v6))])) (kW hC []) (fun v3 s h => ?_) fun v6 h => ?_
 unfold Xmb at h
 refine Xad ?_
 refine kO hT hC ?_
 refine Vc.nil (Xax ?_)
 refine kS h ?_ ?_ <;> intro b3 h
 refine kt b3 (Xag (Xae (Xax (Xap (Xad ?_)))))
 refine kO hT hC ?_
 iterate 2 refine kQ hT hC h fun h => ?_
 iterate 2 refine kO hT hC ?_
 refine Vc.nil (Xac ?_)
 iterate 4 refine kO hT hC ?_
 refine kC hC [] Try.call145 h (fun _ => Xoy) fun q7 h => ?_
 iterate 2 refine kQ hT hC h fun h => ?_
 refine Vc.nil (Xas (Xae (Xac ?_)))
 iterate 2 refine kO hT hC ?_
 exact Vc.nil kG
 exact kf b3 (Xar (Xa1 ku))
 refine Xae (Xad ?_)
 iterate 2 refine kO hT hC ?_
 refine Vc.nil (Xah ?_)
 obtain rfl := kj h
 exact Xel (Xjg.refl _) rfl ⟨rfl, trivial⟩
def Xto (r : (List Int)) : AV := .own 16
def Xtn (r : (List Int)) : Xbg := [(16, .ints .i64 r)]
theorem Xvf {p0 r} (h : Xg7 p0 = some r) : AC Try.prog 108 [.sv (.ints .i64 p0)] [] (Xto r) (Xtn r) := by
 refine Xaf hT Try.func108 rfl fun C hC => ?_
 unfold Xg7 at h
 refine Xad ?_
 refine kO hT hC ?_
 refine Vc.nil (Xax (Xad ?_))
 refine kO hT hC ?_
 refine kC hC [] Try.call52 h (fun _ => Xbs) fun q1 h => ?_
 refine kO hT hC ?_
 refine Vc.nil ?_
 refine kS h ?_ ?_ <;> intro b1 h
 refine kt b1 (Xad ?_)
 iterate 2 refine kO hT hC ?_
 refine Vc.nil (Xah (Xa5 ?_))
 obtain rfl := kj h
 exact Xel (τ := ⟨[(2, .own 16)], [(16, some (.ints .i64 ([] : List Int)))]⟩) (kW hC [(16, 96)]) rfl ⟨rfl, trivial⟩
 refine kf b1 (Xag (Xae (Xad ?_)))
 refine kO hT hC ?_
 refine kC hC [(16, 128)] Try.call137 h (fun _ => Xwo) fun q2 h => ?_
 refine kC hC [(0, 128)] Try.call142 h (fun _ => Xqh) fun q3 h => ?_
 refine kO hT hC ?_
 refine Vc.nil (Xah ?_)
 obtain rfl := kj h
 exact Xel (τ := ⟨[(2, .own 16)], [(16, some (.ints .i64 q3.2))]⟩) (kW hC [(16, 128)]) rfl ⟨rfl, trivial⟩
def Xxe (r : Int) : AV := .sv (.int .i64 r)
def Xxd (r : Int) : Xbg := []
theorem Xzn {p0 p1 r} (h : Xkt p0 p1 = some r) : AC Try.prog 143 [.sv (.int .i64 p0), .sv (.int .i64 p1)] [] (Xxe r) (Xxd r) := by
 refine Xaf hT Try.func143 rfl fun C hC => ?_
 unfold Xkt at h
 refine Xad ?_
 refine kO hT hC ?_
 refine Vc.nil (Xax ?_)
 refine kL [0,1] [] [_,_] [] ?_
 refine kA h (fun v1 => ([(13, .sv (.bool v1))], [])) (fun v1 h => ?_) fun v1 h => ?_
 refine Xac ?_
 refine kO hT hC ?_
 refine kC hC [] Try.call53 h (fun _ => Xaj) fun q2 h => ?_
 iterate 2 refine kO hT hC ?_
 refine kS h ?_ ?_ <;> intro b1 h
 refine kI hT hC (kn b1) ?_
 refine kE hC (kn b1) [] Try.call53 h (fun _ => Xaj) fun q3 h => ?_
 refine kI hT hC (kn b1) ?_
 refine kP hC false (kn b1) ?_
 exact Vc.nil kM
 iterate 3 refine kF hC (kn b1) ?_
 refine kP hC true (kn b1) ?_
 exact Vc.nil kM
 refine kS h ?_ ?_ <;> intro b2 h
 refine kt b2 (Xad ?_)
 refine kO hT hC ?_
 exact Vc.nil (Xah (Xa5 kR))
 refine kf b2 (Xag (Xae (Xad ?_)))
 iterate 9 refine kO hT hC ?_
 refine Vc.nil ?_
 refine Xgx hm ?_
 refine kO hT hC ?_
 refine kQ hT hC h fun h => ?_
 refine kO hT hC ?_
 refine kC hC [] Try.call168 h (fun _ => Xrs) fun q4 h => ?_
 iterate 2 refine kQ hT hC h fun h => ?_
 obtain ⟨hq, h⟩ := Xaw h
 refine Yq5 hT hC rfl rfl rfl rfl rfl rfl hq ?_
 refine kO hT hC ?_
 iterate 2 refine kQ hT hC h fun h => ?_
 refine kO hT hC ?_
 exact kD (Xah kR)
def Xt0 (r : Int) : AV := .sv (.int .i64 r)
def Xtz (r : Int) : Xbg := []
theorem Xvl {p0 p1 p2 r} (h : Xg9 p0 p1 p2 = some r) : AC Try.prog 109 [.sv (.int .i64 p0), .sv (.int .i64 p1), .sv (.int .i64 p2)] [] (Xt0 r) (Xtz r) := by
 refine Xaf hT Try.func109 rfl fun C hC => ?_
 unfold Xg9 at h
 refine Xad ?_
 refine kO hT hC ?_
 refine Vc.nil (Xax (Xad ?_))
 refine kO hT hC ?_
 refine kC hC [] Try.call53 h (fun _ => Xaj) fun q1 h => ?_
 refine kO hT hC ?_
 refine Vc.nil ?_
 refine kS h ?_ ?_ <;> intro b1 h
 refine kt b1 (Xad ?_)
 refine kO hT hC ?_
 exact Vc.nil (Xah (Xa5 kR))
 refine kf b1 (Xag (Xae (Xad ?_)))
 iterate 3 refine kO hT hC ?_
 refine kC hC [] Try.call143 h (fun _ => Xzn) fun q2 h => ?_
 iterate 2 refine kO hT hC ?_
 exact Vc.nil (Xah kR)
def Xsi (r : (Int × Int × Int × Int)) : AV := .agg [.sv (.int .i64 r.1), .sv (.int .i64 r.2.1), .sv (.int .i64 r.2.2.1), .sv (.int .i64 r.2.2.2)]
def Xsh (r : (Int × Int × Int × Int)) : Xbg := []
theorem Xmz {p0 p1 p2 p3 r} (h : Xdo p0 p1 p2 p3 = some r) : AC Try.prog 144 [.sv (.int .i64 p0), .sv (.int .i64 p1), .sv (.int .i64 p2), .sv (.int .i64 p3)] [] (Xsi r) (Xsh r) := by
 refine Xaf hT Try.func144 rfl fun C hC => ?_
 unfold Xdo at h
 refine Xad ?_
 refine kO hT hC ?_
 refine kN ?_
 iterate 7 refine kO hT hC ?_
 refine kC hC [] Try.call145 h (fun _ => Xoy) fun q1 h => ?_
 iterate 4 refine kO hT hC ?_
 refine kC hC [] Try.call145 h (fun _ => Xoy) fun q2 h => ?_
 iterate 5 refine kO hT hC ?_
 refine kN ?_
 iterate 14 refine kO hT hC ?_
 exact Vc.nil (Xah kR)
def Xjw (r : (List Int)) : AV := .own 16
def Xjv (r : (List Int)) : Xbg := [(16, .ints .i64 r)]
theorem Xkx {p0 r} (h : Xcb p0 = some r) : AC Try.prog 139 [.sv (.ints .i64 p0), .fn 144 []] [] (Xjw r) (Xjv r) := by
 refine Xaf hT Try.func139 rfl fun C hC => ?_
 unfold Xcb at h
 refine Xad ?_
 refine kO hT hC ?_
 refine kN ?_
 refine kO hT hC ?_
 refine kC hC [(16, 208)] Try.call167 h (fun _ => Xpr) fun q1 h => ?_
 refine kO hT hC ?_
 refine Vc.nil (Xax (Xad ?_))
 refine kO hT hC ?_
 refine Vc.nil ?_
 refine kL [1,5,6] [208] [_,_,_] [_] ?_
 refine kX h (fun v4 => ([(6, .sv (.int .i64 v4.1))], [(208, some (.ints .i64 v4.2))])) (fun v7 => ([(6, .any)], [(208, some (.ints .i64 v7))])) (kW hC []) (fun v4 s h => ?_) fun v7 h => ?_
 unfold Xe3 at h
 refine Xax (Xad ?_)
 iterate 2 refine kO hT hC ?_
 refine Vc.nil ?_
 refine kS h ?_ ?_ <;> intro b3 h
 refine kt b3 (Xag (Xae (Xax (Xap ?_))))
 refine Xgx hm ?_
 iterate 3 refine kO hT hC ?_
 iterate 2 refine kQ hT hC h fun h => ?_
 iterate 3 refine kO hT hC ?_
 iterate 2 refine kQ hT hC h fun h => ?_
 iterate 3 refine kO hT hC ?_
 iterate 2 refine kQ hT hC h fun h => ?_
 iterate 3 refine kO hT hC ?_
 iterate 2 refine kQ hT hC h fun h => ?_
 refine kC hC [] Try.call144 h (fun _ => Xmz) fun q8 h => ?_
 iterate 2 refine kO hT hC ?_
 refine kD ?_
 refine Xhu hm ?_
 iterate 4 refine kO hT hC ?_
 refine kQ hT hC h fun h => ?_
 refine Yq2 hT hC rfl rfl rfl rfl rfl rfl rfl rfl rfl ?_
 obtain ⟨hq, h⟩ := Xaw h
 refine Yox hT hC rfl rfl rfl rfl rfl rfl rfl rfl rfl ⟨⟨trivial, hq.1⟩, hq.2⟩ ?_
 refine kD (Xas (Xae (Xac ?_)))
 iterate 3 refine kO hT hC ?_
 exact Vc.nil kG
 exact kf b3 (Xar (Xa1 ku))
 refine Xae (Xax (Xad ?_))
 refine kO hT hC ?_
 refine Vc.nil ?_
 refine kL [1,5,46] [208] [_,_,_] [_] ?_
 refine kX h (fun v17 => ([(46, .sv (.int .i64 v17.1))], [(208, some (.ints .i64 v17.2))])) (fun v25 => ([(1, .any), (46, .any)], [(208, some (.ints .i64 v25))])) (kW hC []) (fun v17 s h => ?_) fun v25 h => ?_
 unfold Xes at h
 refine Xad ?_
 refine kO hT hC ?_
 refine Vc.nil (Xax ?_)
 refine kS h ?_ ?_ <;> intro b12 h
 refine kt b12 (Xag (Xae (Xax (Xap (Xad ?_)))))
 iterate 2 refine kO hT hC ?_
 refine Vc.nil ?_
 refine Xgx hm ?_
 iterate 3 refine kO hT hC ?_
 iterate 2 refine kQ hT hC h fun h => ?_
 iterate 3 refine kO hT hC ?_
 iterate 2 refine kQ hT hC h fun h => ?_
 iterate 3 refine kO hT hC ?_
 iterate 2 refine kQ hT hC h fun h => ?_
 iterate 3 refine kO hT hC ?_
 iterate 2 refine kQ hT hC h fun h => ?_
 refine kC hC [] Try.call144 h (fun _ => Xmz) fun q26 h => ?_
 iterate 2 refine kO hT hC ?_
 refine kD (Xad ?_)
 iterate 2 refine kO hT hC ?_
 refine Vc.nil ?_
 refine kL [1,5,8,46,70,71] [208] [_,_,_,_,_,_] [_] ?_
 refine kX h (fun v28 => ([(71, .sv (.int .i64 v28.1))], [(208, some (.ints .i64 v28.2))])) (fun v30 => ([(8, .any), (70, .any), (71, .any)], [(208, some (.ints .i64 v30))])) (kW hC []) (fun v28 s h => ?_) fun v30 h => ?_
 unfold Xet at h
 refine Xad ?_
 refine kO hT hC ?_
 refine Vc.nil (Xax ?_)
 refine kS h ?_ ?_ <;> intro b15 h
 refine kt b15 (Xag (Xae (Xax (Xap (Xad ?_)))))
 refine kO hT hC ?_
 obtain ⟨hq, h⟩ := Xaw h
 refine Yq3 hT hC rfl rfl rfl rfl rfl rfl rfl hq ?_
 iterate 2 refine kO hT hC ?_
 refine Vc.nil (Xac ?_)
 iterate 6 refine kO hT hC ?_
 iterate 2 refine kQ hT hC h fun h => ?_
 refine Vc.nil (Xas (Xae (Xac ?_)))
 iterate 2 refine kO hT hC ?_
 exact Vc.nil kG
 exact kf b15 (Xar (Xa1 ku))
 refine Xas (Xae (Xac ?_))
 iterate 2 refine kO hT hC ?_
 exact Vc.nil kG
 exact kf b12 (Xar (Xa1 ku))
 refine Xae (Xad ?_)
 iterate 2 refine kO hT hC ?_
 refine Vc.nil (Xah ?_)
 obtain rfl := kj h
 exact Xel (τ := ⟨[(4, .own 16)], [(16, some (.ints .i64 v25))]⟩) (kW hC [(16, 208)]) rfl ⟨rfl, trivial⟩
def Xvh (r : (List Int)) : AV := .own 16
def Xvg (r : (List Int)) : Xbg := [(16, .ints .i64 r)]
theorem Xw7 {p0 r} (h : Xih p0 = some r) : AC Try.prog 110 [.sv (.ints .i64 p0)] [] (Xvh r) (Xvg r) := by
 refine Xaf hT Try.func110 rfl fun C hC => ?_
 unfold Xih at h
 refine Xad ?_
 refine kO hT hC ?_
 refine Vc.nil (Xax (Xad ?_))
 refine kO hT hC ?_
 refine kC hC [] Try.call52 h (fun _ => Xbs) fun q1 h => ?_
 refine kO hT hC ?_
 refine Vc.nil ?_
 refine kS h ?_ ?_ <;> intro b1 h
 refine kt b1 (Xad ?_)
 iterate 2 refine kO hT hC ?_
 refine Vc.nil (Xah (Xa5 ?_))
 obtain rfl := kj h
 exact Xel (τ := ⟨[(2, .own 16)], [(16, some (.ints .i64 ([] : List Int)))]⟩) (kW hC [(16, 96)]) rfl ⟨rfl, trivial⟩
 refine kf b1 (Xag (Xae (Xad ?_)))
 refine kO hT hC ?_
 refine kC hC [(16, 128)] Try.call139 h (fun _ => Xkx) fun q2 h => ?_
 refine kC hC [(0, 128)] Try.call142 h (fun _ => Xqh) fun q3 h => ?_
 refine kO hT hC ?_
 refine Vc.nil (Xah ?_)
 obtain rfl := kj h
 exact Xel (τ := ⟨[(2, .own 16)], [(16, some (.ints .i64 q3.2))]⟩) (kW hC [(16, 128)]) rfl ⟨rfl, trivial⟩
def Xsm (r : ((List Int) × Bool)) : AV := .tup [.own 16, .sv (.bool r.2)]
def Xsl (r : ((List Int) × Bool)) : Xbg := [(16, .ints .i64 r.1)]
theorem Xtt {p0 p1 r} (h : Xfy p0 p1 = some r) : AC Try.prog 63 [.sv (.ints .i64 p0), .agg [.sv (.bool p1.Key), .sv (.int .i64 p1.Qp), .sv (.bool p1.Large), .sv (.bool p1.Exact)]] [] (Xsm r) (Xsl r) := by
 refine Xaf hT Try.func63 rfl fun C hC => ?_
 unfold Xfy at h
 refine Xad ?_
 iterate 3 refine kO hT hC ?_
 refine Vc.nil (Xax ?_)
 refine kL [0,3] [48] [_,_] [_] ?_
 refine kA h (fun v1 => ([(26, .sv (.bool v1))], [])) (fun v1 h => ?_) fun v1 h => ?_
 refine Xac ?_
 refine kO hT hC ?_
 refine kC hC [] Try.call65 h (fun _ => Xjt) fun q2 h => ?_
 iterate 2 refine kO hT hC ?_
 refine kS h ?_ ?_ <;> intro b1 h
 refine kI hT hC (kn b1) ?_
 refine kE hC (kn b1) [] Try.call27 h (fun _ => Xde) fun q3 h => ?_
 refine kI hT hC (kn b1) ?_
 refine kP hC false (kn b1) ?_
 exact Vc.nil kM
 iterate 3 refine kF hC (kn b1) ?_
 refine kP hC true (kn b1) ?_
 exact Vc.nil kM
 refine kS h ?_ ?_ <;> intro b2 h
 refine kt b2 (Xad ?_)
 iterate 3 refine kO hT hC ?_
 refine Vc.nil (Xah (Xa5 ?_))
 obtain rfl := kj h
 exact Xel (τ := ⟨[(4, .own 16), (5, .sv (.bool false))], [(16, some (.ints .i64 ([] : List Int)))]⟩) (kW hC [(16, 432)]) rfl ⟨rfl, trivial⟩
 refine kf b2 (Xag (Xae (Xax (Xad ?_))))
 iterate 2 refine kO hT hC ?_
 refine Vc.nil ?_
 refine kS h ?_ ?_ <;> intro b3 h
 refine kt b3 (Xad ?_)
 refine kO hT hC ?_
 refine kC hC [(16, 496)] Try.call106 h (fun _ => Xjs) fun q4 h => ?_
 iterate 4 refine kO hT hC ?_
 refine Vc.nil (Xah (Xa5 ?_))
 obtain rfl := kj h
 exact Xel (τ := ⟨[(4, .own 16), (5, .sv (.bool q4.2))], [(16, some (.ints .i64 q4.1))]⟩) (kW hC [(16, 496)]) rfl ⟨rfl, trivial⟩
 refine kf b3 (Xag (Xae (Xax (Xad ?_))))
 iterate 2 refine kO hT hC ?_
 refine Vc.nil ?_
 refine kS h ?_ ?_ <;> intro b4 h
 refine kt b4 (Xad ?_)
 refine kO hT hC ?_
 refine kC hC [(16, 608)] Try.call106 h (fun _ => Xjs) fun q5 h => ?_
 iterate 5 refine kO hT hC ?_
 refine Vc.nil (Xax (Xad ?_))
 iterate 3 refine kO hT hC ?_
 refine Vc.nil ?_
 refine kL [3,6,41,42,43] [48,608] [_,_,_,_,_] [_,_] ?_
 refine kX h (fun v8 => ([(43, .sv (.int .i64 v8.1))], [(608, some (.ints .i64 v8.2))])) (fun v11 => ([(3, .any), (41, .any), (42, .any), (43, .any)], [(608, some (.ints .i64 v11)), (48, none)])) (kW hC []) (fun v8 s h => ?_) fun v11 h => ?_
 unfold Xd5 at h
 refine Xad ?_
 refine kO hT hC ?_
 refine Vc.nil (Xax ?_)
 refine kS h ?_ ?_ <;> intro b7 h
 refine kt b7 (Xag (Xae (Xax (Xap (Xad ?_)))))
 refine kO hT hC ?_
 iterate 2 refine kQ hT hC h fun h => ?_
 iterate 2 refine kO hT hC ?_
 refine Vc.nil (Xac ?_)
 iterate 5 refine kO hT hC ?_
 refine kC hC [] Try.call107 h (fun _ => Xvi) fun q12 h => ?_
 iterate 2 refine kQ hT hC h fun h => ?_
 refine Vc.nil (Xas (Xae (Xac ?_)))
 iterate 2 refine kO hT hC ?_
 exact Vc.nil kG
 exact kf b7 (Xar (Xa1 ku))
 refine Xae (Xad ?_)
 refine kO hT hC ?_
 refine kC hC [(16, 912)] Try.call108 h (fun _ => Xvf) fun q14 h => ?_
 iterate 2 refine kO hT hC ?_
 refine Vc.nil (Xah (Xa5 ?_))
 obtain rfl := kj h
 exact Xel (τ := ⟨[(4, .own 16), (5, .sv (.bool true))], [(16, some (.ints .i64 q14))]⟩) (kW hC [(16, 912)]) rfl ⟨rfl, trivial⟩
 refine kf b4 (Xag (Xae (Xad ?_)))
 obtain ⟨hq, h⟩ := Xaw h
 refine Yjv hT hC rfl rfl rfl rfl ⟨hq.1, hq.2.1, hq.2.2, by decide⟩ ?_
 refine kO hT hC ?_
 refine Vc.nil (Xax (Xad ?_))
 refine kO hT hC ?_
 refine Vc.nil ?_
 refine kL [0,3,10,59] [48,928] [_,_,_,_] [_,_] ?_
 refine kX h (fun v32 => ([(59, .sv (.int .i64 v32.1))], [(928, some (.ints .i64 v32.2))])) (fun v50 => ([(0, .any), (3, .any), (59, .any)], [(928, some (.ints .i64 v50)), (48, none)])) (kW hC []) (fun v32 s h => ?_) fun v50 h => ?_
 unfold Xhv at h
 refine Xad ?_
 refine kO hT hC ?_
 refine Vc.nil (Xax ?_)
 refine kS h ?_ ?_ <;> intro b22 h
 refine kt b22 (Xag (Xae (Xax (Xap (Xad ?_)))))
 iterate 2 refine kO hT hC ?_
 refine kN ?_
 iterate 6 refine kO hT hC ?_
 refine kQ hT hC h fun h => ?_
 refine kC hC [(16, 1120)] Try.call106 h (fun _ => Xjs) fun q51 h => ?_
 iterate 5 refine kO hT hC ?_
 refine Vc.nil (Xax (Xad ?_))
 iterate 3 refine kO hT hC ?_
 refine Vc.nil ?_
 refine kL [0,3,10,11,12,59,73,74,75] [48,928,1120] [_,_,_,_,_,_,_,_,_] [_,_,_] ?_
 refine kX h (fun v54 => ([(75, .sv (.int .i64 v54.1))], [(1120, some (.ints .i64 v54.2))])) (fun v57 => ([(73, .any), (74, .any), (75, .any)], [(1120, some (.ints .i64 v57))])) (kW hC []) (fun v54 s h => ?_) fun v57 h => ?_
 unfold Xdp at h
 refine Xad ?_
 refine kO hT hC ?_
 refine Vc.nil (Xax ?_)
 refine kS h ?_ ?_ <;> intro b25 h
 refine kt b25 (Xag (Xae (Xax (Xap (Xad ?_)))))
 refine kO hT hC ?_
 iterate 2 refine kQ hT hC h fun h => ?_
 iterate 2 refine kO hT hC ?_
 refine Vc.nil (Xac ?_)
 iterate 6 refine kO hT hC ?_
 refine kC hC [] Try.call109 h (fun _ => Xvl) fun q58 h => ?_
 iterate 2 refine kQ hT hC h fun h => ?_
 refine Vc.nil (Xas (Xae (Xac ?_)))
 iterate 2 refine kO hT hC ?_
 exact Vc.nil kG
 exact kf b25 (Xar (Xa1 ku))
 refine Xae (Xad ?_)
 refine kO hT hC ?_
 refine kC hC [(16, 1440)] Try.call110 h (fun _ => Xw7) fun q60 h => ?_
 refine kO hT hC ?_
 refine kN ?_
 refine kO hT hC ?_
 refine kC hC [(16, 1472)] Try.call98 h (fun _ => Xqg) fun q61 h => ?_
 iterate 2 refine kO hT hC ?_
 refine Vc.nil ?_
 refine kL [0,3,10,16,59,92,93,94] [48,928,1440,1472] [_,_,_,_,_,_,_,_] [_,_,_,_] ?_
 refine kX h (fun v63 => ([(94, .sv (.int .i64 v63.1))], [(928, some (.ints .i64 v63.2))])) (fun v65 => ([(16, .any), (92, .any), (93, .any), (94, .any)], [(928, some (.ints .i64 v65)), (1440, none), (1472, none)])) (kW hC []) (fun v63 s h => ?_) fun v65 h => ?_
 unfold Xe7 at h
 refine Xad ?_
 refine kO hT hC ?_
 refine Vc.nil (Xax ?_)
 refine kS h ?_ ?_ <;> intro b28 h
 refine kt b28 (Xag (Xae (Xax (Xap (Xad ?_)))))
 refine kO hT hC ?_
 iterate 2 refine kQ hT hC h fun h => ?_
 iterate 2 refine kO hT hC ?_
 refine Vc.nil (Xac ?_)
 iterate 4 refine kO hT hC ?_
 iterate 4 refine kQ hT hC h fun h => ?_
 refine Vc.nil (Xas (Xae (Xac ?_)))
 iterate 2 refine kO hT hC ?_
 exact Vc.nil kG
 exact kf b28 (Xar (Xa1 ku))
 refine Xas (Xae (Xac ?_))
 iterate 2 refine kO hT hC ?_
 exact Vc.nil kG
 exact kf b22 (Xar (Xa1 ku))
 refine Xae (Xad ?_)
 iterate 3 refine kO hT hC ?_
 refine Vc.nil (Xah ?_)
 obtain rfl := kj h
 exact Xel (τ := ⟨[(4, .own 16), (5, .sv (.bool true))], [(16, some (.ints .i64 v50))]⟩) (kW hC [(16, 928)]) rfl ⟨rfl, trivial⟩
def Xzi (r : (List Int)) : AV := .own 16
def Xzh (r : (List Int)) : Xbg := [(16, .ints .i64 r)]
theorem Xrr {p0 p1 r} (h : Xjl p0 p1 = some r) : AC Try.prog 64 [.sv (.ints .i64 p0), .sv (.ints .i64 p1)] [] (Xzi r) (Xzh r) := by
 refine Xaf hT Try.func64 rfl fun C hC => ?_
 unfold Xjl at h
 refine Xad ?_
 refine kO hT hC ?_
 refine kN ?_
 iterate 2 refine kO hT hC ?_
 refine Vc.nil (Xax ?_)
 refine kL [0,1,5] [128] [_,_,_] [_] ?_
 refine kA h (fun v1 => ([(16, .sv (.bool v1))], [])) (fun v1 h => ?_) fun v1 h => ?_
 refine Xac ?_
 refine kO hT hC ?_
 refine kC hC [] Try.call52 h (fun _ => Xbs) fun q2 h => ?_
 iterate 2 refine kO hT hC ?_
 refine kS h ?_ ?_ <;> intro b1 h
 refine kI hT hC (kn b1) ?_
 refine kE hC (kn b1) [] Try.call52 h (fun _ => Xbs) fun q3 h => ?_
 refine kI hT hC (kn b1) ?_
 refine kP hC false (kn b1) ?_
 exact Vc.nil kM
 iterate 3 refine kF hC (kn b1) ?_
 refine kP hC true (kn b1) ?_
 exact Vc.nil kM
 refine kS h ?_ ?_ <;> intro b2 h
 refine kt b2 (Xad ?_)
 iterate 2 refine kO hT hC ?_
 refine Vc.nil (Xah (Xa5 ?_))
 obtain rfl := kj h
 exact Xel (τ := ⟨[(4, .own 16)], [(16, some (.ints .i64 ([] : List Int)))]⟩) (kW hC [(16, 128)]) rfl ⟨rfl, trivial⟩
 refine kf b2 (Xag (Xae (Xax (Xad ?_))))
 iterate 3 refine kO hT hC ?_
 refine Vc.nil ?_
 refine kL [1,5,18,19,20] [128] [_,_,_,_,_] [_] ?_
 refine kX h (fun v6 => ([(20, .sv (.int .i64 v6.1))], [(128, some (.ints .i64 v6.2))])) (fun v9 => ([(1, .any), (18, .any), (19, .any), (20, .any)], [(128, some (.ints .i64 v9))])) (kW hC []) (fun v6 s h => ?_) fun v9 h => ?_
 unfold Xkb at h
 refine Xad ?_
 refine kO hT hC ?_
 refine Vc.nil (Xax ?_)
 refine kS h ?_ ?_ <;> intro b5 h
 refine kt b5 (Xag (Xae (Xax (Xap (Xad ?_)))))
 refine kO hT hC ?_
 refine kQ hT hC h fun h => ?_
 iterate 3 refine kO hT hC ?_
 refine Vc.nil (Xac ?_)
 iterate 4 refine kO hT hC ?_
 refine kQ hT hC h fun h => ?_
 iterate 2 refine kO hT hC ?_
 refine kC hC [] Try.call103 h (fun _ => Xie) fun q10 h => ?_
 refine kO hT hC ?_
 refine kT hT hC h fun h => ?_
 refine kO hT hC ?_
 refine Vc.nil (Xas (Xae (Xac ?_)))
 iterate 2 refine kO hT hC ?_
 refine Vc.nil ?_
 obtain rfl := kj h
 exact Yfr (kW hC [(128, 544)])
 exact kf b5 (Xar (Xa1 ku))
 refine Xae (Xad ?_)
 iterate 2 refine kO hT hC ?_
 refine Vc.nil (Xah ?_)
 obtain rfl := kj h
 exact Xel (τ := ⟨[(4, .own 16)], [(16, some (.ints .i64 v9))]⟩) (kW hC [(16, 128)]) rfl ⟨rfl, trivial⟩
def Xsq (r : ((List Int) × Bool)) : AV := .tup [.own 16, .sv (.bool r.2)]
def Xsp (r : ((List Int) × Bool)) : Xbg := [(16, .ints .i64 r.1)]
theorem Xm0 {p0 p1 p2 p3 p4 p5 p6 p7 r} (h : Xca p0 p1 p2 p3 p4 p5 p6 p7 = some r) : AC Try.prog 14 [.agg [.sv (.int .i64 p0.Wide), .sv (.int .i64 p0.High), .sv (.str p0.Dots)], .agg [.sv (.int .i64 p1.Wide), .sv (.int .i64 p1.High), .sv (.str p1.Dots)], .sv (.int .i64 p2), .sv (.int .i64 p3), .agg [.sv (.bool p4.Key), .sv (.int .i64 p4.Qp), .sv (.bool p4.Large), .sv (.bool p4.Exact)], .sv (.int .i64 p5), .sv (.int .i64 p6), .agg [.sv (.int .i64 p7.Kind), .sv (.int .i64 p7.Mode), .sv (.int .i64 p7.Dx), .sv (.int .i64 p7.Dy), .sv (.ints .i64 p7.Levels)]] [] (Xsq r) (Xsp r) := by
 refine Xaf hT Try.func14 rfl fun C hC => ?_
 unfold Xca at h
 refine Xad ?_
 iterate 6 refine kO hT hC ?_
 refine Vc.nil (Xax ?_)
 refine kL [2,3,5,6,8,9,12,15] [128,144,192,240] [_,_,_,_,_,_,_,_] [_,_,_,_] ?_
 refine kA h (fun v1 => ([(67, .sv (.bool v1))], [])) (fun v1 h => ?_) fun v1 h => ?_
 refine Xac ?_
 refine kO hT hC ?_
 refine kC hC [] Try.call50 h (fun _ => Xcs) fun q2 h => ?_
 iterate 2 refine kO hT hC ?_
 refine kS h ?_ ?_ <;> intro b1 h
 iterate 3 refine kI hT hC (kn b1) ?_
 refine kE hC (kn b1) [] Try.call51 h (fun _ => Xem) fun q3 h => ?_
 refine kI hT hC (kn b1) ?_
 refine kP hC false (kn b1) ?_
 refine kO hT hC ?_
 refine kS h ?_ ?_ <;> intro b2 h
 refine kI hT hC (kn b2) ?_
 refine kE hC (kn b2) [] Try.call53 h (fun _ => Xaj) fun q4 h => ?_
 refine kI hT hC (kn b2) ?_
 refine kP hC false (kn b2) ?_
 refine kO hT hC ?_
 refine kS h ?_ ?_ <;> intro b3 h
 refine kI hT hC (kn b3) ?_
 refine kE hC (kn b3) [] Try.call53 h (fun _ => Xaj) fun q5 h => ?_
 refine kI hT hC (kn b3) ?_
 refine kP hC false (kn b3) ?_
 refine kO hT hC ?_
 refine kS h ?_ ?_ <;> intro b4 h
 refine kI hT hC (kn b4) ?_
 refine kE hC (kn b4) [] Try.call15 h (fun _ => Xlb) fun q6 h => ?_
 refine kI hT hC (kn b4) ?_
 refine kP hC false (kn b4) ?_
 refine kO hT hC ?_
 refine kS h ?_ ?_ <;> intro b5 h
 refine kI hT hC (kn b5) ?_
 refine kE hC (kn b5) [] Try.call27 h (fun _ => Xde) fun q7 h => ?_
 refine kI hT hC (kn b5) ?_
 refine kP hC false (kn b5) ?_
 refine kO hT hC ?_
 refine kS h ?_ ?_ <;> intro b6 h
 iterate 2 refine kI hT hC (kn b6) ?_
 refine kE hC (kn b6) [] Try.call62 h (fun _ => Xm1) fun q8 h => ?_
 refine kI hT hC (kn b6) ?_
 refine kP hC false (kn b6) ?_
 refine kO hT hC ?_
 refine kS h ?_ ?_ <;> intro b7 h
 iterate 4 refine kI hT hC (kn b7) ?_
 refine kS h ?_ ?_ <;> intro b8 h
 refine kI hT hC b8 ?_
 refine kE hC b8 [] Try.call50 h (fun _ => Xcs) fun q9 h => ?_
 refine kI hT hC b8 ?_
 refine Xda hC rfl rfl rfl rfl (kn b7) rfl rfl (b := true) b8 rfl rfl rfl trivial ?_
 refine kP hC false (kn b7) ?_
 exact Vc.nil kM
 iterate 3 refine kF hC b8 ?_
 refine Xda hC rfl rfl rfl rfl (kn b7) rfl rfl (b := false) b8 rfl rfl rfl trivial ?_
 refine kP hC false (kn b7) ?_
 exact Vc.nil kM
 iterate 4 refine kF hC (kn b7) ?_
 iterate 3 refine Xom hC rfl rfl rfl rfl rfl rfl ?_
 refine kF hC (kn b7) ?_
 refine kP hC true (kn b7) ?_
 exact Vc.nil kM
 iterate 4 refine kF hC (kn b6) ?_
 refine kP hC true (kn b6) ?_
 refine kO hT hC ?_
 iterate 4 refine kF hC rfl ?_
 iterate 3 refine Xom hC rfl rfl rfl rfl rfl rfl ?_
 refine kF hC rfl ?_
 refine kO hT hC ?_
 exact Vc.nil kM
 iterate 3 refine kF hC (kn b5) ?_
 refine kP hC true (kn b5) ?_
 refine kO hT hC ?_
 iterate 4 refine kF hC rfl ?_
 iterate 2 refine kO hT hC ?_
 iterate 4 refine kF hC rfl ?_
 iterate 3 refine Xom hC rfl rfl rfl rfl rfl rfl ?_
 refine kF hC rfl ?_
 refine kO hT hC ?_
 exact Vc.nil kM
 iterate 3 refine kF hC (kn b4) ?_
 refine kP hC true (kn b4) ?_
 refine kO hT hC ?_
 iterate 3 refine kF hC rfl ?_
 iterate 2 refine kO hT hC ?_
 iterate 4 refine kF hC rfl ?_
 iterate 2 refine kO hT hC ?_
 iterate 4 refine kF hC rfl ?_
 iterate 3 refine Xom hC rfl rfl rfl rfl rfl rfl ?_
 refine kF hC rfl ?_
 refine kO hT hC ?_
 exact Vc.nil kM
 iterate 3 refine kF hC (kn b3) ?_
 refine kP hC true (kn b3) ?_
 refine kO hT hC ?_
 iterate 3 refine kF hC rfl ?_
 iterate 2 refine kO hT hC ?_
 iterate 3 refine kF hC rfl ?_
 iterate 2 refine kO hT hC ?_
 iterate 4 refine kF hC rfl ?_
 iterate 2 refine kO hT hC ?_
 iterate 4 refine kF hC rfl ?_
 iterate 3 refine Xom hC rfl rfl rfl rfl rfl rfl ?_
 refine kF hC rfl ?_
 refine kO hT hC ?_
 exact Vc.nil kM
 iterate 3 refine kF hC (kn b2) ?_
 refine kP hC true (kn b2) ?_
 refine kO hT hC ?_
 iterate 3 refine kF hC rfl ?_
 iterate 2 refine kO hT hC ?_
 iterate 3 refine kF hC rfl ?_
 iterate 2 refine kO hT hC ?_
 iterate 3 refine kF hC rfl ?_
 iterate 2 refine kO hT hC ?_
 iterate 4 refine kF hC rfl ?_
 iterate 2 refine kO hT hC ?_
 iterate 4 refine kF hC rfl ?_
 iterate 3 refine Xom hC rfl rfl rfl rfl rfl rfl ?_
 refine kF hC rfl ?_
 refine kO hT hC ?_
 exact Vc.nil kM
 iterate 5 refine kF hC (kn b1) ?_
 refine kP hC true (kn b1) ?_
 refine kO hT hC ?_
 iterate 3 refine kF hC rfl ?_
 iterate 2 refine kO hT hC ?_
 iterate 3 refine kF hC rfl ?_
 iterate 2 refine kO hT hC ?_
 iterate 3 refine kF hC rfl ?_
 iterate 2 refine kO hT hC ?_
 iterate 3 refine kF hC rfl ?_
 iterate 2 refine kO hT hC ?_
 iterate 4 refine kF hC rfl ?_
 iterate 2 refine kO hT hC ?_
 iterate 4 refine kF hC rfl ?_
 iterate 3 refine Xom hC rfl rfl rfl rfl rfl rfl ?_
 refine kF hC rfl ?_
 refine kO hT hC ?_
 exact Vc.nil kM
 refine kS h ?_ ?_ <;> intro b9 h
 refine kt b9 (Xad ?_)
 iterate 3 refine kO hT hC ?_
 refine Vc.nil (Xah (Xa5 ?_))
 obtain rfl := kj h
 exact Xel (τ := ⟨[(16, .own 16), (17, .sv (.bool false))], [(16, some (.ints .i64 ([] : List Int)))]⟩) (kW hC [(16, 1088)]) rfl ⟨rfl, trivial⟩
 refine kf b9 (Xag (Xae (Xax (Xad ?_))))
 iterate 3 refine kO hT hC ?_
 refine Vc.nil ?_
 refine kS h ?_ ?_ <;> intro b10 h
 refine kt b10 (Xad ?_)
 iterate 7 refine kO hT hC ?_
 refine kC hC [(16, 1264)] Try.call60 h (fun _ => Xdj) fun q10 h => ?_
 iterate 2 refine kO hT hC ?_
 refine Vc.nil (Xah (Xa5 ?_))
 obtain rfl := kj h
 exact Xel (τ := ⟨[(16, .own 16), (17, .sv (.bool true))], [(16, some (.ints .i64 q10))]⟩) (kW hC [(16, 1264)]) rfl ⟨rfl, trivial⟩
 refine kf b10 (Xag (Xae (Xad ?_)))
 iterate 3 refine kO hT hC ?_
 refine kC hC [(16, 1344)] Try.call63 h (fun _ => Xtt) fun q11 h => ?_
 iterate 5 refine kO hT hC ?_
 refine Vc.nil (Xax (Xad ?_))
 iterate 3 refine kO hT hC ?_
 refine Vc.nil ?_
 refine kS h ?_ ?_ <;> intro b11 h
 refine kt b11 (Xad ?_)
 iterate 13 refine kO hT hC ?_
 refine kC hC [(16, 1648)] Try.call60 h (fun _ => Xdj) fun q12 h => ?_
 refine kO hT hC ?_
 refine kC hC [(16, 1680)] Try.call64 h (fun _ => Xrr) fun q13 h => ?_
 iterate 2 refine kO hT hC ?_
 refine Vc.nil (Xah (Xa5 ?_))
 obtain rfl := kj h
 exact Xel (τ := ⟨[(16, .own 16), (17, .sv (.bool true))], [(16, some (.ints .i64 q13))]⟩) (kW hC [(16, 1680)]) rfl ⟨rfl, trivial⟩
 refine kf b11 (Xag (Xae (Xad ?_)))
 iterate 3 refine kO hT hC ?_
 refine kC hC [(16, 1760), (17, 1761)] Try.call54 h (fun _ => Xqb) fun q14 h => ?_
 iterate 6 refine kO hT hC ?_
 refine kN ?_
 iterate 3 refine kO hT hC ?_
 refine kC hC [(16, 1856)] Try.call58 h (fun _ => Xl4) fun q15 h => ?_
 refine kO hT hC ?_
 refine kC hC [(16, 1888)] Try.call64 h (fun _ => Xrr) fun q16 h => ?_
 iterate 2 refine kO hT hC ?_
 refine Vc.nil (Xah ?_)
 obtain rfl := kj h
 exact Xel (τ := ⟨[(16, .own 16), (17, .sv (.bool true))], [(16, some (.ints .i64 q16))]⟩) (kW hC [(16, 1888)]) rfl ⟨rfl, trivial⟩
def Xt3 (r : (Xam × (List Int) × Bool)) : AV := .tup [.agg [.sv (.int .i64 r.1.Kind), .sv (.int .i64 r.1.Mode), .sv (.int .i64 r.1.Dx), .sv (.int .i64 r.1.Dy), .own 16], .own 17, .sv (.bool r.2.2)]
def Xt2 (r : (Xam × (List Int) × Bool)) : Xbg := [(16, .ints .i64 r.1.Levels), (17, .ints .i64 r.2.1)]
theorem Xvm {p0 p1 p2 p3 p4 p5 p6 r} (h : Xed p0 p1 p2 p3 p4 p5 p6 = some r) : AC Try.prog 13 [.agg [.sv (.int .i64 p0.Wide), .sv (.int .i64 p0.High), .sv (.str p0.Dots)], .agg [.sv (.int .i64 p1.Wide), .sv (.int .i64 p1.High), .sv (.str p1.Dots)], .sv (.ints .i64 p2), .sv (.int .i64 p3), .sv (.int .i64 p4), .agg [.sv (.bool p5.Key), .sv (.int .i64 p5.Qp), .sv (.bool p5.Large), .sv (.bool p5.Exact)], .sv (.int .i64 p6)] [] (Xt3 r) (Xt2 r) := by
 refine Xaf hT Try.func13 rfl fun C hC => ?_
 unfold Xed at h
 refine Xad ?_
 iterate 6 refine kO hT hC ?_
 refine Vc.nil (Xax ?_)
 refine kL [2,3,4,6,7,8,12,14] [112,128,192,224] [_,_,_,_,_,_,_,_] [_,_,_,_] ?_
 refine kA h (fun v1 => ([(51, .sv (.bool v1))], [])) (fun v1 h => ?_) fun v1 h => ?_
 refine Xac ?_
 refine kO hT hC ?_
 refine kC hC [] Try.call50 h (fun _ => Xcs) fun q2 h => ?_
 iterate 2 refine kO hT hC ?_
 refine kS h ?_ ?_ <;> intro b1 h
 iterate 3 refine kI hT hC (kn b1) ?_
 refine kE hC (kn b1) [] Try.call51 h (fun _ => Xem) fun q3 h => ?_
 refine kI hT hC (kn b1) ?_
 refine kP hC false (kn b1) ?_
 refine kO hT hC ?_
 refine kS h ?_ ?_ <;> intro b2 h
 refine kI hT hC (kn b2) ?_
 refine kE hC (kn b2) [] Try.call52 h (fun _ => Xbs) fun q4 h => ?_
 refine kI hT hC (kn b2) ?_
 refine kP hC false (kn b2) ?_
 refine kO hT hC ?_
 refine kS h ?_ ?_ <;> intro b3 h
 refine kI hT hC (kn b3) ?_
 refine kE hC (kn b3) [] Try.call27 h (fun _ => Xde) fun q5 h => ?_
 refine kI hT hC (kn b3) ?_
 refine kP hC false (kn b3) ?_
 refine kO hT hC ?_
 refine kS h ?_ ?_ <;> intro b4 h
 refine kI hT hC (kn b4) ?_
 refine kE hC (kn b4) [] Try.call53 h (fun _ => Xaj) fun q6 h => ?_
 refine kI hT hC (kn b4) ?_
 refine kP hC false (kn b4) ?_
 exact Vc.nil kM
 iterate 3 refine kF hC (kn b4) ?_
 refine kP hC true (kn b4) ?_
 exact Vc.nil kM
 iterate 3 refine kF hC (kn b3) ?_
 refine kP hC true (kn b3) ?_
 refine kO hT hC ?_
 iterate 3 refine kF hC rfl ?_
 refine kO hT hC ?_
 exact Vc.nil kM
 iterate 3 refine kF hC (kn b2) ?_
 refine kP hC true (kn b2) ?_
 refine kO hT hC ?_
 iterate 3 refine kF hC rfl ?_
 iterate 2 refine kO hT hC ?_
 iterate 3 refine kF hC rfl ?_
 refine kO hT hC ?_
 exact Vc.nil kM
 iterate 5 refine kF hC (kn b1) ?_
 refine kP hC true (kn b1) ?_
 refine kO hT hC ?_
 iterate 3 refine kF hC rfl ?_
 iterate 2 refine kO hT hC ?_
 iterate 3 refine kF hC rfl ?_
 iterate 2 refine kO hT hC ?_
 iterate 3 refine kF hC rfl ?_
 refine kO hT hC ?_
 exact Vc.nil kM
 refine kS h ?_ ?_ <;> intro b5 h
 refine kt b5 (Xad ?_)
 iterate 5 refine kO hT hC ?_
 refine Vc.nil (Xah (Xa5 ?_))
 obtain rfl := kj h
 refine Xel (τ := ⟨[(14, .ptr 2000000 0), (15, .own 17), (16, .sv (.bool false))], [(16, some (.ints .i64 [])), (17, some (.ints .i64 ([] : List Int))), (2000000, some (.box [.sv (.int .i64 0), .sv (.int .i64 0), .sv (.int .i64 0), .sv (.int .i64 0), .own 16]))]⟩) ?_ rfl ⟨rfl, rfl, trivial⟩
 refine Xqw hC 224 4 2817 (.ints .i64 []) rfl rfl rfl rfl rfl trivial ?_
 apply Xhi hC [(16, 2817), (17, 848), (2000000, 224)]
 exact co
 rfl
 decide
 rfl
 refine kf b5 (Xag (Xae (Xax ?_)))
 refine kL [2,3,4,6,7,8,12,14] [112,128,192,224] [_,_,_,_,_,_,_,_] [_,_,_,_] ?_
 refine kA h (fun v7 => ([(75, .sv (.bool v7))], [])) (fun v7 h => ?_) fun v7 h => ?_
 refine Xac ?_
 iterate 4 refine kO hT hC ?_
 refine kS h ?_ ?_ <;> intro b6 h
 iterate 4 refine kF hC (kn b6) ?_
 iterate 5 refine Xom hC rfl rfl rfl rfl rfl rfl ?_
 iterate 2 refine kF hC (kn b6) ?_
 iterate 5 refine Xom hC rfl rfl rfl rfl rfl rfl ?_
 refine kF hC (kn b6) ?_
 refine kP hC false (kn b6) ?_
 exact Vc.nil kM
 refine kI hT hC (kn b6) ?_
 refine kE hC (kn b6) [] Try.call50 h (fun _ => Xcs) fun q8 h => ?_
 iterate 2 refine kI hT hC (kn b6) ?_
 refine kS h ?_ ?_ <;> intro b7 h
 iterate 5 refine kI hT hC (kn b7) ?_
 refine Xda hC rfl rfl rfl rfl (kn b6) rfl rfl (b := false) (kn b7) rfl rfl rfl trivial ?_
 refine kI hT hC (kn b6) ?_
 refine kS h ?_ ?_ <;> intro b8 h
 iterate 5 refine kF hC b8 ?_
 refine Xda hC rfl rfl rfl rfl (kn b6) rfl rfl (b := true) b8 rfl rfl rfl trivial ?_
 refine kP hC true (kn b6) ?_
 exact Vc.nil kM
 iterate 5 refine kI hT hC b8 ?_
 refine Xda hC rfl rfl rfl rfl (kn b6) rfl rfl (b := false) b8 rfl rfl rfl trivial ?_
 refine kP hC true (kn b6) ?_
 exact Vc.nil kM
 iterate 5 refine kF hC (kn b7) ?_
 refine Xda hC rfl rfl rfl rfl (kn b6) rfl rfl (b := true) (kn b7) rfl rfl rfl trivial ?_
 refine kI hT hC (kn b6) ?_
 iterate 5 refine kF hC rfl ?_
 refine Xda hC rfl rfl rfl rfl (kn b6) rfl rfl (b := true) rfl rfl rfl rfl trivial ?_
 refine kP hC true (kn b6) ?_
 exact Vc.nil kM
 refine kS h ?_ ?_ <;> intro b9 h
 refine kt b9 (Xad ?_)
 iterate 5 refine kO hT hC ?_
 refine Vc.nil (Xah (Xa5 ?_))
 obtain rfl := kj h
 refine Xel (τ := ⟨[(14, .ptr 2000000 0), (15, .own 17), (16, .sv (.bool false))], [(16, some (.ints .i64 [])), (17, some (.ints .i64 ([] : List Int))), (2000000, some (.box [.sv (.int .i64 0), .sv (.int .i64 0), .sv (.int .i64 0), .sv (.int .i64 0), .own 16]))]⟩) ?_ rfl ⟨rfl, rfl, trivial⟩
 refine Xqw hC 224 4 2818 (.ints .i64 []) rfl rfl rfl rfl rfl trivial ?_
 apply Xhi hC [(16, 2818), (17, 1232), (2000000, 224)]
 exact co
 rfl
 decide
 rfl
 refine kf b9 (Xag (Xae (Xad ?_)))
 iterate 3 refine kO hT hC ?_
 refine kC hC [(16, 1312), (17, 1313)] Try.call54 h (fun _ => Xqb) fun q9 h => ?_
 iterate 6 refine kO hT hC ?_
 refine kN ?_
 iterate 2 refine kO hT hC ?_
 refine kC hC [] Try.call55 h (fun _ => Xvc) fun q10 h => ?_
 iterate 5 refine kO hT hC ?_
 refine kN ?_
 iterate 4 refine kO hT hC ?_
 refine Vc.nil ?_
 refine Xgx hm ?_
 iterate 3 refine kO hT hC ?_
 refine kC hC [(16, 1552)] Try.call58 h (fun _ => Xl4) fun q11 h => ?_
 refine kC hC [(16, 1568)] Try.call57 h (fun _ => Xps) fun q12 h => ?_
 refine kO hT hC ?_
 refine kC hC [(16, 1600)] Try.call56 h (fun _ => Xpo) fun q13 h => ?_
 iterate 5 refine kO hT hC ?_
 refine kD ?_
 refine kL [2,3,4,6,7,8,12,14,20,21] [112,128,192,224,336,1600] [_,_,_,_,_,_,_,_,_,_] [_,_,_,_,_,_] ?_
 refine kA h (fun v14 => ([(2, .any), (6, .any), (20, .any)], [(336, some (.box [.sv (.int .i64 v14.1), .sv (.int .i64 v14.2.1), .sv (.int .i64 v14.2.2.1), .sv (.int .i64 v14.2.2.2.1), .own 1600])), (1600, some (.ints .i64 v14.2.2.2.2))])) (fun v14 h => ?_) fun v14 h => ?_
 refine Xad ?_
 iterate 3 refine kO hT hC ?_
 refine Vc.nil ?_
 refine kS h ?_ ?_ <;> intro b10 h
 refine kt b10 (Xad ?_)
 iterate 4 refine kO hT hC ?_
 refine kC hC [(16, 1776)] Try.call60 h (fun _ => Xdj) fun q15 h => ?_
 refine kC hC [] Try.call59 h (fun _ => Xst) fun q16 h => ?_
 refine kO hT hC ?_
 refine Vc.nil ?_
 refine kS h ?_ ?_ <;> intro b11 h
 refine kt b11 (Xac ?_)
 iterate 2 refine kO hT hC ?_
 refine Vc.nil ?_
 obtain rfl := kj h
 refine Xhc ?_
 refine Xqw hC 336 4 2819 (.ints .i64 []) rfl rfl rfl rfl rfl trivial ?_
 try dsimp only
 apply Xhi hC [(1600, 2819)]
 exact co
 rfl
 decide
 rfl
 refine kf b11 (Xad ?_)
 iterate 5 refine kO hT hC ?_
 refine kC hC [] Try.call61 h (fun _ => Xw1) fun q17 h => ?_
 iterate 7 refine kO hT hC ?_
 refine kN ?_
 iterate 3 refine kO hT hC ?_
 refine Vc.nil ?_
 refine kS h ?_ ?_ <;> intro b12 h
 refine kt b12 (Xad ?_)
 iterate 4 refine kO hT hC ?_
 refine Vc.nil ?_
 refine Xgx hm ?_
 iterate 8 refine kO hT hC ?_
 refine kC hC [(16, 2240)] Try.call60 h (fun _ => Xdj) fun q18 h => ?_
 refine kC hC [(16, 2256)] Try.call57 h (fun _ => Xps) fun q19 h => ?_
 refine kO hT hC ?_
 refine kC hC [(16, 2288)] Try.call56 h (fun _ => Xpo) fun q20 h => ?_
 iterate 5 refine kO hT hC ?_
 refine kD ?_
 refine kL [3,4,7,8,12,14,21,22,23] [112,128,192,224,336,2288] [_,_,_,_,_,_,_,_,_] [_,_,_,_,_,_] ?_
 refine kA h (fun v21 => ([(157, .sv (.bool v21)), (22, .any), (23, .any)], [])) (fun v21 h => ?_) fun v21 h => ?_
 refine Xac ?_
 iterate 3 refine kO hT hC ?_
 refine kS h ?_ ?_ <;> intro b13 h
 iterate 2 refine kI hT hC b13 ?_
 refine kP hC true b13 ?_
 refine kO hT hC ?_
 refine kS h ?_ ?_ <;> intro b14 h
 iterate 2 refine kI hT hC b14 ?_
 refine kE hC b14 [] Try.call52 h (fun _ => Xbs) fun q22 h => ?_
 refine kP hC true b14 ?_
 exact Vc.nil kM
 iterate 3 refine kF hC b14 ?_
 refine kP hC false b14 ?_
 exact Vc.nil kM
 iterate 2 refine kF hC b13 ?_
 refine kP hC false b13 ?_
 refine kO hT hC ?_
 iterate 3 refine kF hC rfl ?_
 refine kO hT hC ?_
 exact Vc.nil kM
 refine kS h ?_ ?_ <;> intro b15 h
 refine kt b15 (Xac ?_)
 iterate 2 refine kO hT hC ?_
 refine Vc.nil ?_
 obtain rfl := kj h
 refine Xhc ?_
 refine Xqw hC 336 4 2820 (.ints .i64 []) rfl rfl rfl rfl rfl trivial ?_
 try dsimp only
 apply Xhi hC [(1600, 2820)]
 exact co
 rfl
 decide
 rfl
 refine kf b15 (Xag ?_)
 obtain rfl := kj h
 exact Xhc (kW hC [(1600, 2288)])
 exact kf b12 (Xag kM)
 exact kf b10 (Xag kM)
 refine Xad ?_
 iterate 6 refine kO hT hC ?_
 refine kC hC [(16, 2656)] Try.call14 h (fun _ => Xm0) fun q23 h => ?_
 iterate 5 refine kO hT hC ?_
 refine Vc.nil (Xax (Xad ?_))
 iterate 2 refine kO hT hC ?_
 refine Vc.nil ?_
 refine kS h ?_ ?_ <;> intro b16 h
 refine kt b16 (Xad ?_)
 iterate 5 refine kO hT hC ?_
 refine Vc.nil (Xah (Xa5 ?_))
 obtain rfl := kj h
 refine Xel (τ := ⟨[(14, .ptr 2000000 0), (15, .own 17), (16, .sv (.bool false))], [(16, some (.ints .i64 [])), (17, some (.ints .i64 ([] : List Int))), (2000000, some (.box [.sv (.int .i64 0), .sv (.int .i64 0), .sv (.int .i64 0), .sv (.int .i64 0), .own 16]))]⟩) ?_ rfl ⟨rfl, rfl, trivial⟩
 refine Xqw hC 224 4 2821 (.ints .i64 []) rfl rfl rfl rfl rfl trivial ?_
 apply Xhi hC [(16, 2821), (17, 2752), (2000000, 224)]
 exact co
 rfl
 decide
 rfl
 refine kf b16 (Xag (Xae (Xad ?_)))
 iterate 5 refine kO hT hC ?_
 refine Vc.nil (Xah ?_)
 obtain rfl := kj h
 exact Xel (τ := ⟨[(14, .ptr 2000000 0), (15, .own 17), (16, .sv (.bool true))], [(16, some (.ints .i64 v14.2.2.2.2)), (17, some (.ints .i64 q23.1)), (2000000, some (.box [.sv (.int .i64 v14.1), .sv (.int .i64 v14.2.1), .sv (.int .i64 v14.2.2.1), .sv (.int .i64 v14.2.2.2.1), .own 16]))]⟩) (kW hC [(16, 1600), (17, 2656), (2000000, 224)]) rfl ⟨rfl, rfl, trivial⟩
def Xz2 (r : Bool) : AV := .sv (.bool r)
def Xz1 (r : Bool) : Xbg := []
theorem Xke {p0 r} (h : Xf3 p0 = some r) : AC Try.prog 66 [.sv (.int .i64 p0)] [] (Xz2 r) (Xz1 r) := by
 refine Xaf hT Try.func66 rfl fun C hC => ?_
 unfold Xf3 at h
 refine Xad ?_
 refine kO hT hC ?_
 refine Vc.nil ?_
 refine kL [0,2] [] [_,_] [] ?_
 refine kA h (fun v1 => ([(2, .sv (.bool v1)), (0, .any)], [])) (fun v1 h => ?_) fun v1 h => ?_
 refine Xac ?_
 refine kO hT hC ?_
 refine kQ hT hC h fun h => ?_
 iterate 2 refine kO hT hC ?_
 refine kS h ?_ ?_ <;> intro b1 h
 refine kI hT hC b1 ?_
 refine kE hC b1 [] Try.call53 h (fun _ => Xaj) fun q2 h => ?_
 refine kP hC true b1 ?_
 refine kO hT hC ?_
 exact Vc.nil kM
 iterate 2 refine kF hC b1 ?_
 refine kP hC false b1 ?_
 refine kO hT hC ?_
 exact Vc.nil kM
 exact Xah kR
def Yd7 (r : Pic) : AV := .agg [.sv (.int .i64 r.Wide), .sv (.int .i64 r.High), .sv (.str r.Dots)]
def Yd6 (r : Pic) : Xbg := []
theorem Xwj {p0 p1 r} (h : Xnt p0 p1 = some r) : AC Try.prog 25 [.sv (.int .i64 p0), .sv (.int .i64 p1)] [] (Yd7 r) (Yd6 r) := by
 refine Xaf hT Try.func25 rfl fun C hC => ?_
 unfold Xnt at h
 refine Xad ?_
 refine kO hT hC ?_
 refine Vc.nil (Xax ?_)
 refine kL [0,1,4] [64] [_,_,_] [_] ?_
 refine kA h (fun v1 => ([(14, .sv (.bool v1))], [])) (fun v1 h => ?_) fun v1 h => ?_
 refine Xac ?_
 refine kO hT hC ?_
 refine kC hC [] Try.call53 h (fun _ => Xaj) fun q2 h => ?_
 iterate 2 refine kO hT hC ?_
 refine kS h ?_ ?_ <;> intro b1 h
 refine kI hT hC (kn b1) ?_
 refine kE hC (kn b1) [] Try.call53 h (fun _ => Xaj) fun q3 h => ?_
 refine kI hT hC (kn b1) ?_
 refine kP hC false (kn b1) ?_
 exact Vc.nil kM
 iterate 3 refine kF hC (kn b1) ?_
 refine kP hC true (kn b1) ?_
 exact Vc.nil kM
 refine kS h ?_ ?_ <;> intro b2 h
 refine kt b2 (Xad ?_)
 iterate 2 refine kO hT hC ?_
 exact Vc.nil (Xah (Xa5 kR))
 refine kf b2 (Xag (Xae (Xad ?_)))
 iterate 3 refine kO hT hC ?_
 obtain ⟨hq, h⟩ := Xaw h
 refine Yjv hT hC rfl rfl rfl rfl ⟨hq.1, hq.2.1, hq.2.2, by decide⟩ ?_
 refine kO hT hC ?_
 refine Vc.nil (Xax (Xad ?_))
 iterate 3 refine kO hT hC ?_
 refine Vc.nil ?_
 refine kL [0,1,4,5,21,22] [64,304] [_,_,_,_,_,_] [_,_] ?_
 refine kX h (fun v5 => ([(22, .sv (.int .i64 v5.1))], [(304, some (.ints .u8 v5.2))])) (fun v7 => ([(21, .any), (22, .any)], [(304, some (.ints .u8 v7))])) (kW hC []) (fun v5 s h => ?_) fun v7 h => ?_
 unfold Xks at h
 refine Xad ?_
 refine kO hT hC ?_
 refine Vc.nil (Xax ?_)
 refine kS h ?_ ?_ <;> intro b5 h
 refine kt b5 (Xag (Xae (Xax (Xap (Xad ?_)))))
 iterate 2 refine kO hT hC ?_
 refine Vc.nil (Xac ?_)
 iterate 2 refine kO hT hC ?_
 iterate 2 refine kQ hT hC h fun h => ?_
 refine Vc.nil (Xas (Xae (Xac ?_)))
 iterate 2 refine kO hT hC ?_
 exact Vc.nil kG
 exact kf b5 (Xar (Xa1 ku))
 refine Xae (Xad ?_)
 iterate 6 refine kO hT hC ?_
 exact Vc.nil (Xah kR)
def Yeb (r : (List Int)) : AV := .own 16
def Yea (r : (List Int)) : Xbg := [(16, .ints .u8 r)]
theorem Ygf {p0 r} (h : Xub p0 = some r) : AC Try.prog 111 [.agg [.sv (.int .i64 p0.Wide), .sv (.int .i64 p0.High), .sv (.str p0.Dots)]] [] (Yeb r) (Yea r) := by
 refine Xaf hT Try.func111 rfl fun C hC => ?_
 unfold Xub at h
 refine Xad ?_
 iterate 2 refine kO hT hC ?_
 refine kN ?_
 iterate 2 refine kO hT hC ?_
 refine kQ hT hC h fun h => ?_
 refine kO hT hC ?_
 refine Vc.nil (Xah ?_)
 obtain rfl := kj h
 exact Xel (τ := ⟨[(2, .own 16)], [(16, some (.ints .u8 (Xaz p0.Dots)))]⟩) (kW hC [(16, 80)]) rfl ⟨rfl, trivial⟩
def Ygj (r : Pic) : AV := .agg [.sv (.int .i64 r.Wide), .sv (.int .i64 r.High), .sv (.str r.Dots)]
def Ygi (r : Pic) : Xbg := []
theorem Xz7 {p0 p1 p2 p3 r} (h : Xq2 p0 p1 p2 p3 = some r) : AC Try.prog 67 [.agg [.sv (.int .i64 p0.Wide), .sv (.int .i64 p0.High), .sv (.str p0.Dots)], .sv (.int .i64 p1), .sv (.int .i64 p2), .sv (.ints .i64 p3)] [] (Ygj r) (Ygi r) := by
 refine Xaf hT Try.func67 rfl fun C hC => ?_
 unfold Xq2 at h
 refine Xad ?_
 iterate 2 refine kO hT hC ?_
 refine kN ?_
 refine kO hT hC ?_
 refine kC hC [(16, 208)] Try.call111 h (fun _ => Ygf) fun q1 h => ?_
 refine kO hT hC ?_
 refine Vc.nil (Xax (Xad ?_))
 iterate 3 refine kO hT hC ?_
 refine Vc.nil ?_
 refine kL [1,2,4,8,9,14,15,16] [64,128,208] [_,_,_,_,_,_,_,_] [_,_,_] ?_
 refine kX h (fun v3 => ([(16, .sv (.int .i64 v3.1))], [(208, some (.ints .u8 v3.2))])) (fun v5 => ([(1, .any), (2, .any), (14, .any), (15, .any), (16, .any)], [(208, some (.ints .u8 v5))])) (kW hC []) (fun v3 s h => ?_) fun v5 h => ?_
 unfold Xo1 at h
 refine Xad ?_
 refine kO hT hC ?_
 refine Vc.nil (Xax ?_)
 refine kS h ?_ ?_ <;> intro b3 h
 refine kt b3 (Xag (Xae (Xax (Xap (Xad ?_)))))
 refine kO hT hC ?_
 refine kQ hT hC h fun h => ?_
 iterate 3 refine kO hT hC ?_
 refine Vc.nil (Xac ?_)
 iterate 3 refine kO hT hC ?_
 refine kQ hT hC h fun h => ?_
 iterate 7 refine kO hT hC ?_
 refine kQ hT hC h fun h => ?_
 iterate 3 refine kO hT hC ?_
 iterate 2 refine kQ hT hC h fun h => ?_
 refine Vc.nil (Xas (Xae (Xac ?_)))
 iterate 2 refine kO hT hC ?_
 exact Vc.nil kG
 exact kf b3 (Xar (Xa1 ku))
 refine Xae (Xad ?_)
 iterate 4 refine kO hT hC ?_
 refine kN ?_
 iterate 2 refine kO hT hC ?_
 exact Vc.nil (Xah kR)
def Xle (r : ((List Xam) × Pic × Bool)) : AV := .tup [.own 16, .agg [.sv (.int .i64 r.2.1.Wide), .sv (.int .i64 r.2.1.High), .sv (.str r.2.1.Dots)], .sv (.bool r.2.2)]
def Xld (r : ((List Xam) × Pic × Bool)) : Xbg := [(16, .row Xcx r.1)]
theorem Xzv {p0 p1 p2 p3 r} (h : Xkv p0 p1 p2 p3 = some r) : AC Try.prog 17 [.agg [.sv (.int .i64 p0.Wide), .sv (.int .i64 p0.High), .sv (.str p0.Dots)], .agg [.sv (.int .i64 p1.Wide), .sv (.int .i64 p1.High), .sv (.str p1.Dots)], .agg [.sv (.bool p2.Key), .sv (.int .i64 p2.Qp), .sv (.bool p2.Large), .sv (.bool p2.Exact)], .sv (.int .i64 p3)] [] (Xle r) (Xld r) := by
 refine Xaf hT Try.func17 rfl fun C hC => ?_
 unfold Xkv at h
 refine Xad ?_
 iterate 6 refine kO hT hC ?_
 refine kN ?_
 iterate 2 refine kO hT hC ?_
 refine Vc.nil (Xax ?_)
 refine kL [3,4,5,6,9,11] [64,80,96,144,288] [_,_,_,_,_,_] [_,_,_,_,_] ?_
 refine kA h (fun v1 => ([(43, .sv (.bool v1))], [])) (fun v1 h => ?_) fun v1 h => ?_
 refine Xac ?_
 refine kO hT hC ?_
 refine kC hC [] Try.call50 h (fun _ => Xcs) fun q2 h => ?_
 iterate 2 refine kO hT hC ?_
 refine kS h ?_ ?_ <;> intro b1 h
 iterate 2 refine kI hT hC (kn b1) ?_
 refine kE hC (kn b1) [] Try.call66 h (fun _ => Xke) fun q3 h => ?_
 refine kI hT hC (kn b1) ?_
 refine kP hC false (kn b1) ?_
 refine kO hT hC ?_
 refine kS h ?_ ?_ <;> intro b2 h
 iterate 2 refine kI hT hC (kn b2) ?_
 refine kE hC (kn b2) [] Try.call66 h (fun _ => Xke) fun q4 h => ?_
 refine kI hT hC (kn b2) ?_
 refine kP hC false (kn b2) ?_
 refine kO hT hC ?_
 refine kS h ?_ ?_ <;> intro b3 h
 refine kI hT hC (kn b3) ?_
 refine kE hC (kn b3) [] Try.call27 h (fun _ => Xde) fun q5 h => ?_
 refine kI hT hC (kn b3) ?_
 refine kP hC false (kn b3) ?_
 refine kO hT hC ?_
 refine kS h ?_ ?_ <;> intro b4 h
 refine kI hT hC (kn b4) ?_
 refine kE hC (kn b4) [] Try.call53 h (fun _ => Xaj) fun q6 h => ?_
 refine kI hT hC (kn b4) ?_
 refine kP hC false (kn b4) ?_
 exact Vc.nil kM
 iterate 3 refine kF hC (kn b4) ?_
 refine kP hC true (kn b4) ?_
 exact Vc.nil kM
 iterate 3 refine kF hC (kn b3) ?_
 refine kP hC true (kn b3) ?_
 refine kO hT hC ?_
 iterate 3 refine kF hC rfl ?_
 refine kO hT hC ?_
 exact Vc.nil kM
 iterate 4 refine kF hC (kn b2) ?_
 refine kP hC true (kn b2) ?_
 refine kO hT hC ?_
 iterate 3 refine kF hC rfl ?_
 iterate 2 refine kO hT hC ?_
 iterate 3 refine kF hC rfl ?_
 refine kO hT hC ?_
 exact Vc.nil kM
 iterate 4 refine kF hC (kn b1) ?_
 refine kP hC true (kn b1) ?_
 refine kO hT hC ?_
 iterate 4 refine kF hC rfl ?_
 iterate 2 refine kO hT hC ?_
 iterate 3 refine kF hC rfl ?_
 iterate 2 refine kO hT hC ?_
 iterate 3 refine kF hC rfl ?_
 refine kO hT hC ?_
 exact Vc.nil kM
 refine kS h ?_ ?_ <;> intro b5 h
 refine kt b5 (Xad ?_)
 iterate 5 refine kO hT hC ?_
 refine Vc.nil (Xah (Xa5 ?_))
 obtain rfl := kj h
 exact Xel (τ := ⟨[(8, .own 16), (9, .ptr 2000001 0), (10, .sv (.bool false))], [(16, some (.row Xcx ([] : List Xam))), (2000001, some (.box [.sv (.int .i64 0), .sv (.int .i64 0), .sv (.str ⟨#[]⟩)]))]⟩) (kW hC [(16, 288), (2000001, 144)]) rfl ⟨rfl, trivial⟩
 refine kf b5 (Xag (Xae (Xax ?_)))
 refine kL [3,4,5,6,9,11] [64,80,96,144,288] [_,_,_,_,_,_] [_,_,_,_,_] ?_
 refine kA h (fun v7 => ([(67, .sv (.bool v7))], [])) (fun v7 h => ?_) fun v7 h => ?_
 refine Xac ?_
 iterate 4 refine kO hT hC ?_
 refine kS h ?_ ?_ <;> intro b6 h
 iterate 4 refine kF hC (kn b6) ?_
 iterate 5 refine Xom hC rfl rfl rfl rfl rfl rfl ?_
 iterate 2 refine kF hC (kn b6) ?_
 iterate 5 refine Xom hC rfl rfl rfl rfl rfl rfl ?_
 refine kF hC (kn b6) ?_
 refine kP hC false (kn b6) ?_
 exact Vc.nil kM
 refine kI hT hC (kn b6) ?_
 refine kE hC (kn b6) [] Try.call50 h (fun _ => Xcs) fun q8 h => ?_
 iterate 2 refine kI hT hC (kn b6) ?_
 refine kS h ?_ ?_ <;> intro b7 h
 iterate 5 refine kI hT hC (kn b7) ?_
 refine Xda hC rfl rfl rfl rfl (kn b6) rfl rfl (b := false) (kn b7) rfl rfl rfl trivial ?_
 refine kI hT hC (kn b6) ?_
 refine kS h ?_ ?_ <;> intro b8 h
 iterate 5 refine kF hC b8 ?_
 refine Xda hC rfl rfl rfl rfl (kn b6) rfl rfl (b := true) b8 rfl rfl rfl trivial ?_
 refine kP hC true (kn b6) ?_
 exact Vc.nil kM
 iterate 5 refine kI hT hC b8 ?_
 refine Xda hC rfl rfl rfl rfl (kn b6) rfl rfl (b := false) b8 rfl rfl rfl trivial ?_
 refine kP hC true (kn b6) ?_
 exact Vc.nil kM
 iterate 5 refine kF hC (kn b7) ?_
 refine Xda hC rfl rfl rfl rfl (kn b6) rfl rfl (b := true) (kn b7) rfl rfl rfl trivial ?_
 refine kI hT hC (kn b6) ?_
 iterate 5 refine kF hC rfl ?_
 refine Xda hC rfl rfl rfl rfl (kn b6) rfl rfl (b := true) rfl rfl rfl rfl trivial ?_
 refine kP hC true (kn b6) ?_
 exact Vc.nil kM
 refine kS h ?_ ?_ <;> intro b9 h
 refine kt b9 (Xad ?_)
 iterate 5 refine kO hT hC ?_
 refine Vc.nil (Xah (Xa5 ?_))
 obtain rfl := kj h
 exact Xel (τ := ⟨[(8, .own 16), (9, .ptr 2000001 0), (10, .sv (.bool false))], [(16, some (.row Xcx ([] : List Xam))), (2000001, some (.box [.sv (.int .i64 0), .sv (.int .i64 0), .sv (.str ⟨#[]⟩)]))]⟩) (kW hC [(16, 288), (2000001, 144)]) rfl ⟨rfl, trivial⟩
 refine kf b9 (Xag (Xae (Xad ?_)))
 iterate 4 refine kO hT hC ?_
 refine kC hC [] Try.call25 h (fun _ => Xwj) fun q9 h => ?_
 iterate 2 refine kO hT hC ?_
 refine Vc.nil (Xax (Xad ?_))
 refine kO hT hC ?_
 refine Vc.nil ?_
 refine kL [3,4,5,6,9,11,12,13] [64,80,96,144,192,288] [_,_,_,_,_,_,_,_] [_,_,_,_,_,_] ?_
 obtain ⟨o56, hl, h⟩ := Xbj h
 refine Xpb (fun v25 => ([(13, .sv (.int .i64 v25.1))], [(192, some (.box [.sv (.int .i64 v25.2.2.1), .sv (.int .i64 v25.2.2.2.1), .sv (.str v25.2.2.2.2)])), (288, some (.row Xcx v25.2.1))])) (fun v41 => ([(3, .any), (4, .any), (5, .any), (6, .any), (13, .any)], [(192, some (.box [.sv (.int .i64 v41.2.1), .sv (.int .i64 v41.2.2.1), .sv (.str v41.2.2.2)])), (288, some (.row Xcx v41.1)), (64, none), (80, none), (96, none)])) (fun r => Xyu C T Try.f17.results.toList (Xle r) (Xld r)) hl ?_ ?_ ?_ ?_
 try dsimp only
 apply Xhi hC []
 exact co
 rfl
 decide
 rfl
 intro v25 s hs
 have h := hs
 unfold Xdy at h
 refine Xax (Xad ?_)
 iterate 4 refine kO hT hC ?_
 refine Vc.nil ?_
 refine kS h ?_ ?_ <;> intro b24 h
 refine kt b24 (Xag (Xae (Xax (Xap (Xad ?_)))))
 refine kO hT hC ?_
 refine Vc.nil ?_
 refine kL [3,4,5,6,9,11,12,13,14] [64,80,96,144,192,288] [_,_,_,_,_,_,_,_,_] [_,_,_,_,_,_] ?_
 obtain ⟨o55, hl, h⟩ := Xbj h
 refine Xpb (fun v46 => ([(14, .sv (.int .i64 v46.1))], [(192, some (.box [.sv (.int .i64 v46.2.2.1), .sv (.int .i64 v46.2.2.2.1), .sv (.str v46.2.2.2.2)])), (288, some (.row Xcx v46.2.1))])) (fun v51 => ([(14, .any)], [(192, some (.box [.sv (.int .i64 v51.2.1), .sv (.int .i64 v51.2.2.1), .sv (.str v51.2.2.2)])), (288, some (.row Xcx v51.1))])) (fun r => Xyu C T Try.f17.results.toList (Xle r) (Xld r)) hl ?_ ?_ ?_ ?_
 try dsimp only
 apply Xhi hC []
 exact co
 rfl
 decide
 rfl
 intro v46 s hs
 have h := hs
 unfold Xdz at h
 refine Xax (Xad ?_)
 iterate 4 refine kO hT hC ?_
 refine Vc.nil ?_
 refine kS h ?_ ?_ <;> intro b29 h
 refine kt b29 (Xag (Xae (Xax (Xap ?_))))
 refine Xgx hm ?_
 iterate 5 refine kO hT hC ?_
 refine kC hC [(16, 1488)] Try.call60 h (fun _ => Xdj) fun q52 h => ?_
 iterate 4 refine kO hT hC ?_
 obtain ⟨q53, hq, h⟩ := Xbj h
 refine Yow hC [(16, 1568), (17, 1569)] rfl rfl rfl rfl Try.call13 (Xvm hq) rfl (by decide) trivial rfl (.inr ⟨rfl, ⟨trivial, trivial, trivial⟩⟩) rfl ?_
 iterate 8 refine kO hT hC ?_
 refine kD (Xax (Xad ?_))
 iterate 2 refine kO hT hC ?_
 refine Vc.nil ?_
 refine kS h ?_ ?_ <;> intro b30 h
 refine kt b30 (Xad ?_)
 iterate 5 refine kO hT hC ?_
 refine Vc.nil (Xah (Xa5 (Xp3 (Xa5 ?_))))
 obtain rfl := kj h
 refine Ye1 (Yex ?_)
 refine Xel (τ := ⟨[(8, .own 16), (9, .ptr 2000001 0), (10, .sv (.bool false))], [(16, some (.row Xcx ([] : List Xam))), (2000001, some (.box [.sv (.int .i64 0), .sv (.int .i64 0), .sv (.str ⟨#[]⟩)]))]⟩) ?_ rfl ⟨rfl, trivial⟩
 apply Xhi hC [(16, 1664), (2000001, 144)]
 exact co
 rfl
 decide
 rfl
 refine kf b30 (Xag (Xae (Xad ?_)))
 iterate 3 refine kO hT hC ?_
 obtain ⟨hq, h⟩ := Xaw h
 refine Yjv hT hC rfl rfl rfl rfl ⟨fun _ _ => rfl, by rw [Xqz]; exact hq⟩ ?_
 rw [Xqz]
 refine kO hT hC ?_
 refine Vc.nil (Xac ?_)
 iterate 4 refine kO hT hC ?_
 refine kC hC [] Try.call67 h (fun _ => Xz7) fun q54 h => ?_
 refine kO hT hC ?_
 refine Vc.nil (Xas (Xae (Xac ?_)))
 iterate 3 refine kO hT hC ?_
 refine Vc.nil ?_
 obtain rfl := kj h
 exact Yfr (kW hC [(288, 1744)])
 exact kf b29 (Xar (Xa1 kb))
 intro v51 e
 subst e
 refine Xas (Xae (Xac ?_))
 iterate 3 refine kO hT hC ?_
 exact Vc.nil kG
 intro r' σ' e hE
 subst e
 obtain rfl := kj h
 refine Xp3 (Xa5 (Ye1 (Yex ?_)))
 exact hE
 exact kf b24 (Xar (Xa1 kb))
 intro v41 e
 subst e
 refine Xae ?_
 refine Xgx hm ?_
 iterate 5 refine kO hT hC ?_
 refine kD (Xah ?_)
 obtain rfl := kj h
 exact Xel (τ := ⟨[(8, .own 16), (9, .ptr 2000001 0), (10, .sv (.bool true))], [(16, some (.row Xcx v41.1)), (2000001, some (.box [.sv (.int .i64 v41.2.1), .sv (.int .i64 v41.2.2.1), .sv (.str v41.2.2.2)]))]⟩) (kW hC [(16, 288), (2000001, 144)]) rfl ⟨rfl, trivial⟩
 intro r' σ' e hE
 subst e
 obtain rfl := kj h
 refine Xa5 ?_
 exact hE
def Yed (r : (List Int)) : AV := .own 16
def Yec (r : (List Int)) : Xbg := [(16, .ints .u8 r)]
theorem Xwm {p0 r} (h : Xn2 p0 = some r) : AC Try.prog 152 [.sv (.ints .i64 p0)] [] (Yed r) (Yec r) := by
 refine Xaf hT Try.func152 rfl fun C hC => ?_
 unfold Xn2 at h
 refine Xad ?_
 refine kO hT hC ?_
 refine kN ?_
 iterate 2 refine kO hT hC ?_
 refine kN ?_
 refine kO hT hC ?_
 refine Vc.nil (Xax (Xad ?_))
 iterate 3 refine kO hT hC ?_
 refine Vc.nil ?_
 refine kL [0,3,4,13,14,15] [192] [_,_,_,_,_,_] [_] ?_
 refine kX h (fun v3 => ([(4, .sv (.int .i64 v3.1)), (15, .sv (.int .i64 v3.2))], [])) (fun v6 => ([(4, .sv (.int .i64 v6)), (13, .any), (14, .any), (15, .any)], [])) (kW hC []) (fun v3 s h => ?_) fun v6 h => ?_
 unfold Xh3 at h
 refine Xad ?_
 refine kO hT hC ?_
 refine Vc.nil (Xax ?_)
 refine kS h ?_ ?_ <;> intro b5 h
 refine kt b5 (Xag (Xae ?_))
 refine kL [0,3,4,13,14,15] [192] [_,_,_,_,_,_] [_] ?_
 refine kA h (fun v7 => ([(4, .sv (.int .i64 v7))], [])) (fun v7 h => ?_) fun v7 h => ?_
 refine Xap (Xad ?_)
 refine kQ hT hC h fun h => ?_
 iterate 2 refine kO hT hC ?_
 refine kN ?_
 iterate 2 refine kO hT hC ?_
 refine Vc.nil ?_
 refine kS h ?_ ?_ <;> intro b6 h
 refine kt b6 (Xac ?_)
 iterate 3 refine kO hT hC ?_
 exact Vc.nil (Xas kM)
 exact kf b6 (Xag (Xas kM))
 refine Xac ?_
 iterate 2 refine kO hT hC ?_
 exact Vc.nil kG
 exact kf b5 (Xar (Xa1 ku))
 refine Xae (Xad ?_)
 iterate 2 refine kO hT hC ?_
 refine kC hC [] Try.call116 h (fun _ => Xly) fun q9 h => ?_
 refine kT hT hC h fun h => ?_
 refine kO hT hC ?_
 refine kN ?_
 refine kO hT hC ?_
 refine Vc.nil (Xax (Xad ?_))
 iterate 3 refine kO hT hC ?_
 refine Vc.nil ?_
 refine kL [3,7,28,29,30] [432] [_,_,_,_,_] [_] ?_
 refine kX h (fun v15 => ([(7, .sv (.int .i64 v15.1)), (30, .sv (.int .i64 v15.2.1))], [(432, some (.ints .u8 v15.2.2))])) (fun v21 => ([(7, .any), (28, .any), (29, .any), (30, .any)], [(432, some (.ints .u8 v21))])) (kW hC []) (fun v15 s h => ?_) fun v21 h => ?_
 unfold Xh4 at h
 refine Xad ?_
 refine kO hT hC ?_
 refine Vc.nil (Xax ?_)
 refine kS h ?_ ?_ <;> intro b11 h
 refine kt b11 (Xag (Xae ?_))
 refine kL [3,7,28,29,30] [432] [_,_,_,_,_] [_] ?_
 refine kA h (fun v22 => ([(7, .sv (.int .i64 v22.1))], [(432, some (.ints .u8 v22.2))])) (fun v22 h => ?_) fun v22 h => ?_
 refine Xap (Xad ?_)
 refine kQ hT hC h fun h => ?_
 iterate 2 refine kO hT hC ?_
 refine Vc.nil (Xax (Xad ?_))
 iterate 2 refine kO hT hC ?_
 refine Vc.nil ?_
 refine kS h ?_ ?_ <;> intro b12 h
 refine kt b12 (Xad ?_)
 iterate 3 refine kO hT hC ?_
 exact Vc.nil (Xar (Xa1 (Yis kM)))
 refine kf b12 (Xag (Xae (Xad ?_)))
 refine kO hT hC ?_
 refine kC hC [] Try.call151 h (fun _ => Xro) fun q23 h => ?_
 iterate 5 refine kO hT hC ?_
 refine kN ?_
 iterate 2 refine kO hT hC ?_
 refine kC hC [] Try.call116 h (fun _ => Xly) fun q24 h => ?_
 refine kT hT hC h fun h => ?_
 refine kO hT hC ?_
 refine kC hC [] Try.call116 h (fun _ => Xly) fun q25 h => ?_
 refine kT hT hC h fun h => ?_
 refine kO hT hC ?_
 refine Vc.nil (Xac ?_)
 refine kO hT hC ?_
 refine Vc.nil (Xas ?_)
 obtain rfl := kj h
 exact Xhc (kW hC [(432, 784)])
 refine Xac ?_
 iterate 2 refine kO hT hC ?_
 exact Vc.nil kG
 exact kf b11 (Xar (Xa1 ku))
 refine Xae (Xad ?_)
 iterate 2 refine kO hT hC ?_
 refine Vc.nil (Xah ?_)
 obtain rfl := kj h
 exact Xel (τ := ⟨[(2, .own 16)], [(16, some (.ints .u8 v21))]⟩) (kW hC [(16, 432)]) rfl ⟨rfl, trivial⟩
end
end Go.Proofs.Ytlebkepfhdjnmac.A
