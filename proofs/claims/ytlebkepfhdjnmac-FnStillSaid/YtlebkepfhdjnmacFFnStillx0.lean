/- Contracts of the functions that the law FnStill reaches, part 0: each comes to what its pure function tells. Written by a program of this session. Conditions: as each statement tells. -/
import Derived.Test.YtlebkepfhdjnmacBFnStill
namespace Go.Proofs.Ytlebkepfhdjnmac.A
open Go Go.Proofs Go.Proofs.YtlebkepfhdjnmacAL Go.RowKit
set_option linter.unusedVariables false
set_option linter.unusedSimpArgs false
set_option maxRecDepth 100000
set_option maxHeartbeats 8000000
noncomputable section
def Yda (r : Bool) : AV := .sv (.bool r)
def Yc9 (r : Bool) : Xbd := []
theorem Yer {p0 r} (h : Xv3 p0 = some r) : AC Try.prog 8 [.sv (.ints .u8 p0)] [] (Yda r) (Yc9 r) := by
 refine Xae hT Try.func8 rfl fun C hC => ?_
 unfold Xv3 at h
 refine Xad ?_
 refine kO hT hC ?_
 refine kN ?_
 iterate 4 refine kO hT hC ?_
 exact Vc.nil (Xaj kR)
def Xyh (r : Xa3) : AV := .ptr 16 0
def Xyg (r : Xa3) : Xbd := [(16, .box [.sv (.ints .u8 r.b_), .sv (.int .i64 r.i_), .sv (.int .i64 r.h_)])]
theorem Xl2 {p0 r} (h : Xgx p0 = some r) : AC Try.prog 41 [.sv (.ints .u8 p0)] [] (Xyh r) (Xyg r) := by
 refine Xae hT Try.func41 rfl fun C hC => ?_
 unfold Xgx at h
 refine Xad ?_
 refine kO hT hC ?_
 refine kN ?_
 iterate 4 refine kO hT hC ?_
 refine Vc.nil (Xaw (Xad ?_))
 refine kO hT hC ?_
 refine Vc.nil ?_
 refine kL [0,3,4] [] [_,_,_] [] ?_
 refine kX h (fun v3 => ([(3, .sv (.int .i64 v3.1)), (4, .sv (.int .i64 v3.2))], [])) (fun v6 => ([(3, .sv (.int .i64 v6)), (4, .any)], [])) (kW hC []) (fun v3 s h => ?_) fun v6 h => ?_
 unfold Xje at h
 refine Xaw ?_
 refine kL [0,3,4] [] [_,_,_] [] ?_
 refine kA h (fun v7 => ([(15, .sv (.bool v7))], [])) (fun v7 h => ?_) fun v7 h => ?_
 refine Xac ?_
 iterate 5 refine kO hT hC ?_
 refine kS h ?_ ?_ <;> intro b5 h
 iterate 2 refine kI hT hC b5 ?_
 refine kP hC true b5 ?_
 exact Vc.nil kM
 iterate 2 refine kF hC b5 ?_
 refine kP hC false b5 ?_
 exact Vc.nil kM
 refine kS h ?_ ?_ <;> intro b6 h
 refine kt b6 (Xag (Xaf (Xaw (Xap (Xac ?_)))))
 iterate 4 refine kO hT hC ?_
 refine kQ hT hC h fun h => ?_
 iterate 6 refine kO hT hC ?_
 refine Vc.nil (Xas (Xaf (Xac ?_)))
 iterate 3 refine kO hT hC ?_
 exact Vc.nil kG
 exact kf b6 (Xar (Xa1 ku))
 refine Xaf (Xad ?_)
 iterate 5 refine kO hT hC ?_
 refine Vc.nil (Xaj ?_)
 obtain rfl := kj h
 exact Xfn (τ := ⟨[(2, .ptr 16 0)], [(16, some (.box [.sv (.ints .u8 p0), .sv (.int .i64 0), .sv (.int .i64 v6)]))]⟩) (kW hC [(16, 496)]) rfl ⟨rfl, trivial⟩
def Xvl (r : (Int × Xa3)) : AV := .sv (.int .i64 r.1)
def Xvk (r : (Int × Xa3)) : Xbd := [(0, .box [.sv (.ints .u8 r.2.b_), .sv (.int .i64 r.2.i_), .sv (.int .i64 r.2.h_)])]
theorem Xbw {p0 r} (h : Xbm p0 = some r) : AC Try.prog 45 [.ptr 0 0] [(0, .box [.sv (.ints .u8 p0.b_), .sv (.int .i64 p0.i_), .sv (.int .i64 p0.h_)])] (Xvl r) (Xvk r) := by
 refine Xae hT Try.func45 rfl fun C hC => ?_
 unfold Xbm at h
 refine Xad ?_
 refine kO hT hC ?_
 refine kN ?_
 iterate 10 refine kO hT hC ?_
 refine Vc.nil ?_
 refine Xhr hm ?_
 iterate 4 refine kO hT hC ?_
 refine kQ hT hC h fun h => ?_
 iterate 4 refine kO hT hC ?_
 refine kQ hT hC h fun h => ?_
 iterate 3 refine kO hT hC ?_
 refine kD ?_
 refine kL [0,3] [0] [_,_] [_] ?_
 refine kA h (fun v1 => ([(3, .sv (.int .i64 v1.1)), (0, .any)], [(0, some (.box [.sv (.ints .u8 p0.b_), .sv (.int .i64 v1.2), .sv (.int .i64 (Xaa .i64 ((Xaa .i64 (p0.h_ * 6364136223846793005)) + 1442695040888963407)))]))])) (fun v1 h => ?_) fun v1 h => ?_
 refine Xhr hm ?_
 iterate 10 refine kO hT hC ?_
 refine kD ?_
 refine kS h ?_ ?_ <;> intro b1 h
 refine kt b1 ?_
 refine Xhr hm ?_
 iterate 9 refine kO hT hC ?_
 refine kQ hT hC h fun h => ?_
 iterate 5 refine kO hT hC ?_
 refine kD (Xac ?_)
 iterate 9 refine kO hT hC ?_
 exact Vc.nil kM
 exact kf b1 (Xag kM)
 refine Xad ?_
 iterate 2 refine kO hT hC ?_
 refine Vc.nil (Xaj ?_)
 obtain rfl := kj h
 exact Xfn (Xkf.refl _) rfl ⟨rfl, trivial⟩
def Xtx (r : (Int × Xa3)) : AV := .sv (.int .i64 r.1)
def Xtw (r : (Int × Xa3)) : Xbd := [(0, .box [.sv (.ints .u8 r.2.b_), .sv (.int .i64 r.2.i_), .sv (.int .i64 r.2.h_)])]
theorem Xa4 {p0 p1 r} (h : Xa0 p0 p1 = some r) : AC Try.prog 46 [.ptr 0 0, .sv (.int .i64 p1)] [(0, .box [.sv (.ints .u8 p0.b_), .sv (.int .i64 p0.i_), .sv (.int .i64 p0.h_)])] (Xtx r) (Xtw r) := by
 refine Xae hT Try.func46 rfl fun C hC => ?_
 unfold Xa0 at h
 refine Xad ?_
 refine kO hT hC ?_
 refine Vc.nil (Xaw (Xad ?_))
 iterate 2 refine kO hT hC ?_
 refine Vc.nil ?_
 refine kS h ?_ ?_ <;> intro b1 h
 refine kt b1 (Xad ?_)
 refine kO hT hC ?_
 refine Vc.nil (Xaj (Xbk ?_))
 obtain rfl := kj h
 exact Xfn (Xkf.refl _) rfl ⟨rfl, trivial⟩
 refine kf b1 (Xag (Xaf (Xaw (Xad ?_))))
 iterate 2 refine kO hT hC ?_
 refine Vc.nil ?_
 refine kS h ?_ ?_ <;> intro b2 h
 refine kt b2 (Xad ?_)
 refine kO hT hC ?_
 refine kC hC [(0, 0)] Try.call45 h (fun _ => Xbw) fun q1 h => ?_
 refine kO hT hC ?_
 refine kQ hT hC h fun h => ?_
 refine kO hT hC ?_
 refine Vc.nil (Xaj (Xbk ?_))
 obtain rfl := kj h
 exact Xfn (Xkf.refl _) rfl ⟨rfl, trivial⟩
 refine kf b2 (Xag (Xaf (Xad ?_)))
 refine kO hT hC ?_
 refine kC hC [(0, 0)] Try.call45 h (fun _ => Xbw) fun q2 h => ?_
 refine kO hT hC ?_
 refine kN ?_
 refine kO hT hC ?_
 refine kC hC [(0, 0)] Try.call45 h (fun _ => Xbw) fun q3 h => ?_
 refine kO hT hC ?_
 refine kN ?_
 refine kO hT hC ?_
 refine kC hC [(0, 0)] Try.call45 h (fun _ => Xbw) fun q4 h => ?_
 refine kO hT hC ?_
 refine kN ?_
 refine kO hT hC ?_
 refine kC hC [(0, 0)] Try.call45 h (fun _ => Xbw) fun q5 h => ?_
 refine kO hT hC ?_
 refine kN ?_
 iterate 11 refine kO hT hC ?_
 refine kQ hT hC h fun h => ?_
 refine kO hT hC ?_
 refine Vc.nil (Xaj ?_)
 obtain rfl := kj h
 exact Xfn (Xkf.refl _) rfl ⟨rfl, trivial⟩
def Xvp (r : (ByteArray × Xa3)) : AV := .sv (.str r.1)
def Xvo (r : (ByteArray × Xa3)) : Xbd := [(0, .box [.sv (.ints .u8 r.2.b_), .sv (.int .i64 r.2.i_), .sv (.int .i64 r.2.h_)])]
theorem Xyi {p0 p1 r} (h : Xju p0 p1 = some r) : AC Try.prog 134 [.ptr 0 0, .sv (.int .i64 p1)] [(0, .box [.sv (.ints .u8 p0.b_), .sv (.int .i64 p0.i_), .sv (.int .i64 p0.h_)])] (Xvp r) (Xvo r) := by
 refine Xae hT Try.func134 rfl fun C hC => ?_
 unfold Xju at h
 refine Xad ?_
 refine kO hT hC ?_
 refine kN ?_
 iterate 2 refine kO hT hC ?_
 refine kN ?_
 refine kO hT hC ?_
 refine kC hC [(0, 0)] Try.call45 h (fun _ => Xbw) fun q1 h => ?_
 refine kO hT hC ?_
 refine Vc.nil (Xaw (Xad ?_))
 refine kO hT hC ?_
 refine Vc.nil ?_
 refine kL [0,1,5,6,7] [0,128] [_,_,_,_,_] [_,_] ?_
 refine kX h (fun v7 => ([(6, .sv (.int .i64 v7.1)), (7, .sv (.int .i64 v7.2.1))], [(0, some (.box [.sv (.ints .u8 v7.2.2.1), .sv (.int .i64 v7.2.2.2.1), .sv (.int .i64 v7.2.2.2.2.1)])), (128, some (.ints .u8 v7.2.2.2.2.2))])) (fun v13 => ([(0, .any), (1, .any), (6, .any), (7, .any)], [(0, some (.box [.sv (.ints .u8 v13.2.1), .sv (.int .i64 v13.2.2.1), .sv (.int .i64 v13.2.2.2)])), (128, some (.ints .u8 v13.1))])) (kW hC []) (fun v7 s h => ?_) fun v13 h => ?_
 unfold Xh2 at h
 refine Xaw (Xad ?_)
 iterate 3 refine kO hT hC ?_
 refine Vc.nil ?_
 refine kS h ?_ ?_ <;> intro b7 h
 refine kt b7 (Xag (Xaf (Xaw (Xap ?_))))
 refine kL [0,1,5,6,7] [0,128] [_,_,_,_,_] [_,_] ?_
 refine kA h (fun v14 => ([(6, .sv (.int .i64 v14.1))], [(0, some (.box [.sv (.ints .u8 v14.2.1), .sv (.int .i64 v14.2.2.1), .sv (.int .i64 v14.2.2.2)]))])) (fun v14 h => ?_) fun v14 h => ?_
 refine Xad ?_
 refine kO hT hC ?_
 refine kC hC [(0, 0)] Try.call46 h (fun _ => Xa4) fun q15 h => ?_
 refine Vc.nil (Xap (Xad ?_))
 iterate 2 refine kO hT hC ?_
 refine Vc.nil ?_
 refine kS h ?_ ?_ <;> intro b8 h
 refine kt b8 (Xac ?_)
 refine kO hT hC ?_
 refine kC hC [(0, 0)] Try.call45 h (fun _ => Xbw) fun q16 h => ?_
 refine kO hT hC ?_
 exact Vc.nil (Xas kM)
 refine kf b8 (Xad ?_)
 iterate 2 refine kO hT hC ?_
 refine Vc.nil ?_
 refine kS h ?_ ?_ <;> intro b9 h
 refine kt b9 (Xac ?_)
 iterate 2 refine kO hT hC ?_
 refine kC hC [(0, 0)] Try.call46 h (fun _ => Xa4) fun q17 h => ?_
 iterate 4 refine kO hT hC ?_
 exact Vc.nil (Xas kM)
 exact kf b9 (Xag (Xas kM))
 refine Xac ?_
 iterate 4 refine kO hT hC ?_
 refine kT hT hC h fun h => ?_
 refine kO hT hC ?_
 refine Vc.nil (Xas (Xaf (Xac ?_)))
 iterate 3 refine kO hT hC ?_
 refine Vc.nil ?_
 obtain rfl := kj h
 exact Ye0 (kW hC [(128, 544)])
 exact kf b7 (Xar (Xa1 ku))
 refine Xaf (Xad ?_)
 iterate 3 refine kO hT hC ?_
 refine Vc.nil (Xaj ?_)
 obtain rfl := kj h
 exact Xfn (Xkf.refl _) rfl ⟨rfl, trivial⟩
def Xt0 (r : (Pic × Xa3)) : AV := .agg [.sv (.int .i64 r.1.Wide), .sv (.int .i64 r.1.High), .sv (.str r.1.Dots)]
def Xtz (r : (Pic × Xa3)) : Xbd := [(0, .box [.sv (.ints .u8 r.2.b_), .sv (.int .i64 r.2.i_), .sv (.int .i64 r.2.h_)])]
theorem Xvq {p0 p1 p2 r} (h : Xh3 p0 p1 p2 = some r) : AC Try.prog 89 [.ptr 0 0, .sv (.int .i64 p1), .sv (.int .i64 p2)] [(0, .box [.sv (.ints .u8 p0.b_), .sv (.int .i64 p0.i_), .sv (.int .i64 p0.h_)])] (Xt0 r) (Xtz r) := by
 refine Xae hT Try.func89 rfl fun C hC => ?_
 unfold Xh3 at h
 refine Xad ?_
 refine kO hT hC ?_
 refine kN ?_
 iterate 6 refine kO hT hC ?_
 refine kC hC [(0, 0)] Try.call134 h (fun _ => Xyi) fun q1 h => ?_
 iterate 2 refine kO hT hC ?_
 refine Vc.nil (Xaj ?_)
 obtain rfl := kj h
 exact Xfn (Xkf.refl _) rfl ⟨rfl, trivial⟩
def Xqt (r : (Pic × Xa3)) : AV := .agg [.sv (.int .i64 r.1.Wide), .sv (.int .i64 r.1.High), .sv (.str r.1.Dots)]
def Xqs (r : (Pic × Xa3)) : Xbd := [(0, .box [.sv (.ints .u8 r.2.b_), .sv (.int .i64 r.2.i_), .sv (.int .i64 r.2.h_)])]
theorem Xsm {p0 r} (h : Xfk p0 = some r) : AC Try.prog 42 [.ptr 0 0] [(0, .box [.sv (.ints .u8 p0.b_), .sv (.int .i64 p0.i_), .sv (.int .i64 p0.h_)])] (Xqt r) (Xqs r) := by
 refine Xae hT Try.func42 rfl fun C hC => ?_
 unfold Xfk at h
 refine Xad ?_
 refine kO hT hC ?_
 refine kN ?_
 iterate 2 refine kO hT hC ?_
 refine kC hC [(0, 0)] Try.call46 h (fun _ => Xa4) fun q1 h => ?_
 iterate 3 refine kO hT hC ?_
 refine kC hC [(0, 0)] Try.call46 h (fun _ => Xa4) fun q2 h => ?_
 iterate 2 refine kO hT hC ?_
 refine kC hC [(0, 0)] Try.call89 h (fun _ => Xvq) fun q3 h => ?_
 refine kO hT hC ?_
 refine Vc.nil (Xaj ?_)
 obtain rfl := kj h
 exact Xfn (Xkf.refl _) rfl ⟨rfl, trivial⟩
def Xvn (r : (Bool × Xa3)) : AV := .sv (.bool r.1)
def Xvm (r : (Bool × Xa3)) : Xbd := [(0, .box [.sv (.ints .u8 r.2.b_), .sv (.int .i64 r.2.i_), .sv (.int .i64 r.2.h_)])]
theorem Xk4 {p0 p1 r} (h : Xfj p0 p1 = some r) : AC Try.prog 90 [.ptr 0 0, .sv (.int .i64 p1)] [(0, .box [.sv (.ints .u8 p0.b_), .sv (.int .i64 p0.i_), .sv (.int .i64 p0.h_)])] (Xvn r) (Xvm r) := by
 refine Xae hT Try.func90 rfl fun C hC => ?_
 unfold Xfj at h
 refine Xad ?_
 refine kO hT hC ?_
 refine kN ?_
 iterate 2 refine kO hT hC ?_
 refine kC hC [(0, 0)] Try.call46 h (fun _ => Xa4) fun q1 h => ?_
 iterate 2 refine kO hT hC ?_
 refine Vc.nil (Xaj ?_)
 obtain rfl := kj h
 exact Xfn (Xkf.refl _) rfl ⟨rfl, trivial⟩
def Xzv (r : Bool) : AV := .sv (.bool r)
def Xzu (r : Bool) : Xbd := []
theorem Xsl {p0 p1 p2 r} (h : Xam p0 p1 p2 = some r) : AC Try.prog 48 [.sv (.int .i64 p0), .sv (.int .i64 p1), .sv (.int .i64 p2)] [] (Xzv r) (Xzu r) := by
 refine Xae hT Try.func48 rfl fun C hC => ?_
 unfold Xam at h
 refine Xad ?_
 refine kO hT hC ?_
 refine Vc.nil ?_
 refine kL [0,1,2,6] [] [_,_,_,_] [] ?_
 refine kA h (fun v1 => ([(6, .sv (.bool v1)), (0, .any), (1, .any), (2, .any)], [])) (fun v1 h => ?_) fun v1 h => ?_
 refine Xac ?_
 iterate 4 refine kO hT hC ?_
 refine kS h ?_ ?_ <;> intro b1 h
 iterate 3 refine kI hT hC b1 ?_
 refine kP hC true b1 ?_
 refine kO hT hC ?_
 exact Vc.nil kM
 iterate 3 refine kF hC b1 ?_
 refine kP hC false b1 ?_
 refine kO hT hC ?_
 exact Vc.nil kM
 exact Xaj kR
def Xzr (r : Bool) : AV := .sv (.bool r)
def Xzq (r : Bool) : Xbd := []
theorem Yb5 {p0 r} (h : Xeu p0 = some r) : AC Try.prog 47 [.agg [.sv (.int .i64 p0.Wide), .sv (.int .i64 p0.High), .sv (.str p0.Dots)]] [] (Xzr r) (Xzq r) := by
 refine Xae hT Try.func47 rfl fun C hC => ?_
 unfold Xeu at h
 refine Xad ?_
 iterate 2 refine kO hT hC ?_
 refine Vc.nil ?_
 refine kL [1,2] [16] [_,_] [_] ?_
 refine kA h (fun v1 => ([(2, .sv (.bool v1)), (1, .any)], [(16, none)])) (fun v1 h => ?_) fun v1 h => ?_
 refine Xac ?_
 iterate 2 refine kO hT hC ?_
 refine kC hC [] Try.call48 h (fun _ => Xsl) fun q2 h => ?_
 refine kO hT hC ?_
 refine kS h ?_ ?_ <;> intro b1 h
 iterate 2 refine kI hT hC b1 ?_
 refine kE hC b1 [] Try.call48 h (fun _ => Xsl) fun q3 h => ?_
 refine kP hC true b1 ?_
 refine kO hT hC ?_
 refine kS h ?_ ?_ <;> intro b2 h
 iterate 9 refine kI hT hC b2 ?_
 refine kP hC true b2 ?_
 refine kO hT hC ?_
 exact Vc.nil kM
 iterate 9 refine kF hC b2 ?_
 refine kP hC false b2 ?_
 refine kO hT hC ?_
 exact Vc.nil kM
 iterate 3 refine kF hC b1 ?_
 refine kP hC false b1 ?_
 refine kO hT hC ?_
 iterate 9 refine kF hC rfl ?_
 iterate 2 refine kO hT hC ?_
 exact Vc.nil kM
 exact Xaj kR
def Xvf (r : Int) : AV := .sv (.int .i64 r)
def Xve (r : Int) : Xbd := []
theorem Xoi {p0 p1 p2 r} (h : Xdk p0 p1 p2 = some r) : AC Try.prog 91 [.sv (.int .i64 p0), .sv (.int .i64 p1), .sv (.int .i64 p2)] [] (Xvf r) (Xve r) := by
 refine Xae hT Try.func91 rfl fun C hC => ?_
 unfold Xdk at h
 refine Xad ?_
 refine kO hT hC ?_
 refine Vc.nil (Xaw ?_)
 refine kL [0,1,2] [] [_,_,_] [] ?_
 refine kA h (fun v1 => ([(14, .sv (.bool v1))], [])) (fun v1 h => ?_) fun v1 h => ?_
 refine Xac ?_
 iterate 4 refine kO hT hC ?_
 refine kS h ?_ ?_ <;> intro b1 h
 iterate 3 refine kF hC b1 ?_
 refine kP hC true b1 ?_
 exact Vc.nil kM
 iterate 3 refine kI hT hC b1 ?_
 refine kP hC false b1 ?_
 exact Vc.nil kM
 refine kS h ?_ ?_ <;> intro b2 h
 refine kt b2 (Xad ?_)
 iterate 2 refine kO hT hC ?_
 exact Vc.nil (Xaj (Xbk kR))
 refine kf b2 (Xag (Xaf (Xaw (Xad ?_))))
 iterate 3 refine kO hT hC ?_
 refine Vc.nil ?_
 refine kS h ?_ ?_ <;> intro b3 h
 refine kt b3 (Xad ?_)
 iterate 2 refine kO hT hC ?_
 exact Vc.nil (Xaj (Xbk kR))
 refine kf b3 (Xag (Xaf (Xad ?_)))
 iterate 2 refine kO hT hC ?_
 exact Vc.nil (Xaj kR)
def Xzo (r : Int) : AV := .sv (.int .i64 r)
def Xzn (r : Int) : Xbd := []
theorem Yb4 {p0 p1 p2 r} (h : Xdb p0 p1 p2 = some r) : AC Try.prog 49 [.agg [.sv (.int .i64 p0.Wide), .sv (.int .i64 p0.High), .sv (.str p0.Dots)], .sv (.int .i64 p1), .sv (.int .i64 p2)] [] (Xzo r) (Xzn r) := by
 refine Xae hT Try.func49 rfl fun C hC => ?_
 unfold Xdb at h
 refine Xad ?_
 iterate 2 refine kO hT hC ?_
 refine Vc.nil (Xaw (Xad ?_))
 refine kO hT hC ?_
 refine kC hC [] Try.call47 h (fun _ => Yb5) fun q1 h => ?_
 refine kO hT hC ?_
 refine Vc.nil ?_
 refine kS h ?_ ?_ <;> intro b1 h
 refine kt b1 (Xad ?_)
 refine kO hT hC ?_
 exact Vc.nil (Xaj (Xbk kR))
 refine kf b1 (Xag (Xaf ?_))
 refine Xhr hm ?_
 iterate 6 refine kO hT hC ?_
 refine kC hC [] Try.call91 h (fun _ => Xoi) fun q2 h => ?_
 iterate 7 refine kO hT hC ?_
 refine kC hC [] Try.call91 h (fun _ => Xoi) fun q3 h => ?_
 refine kO hT hC ?_
 refine kQ hT hC h fun h => ?_
 iterate 2 refine kO hT hC ?_
 exact kD (Xaj kR)
def Xvv (r : (Pic × Xa3)) : AV := .agg [.sv (.int .i64 r.1.Wide), .sv (.int .i64 r.1.High), .sv (.str r.1.Dots)]
def Xvu (r : (Pic × Xa3)) : Xbd := [(0, .box [.sv (.ints .u8 r.2.b_), .sv (.int .i64 r.2.i_), .sv (.int .i64 r.2.h_)])]
theorem Xyo {p0 p1 r} (h : Xjx p0 p1 = some r) : AC Try.prog 43 [.ptr 0 0, .agg [.sv (.int .i64 p1.Wide), .sv (.int .i64 p1.High), .sv (.str p1.Dots)]] [(0, .box [.sv (.ints .u8 p0.b_), .sv (.int .i64 p0.i_), .sv (.int .i64 p0.h_)])] (Xvv r) (Xvu r) := by
 refine Xae hT Try.func43 rfl fun C hC => ?_
 unfold Xjx at h
 refine Xad ?_
 iterate 2 refine kO hT hC ?_
 refine kN ?_
 refine kO hT hC ?_
 refine kC hC [(0, 0)] Try.call46 h (fun _ => Xa4) fun q1 h => ?_
 iterate 2 refine kO hT hC ?_
 refine kN ?_
 refine kO hT hC ?_
 refine kC hC [(0, 0)] Try.call46 h (fun _ => Xa4) fun q2 h => ?_
 iterate 2 refine kO hT hC ?_
 refine Vc.nil ?_
 refine kL [0,3,4,5,6] [0,48,64] [_,_,_,_,_] [_,_,_] ?_
 refine kA h (fun v3 => ([(5, .sv (.int .i64 v3.1)), (6, .sv (.int .i64 v3.2.1))], [(0, some (.box [.sv (.ints .u8 v3.2.2.1), .sv (.int .i64 v3.2.2.2.1), .sv (.int .i64 v3.2.2.2.2)]))])) (fun v3 h => ?_) fun v3 h => ?_
 refine Xad ?_
 refine kO hT hC ?_
 refine kC hC [(0, 0)] Try.call90 h (fun _ => Xk4) fun q4 h => ?_
 refine Vc.nil ?_
 refine kS h ?_ ?_ <;> intro b1 h
 refine kt b1 (Xad ?_)
 refine kO hT hC ?_
 refine Vc.nil (Xac ?_)
 refine kO hT hC ?_
 exact Vc.nil kM
 exact kf b1 (Xag kM)
 refine Xad ?_
 iterate 2 refine kO hT hC ?_
 refine Vc.nil (Xaw (Xad ?_))
 refine kO hT hC ?_
 refine Vc.nil ?_
 refine kL [0,3,4,5,6,7,8] [0,48,64,288] [_,_,_,_,_,_,_] [_,_,_,_] ?_
 refine kX h (fun v7 => ([(8, .sv (.int .i64 v7.1))], [(288, some (.ints .u8 v7.2))])) (fun v10 => ([(5, .any), (6, .any), (8, .any)], [(288, some (.ints .u8 v10))])) (kW hC []) (fun v7 s h => ?_) fun v10 h => ?_
 unfold Xh6 at h
 refine Xaw (Xad ?_)
 iterate 5 refine kO hT hC ?_
 refine Vc.nil ?_
 refine kS h ?_ ?_ <;> intro b4 h
 refine kt b4 (Xag (Xaf (Xaw (Xap ?_))))
 refine Xj0 hm ?_
 iterate 5 refine kO hT hC ?_
 refine kQ hT hC h fun h => ?_
 iterate 5 refine kO hT hC ?_
 refine kQ hT hC h fun h => ?_
 iterate 2 refine kO hT hC ?_
 refine kC hC [] Try.call49 h (fun _ => Yb4) fun q11 h => ?_
 iterate 2 refine kO hT hC ?_
 refine kT hT hC h fun h => ?_
 refine kO hT hC ?_
 refine kD (Xas (Xaf (Xac ?_)))
 iterate 3 refine kO hT hC ?_
 refine Vc.nil ?_
 obtain rfl := kj h
 exact Ye0 (kW hC [(288, 688)])
 exact kf b4 (Xar (Xa1 ku))
 refine Xaf (Xaw (Xad ?_))
 refine kO hT hC ?_
 refine Vc.nil ?_
 refine kL [0,3,4,7,9] [0,48,64,288] [_,_,_,_,_] [_,_,_,_] ?_
 refine kX h (fun v17 => ([(9, .sv (.int .i64 v17.1))], [(0, some (.box [.sv (.ints .u8 v17.2.1), .sv (.int .i64 v17.2.2.1), .sv (.int .i64 v17.2.2.2.1)])), (288, some (.ints .u8 v17.2.2.2.2))])) (fun v22 => ([(0, .any), (9, .any)], [(0, some (.box [.sv (.ints .u8 v22.2.1), .sv (.int .i64 v22.2.2.1), .sv (.int .i64 v22.2.2.2)])), (288, some (.ints .u8 v22.1))])) (kW hC []) (fun v17 s h => ?_) fun v22 h => ?_
 unfold Xh7 at h
 refine Xaw (Xad ?_)
 iterate 2 refine kO hT hC ?_
 refine kC hC [(0, 0)] Try.call46 h (fun _ => Xa4) fun q23 h => ?_
 refine kO hT hC ?_
 refine Vc.nil ?_
 refine kS h ?_ ?_ <;> intro b7 h
 refine kt b7 (Xag (Xaf (Xaw (Xap (Xac ?_)))))
 iterate 4 refine kO hT hC ?_
 refine kC hC [(0, 0)] Try.call46 h (fun _ => Xa4) fun q24 h => ?_
 refine kO hT hC ?_
 refine kC hC [(0, 0)] Try.call45 h (fun _ => Xbw) fun q25 h => ?_
 refine kO hT hC ?_
 iterate 2 refine kQ hT hC h fun h => ?_
 refine Vc.nil (Xas (Xaf (Xac ?_)))
 iterate 3 refine kO hT hC ?_
 exact Vc.nil kG
 exact kf b7 (Xar (Xa1 ku))
 refine Xaf (Xad ?_)
 iterate 8 refine kO hT hC ?_
 refine Vc.nil (Xaj ?_)
 obtain rfl := kj h
 exact Xfn (Xkf.refl _) rfl ⟨rfl, trivial⟩
def Xtt (r : (Pic × Pic)) : AV := .tup [.agg [.sv (.int .i64 r.1.Wide), .sv (.int .i64 r.1.High), .sv (.str r.1.Dots)], .agg [.sv (.int .i64 r.2.Wide), .sv (.int .i64 r.2.High), .sv (.str r.2.Dots)]]
def Xts (r : (Pic × Pic)) : Xbd := []
theorem Xvi {p0 r} (h : Xhv p0 = some r) : AC Try.prog 9 [.sv (.ints .u8 p0)] [] (Xtt r) (Xts r) := by
 refine Xae hT Try.func9 rfl fun C hC => ?_
 unfold Xhv at h
 refine Xad ?_
 iterate 2 refine kO hT hC ?_
 refine kN ?_
 refine kO hT hC ?_
 refine kC hC [(16, 112)] Try.call41 h (fun _ => Xl2) fun q1 h => ?_
 refine kO hT hC ?_
 refine kN ?_
 refine kO hT hC ?_
 refine kC hC [(0, 112)] Try.call42 h (fun _ => Xsm) fun q2 h => ?_
 iterate 2 refine kO hT hC ?_
 refine Vc.nil ?_
 refine Xhr hm ?_
 iterate 3 refine kO hT hC ?_
 refine kC hC [(0, 112)] Try.call43 h (fun _ => Xyo) fun q3 h => ?_
 iterate 2 refine kO hT hC ?_
 exact kD (Xaj kR)
def Xo7 (r : (Par × Xa3)) : AV := .agg [.sv (.int .i64 r.1.Qp), .sv (.bool r.1.Large), .sv (.bool r.1.Exact), .sv (.bool r.1.Confined)]
def Xo6 (r : (Par × Xa3)) : Xbd := [(0, .box [.sv (.ints .u8 r.2.b_), .sv (.int .i64 r.2.i_), .sv (.int .i64 r.2.h_)])]
theorem Xqq {p0 r} (h : Xeo p0 = some r) : AC Try.prog 70 [.ptr 0 0] [(0, .box [.sv (.ints .u8 p0.b_), .sv (.int .i64 p0.i_), .sv (.int .i64 p0.h_)])] (Xo7 r) (Xo6 r) := by
 refine Xae hT Try.func70 rfl fun C hC => ?_
 unfold Xeo at h
 refine Xad ?_
 refine kO hT hC ?_
 refine kN ?_
 refine kO hT hC ?_
 refine kC hC [(0, 0)] Try.call46 h (fun _ => Xa4) fun q1 h => ?_
 refine kO hT hC ?_
 refine kC hC [(0, 0)] Try.call90 h (fun _ => Xk4) fun q2 h => ?_
 iterate 4 refine kO hT hC ?_
 refine Vc.nil ?_
 refine kL [0,2,3] [0,32,48] [_,_,_] [_,_,_] ?_
 refine kA h (fun v3 => ([(0, .any)], [(0, some (.box [.sv (.ints .u8 v3.2.2.1), .sv (.int .i64 v3.2.2.2.1), .sv (.int .i64 v3.2.2.2.2)])), (48, some (.box [.sv (.int .i64 q1.1), .sv (.bool v3.1), .sv (.bool v3.2.1), .sv (.bool (!q2.1))]))])) (fun v3 h => ?_) fun v3 h => ?_
 refine Xad ?_
 refine kO hT hC ?_
 refine kC hC [(0, 0)] Try.call46 h (fun _ => Xa4) fun q4 h => ?_
 refine Vc.nil (Xap (Xad ?_))
 iterate 2 refine kO hT hC ?_
 refine Vc.nil ?_
 refine kS h ?_ ?_ <;> intro b1 h
 refine kt b1 (Xac ?_)
 iterate 2 refine kO hT hC ?_
 exact Vc.nil (Xas kM)
 refine kf b1 (Xad ?_)
 iterate 2 refine kO hT hC ?_
 refine Vc.nil ?_
 refine kS h ?_ ?_ <;> intro b2 h
 refine kt b2 (Xac ?_)
 iterate 2 refine kO hT hC ?_
 exact Vc.nil (Xas kM)
 exact kf b2 (Xag (Xas kM))
 refine Xad ?_
 iterate 2 refine kO hT hC ?_
 refine Vc.nil (Xaj ?_)
 obtain rfl := kj h
 exact Xfn (Xkf.refl _) rfl ⟨rfl, trivial⟩
def Xvt (r : (Xdx × Xa3)) : AV := .agg [.sv (.bool r.1.Key), .sv (.int .i64 r.1.Qp), .sv (.bool r.1.Large), .sv (.bool r.1.Exact)]
def Xvs (r : (Xdx × Xa3)) : Xbd := [(0, .box [.sv (.ints .u8 r.2.b_), .sv (.int .i64 r.2.i_), .sv (.int .i64 r.2.h_)])]
theorem Xyl {p0 r} (h : Xjv p0 = some r) : AC Try.prog 44 [.ptr 0 0] [(0, .box [.sv (.ints .u8 p0.b_), .sv (.int .i64 p0.i_), .sv (.int .i64 p0.h_)])] (Xvt r) (Xvs r) := by
 refine Xae hT Try.func44 rfl fun C hC => ?_
 unfold Xjv at h
 refine Xad ?_
 refine kO hT hC ?_
 refine kN ?_
 refine kO hT hC ?_
 refine kC hC [(0, 0)] Try.call70 h (fun _ => Xqq) fun q1 h => ?_
 iterate 2 refine kO hT hC ?_
 refine Vc.nil ?_
 refine Xhr hm ?_
 refine kO hT hC ?_
 refine kC hC [(0, 0)] Try.call90 h (fun _ => Xk4) fun q2 h => ?_
 iterate 8 refine kO hT hC ?_
 refine kD (Xaj ?_)
 obtain rfl := kj h
 exact Xfn (Xkf.refl _) rfl ⟨rfl, trivial⟩
def Xtr (r : Xdx) : AV := .agg [.sv (.bool r.Key), .sv (.int .i64 r.Qp), .sv (.bool r.Large), .sv (.bool r.Exact)]
def Xtq (r : Xdx) : Xbd := []
theorem Xvg {p0 r} (h : Xhu p0 = some r) : AC Try.prog 10 [.sv (.ints .u8 p0)] [] (Xtr r) (Xtq r) := by
 refine Xae hT Try.func10 rfl fun C hC => ?_
 unfold Xhu at h
 refine Xad ?_
 refine kO hT hC ?_
 refine kN ?_
 refine kO hT hC ?_
 refine kC hC [(16, 64)] Try.call41 h (fun _ => Xl2) fun q1 h => ?_
 refine kC hC [(0, 64)] Try.call44 h (fun _ => Xyl) fun q2 h => ?_
 refine kO hT hC ?_
 exact Vc.nil (Xaj kR)
def Xqo (r : (List Int)) : AV := .own 16
def Xqn (r : (List Int)) : Xbd := [(16, .ints .i64 r)]
theorem Xsi {p0 r} (h : Xfd p0 = some r) : AC Try.prog 11 [.sv (.ints .u8 p0)] [] (Xqo r) (Xqn r) := by
 refine Xae hT Try.func11 rfl fun C hC => ?_
 unfold Xfd at h
 refine Xad ?_
 refine kO hT hC ?_
 refine kN ?_
 refine kO hT hC ?_
 refine kC hC [(16, 112)] Try.call41 h (fun _ => Xl2) fun q1 h => ?_
 refine kO hT hC ?_
 refine kN ?_
 refine kO hT hC ?_
 refine kC hC [(0, 112)] Try.call45 h (fun _ => Xbw) fun q2 h => ?_
 refine kN ?_
 iterate 2 refine kO hT hC ?_
 refine Vc.nil (Xaw (Xad ?_))
 refine kO hT hC ?_
 refine Vc.nil ?_
 refine kL [3,4,5] [112,160] [_,_,_] [_,_] ?_
 refine kX h (fun v5 => ([(5, .sv (.int .i64 v5.1))], [(112, some (.box [.sv (.ints .u8 v5.2.1), .sv (.int .i64 v5.2.2.1), .sv (.int .i64 v5.2.2.2.1)])), (160, some (.ints .i64 v5.2.2.2.2))])) (fun v8 => ([(3, .any), (5, .any)], [(160, some (.ints .i64 v8)), (112, none)])) (kW hC []) (fun v5 s h => ?_) fun v8 h => ?_
 unfold Xey at h
 refine Xaw (Xad ?_)
 iterate 2 refine kO hT hC ?_
 refine Vc.nil ?_
 refine kS h ?_ ?_ <;> intro b3 h
 refine kt b3 (Xag (Xaf (Xaw (Xap (Xac ?_)))))
 iterate 2 refine kO hT hC ?_
 refine kC hC [(0, 112)] Try.call46 h (fun _ => Xa4) fun q9 h => ?_
 refine kO hT hC ?_
 refine kT hT hC h fun h => ?_
 refine kO hT hC ?_
 refine Vc.nil (Xas (Xaf (Xac ?_)))
 iterate 3 refine kO hT hC ?_
 refine Vc.nil ?_
 obtain rfl := kj h
 exact Ye0 (kW hC [(160, 304)])
 exact kf b3 (Xar (Xa1 ku))
 refine Xaf (Xad ?_)
 iterate 2 refine kO hT hC ?_
 refine Vc.nil (Xaj ?_)
 obtain rfl := kj h
 exact Xfn (τ := ⟨[(2, .own 16)], [(16, some (.ints .i64 v8))]⟩) (kW hC [(16, 160)]) rfl ⟨rfl, trivial⟩
def Xxo (r : Bool) : AV := .sv (.bool r)
def Xxn (r : Bool) : Xbd := []
theorem Xai {p0 p1 p2 r} (h : Xak p0 p1 p2 = some r) : AC Try.prog 53 [.sv (.int .i64 p0), .sv (.int .i64 p1), .sv (.int .i64 p2)] [] (Xxo r) (Xxn r) := by
 refine Xae hT Try.func53 rfl fun C hC => ?_
 unfold Xak at h
 refine Xad ?_
 refine kO hT hC ?_
 refine Vc.nil ?_
 refine kL [0,1,2,6] [] [_,_,_,_] [] ?_
 refine kA h (fun v1 => ([(6, .sv (.bool v1)), (0, .any), (1, .any), (2, .any)], [])) (fun v1 h => ?_) fun v1 h => ?_
 refine Xac ?_
 iterate 4 refine kO hT hC ?_
 refine kS h ?_ ?_ <;> intro b1 h
 iterate 3 refine kI hT hC b1 ?_
 refine kP hC true b1 ?_
 refine kO hT hC ?_
 exact Vc.nil kM
 iterate 3 refine kF hC b1 ?_
 refine kP hC false b1 ?_
 refine kO hT hC ?_
 exact Vc.nil kM
 exact Xaj kR
def Xy7 (r : Bool) : AV := .sv (.bool r)
def Xy6 (r : Bool) : Xbd := []
theorem Xdg {p0 r} (h : Xcf p0 = some r) : AC Try.prog 50 [.agg [.sv (.int .i64 p0.Wide), .sv (.int .i64 p0.High), .sv (.str p0.Dots)]] [] (Xy7 r) (Xy6 r) := by
 refine Xae hT Try.func50 rfl fun C hC => ?_
 unfold Xcf at h
 refine Xad ?_
 iterate 2 refine kO hT hC ?_
 refine Vc.nil ?_
 refine kL [1,2] [16] [_,_] [_] ?_
 refine kA h (fun v1 => ([(2, .sv (.bool v1)), (1, .any)], [(16, none)])) (fun v1 h => ?_) fun v1 h => ?_
 refine Xac ?_
 iterate 2 refine kO hT hC ?_
 refine kC hC [] Try.call53 h (fun _ => Xai) fun q2 h => ?_
 refine kO hT hC ?_
 refine kS h ?_ ?_ <;> intro b1 h
 iterate 2 refine kI hT hC b1 ?_
 refine kE hC b1 [] Try.call53 h (fun _ => Xai) fun q3 h => ?_
 refine kP hC true b1 ?_
 refine kO hT hC ?_
 refine kS h ?_ ?_ <;> intro b2 h
 iterate 9 refine kI hT hC b2 ?_
 refine kP hC true b2 ?_
 refine kO hT hC ?_
 exact Vc.nil kM
 iterate 9 refine kF hC b2 ?_
 refine kP hC false b2 ?_
 refine kO hT hC ?_
 exact Vc.nil kM
 iterate 3 refine kF hC b1 ?_
 refine kP hC false b1 ?_
 refine kO hT hC ?_
 iterate 9 refine kF hC rfl ?_
 iterate 2 refine kO hT hC ?_
 exact Vc.nil kM
 exact Xaj kR
def Xob (r : Bool) : AV := .sv (.bool r)
def Xoa (r : Bool) : Xbd := []
theorem Xdw {p0 p1 p2 r} (h : Xbg p0 p1 p2 = some r) : AC Try.prog 51 [.agg [.sv (.int .i64 p0.Wide), .sv (.int .i64 p0.High), .sv (.str p0.Dots)], .sv (.int .i64 p1), .sv (.int .i64 p2)] [] (Xob r) (Xoa r) := by
 refine Xae hT Try.func51 rfl fun C hC => ?_
 unfold Xbg at h
 refine Xad ?_
 iterate 2 refine kO hT hC ?_
 refine Vc.nil ?_
 refine kL [1,2,3,6] [48] [_,_,_,_] [_] ?_
 refine kA h (fun v1 => ([(6, .sv (.bool v1)), (1, .any), (2, .any), (3, .any)], [(48, none)])) (fun v1 h => ?_) fun v1 h => ?_
 refine Xac ?_
 refine kO hT hC ?_
 refine kQ hT hC h fun h => ?_
 iterate 2 refine kO hT hC ?_
 refine kS h ?_ ?_ <;> intro b1 h
 refine kI hT hC b1 ?_
 refine kJ hT hC b1 h fun h => ?_
 refine kI hT hC b1 ?_
 refine kP hC true b1 ?_
 refine kO hT hC ?_
 refine kS h ?_ ?_ <;> intro b2 h
 iterate 4 refine kI hT hC b2 ?_
 refine kE hC b2 [] Try.call53 h (fun _ => Xai) fun q2 h => ?_
 refine kP hC true b2 ?_
 refine kO hT hC ?_
 refine kS h ?_ ?_ <;> intro b3 h
 iterate 4 refine kI hT hC b3 ?_
 refine kE hC b3 [] Try.call53 h (fun _ => Xai) fun q3 h => ?_
 refine kP hC true b3 ?_
 refine kO hT hC ?_
 exact Vc.nil kM
 iterate 5 refine kF hC b3 ?_
 refine kP hC false b3 ?_
 refine kO hT hC ?_
 exact Vc.nil kM
 iterate 5 refine kF hC b2 ?_
 refine kP hC false b2 ?_
 refine kO hT hC ?_
 iterate 5 refine kF hC rfl ?_
 iterate 2 refine kO hT hC ?_
 exact Vc.nil kM
 iterate 3 refine kF hC b1 ?_
 refine kP hC false b1 ?_
 refine kO hT hC ?_
 iterate 5 refine kF hC rfl ?_
 iterate 2 refine kO hT hC ?_
 iterate 5 refine kF hC rfl ?_
 iterate 2 refine kO hT hC ?_
 exact Vc.nil kM
 exact Xaj kR
def Xpi (r : Bool) : AV := .sv (.bool r)
def Xph (r : Bool) : Xbd := []
theorem Xbh {p0 p1 p2 p3 r} (h : Xa8 p0 p1 p2 p3 = some r) : AC Try.prog 52 [.sv (.ints .i64 p0), .sv (.int .i64 p1), .sv (.int .i64 p2), .sv (.int .i64 p3)] [] (Xpi r) (Xph r) := by
 refine Xae hT Try.func52 rfl fun C hC => ?_
 unfold Xa8 at h
 refine Xad ?_
 refine kO hT hC ?_
 refine Vc.nil (Xaw (Xad ?_))
 iterate 3 refine kO hT hC ?_
 refine Vc.nil ?_
 refine kL [0,1,2,3,11,12,13] [] [_,_,_,_,_,_,_] [] ?_
 obtain ⟨o8, hl, h⟩ := Xbl h
 refine Xx7 (fun v3 => ([(13, .sv (.int .i64 v3))], [])) (fun v6 => ([(2, .any), (3, .any), (11, .any), (12, .any), (13, .any)], [])) (fun r => Yd4 C T Try.f52.results.toList (Xpi r) (Xph r)) hl ?_ ?_ ?_ ?_
 apply Xlv hC []
 exact co
 rfl
 decide
 rfl
 intro v3 s hs
 have h := hs
 unfold Xhj at h
 refine Xad ?_
 refine kO hT hC ?_
 refine Vc.nil (Xaw ?_)
 refine kS h ?_ ?_ <;> intro b5 h
 refine kt b5 (Xag (Xaf (Xaw (Xap (Xad ?_)))))
 refine kQ hT hC h fun h => ?_
 iterate 2 refine kO hT hC ?_
 refine kN ?_
 iterate 3 refine kO hT hC ?_
 refine kC hC [] Try.call53 h (fun _ => Xai) fun q7 h => ?_
 refine kO hT hC ?_
 refine Vc.nil ?_
 refine kS h ?_ ?_ <;> intro b6 h
 refine kt b6 (Xad ?_)
 refine kO hT hC ?_
 refine Vc.nil (Xaj (Xuk (Xbk ?_)))
 obtain rfl := kj h
 refine Yir (Yio ?_)
 exact Xfn (Xkf.refl _) rfl trivial
 refine kf b6 (Xag (Xas (Xaf (Xac ?_))))
 iterate 2 refine kO hT hC ?_
 exact Vc.nil kG
 exact kf b5 (Xar (Xa1 kb))
 intro v6 e
 subst e
 refine Xaf (Xad ?_)
 iterate 5 refine kO hT hC ?_
 exact Vc.nil (Xaj kR)
 intro r' σ' e hE
 subst e
 obtain rfl := kj h
 refine Xbk ?_
 exact hE
def Xwu (r : Bool) : AV := .sv (.bool r)
def Xwt (r : Bool) : Xbd := []
theorem Xeq {p0 r} (h : Xdn p0 = some r) : AC Try.prog 27 [.agg [.sv (.bool p0.Key), .sv (.int .i64 p0.Qp), .sv (.bool p0.Large), .sv (.bool p0.Exact)]] [] (Xwu r) (Xwt r) := by
 refine Xae hT Try.func27 rfl fun C hC => ?_
 unfold Xdn at h
 refine Xad ?_
 iterate 2 refine kO hT hC ?_
 refine Vc.nil ?_
 refine kL [1,2] [16] [_,_] [_] ?_
 refine kA h (fun v1 => ([(2, .sv (.bool v1)), (1, .any)], [(16, none)])) (fun v1 h => ?_) fun v1 h => ?_
 refine Xac ?_
 iterate 2 refine kO hT hC ?_
 refine kC hC [] Try.call53 h (fun _ => Xai) fun q2 h => ?_
 refine kO hT hC ?_
 refine kS h ?_ ?_ <;> intro b1 h
 iterate 3 refine kI hT hC b1 ?_
 refine kS h ?_ ?_ <;> intro b2 h
 iterate 2 refine kI hT hC b2 ?_
 refine Xdl hC rfl rfl rfl rfl b1 rfl rfl (b := true) b2 rfl rfl rfl trivial ?_
 refine kI hT hC b1 ?_
 refine kP hC true b1 ?_
 refine kO hT hC ?_
 exact Vc.nil kM
 iterate 2 refine kF hC b2 ?_
 refine Xdl hC rfl rfl rfl rfl b1 rfl rfl (b := false) b2 rfl rfl rfl trivial ?_
 refine kI hT hC b1 ?_
 refine kP hC true b1 ?_
 refine kO hT hC ?_
 exact Vc.nil kM
 iterate 3 refine kF hC b1 ?_
 iterate 2 refine Xn1 hC rfl rfl rfl rfl rfl rfl ?_
 iterate 2 refine kF hC b1 ?_
 refine kP hC false b1 ?_
 refine kO hT hC ?_
 exact Vc.nil kM
 exact Xaj kR
def Xup (r : Int) : AV := .sv (.int .i64 r)
def Xuo (r : Int) : Xbd := []
theorem Xhb {p0 p1 p2 r} (h : Xde p0 p1 p2 = some r) : AC Try.prog 103 [.sv (.int .i64 p0), .sv (.int .i64 p1), .sv (.int .i64 p2)] [] (Xup r) (Xuo r) := by
 refine Xae hT Try.func103 rfl fun C hC => ?_
 unfold Xde at h
 refine Xad ?_
 refine kO hT hC ?_
 refine kN ?_
 iterate 6 refine kO hT hC ?_
 exact Vc.nil (Xaj kR)
def Xuw (r : Int) : AV := .sv (.int .i64 r)
def Xuv (r : Int) : Xbd := []
theorem Xhf {p0 p1 p2 r} (h : Xdj p0 p1 p2 = some r) : AC Try.prog 92 [.agg [.sv (.int .i64 p0.Wide), .sv (.int .i64 p0.High), .sv (.str p0.Dots)], .sv (.int .i64 p1), .sv (.int .i64 p2)] [] (Xuw r) (Xuv r) := by
 refine Xae hT Try.func92 rfl fun C hC => ?_
 unfold Xdj at h
 refine Xad ?_
 iterate 2 refine kO hT hC ?_
 refine Vc.nil ?_
 refine Xhr hm ?_
 iterate 6 refine kO hT hC ?_
 refine kC hC [] Try.call103 h (fun _ => Xhb) fun q1 h => ?_
 iterate 7 refine kO hT hC ?_
 refine kC hC [] Try.call103 h (fun _ => Xhb) fun q2 h => ?_
 refine kO hT hC ?_
 refine kQ hT hC h fun h => ?_
 iterate 2 refine kO hT hC ?_
 exact kD (Xaj kR)
def Xur (r : (Xf3 × Bool)) : AV := .tup [.agg [.own 16, .own 17, .sv (.int .i64 r.1.Corner)], .sv (.bool r.2)]
def Xuq (r : (Xf3 × Bool)) : Xbd := [(16, .ints .i64 r.1.Above), (17, .ints .i64 r.1.Left)]
theorem Xn6 {p0 p1 p2 r} (h : Xgz p0 p1 p2 = some r) : AC Try.prog 54 [.agg [.sv (.int .i64 p0.Wide), .sv (.int .i64 p0.High), .sv (.str p0.Dots)], .sv (.int .i64 p1), .sv (.int .i64 p2)] [] (Xur r) (Xuq r) := by
 refine Xae hT Try.func54 rfl fun C hC => ?_
 unfold Xgz at h
 refine Xad ?_
 iterate 3 refine kO hT hC ?_
 refine Vc.nil (Xaw ?_)
 refine kL [1,2,3,6] [48,96] [_,_,_,_] [_,_] ?_
 refine kA h (fun v1 => ([(19, .sv (.bool v1))], [])) (fun v1 h => ?_) fun v1 h => ?_
 refine Xac ?_
 refine kO hT hC ?_
 refine kC hC [] Try.call50 h (fun _ => Xdg) fun q2 h => ?_
 iterate 2 refine kO hT hC ?_
 refine kS h ?_ ?_ <;> intro b1 h
 iterate 3 refine kI hT hC (kn b1) ?_
 refine kE hC (kn b1) [] Try.call51 h (fun _ => Xdw) fun q3 h => ?_
 refine kI hT hC (kn b1) ?_
 refine kP hC false (kn b1) ?_
 exact Vc.nil kM
 iterate 5 refine kF hC (kn b1) ?_
 refine kP hC true (kn b1) ?_
 exact Vc.nil kM
 refine kS h ?_ ?_ <;> intro b2 h
 refine kt b2 (Xad ?_)
 iterate 3 refine kO hT hC ?_
 refine Vc.nil (Xaj (Xbk ?_))
 obtain rfl := kj h
 refine Xfn (τ := ⟨[(6, .ptr 2000000 0), (7, .sv (.bool false))], [(16, some (.ints .i64 [])), (17, some (.ints .i64 [])), (2000000, some (.box [.own 16, .own 17, .sv (.int .i64 0)]))]⟩) ?_ rfl ⟨rfl, rfl, trivial⟩
 refine Xsp hC 96 0 1105 (.ints .i64 []) rfl rfl rfl rfl rfl trivial ?_
 refine Xsp hC 96 1 1106 (.ints .i64 []) rfl rfl rfl rfl rfl trivial ?_
 apply Xlv hC [(16, 1105), (17, 1106), (2000000, 96)]
 exact co
 rfl
 decide
 rfl
 refine kf b2 (Xag (Xaf (Xad ?_)))
 iterate 3 refine kO hT hC ?_
 refine Vc.nil (Xaw (Xad ?_))
 refine kO hT hC ?_
 refine Vc.nil ?_
 refine kL [1,2,3,6,8,22] [48,96,128] [_,_,_,_,_,_] [_,_,_] ?_
 obtain ⟨v15, hl, h⟩ := Xbl h
 refine Yk9 (fun v9 => ([(22, .sv (.int .i64 v9.1))], [(128, some (.box [.own 1129, .own 1130, .sv (.int .i64 (-1))])), (1129, some (.ints .i64 v9.2.1)), (1130, some (.ints .i64 v9.2.2))])) (fun v15 => ([(22, .any)], [(128, some (.box [.own 1133, .own 1134, .sv (.int .i64 (-1))])), (1133, some (.ints .i64 v15.1)), (1134, some (.ints .i64 v15.2))])) hl ?_ ?_ ?_
 refine Xsp hC 128 0 1135 (.ints .i64 []) rfl rfl rfl rfl rfl trivial ?_
 refine Xsp hC 128 1 1136 (.ints .i64 []) rfl rfl rfl rfl rfl trivial ?_
 try dsimp only
 apply Xlv hC [(1129, 1135), (1130, 1136)]
 exact co
 rfl
 decide
 rfl
 intro v9 s hs
 have h := hs
 unfold Xhd at h
 refine Xad ?_
 refine kO hT hC ?_
 refine Vc.nil (Xaw ?_)
 refine kS h ?_ ?_ <;> intro b9 h
 refine kt b9 (Xag (Xaf ?_))
 refine kL [1,2,3,6,8,22] [48,96,128,1129,1130] [_,_,_,_,_,_] [_,_,_,_,_] ?_
 refine kA h (fun v16 => ([], [(1129, some (.ints .i64 v16.1)), (1130, some (.ints .i64 v16.2))])) (fun v16 h => ?_) fun v16 h => ?_
 refine Xap (Xad ?_)
 iterate 2 refine kO hT hC ?_
 refine Vc.nil ?_
 refine kL [1,2,3,6,8,9,22] [48,96,128,1129,1130] [_,_,_,_,_,_,_] [_,_,_,_,_] ?_
 refine kA h (fun v17 => ([], [(1129, some (.ints .i64 v17))])) (fun v17 h => ?_) fun v17 h => ?_
 refine Xad ?_
 iterate 2 refine kO hT hC ?_
 refine Vc.nil ?_
 refine kS h ?_ ?_ <;> intro b10 h
 refine kt b10 ?_
 refine Xj0 hm ?_
 iterate 8 refine kO hT hC ?_
 refine kC hC [] Try.call92 h (fun _ => Xhf) fun q18 h => ?_
 refine kO hT hC ?_
 refine kT hT hC h fun h => ?_
 iterate 2 refine kO hT hC ?_
 refine kD ?_
 obtain rfl := kj h
 exact Xkz (kW hC [(1129, 592)])
 exact kf b10 (Xag kM)
 refine Xad ?_
 iterate 2 refine kO hT hC ?_
 refine Vc.nil ?_
 refine kS h ?_ ?_ <;> intro b11 h
 refine kt b11 ?_
 refine Xj0 hm ?_
 iterate 8 refine kO hT hC ?_
 refine kC hC [] Try.call92 h (fun _ => Xhf) fun q19 h => ?_
 refine kO hT hC ?_
 refine kT hT hC h fun h => ?_
 iterate 2 refine kO hT hC ?_
 refine kD (Xas ?_)
 obtain rfl := kj h
 exact Xkz (kW hC [(1130, 816)])
 exact kf b11 (Xag (Xas kM))
 refine Xac ?_
 iterate 2 refine kO hT hC ?_
 exact Vc.nil kG
 refine kf b9 (Xar (Xa1 ?_))
 obtain rfl := kj h
 exact Yiq (Ymx (kW hC [(1133, 1129), (1134, 1130)]))
 refine Xaf ?_
 refine kL [1,2,3,6,8] [48,96,128,1133,1134] [_,_,_,_,_] [_,_,_,_,_] ?_
 refine kA h (fun v21 => ([(1, .any), (2, .any), (3, .any)], [(128, some (.box [.own 1133, .own 1134, .sv (.int .i64 v21)])), (48, none)])) (fun v21 h => ?_) fun v21 h => ?_
 refine kL [1,2,3,6,8] [48,96,128,1133,1134] [_,_,_,_,_] [_,_,_,_,_] ?_
 refine kA h (fun v22 => ([(59, .sv (.bool v22))], [])) (fun v22 h => ?_) fun v22 h => ?_
 refine Xac ?_
 iterate 3 refine kO hT hC ?_
 refine kS h ?_ ?_ <;> intro b12 h
 iterate 2 refine kI hT hC b12 ?_
 refine kP hC true b12 ?_
 exact Vc.nil kM
 iterate 2 refine kF hC b12 ?_
 refine kP hC false b12 ?_
 exact Vc.nil kM
 refine kS h ?_ ?_ <;> intro b13 h
 refine kt b13 (Xac ?_)
 iterate 5 refine kO hT hC ?_
 refine kC hC [] Try.call92 h (fun _ => Xhf) fun q23 h => ?_
 iterate 2 refine kO hT hC ?_
 exact Vc.nil kM
 exact kf b13 (Xag kM)
 refine Xad ?_
 iterate 3 refine kO hT hC ?_
 refine Vc.nil (Xaj ?_)
 obtain rfl := kj h
 exact Xfn (τ := ⟨[(6, .ptr 2000000 0), (7, .sv (.bool true))], [(16, some (.ints .i64 v15.1)), (17, some (.ints .i64 v15.2)), (2000000, some (.box [.own 16, .own 17, .sv (.int .i64 v21)]))]⟩) (kW hC [(16, 1133), (17, 1134), (2000000, 96)]) rfl ⟨rfl, rfl, trivial⟩
def Xnl (r : Bool) : AV := .sv (.bool r)
def Xnk (r : Bool) : Xbd := []
theorem Xn7 {p0 r} (h : Xg0 p0 = some r) : AC Try.prog 93 [.agg [.sv (.ints .i64 p0.Above), .sv (.ints .i64 p0.Left), .sv (.int .i64 p0.Corner)]] [] (Xnl r) (Xnk r) := by
 refine Xae hT Try.func93 rfl fun C hC => ?_
 unfold Xg0 at h
 refine Xad ?_
 iterate 2 refine kO hT hC ?_
 refine Vc.nil (Xaw (Xad ?_))
 iterate 7 refine kO hT hC ?_
 refine Vc.nil ?_
 refine kL [1,9,10,11] [16,144] [_,_,_,_] [_,_] ?_
 obtain ⟨o11, hl, h⟩ := Xbl h
 refine Xx7 (fun v4 => ([(11, .sv (.int .i64 v4))], [])) (fun v8 => ([(9, .any), (10, .any), (11, .any)], [(144, none)])) (fun r => Yd4 C T Try.f93.results.toList (Xnl r) (Xnk r)) hl ?_ ?_ ?_ ?_
 apply Xlv hC []
 exact co
 rfl
 decide
 rfl
 intro v4 s hs
 have h := hs
 unfold Xdz at h
 refine Xad ?_
 refine kO hT hC ?_
 refine Vc.nil (Xaw ?_)
 refine kS h ?_ ?_ <;> intro b7 h
 refine kt b7 (Xag (Xaf (Xaw (Xap (Xad ?_)))))
 iterate 2 refine kQ hT hC h fun h => ?_
 refine kO hT hC ?_
 refine Vc.nil ?_
 refine kL [1,4,9,10,11] [16,144] [_,_,_,_,_] [_,_] ?_
 refine kA h (fun v9 => ([(22, .sv (.bool v9)), (4, .any)], [])) (fun v9 h => ?_) fun v9 h => ?_
 refine Xac ?_
 iterate 4 refine kO hT hC ?_
 refine kS h ?_ ?_ <;> intro b8 h
 refine kI hT hC b8 ?_
 refine kE hC b8 [] Try.call52 h (fun _ => Xbh) fun q10 h => ?_
 refine kI hT hC b8 ?_
 refine kP hC true b8 ?_
 exact Vc.nil kM
 iterate 3 refine kF hC b8 ?_
 refine kP hC false b8 ?_
 exact Vc.nil kM
 refine kS h ?_ ?_ <;> intro b9 h
 refine kt b9 (Xad ?_)
 refine kO hT hC ?_
 refine Vc.nil (Xaj (Xuk (Xbk ?_)))
 obtain rfl := kj h
 refine Yir (Yio ?_)
 exact Xfn (Xkf.refl _) rfl trivial
 refine kf b9 (Xag (Xas (Xaf (Xac ?_))))
 iterate 2 refine kO hT hC ?_
 exact Vc.nil kG
 exact kf b7 (Xar (Xa1 kb))
 intro v8 e
 subst e
 refine Xaf (Xad ?_)
 iterate 2 refine kO hT hC ?_
 refine kC hC [] Try.call53 h (fun _ => Xai) fun q12 h => ?_
 refine kO hT hC ?_
 exact Vc.nil (Xaj kR)
 intro r' σ' e hE
 subst e
 obtain rfl := kj h
 refine Xbk ?_
 exact hE
def Xzj (r : Int) : AV := .sv (.int .i64 r)
def Xzi (r : Int) : Xbd := []
theorem Xr4 {p0 r} (h : Xg5 p0 = some r) : AC Try.prog 101 [.sv (.ints .i64 p0)] [] (Xzj r) (Xzi r) := by
 refine Xae hT Try.func101 rfl fun C hC => ?_
 unfold Xg5 at h
 refine Xad ?_
 refine kO hT hC ?_
 refine kN ?_
 refine kO hT hC ?_
 refine Vc.nil (Xaw (Xad ?_))
 iterate 3 refine kO hT hC ?_
 refine Vc.nil ?_
 refine kL [3,6,7,8] [] [_,_,_,_] [] ?_
 refine kX h (fun v2 => ([(3, .sv (.int .i64 v2.1)), (8, .sv (.int .i64 v2.2))], [])) (fun v4 => ([(3, .sv (.int .i64 v4)), (6, .any), (7, .any), (8, .any)], [])) (kW hC []) (fun v2 s h => ?_) fun v4 h => ?_
 unfold Xm6 at h
 refine Xad ?_
 refine kO hT hC ?_
 refine Vc.nil (Xaw ?_)
 refine kS h ?_ ?_ <;> intro b3 h
 refine kt b3 (Xag (Xaf (Xaw (Xap (Xad ?_)))))
 refine kQ hT hC h fun h => ?_
 iterate 2 refine kO hT hC ?_
 refine Vc.nil (Xac ?_)
 iterate 4 refine kO hT hC ?_
 refine Vc.nil (Xas (Xaf (Xac ?_)))
 iterate 2 refine kO hT hC ?_
 exact Vc.nil kG
 exact kf b3 (Xar (Xa1 ku))
 refine Xaf (Xad ?_)
 iterate 2 refine kO hT hC ?_
 exact Vc.nil (Xaj kR)
def Xxk (r : (List Int)) : AV := .sv (.ints .i64 r)
def Xxj (r : (List Int)) : Xbd := []
theorem Xpl {p0 r} (h : Xio p0 = some r) : AC Try.prog 102 [.sv (.ints .i64 p0)] [] (Xxk r) (Xxj r) := by
 refine Xae hT Try.func102 rfl fun C hC => ?_
 unfold Xio at h
 refine Xad ?_
 refine kO hT hC ?_
 refine Vc.nil (Xaw (Xad ?_))
 iterate 3 refine kO hT hC ?_
 refine Vc.nil ?_
 refine kS h ?_ ?_ <;> intro b1 h
 refine kt b1 (Xad ?_)
 iterate 2 refine kO hT hC ?_
 refine Vc.nil (Xaj (Xbk ?_))
 obtain rfl := kj h
 exact Xfn (τ := ⟨[(2, .sv (.ints .i64 ([128, 128, 128, 128, 128, 128, 128, 128])))], []⟩) (kW hC []) rfl trivial
 refine kf b1 (Xag (Xaf (Xad ?_)))
 iterate 2 refine kO hT hC ?_
 exact Vc.nil (Xaj kR)
def Xuu (r : (List Int)) : AV := .own 16
def Xut (r : (List Int)) : Xbd := [(16, .ints .i64 r)]
theorem Xkp {p0 p1 r} (h : Xd8 p0 p1 = some r) : AC Try.prog 58 [.sv (.int .i64 p0), .agg [.sv (.ints .i64 p1.Above), .sv (.ints .i64 p1.Left), .sv (.int .i64 p1.Corner)]] [] (Xuu r) (Xut r) := by
 refine Xae hT Try.func58 rfl fun C hC => ?_
 unfold Xd8 at h
 refine Xad ?_
 iterate 2 refine kO hT hC ?_
 refine kN ?_
 iterate 2 refine kO hT hC ?_
 refine Vc.nil (Xaw ?_)
 refine kL [0,3,5] [48,208] [_,_,_] [_,_] ?_
 refine kA h (fun v1 => ([(21, .sv (.bool v1))], [])) (fun v1 h => ?_) fun v1 h => ?_
 refine Xac ?_
 refine kO hT hC ?_
 refine kC hC [] Try.call93 h (fun _ => Xn7) fun q2 h => ?_
 iterate 2 refine kO hT hC ?_
 refine kS h ?_ ?_ <;> intro b1 h
 refine kI hT hC (kn b1) ?_
 refine kE hC (kn b1) [] Try.call53 h (fun _ => Xai) fun q3 h => ?_
 refine kI hT hC (kn b1) ?_
 refine kP hC false (kn b1) ?_
 exact Vc.nil kM
 iterate 3 refine kF hC (kn b1) ?_
 refine kP hC true (kn b1) ?_
 exact Vc.nil kM
 refine kS h ?_ ?_ <;> intro b2 h
 refine kt b2 (Xad ?_)
 iterate 2 refine kO hT hC ?_
 refine Vc.nil (Xaj (Xbk ?_))
 obtain rfl := kj h
 exact Xfn (τ := ⟨[(4, .own 16)], [(16, some (.ints .i64 ([] : List Int)))]⟩) (kW hC [(16, 208)]) rfl ⟨rfl, trivial⟩
 refine kf b2 (Xag (Xaf (Xad ?_)))
 refine kO hT hC ?_
 refine Vc.nil ?_
 refine kL [0,3,5,6] [48,208] [_,_,_,_] [_,_] ?_
 refine kA h (fun v4 => ([(6, .sv (.int .i64 v4))], [])) (fun v4 h => ?_) fun v4 h => ?_
 refine Xad ?_
 iterate 8 refine kO hT hC ?_
 refine kN ?_
 iterate 2 refine kO hT hC ?_
 refine Vc.nil ?_
 refine kS h ?_ ?_ <;> intro b3 h
 refine kt b3 ?_
 refine Xj0 hm ?_
 iterate 2 refine kO hT hC ?_
 refine kC hC [] Try.call101 h (fun _ => Xr4) fun q5 h => ?_
 iterate 2 refine kO hT hC ?_
 refine kC hC [] Try.call101 h (fun _ => Xr4) fun q6 h => ?_
 iterate 2 refine kO hT hC ?_
 refine kQ hT hC h fun h => ?_
 iterate 2 refine kO hT hC ?_
 refine kQ hT hC h fun h => ?_
 refine kO hT hC ?_
 exact kD kM
 exact kf b3 (Xag kM)
 refine Xhr hm ?_
 iterate 2 refine kO hT hC ?_
 refine kC hC [] Try.call102 h (fun _ => Xpl) fun q7 h => ?_
 iterate 2 refine kO hT hC ?_
 refine kC hC [] Try.call102 h (fun _ => Xpl) fun q8 h => ?_
 iterate 5 refine kO hT hC ?_
 refine kD ?_
 refine kL [0,5,6,8,9,10] [208] [_,_,_,_,_,_] [_] ?_
 refine kA h (fun v9 => ([(10, .sv (.int .i64 v9))], [])) (fun v9 h => ?_) fun v9 h => ?_
 refine Xad ?_
 iterate 2 refine kO hT hC ?_
 refine Vc.nil ?_
 refine kS h ?_ ?_ <;> intro b4 h
 refine kt b4 (Xac ?_)
 refine kO hT hC ?_
 exact Vc.nil kM
 exact kf b4 (Xag kM)
 refine Xaw (Xad ?_)
 refine kO hT hC ?_
 refine Vc.nil ?_
 refine kL [0,5,6,8,9,10,54] [208] [_,_,_,_,_,_,_] [_] ?_
 refine kX h (fun v22 => ([(54, .sv (.int .i64 v22.1))], [(208, some (.ints .i64 v22.2))])) (fun v35 => ([(0, .any), (6, .any), (8, .any), (9, .any), (10, .any), (54, .any)], [(208, some (.ints .i64 v35))])) (kW hC []) (fun v22 s h => ?_) fun v35 h => ?_
 unfold Xj2 at h
 refine Xad ?_
 refine kO hT hC ?_
 refine Vc.nil (Xaw ?_)
 refine kS h ?_ ?_ <;> intro b31 h
 refine kt b31 (Xag (Xaf (Xaw (Xap (Xad ?_)))))
 iterate 2 refine kO hT hC ?_
 refine kN ?_
 refine kO hT hC ?_
 refine Vc.nil ?_
 refine kL [0,5,6,8,9,10,11,54,57] [208] [_,_,_,_,_,_,_,_,_] [_] ?_
 refine kX h (fun v39 => ([(57, .sv (.int .i64 v39.1))], [(208, some (.ints .i64 v39.2))])) (fun v43 => ([(11, .any), (57, .any)], [(208, some (.ints .i64 v43))])) (kW hC []) (fun v39 s h => ?_) fun v43 h => ?_
 unfold Xem at h
 refine Xad ?_
 refine kO hT hC ?_
 refine Vc.nil (Xaw ?_)
 refine kS h ?_ ?_ <;> intro b40 h
 refine kt b40 (Xag (Xaf ?_))
 refine kL [0,5,6,8,9,10,11,54,57] [208] [_,_,_,_,_,_,_,_,_] [_] ?_
 refine kA h (fun v44 => ([(5, .own 1700)], [(1700, some (.ints .i64 v44)), (208, none)])) (fun v44 h => ?_) fun v44 h => ?_
 refine Xap (Xad ?_)
 iterate 2 refine kO hT hC ?_
 refine kN ?_
 refine kO hT hC ?_
 refine Vc.nil (Xap (Xad ?_))
 iterate 2 refine kO hT hC ?_
 refine Vc.nil ?_
 refine kS h ?_ ?_ <;> intro b41 h
 refine kt b41 (Xac ?_)
 iterate 3 refine kO hT hC ?_
 refine kT hT hC h fun h => ?_
 refine kO hT hC ?_
 refine Vc.nil ?_
 iterate 2 refine Xas ?_
 obtain rfl := kj h
 exact Xkz (kW hC [(1700, 1296)])
 refine kf b41 (Xad ?_)
 iterate 2 refine kO hT hC ?_
 refine Vc.nil ?_
 refine kS h ?_ ?_ <;> intro b42 h
 refine kt b42 (Xac ?_)
 iterate 3 refine kO hT hC ?_
 refine kQ hT hC h fun h => ?_
 iterate 2 refine kO hT hC ?_
 refine kT hT hC h fun h => ?_
 refine kO hT hC ?_
 refine Vc.nil ?_
 iterate 2 refine Xas ?_
 obtain rfl := kj h
 exact Xkz (kW hC [(1700, 1440)])
 refine kf b42 (Xad ?_)
 iterate 2 refine kO hT hC ?_
 refine Vc.nil ?_
 refine kS h ?_ ?_ <;> intro b43 h
 refine kt b43 (Xac ?_)
 iterate 3 refine kO hT hC ?_
 refine kQ hT hC h fun h => ?_
 iterate 2 refine kO hT hC ?_
 refine kT hT hC h fun h => ?_
 refine kO hT hC ?_
 refine Vc.nil ?_
 iterate 2 refine Xas ?_
 obtain rfl := kj h
 exact Xkz (kW hC [(1700, 1584)])
 refine kf b43 ?_
 refine Xj0 hm ?_
 iterate 3 refine kO hT hC ?_
 refine kQ hT hC h fun h => ?_
 iterate 3 refine kO hT hC ?_
 refine kQ hT hC h fun h => ?_
 iterate 4 refine kO hT hC ?_
 refine kC hC [] Try.call103 h (fun _ => Xhb) fun q45 h => ?_
 refine kO hT hC ?_
 refine kT hT hC h fun h => ?_
 refine kO hT hC ?_
 refine kD ?_
 iterate 2 refine Xas ?_
 obtain rfl := kj h
 exact Xkz (kW hC [(1700, 1200)])
 refine Xac ?_
 iterate 2 refine kO hT hC ?_
 refine Vc.nil ?_
 obtain rfl := kj h
 exact Ye0 (kW hC [(208, 1700)])
 exact kf b40 (Xar (Xa1 ku))
 refine Xas (Xaf (Xac ?_))
 iterate 2 refine kO hT hC ?_
 exact Vc.nil kG
 exact kf b31 (Xar (Xa1 ku))
 refine Xaf (Xad ?_)
 iterate 2 refine kO hT hC ?_
 refine Vc.nil (Xaj ?_)
 obtain rfl := kj h
 exact Xfn (τ := ⟨[(4, .own 16)], [(16, some (.ints .i64 v35))]⟩) (kW hC [(16, 208)]) rfl ⟨rfl, trivial⟩
def Ybc (r : Int) : AV := .sv (.int .i64 r)
def Ybb (r : Int) : Xbd := []
theorem Xoe {p0 r} (h : Xjo p0 = some r) : AC Try.prog 104 [.sv (.int .i64 p0)] [] (Ybc r) (Ybb r) := by
 refine Xae hT Try.func104 rfl fun C hC => ?_
 unfold Xjo at h
 refine Xad ?_
 refine kO hT hC ?_
 refine kN ?_
 iterate 5 refine kO hT hC ?_
 exact Vc.nil (Xaj kR)
def Yc3 (r : Int) : AV := .sv (.int .i64 r)
def Yc2 (r : Int) : Xbd := []
theorem Xqg {p0 p1 r} (h : Xlj p0 p1 = some r) : AC Try.prog 59 [.sv (.ints .i64 p0), .sv (.ints .i64 p1)] [] (Yc3 r) (Yc2 r) := by
 refine Xae hT Try.func59 rfl fun C hC => ?_
 unfold Xlj at h
 refine Xad ?_
 refine kO hT hC ?_
 refine kN ?_
 refine kO hT hC ?_
 refine Vc.nil (Xaw (Xad ?_))
 iterate 3 refine kO hT hC ?_
 refine Vc.nil ?_
 refine kL [1,5,8,9,10] [] [_,_,_,_,_] [] ?_
 refine kX h (fun v3 => ([(5, .sv (.int .i64 v3.1)), (10, .sv (.int .i64 v3.2))], [])) (fun v6 => ([(5, .sv (.int .i64 v6)), (1, .any), (8, .any), (9, .any), (10, .any)], [])) (kW hC []) (fun v3 s h => ?_) fun v6 h => ?_
 unfold Xkr at h
 refine Xad ?_
 refine kO hT hC ?_
 refine Vc.nil (Xaw ?_)
 refine kS h ?_ ?_ <;> intro b3 h
 refine kt b3 (Xag (Xaf (Xaw (Xap (Xad ?_)))))
 refine kO hT hC ?_
 refine kQ hT hC h fun h => ?_
 iterate 3 refine kO hT hC ?_
 refine Vc.nil (Xac ?_)
 iterate 4 refine kO hT hC ?_
 refine kQ hT hC h fun h => ?_
 iterate 2 refine kO hT hC ?_
 refine kC hC [] Try.call104 h (fun _ => Xoe) fun q7 h => ?_
 iterate 2 refine kO hT hC ?_
 refine Vc.nil (Xas (Xaf (Xac ?_)))
 iterate 2 refine kO hT hC ?_
 exact Vc.nil kG
 exact kf b3 (Xar (Xa1 ku))
 refine Xaf (Xad ?_)
 iterate 2 refine kO hT hC ?_
 exact Vc.nil (Xaj kR)
def Xry (r : Int) : AV := .sv (.int .i64 r)
def Xrx (r : Int) : Xbd := []
theorem Xth {p0 r} (h : Xi6 p0 = some r) : AC Try.prog 150 [.sv (.int .i64 p0)] [] (Xry r) (Xrx r) := by
 refine Xae hT Try.func150 rfl fun C hC => ?_
 unfold Xi6 at h
 refine Xad ?_
 refine kO hT hC ?_
 refine kN ?_
 refine kO hT hC ?_
 refine Vc.nil (Xaw ?_)
 refine kL [0,3] [] [_,_] [] ?_
 refine kX h (fun v2 => ([(0, .sv (.int .i64 v2.1)), (3, .sv (.int .i64 v2.2))], [])) (fun v4 => ([(3, .sv (.int .i64 v4)), (0, .any)], [])) (kW hC []) (fun v2 s h => ?_) fun v4 h => ?_
 unfold Xb0 at h
 refine Xaw (Xad ?_)
 iterate 2 refine kO hT hC ?_
 refine Vc.nil ?_
 refine kS h ?_ ?_ <;> intro b3 h
 refine kt b3 (Xag (Xaf (Xaw (Xap (Xac ?_)))))
 iterate 3 refine kO hT hC ?_
 refine Vc.nil (Xas (Xaf (Xac ?_)))
 refine kO hT hC ?_
 refine kQ hT hC h fun h => ?_
 refine kO hT hC ?_
 exact Vc.nil kG
 exact kf b3 (Xar (Xa1 ku))
 refine Xaf (Xad ?_)
 iterate 2 refine kO hT hC ?_
 exact Vc.nil (Xaj kR)
def Xzh (r : ByteArray) : AV := .sv (.str r)
def Xzg (r : ByteArray) : Xbd := []
theorem Ya9 {p0 p1 r} (h : Xme p0 p1 = some r) : AC Try.prog 149 [.sv (.int .i64 p0), .sv (.int .i64 p1)] [] (Xzh r) (Xzg r) := by
 refine Xae hT Try.func149 rfl fun C hC => ?_
 unfold Xme at h
 refine Xad ?_
 refine kO hT hC ?_
 refine kN ?_
 refine kO hT hC ?_
 obtain ⟨hq, h⟩ := Xat h
 refine Yjf hT hC rfl rfl rfl rfl ⟨hq.1, hq.2.1, hq.2.2, by decide⟩ ?_
 refine kO hT hC ?_
 refine Vc.nil (Xaw (Xad ?_))
 iterate 3 refine kO hT hC ?_
 refine Vc.nil ?_
 refine kL [0,5,6] [128] [_,_,_] [_] ?_
 refine kX h (fun v2 => ([(0, .sv (.int .i64 v2.1)), (6, .sv (.int .i64 v2.2.1))], [(128, some (.ints .u8 v2.2.2))])) (fun v4 => ([(0, .any), (6, .any)], [(128, some (.ints .u8 v4))])) (kW hC []) (fun v2 s h => ?_) fun v4 h => ?_
 unfold Xhl at h
 refine Xaw (Xad ?_)
 iterate 2 refine kO hT hC ?_
 refine Vc.nil ?_
 refine kS h ?_ ?_ <;> intro b3 h
 refine kt b3 (Xag (Xaf (Xaw (Xap (Xad ?_)))))
 iterate 6 refine kO hT hC ?_
 iterate 2 refine kQ hT hC h fun h => ?_
 refine Vc.nil (Xac ?_)
 refine kO hT hC ?_
 refine kQ hT hC h fun h => ?_
 refine kO hT hC ?_
 refine Vc.nil (Xas (Xaf (Xac ?_)))
 iterate 3 refine kO hT hC ?_
 exact Vc.nil kG
 exact kf b3 (Xar (Xa1 ku))
 refine Xaf (Xad ?_)
 iterate 3 refine kO hT hC ?_
 exact Vc.nil (Xaj kR)
def Yem (r : ByteArray) : AV := .sv (.str r)
def Yel (r : ByteArray) : Xbd := []
theorem Xkk {p0 r} (h : Xj7 p0 = some r) : AC Try.prog 116 [.sv (.int .i64 p0)] [] (Yem r) (Yel r) := by
 refine Xae hT Try.func116 rfl fun C hC => ?_
 unfold Xj7 at h
 refine Xad ?_
 refine kO hT hC ?_
 refine kN ?_
 iterate 4 refine kO hT hC ?_
 refine kC hC [] Try.call150 h (fun _ => Xth) fun q1 h => ?_
 iterate 2 refine kO hT hC ?_
 refine kC hC [] Try.call149 h (fun _ => Ya9) fun q2 h => ?_
 refine kO hT hC ?_
 exact Vc.nil (Xaj kR)
def Xzc (r : (ByteArray × Bool)) : AV := .tup [.sv (.str r.1), .sv (.bool r.2)]
def Xzb (r : (ByteArray × Bool)) : Xbd := []
theorem Xrr {p0 r} (h : Xki p0 = some r) : AC Try.prog 135 [.sv (.int .i64 p0)] [] (Xzc r) (Xzb r) := by
 refine Xae hT Try.func135 rfl fun C hC => ?_
 unfold Xki at h
 refine Xad ?_
 iterate 2 refine kO hT hC ?_
 refine Vc.nil (Xaw (Xad ?_))
 refine kO hT hC ?_
 refine kC hC [] Try.call53 h (fun _ => Xai) fun q1 h => ?_
 refine kO hT hC ?_
 refine Vc.nil ?_
 refine kS h ?_ ?_ <;> intro b1 h
 refine kt b1 (Xad ?_)
 iterate 2 refine kO hT hC ?_
 exact Vc.nil (Xaj (Xbk kR))
 refine kf b1 (Xag (Xaf (Xad ?_)))
 refine kO hT hC ?_
 refine kC hC [] Try.call116 h (fun _ => Xkk) fun q2 h => ?_
 iterate 2 refine kO hT hC ?_
 exact Vc.nil (Xaj kR)
def Xxf (r : Int) : AV := .sv (.int .i64 r)
def Xxe (r : Int) : Xbd := []
theorem Xzd {p0 r} (h : Xik p0 = some r) : AC Try.prog 94 [.sv (.int .i64 p0)] [] (Xxf r) (Xxe r) := by
 refine Xae hT Try.func94 rfl fun C hC => ?_
 unfold Xik at h
 refine Xad ?_
 refine kO hT hC ?_
 refine kN ?_
 refine kO hT hC ?_
 refine kC hC [] Try.call135 h (fun _ => Xrr) fun q1 h => ?_
 iterate 5 refine kO hT hC ?_
 refine kN ?_
 iterate 3 refine kO hT hC ?_
 exact Vc.nil (Xaj kR)
def Xq7 (r : (Int × Int)) : AV := .tup [.sv (.int .i64 r.1), .sv (.int .i64 r.2)]
def Xq6 (r : (Int × Int)) : Xbd := []
theorem Xsx {p0 p1 r} (h : Xf6 p0 p1 = some r) : AC Try.prog 55 [.sv (.ints .i64 p0), .agg [.sv (.ints .i64 p1.Above), .sv (.ints .i64 p1.Left), .sv (.int .i64 p1.Corner)]] [] (Xq7 r) (Xq6 r) := by
 refine Xae hT Try.func55 rfl fun C hC => ?_
 unfold Xf6 at h
 refine Xad ?_
 iterate 3 refine kO hT hC ?_
 refine Vc.nil (Xaw ?_)
 refine kL [0,3] [48] [_,_] [_] ?_
 refine kA h (fun v1 => ([(17, .sv (.bool v1))], [])) (fun v1 h => ?_) fun v1 h => ?_
 refine Xac ?_
 refine kO hT hC ?_
 refine kC hC [] Try.call93 h (fun _ => Xn7) fun q2 h => ?_
 iterate 2 refine kO hT hC ?_
 refine kS h ?_ ?_ <;> intro b1 h
 refine kI hT hC (kn b1) ?_
 refine kE hC (kn b1) [] Try.call52 h (fun _ => Xbh) fun q3 h => ?_
 refine kI hT hC (kn b1) ?_
 refine kP hC false (kn b1) ?_
 exact Vc.nil kM
 iterate 3 refine kF hC (kn b1) ?_
 refine kP hC true (kn b1) ?_
 exact Vc.nil kM
 refine kS h ?_ ?_ <;> intro b2 h
 refine kt b2 (Xad ?_)
 iterate 2 refine kO hT hC ?_
 exact Vc.nil (Xaj (Xbk kR))
 refine kf b2 (Xag (Xaf (Xad ?_)))
 iterate 2 refine kO hT hC ?_
 refine Vc.nil (Xaw (Xad ?_))
 refine kO hT hC ?_
 refine Vc.nil ?_
 refine kL [0,3,6,7,8] [48] [_,_,_,_,_] [_] ?_
 refine kX h (fun v16 => ([(6, .sv (.int .i64 v16.1)), (7, .sv (.int .i64 v16.2.1)), (8, .sv (.int .i64 v16.2.2))], [])) (fun v23 => ([(6, .sv (.int .i64 v23.1)), (7, .sv (.int .i64 v23.2)), (0, .any), (3, .any), (8, .any)], [(48, none)])) (kW hC []) (fun v16 s h => ?_) fun v23 h => ?_
 unfold Xfo at h
 refine Xaw (Xad ?_)
 iterate 2 refine kO hT hC ?_
 refine Vc.nil ?_
 refine kS h ?_ ?_ <;> intro b12 h
 refine kt b12 (Xag (Xaf ?_))
 refine kL [0,3,6,7,8] [48] [_,_,_,_,_] [_] ?_
 refine kA h (fun v24 => ([(6, .sv (.int .i64 v24.1)), (7, .sv (.int .i64 v24.2))], [])) (fun v24 h => ?_) fun v24 h => ?_
 refine Xap (Xad ?_)
 iterate 3 refine kO hT hC ?_
 refine kC hC [(16, 400)] Try.call58 h (fun _ => Xkp) fun q25 h => ?_
 refine kC hC [] Try.call59 h (fun _ => Xqg) fun q26 h => ?_
 refine kO hT hC ?_
 refine kC hC [] Try.call94 h (fun _ => Xzd) fun q27 h => ?_
 iterate 2 refine kO hT hC ?_
 refine Vc.nil ?_
 refine kL [0,3,6,7,8,9] [48] [_,_,_,_,_,_] [_] ?_
 refine kA h (fun v28 => ([(36, .sv (.bool v28))], [])) (fun v28 h => ?_) fun v28 h => ?_
 refine Xac ?_
 iterate 3 refine kO hT hC ?_
 refine kS h ?_ ?_ <;> intro b13 h
 iterate 3 refine kF hC b13 ?_
 refine kP hC true b13 ?_
 exact Vc.nil kM
 iterate 3 refine kI hT hC b13 ?_
 refine kP hC false b13 ?_
 exact Vc.nil kM
 refine kS h ?_ ?_ <;> intro b14 h
 refine kt b14 (Xac ?_)
 iterate 4 refine kO hT hC ?_
 exact Vc.nil (Xas kM)
 exact kf b14 (Xag (Xas kM))
 refine Xac ?_
 iterate 3 refine kO hT hC ?_
 exact Vc.nil kG
 exact kf b12 (Xar (Xa1 ku))
 refine Xaf (Xad ?_)
 iterate 4 refine kO hT hC ?_
 exact Vc.nil (Xaj kR)
def Xtj (r : (List Int)) : AV := .own 16
def Xti (r : (List Int)) : Xbd := [(16, .ints .i64 r)]
theorem Xns {p0 p1 r} (h : Xei p0 p1 = some r) : AC Try.prog 57 [.sv (.ints .i64 p0), .sv (.ints .i64 p1)] [] (Xtj r) (Xti r) := by
 refine Xae hT Try.func57 rfl fun C hC => ?_
 unfold Xei at h
 refine Xad ?_
 refine kO hT hC ?_
 refine kN ?_
 iterate 2 refine kO hT hC ?_
 refine Vc.nil (Xaw (Xad ?_))
 iterate 3 refine kO hT hC ?_
 refine Vc.nil ?_
 refine kL [1,5,9,10,11] [128] [_,_,_,_,_] [_] ?_
 refine kX h (fun v2 => ([(11, .sv (.int .i64 v2.1))], [(128, some (.ints .i64 v2.2))])) (fun v4 => ([(1, .any), (9, .any), (10, .any), (11, .any)], [(128, some (.ints .i64 v4))])) (kW hC []) (fun v2 s h => ?_) fun v4 h => ?_
 unfold Xgm at h
 refine Xad ?_
 refine kO hT hC ?_
 refine Vc.nil (Xaw ?_)
 refine kS h ?_ ?_ <;> intro b3 h
 refine kt b3 (Xag (Xaf (Xaw (Xap (Xad ?_)))))
 refine kO hT hC ?_
 refine kQ hT hC h fun h => ?_
 iterate 3 refine kO hT hC ?_
 refine Vc.nil (Xac ?_)
 iterate 4 refine kO hT hC ?_
 refine kQ hT hC h fun h => ?_
 iterate 3 refine kO hT hC ?_
 refine kT hT hC h fun h => ?_
 refine kO hT hC ?_
 refine Vc.nil (Xas (Xaf (Xac ?_)))
 iterate 2 refine kO hT hC ?_
 refine Vc.nil ?_
 obtain rfl := kj h
 exact Ye0 (kW hC [(128, 384)])
 exact kf b3 (Xar (Xa1 ku))
 refine Xaf (Xad ?_)
 iterate 2 refine kO hT hC ?_
 refine Vc.nil (Xaj ?_)
 obtain rfl := kj h
 exact Xfn (τ := ⟨[(4, .own 16)], [(16, some (.ints .i64 v4))]⟩) (kW hC [(16, 128)]) rfl ⟨rfl, trivial⟩
def Xr3 (r : (List Int)) : AV := .own 16
def Xr2 (r : (List Int)) : Xbd := [(16, .ints .i64 r)]
theorem Xmc {p0 r} (h : Xet p0 = some r) : AC Try.prog 136 [.sv (.int .i64 p0)] [] (Xr3 r) (Xr2 r) := by
 refine Xae hT Try.func136 rfl fun C hC => ?_
 unfold Xet at h
 refine Xad ?_
 refine kO hT hC ?_
 refine kN ?_
 iterate 2 refine kO hT hC ?_
 refine Vc.nil (Xaw (Xad ?_))
 refine kO hT hC ?_
 refine Vc.nil ?_
 refine kL [0,3,4] [128] [_,_,_] [_] ?_
 refine kX h (fun v16 => ([(4, .sv (.int .i64 v16.1))], [(128, some (.ints .i64 v16.2))])) (fun v32 => ([(0, .any), (4, .any)], [(128, some (.ints .i64 v32))])) (kW hC []) (fun v16 s h => ?_) fun v32 h => ?_
 unfold Xex at h
 refine Xaw (Xad ?_)
 iterate 5 refine kO hT hC ?_
 refine Vc.nil ?_
 refine kS h ?_ ?_ <;> intro b27 h
 refine kt b27 (Xag (Xaf (Xaw (Xap (Xad ?_)))))
 refine kO hT hC ?_
 refine Vc.nil ?_
 refine kL [0,3,4,5] [128] [_,_,_,_] [_] ?_
 refine kX h (fun v37 => ([(5, .sv (.int .i64 v37.1))], [(128, some (.ints .i64 v37.2))])) (fun v42 => ([(5, .any)], [(128, some (.ints .i64 v42))])) (kW hC []) (fun v37 s h => ?_) fun v42 h => ?_
 unfold Xhk at h
 refine Xaw (Xad ?_)
 iterate 3 refine kO hT hC ?_
 refine Vc.nil ?_
 refine kS h ?_ ?_ <;> intro b36 h
 refine kt b36 (Xag (Xaf ?_))
 refine kL [0,3,4,5] [128] [_,_,_,_] [_] ?_
 refine kA h (fun v43 => ([], [(128, some (.ints .i64 v43))])) (fun v43 h => ?_) fun v43 h => ?_
 refine Xap (Xad ?_)
 iterate 2 refine kO hT hC ?_
 refine Vc.nil ?_
 refine kL [0,3,4,5,6] [128] [_,_,_,_,_] [_] ?_
 refine kA h (fun v44 => ([(6, .sv (.int .i64 v44))], [])) (fun v44 h => ?_) fun v44 h => ?_
 refine Xad ?_
 refine kO hT hC ?_
 refine kQ hT hC h fun h => ?_
 refine kO hT hC ?_
 refine Vc.nil ?_
 refine kS h ?_ ?_ <;> intro b37 h
 refine kt b37 (Xac ?_)
 iterate 4 refine kO hT hC ?_
 exact Vc.nil kM
 exact kf b37 (Xag kM)
 refine Xad ?_
 iterate 4 refine kO hT hC ?_
 refine Vc.nil ?_
 refine kL [0,3,4,5,6,7] [128] [_,_,_,_,_,_] [_] ?_
 refine kA h (fun v45 => ([(38, .sv (.bool v45))], [])) (fun v45 h => ?_) fun v45 h => ?_
 refine Xac ?_
 iterate 4 refine kO hT hC ?_
 refine kS h ?_ ?_ <;> intro b38 h
 iterate 3 refine kI hT hC b38 ?_
 refine kP hC true b38 ?_
 exact Vc.nil kM
 iterate 3 refine kF hC b38 ?_
 refine kP hC false b38 ?_
 exact Vc.nil kM
 refine kS h ?_ ?_ <;> intro b39 h
 refine kt b39 (Xac ?_)
 iterate 7 refine kO hT hC ?_
 refine kT hT hC h fun h => ?_
 refine kO hT hC ?_
 refine Vc.nil (Xas ?_)
 obtain rfl := kj h
 exact Xkz (kW hC [(128, 736)])
 exact kf b39 (Xag (Xas kM))
 refine Xac ?_
 iterate 3 refine kO hT hC ?_
 exact Vc.nil kG
 exact kf b36 (Xar (Xa1 ku))
 refine Xas (Xaf (Xac ?_))
 iterate 3 refine kO hT hC ?_
 exact Vc.nil kG
 exact kf b27 (Xar (Xa1 ku))
 refine Xaf (Xad ?_)
 iterate 2 refine kO hT hC ?_
 refine Vc.nil (Xaj ?_)
 obtain rfl := kj h
 exact Xfn (τ := ⟨[(2, .own 16)], [(16, some (.ints .i64 v32))]⟩) (kW hC [(16, 128)]) rfl ⟨rfl, trivial⟩
def Xu0 (r : ((List Int) × Bool)) : AV := .tup [.own 16, .sv (.bool r.2)]
def Xuz (r : ((List Int) × Bool)) : Xbd := [(16, .ints .i64 r.1)]
theorem Xkq {p0 p1 r} (h : Xe3 p0 p1 = some r) : AC Try.prog 95 [.sv (.int .i64 p0), .sv (.ints .i64 p1)] [] (Xu0 r) (Xuz r) := by
 refine Xae hT Try.func95 rfl fun C hC => ?_
 unfold Xe3 at h
 refine Xad ?_
 iterate 2 refine kO hT hC ?_
 refine kN ?_
 iterate 2 refine kO hT hC ?_
 refine Vc.nil (Xaw ?_)
 refine kL [0,1,6] [144] [_,_,_] [_] ?_
 refine kA h (fun v1 => ([(23, .sv (.bool v1))], [])) (fun v1 h => ?_) fun v1 h => ?_
 refine Xac ?_
 iterate 3 refine kO hT hC ?_
 refine kS h ?_ ?_ <;> intro b1 h
 iterate 2 refine kI hT hC b1 ?_
 refine kP hC true b1 ?_
 refine kO hT hC ?_
 refine kS h ?_ ?_ <;> intro b2 h
 iterate 6 refine kF hC b2 ?_
 refine kP hC true b2 ?_
 exact Vc.nil kM
 iterate 6 refine kI hT hC b2 ?_
 refine kP hC false b2 ?_
 exact Vc.nil kM
 iterate 2 refine kF hC b1 ?_
 refine kP hC false b1 ?_
 refine kO hT hC ?_
 iterate 6 refine kI hT hC rfl ?_
 refine kO hT hC ?_
 exact Vc.nil kM
 refine kS h ?_ ?_ <;> intro b3 h
 refine kt b3 (Xad ?_)
 iterate 3 refine kO hT hC ?_
 refine Vc.nil (Xaj (Xbk ?_))
 obtain rfl := kj h
 exact Xfn (τ := ⟨[(4, .own 16), (5, .sv (.bool false))], [(16, some (.ints .i64 ([] : List Int)))]⟩) (kW hC [(16, 144)]) rfl ⟨rfl, trivial⟩
 refine kf b3 (Xag (Xaf (Xaw (Xad ?_))))
 refine kO hT hC ?_
 refine kC hC [(16, 416)] Try.call136 h (fun _ => Xmc) fun q2 h => ?_
 iterate 2 refine kO hT hC ?_
 refine Vc.nil ?_
 refine kL [1,6,26,27,28] [144,416] [_,_,_,_,_] [_,_] ?_
 refine kX h (fun v4 => ([(28, .sv (.int .i64 v4.1))], [(144, some (.ints .i64 v4.2))])) (fun v6 => ([(1, .any), (26, .any), (27, .any), (28, .any)], [(144, some (.ints .i64 v6)), (416, none)])) (kW hC []) (fun v4 s h => ?_) fun v6 h => ?_
 unfold Xhg at h
 refine Xad ?_
 refine kO hT hC ?_
 refine Vc.nil (Xaw ?_)
 refine kS h ?_ ?_ <;> intro b6 h
 refine kt b6 (Xag (Xaf (Xaw (Xap (Xad ?_)))))
 iterate 2 refine kQ hT hC h fun h => ?_
 refine kO hT hC ?_
 refine Vc.nil (Xac ?_)
 iterate 3 refine kO hT hC ?_
 refine kQ hT hC h fun h => ?_
 iterate 2 refine kO hT hC ?_
 refine kT hT hC h fun h => ?_
 refine kO hT hC ?_
 refine Vc.nil (Xas (Xaf (Xac ?_)))
 iterate 2 refine kO hT hC ?_
 refine Vc.nil ?_
 obtain rfl := kj h
 exact Ye0 (kW hC [(144, 608)])
 exact kf b6 (Xar (Xa1 ku))
 refine Xaf (Xad ?_)
 iterate 3 refine kO hT hC ?_
 refine Vc.nil (Xaj ?_)
 obtain rfl := kj h
 exact Xfn (τ := ⟨[(4, .own 16), (5, .sv (.bool true))], [(16, some (.ints .i64 v6))]⟩) (kW hC [(16, 144)]) rfl ⟨rfl, trivial⟩
def Xw8 (r : Int) : AV := .sv (.int .i64 r)
def Xw7 (r : Int) : Xbd := []
theorem Xpf {p0 p1 r} (h : Xij p0 p1 = some r) : AC Try.prog 166 [.sv (.int .i64 p0), .sv (.int .i64 p1)] [] (Xw8 r) (Xw7 r) := by
 refine Xae hT Try.func166 rfl fun C hC => ?_
 unfold Xij at h
 refine Xad ?_
 refine kO hT hC ?_
 refine Vc.nil (Xaw ?_)
 refine kL [0,1] [] [_,_] [] ?_
 refine kA h (fun v1 => ([(13, .sv (.bool v1))], [])) (fun v1 h => ?_) fun v1 h => ?_
 refine Xac ?_
 refine kO hT hC ?_
 refine kC hC [] Try.call53 h (fun _ => Xai) fun q2 h => ?_
 iterate 2 refine kO hT hC ?_
 refine kS h ?_ ?_ <;> intro b1 h
 refine kI hT hC (kn b1) ?_
 refine kE hC (kn b1) [] Try.call53 h (fun _ => Xai) fun q3 h => ?_
 refine kI hT hC (kn b1) ?_
 refine kP hC false (kn b1) ?_
 exact Vc.nil kM
 iterate 3 refine kF hC (kn b1) ?_
 refine kP hC true (kn b1) ?_
 exact Vc.nil kM
 refine kS h ?_ ?_ <;> intro b2 h
 refine kt b2 (Xad ?_)
 refine kO hT hC ?_
 exact Vc.nil (Xaj (Xbk kR))
 refine kf b2 (Xag (Xaf (Xad ?_)))
 iterate 4 refine kO hT hC ?_
 refine Vc.nil (Xaw (Xad ?_))
 iterate 3 refine kO hT hC ?_
 refine kQ hT hC h fun h => ?_
 iterate 3 refine kO hT hC ?_
 refine kQ hT hC h fun h => ?_
 iterate 2 refine kO hT hC ?_
 refine kQ hT hC h fun h => ?_
 refine kO hT hC ?_
 refine Vc.nil ?_
 refine kS h ?_ ?_ <;> intro b3 h
 refine kt b3 (Xad ?_)
 refine kO hT hC ?_
 exact Vc.nil (Xaj (Xbk kR))
 refine kf b3 (Xag (Xaf (Xad ?_)))
 refine kO hT hC ?_
 exact Vc.nil (Xaj kR)
def Ybf (r : (List Int)) : AV := .own 16
def Ybe (r : (List Int)) : Xbd := [(16, .ints .i64 r)]
theorem Xub {p0 r} (h : Xmf p0 = some r) : AC Try.prog 137 [.sv (.ints .i64 p0)] [] (Ybf r) (Ybe r) := by
 refine Xae hT Try.func137 rfl fun C hC => ?_
 unfold Xmf at h
 refine Xad ?_
 refine kO hT hC ?_
 refine kN ?_
 obtain ⟨hq, h⟩ := Xat h
 refine Yjf hT hC rfl rfl rfl rfl ⟨hq.1, hq.2.1, hq.2.2, by decide⟩ ?_
 refine kO hT hC ?_
 refine Vc.nil (Xaw (Xad ?_))
 refine kO hT hC ?_
 refine Vc.nil ?_
 refine kL [0,3,12] [176] [_,_,_] [_] ?_
 refine kX h (fun v31 => ([(12, .sv (.int .i64 v31.1))], [(176, some (.ints .i64 v31.2))])) (fun v62 => ([(0, .any), (12, .any)], [(176, some (.ints .i64 v62))])) (kW hC []) (fun v31 s h => ?_) fun v62 h => ?_
 unfold Xm7 at h
 refine Xad ?_
 refine kO hT hC ?_
 refine Vc.nil (Xaw ?_)
 refine kS h ?_ ?_ <;> intro b27 h
 refine kt b27 (Xag (Xaf (Xaw (Xap (Xad ?_)))))
 iterate 2 refine kO hT hC ?_
 refine kN ?_
 refine kO hT hC ?_
 refine Vc.nil ?_
 refine kL [0,3,4,12,15] [176] [_,_,_,_,_] [_] ?_
 refine kX h (fun v72 => ([(15, .sv (.int .i64 v72.1))], [(176, some (.ints .i64 v72.2))])) (fun v82 => ([(4, .any), (15, .any)], [(176, some (.ints .i64 v82))])) (kW hC []) (fun v72 s h => ?_) fun v82 h => ?_
 unfold Xm8 at h
 refine Xad ?_
 refine kO hT hC ?_
 refine Vc.nil (Xaw ?_)
 refine kS h ?_ ?_ <;> intro b36 h
 refine kt b36 (Xag (Xaf (Xaw (Xap (Xad ?_)))))
 iterate 2 refine kO hT hC ?_
 refine kN ?_
 refine kO hT hC ?_
 refine Vc.nil ?_
 refine kL [0,3,4,5,12,15,18] [176] [_,_,_,_,_,_,_] [_] ?_
 refine kX h (fun v85 => ([(18, .sv (.int .i64 v85.1))], [(176, some (.ints .i64 v85.2))])) (fun v88 => ([(5, .any), (18, .any)], [(176, some (.ints .i64 v88))])) (kW hC []) (fun v85 s h => ?_) fun v88 h => ?_
 unfold Xhm at h
 refine Xad ?_
 refine kO hT hC ?_
 refine Vc.nil (Xaw ?_)
 refine kS h ?_ ?_ <;> intro b39 h
 refine kt b39 (Xag (Xaf (Xaw (Xap (Xad ?_)))))
 iterate 2 refine kO hT hC ?_
 refine Vc.nil ?_
 refine Xj0 hm ?_
 iterate 10 refine kO hT hC ?_
 iterate 2 refine kQ hT hC h fun h => ?_
 iterate 2 refine kO hT hC ?_
 refine kC hC [] Try.call166 h (fun _ => Xpf) fun q89 h => ?_
 iterate 5 refine kO hT hC ?_
 refine kQ hT hC h fun h => ?_
 iterate 3 refine kO hT hC ?_
 iterate 2 refine kQ hT hC h fun h => ?_
 refine kD (Xas (Xaf (Xac ?_)))
 iterate 2 refine kO hT hC ?_
 exact Vc.nil kG
 exact kf b39 (Xar (Xa1 ku))
 refine Xas (Xaf (Xac ?_))
 iterate 2 refine kO hT hC ?_
 exact Vc.nil kG
 exact kf b36 (Xar (Xa1 ku))
 refine Xas (Xaf (Xac ?_))
 iterate 2 refine kO hT hC ?_
 exact Vc.nil kG
 exact kf b27 (Xar (Xa1 ku))
 refine Xaf (Xad ?_)
 obtain ⟨hq, h⟩ := Xat h
 refine Yjf hT hC rfl rfl rfl rfl ⟨hq.1, hq.2.1, hq.2.2, by decide⟩ ?_
 refine kO hT hC ?_
 refine Vc.nil (Xaw (Xad ?_))
 refine kO hT hC ?_
 refine Vc.nil ?_
 refine kL [3,7,50] [176,784] [_,_,_] [_,_] ?_
 refine kX h (fun v123 => ([(50, .sv (.int .i64 v123.1))], [(784, some (.ints .i64 v123.2))])) (fun v154 => ([(3, .any), (50, .any)], [(784, some (.ints .i64 v154)), (176, none)])) (kW hC []) (fun v123 s h => ?_) fun v154 h => ?_
 unfold Xlw at h
 refine Xad ?_
 refine kO hT hC ?_
 refine Vc.nil (Xaw ?_)
 refine kS h ?_ ?_ <;> intro b66 h
 refine kt b66 (Xag (Xaf (Xaw (Xap (Xad ?_)))))
 iterate 2 refine kO hT hC ?_
 refine kN ?_
 refine kO hT hC ?_
 refine Vc.nil ?_
 refine kL [3,7,8,50,53] [176,784] [_,_,_,_,_] [_,_] ?_
 refine kX h (fun v164 => ([(53, .sv (.int .i64 v164.1))], [(784, some (.ints .i64 v164.2))])) (fun v174 => ([(8, .any), (53, .any)], [(784, some (.ints .i64 v174))])) (kW hC []) (fun v164 s h => ?_) fun v174 h => ?_
 unfold Xlx at h
 refine Xad ?_
 refine kO hT hC ?_
 refine Vc.nil (Xaw ?_)
 refine kS h ?_ ?_ <;> intro b75 h
 refine kt b75 (Xag (Xaf (Xaw (Xap (Xad ?_)))))
 iterate 2 refine kO hT hC ?_
 refine kN ?_
 refine kO hT hC ?_
 refine Vc.nil ?_
 refine kL [3,7,8,9,50,53,56] [176,784] [_,_,_,_,_,_,_] [_,_] ?_
 refine kX h (fun v177 => ([(56, .sv (.int .i64 v177.1))], [(784, some (.ints .i64 v177.2))])) (fun v180 => ([(9, .any), (56, .any)], [(784, some (.ints .i64 v180))])) (kW hC []) (fun v177 s h => ?_) fun v180 h => ?_
 unfold Xgc at h
 refine Xad ?_
 refine kO hT hC ?_
 refine Vc.nil (Xaw ?_)
 refine kS h ?_ ?_ <;> intro b78 h
 refine kt b78 (Xag (Xaf (Xaw (Xap (Xad ?_)))))
 iterate 2 refine kO hT hC ?_
 refine Vc.nil ?_
 refine Xj0 hm ?_
 iterate 10 refine kO hT hC ?_
 iterate 2 refine kQ hT hC h fun h => ?_
 iterate 2 refine kO hT hC ?_
 refine kC hC [] Try.call166 h (fun _ => Xpf) fun q181 h => ?_
 iterate 5 refine kO hT hC ?_
 iterate 2 refine kQ hT hC h fun h => ?_
 iterate 2 refine kO hT hC ?_
 iterate 2 refine kQ hT hC h fun h => ?_
 refine kD (Xas (Xaf (Xac ?_)))
 iterate 2 refine kO hT hC ?_
 exact Vc.nil kG
 exact kf b78 (Xar (Xa1 ku))
 refine Xas (Xaf (Xac ?_))
 iterate 2 refine kO hT hC ?_
 exact Vc.nil kG
 exact kf b75 (Xar (Xa1 ku))
 refine Xas (Xaf (Xac ?_))
 iterate 2 refine kO hT hC ?_
 exact Vc.nil kG
 exact kf b66 (Xar (Xa1 ku))
 refine Xaf (Xad ?_)
 iterate 2 refine kO hT hC ?_
 refine Vc.nil (Xaj ?_)
 obtain rfl := kj h
 exact Xfn (τ := ⟨[(2, .own 16)], [(16, some (.ints .i64 v154))]⟩) (kW hC [(16, 784)]) rfl ⟨rfl, trivial⟩
def Xy4 (r : (List Int)) : AV := .own 16
def Xy3 (r : (List Int)) : Xbd := [(16, .ints .i64 r)]
theorem Yaz {p0 r} (h : Xl7 p0 = some r) : AC Try.prog 96 [.sv (.ints .i64 p0)] [] (Xy4 r) (Xy3 r) := by
 refine Xae hT Try.func96 rfl fun C hC => ?_
 unfold Xl7 at h
 refine Xad ?_
 refine kO hT hC ?_
 refine Vc.nil (Xaw (Xad ?_))
 refine kO hT hC ?_
 refine kC hC [] Try.call52 h (fun _ => Xbh) fun q1 h => ?_
 refine kO hT hC ?_
 refine Vc.nil ?_
 refine kS h ?_ ?_ <;> intro b1 h
 refine kt b1 (Xad ?_)
 iterate 2 refine kO hT hC ?_
 refine Vc.nil (Xaj (Xbk ?_))
 obtain rfl := kj h
 exact Xfn (τ := ⟨[(2, .own 16)], [(16, some (.ints .i64 ([] : List Int)))]⟩) (kW hC [(16, 96)]) rfl ⟨rfl, trivial⟩
 refine kf b1 (Xag (Xaf (Xad ?_)))
 refine kO hT hC ?_
 refine kC hC [(16, 128)] Try.call137 h (fun _ => Xub) fun q2 h => ?_
 refine kO hT hC ?_
 refine Vc.nil (Xaj ?_)
 obtain rfl := kj h
 exact Xfn (τ := ⟨[(2, .own 16)], [(16, some (.ints .i64 q2))]⟩) (kW hC [(16, 128)]) rfl ⟨rfl, trivial⟩
def Xxa (r : Int) : AV := .sv (.int .i64 r)
def Xw9 (r : Int) : Xbd := []
theorem Xpg {p0 r} (h : Xgu p0 = some r) : AC Try.prog 31 [.sv (.int .i64 p0)] [] (Xxa r) (Xw9 r) := by
 refine Xae hT Try.func31 rfl fun C hC => ?_
 unfold Xgu at h
 refine Xad ?_
 refine kO hT hC ?_
 refine Vc.nil (Xaw (Xad ?_))
 refine kO hT hC ?_
 refine kC hC [] Try.call53 h (fun _ => Xai) fun q1 h => ?_
 refine kO hT hC ?_
 refine Vc.nil ?_
 refine kS h ?_ ?_ <;> intro b1 h
 refine kt b1 (Xad ?_)
 refine kO hT hC ?_
 exact Vc.nil (Xaj (Xbk kR))
 refine kf b1 (Xag (Xaf (Xad ?_)))
 iterate 2 refine kO hT hC ?_
 iterate 3 refine kQ hT hC h fun h => ?_
 refine kO hT hC ?_
 iterate 2 refine kQ hT hC h fun h => ?_
 refine kO hT hC ?_
 exact Vc.nil (Xaj kR)
def Xxm (r : Int) : AV := .sv (.int .i64 r)
def Xxl (r : Int) : Xbd := []
theorem Xpm {p0 p1 r} (h : Xku p0 p1 = some r) : AC Try.prog 138 [.sv (.int .i64 p0), .sv (.int .i64 p1)] [] (Xxm r) (Xxl r) := by
 refine Xae hT Try.func138 rfl fun C hC => ?_
 unfold Xku at h
 refine Xad ?_
 refine kO hT hC ?_
 refine Vc.nil (Xaw (Xad ?_))
 iterate 2 refine kO hT hC ?_
 refine Vc.nil ?_
 refine kS h ?_ ?_ <;> intro b1 h
 refine kt b1 (Xad ?_)
 iterate 3 refine kO hT hC ?_
 exact Vc.nil (Xaj (Xbk kR))
 refine kf b1 (Xag (Xaf (Xad ?_)))
 iterate 2 refine kO hT hC ?_
 exact Vc.nil (Xaj kR)
def Xp7 (r : Int) : AV := .sv (.int .i64 r)
def Xp6 (r : Int) : Xbd := []
theorem Xrd {p0 p1 r} (h : Xe1 p0 p1 = some r) : AC Try.prog 97 [.sv (.int .i64 p0), .sv (.int .i64 p1)] [] (Xp7 r) (Xp6 r) := by
 refine Xae hT Try.func97 rfl fun C hC => ?_
 unfold Xe1 at h
 refine Xad ?_
 refine kO hT hC ?_
 refine Vc.nil (Xaw ?_)
 refine kL [0,1] [] [_,_] [] ?_
 refine kA h (fun v1 => ([(13, .sv (.bool v1))], [])) (fun v1 h => ?_) fun v1 h => ?_
 refine Xac ?_
 refine kO hT hC ?_
 refine kC hC [] Try.call53 h (fun _ => Xai) fun q2 h => ?_
 iterate 2 refine kO hT hC ?_
 refine kS h ?_ ?_ <;> intro b1 h
 refine kI hT hC (kn b1) ?_
 refine kE hC (kn b1) [] Try.call53 h (fun _ => Xai) fun q3 h => ?_
 refine kI hT hC (kn b1) ?_
 refine kP hC false (kn b1) ?_
 exact Vc.nil kM
 iterate 3 refine kF hC (kn b1) ?_
 refine kP hC true (kn b1) ?_
 exact Vc.nil kM
 refine kS h ?_ ?_ <;> intro b2 h
 refine kt b2 (Xad ?_)
 refine kO hT hC ?_
 exact Vc.nil (Xaj (Xbk kR))
 refine kf b2 (Xag (Xaf (Xad ?_)))
 refine kO hT hC ?_
 refine kC hC [] Try.call31 h (fun _ => Xpg) fun q4 h => ?_
 refine kO hT hC ?_
 refine kN ?_
 refine kO hT hC ?_
 refine kC hC [] Try.call104 h (fun _ => Xoe) fun q5 h => ?_
 refine kO hT hC ?_
 refine kQ hT hC h fun h => ?_
 iterate 2 refine kO hT hC ?_
 refine kQ hT hC h fun h => ?_
 refine kO hT hC ?_
 refine kC hC [] Try.call138 h (fun _ => Xpm) fun q6 h => ?_
 refine kO hT hC ?_
 exact Vc.nil (Xaj kR)
def Xu6 (r : (List Int)) : AV := .own 16
def Xu5 (r : (List Int)) : Xbd := [(16, .ints .i64 r)]
theorem Xoc {p0 r} (h : Xg1 p0 = some r) : AC Try.prog 98 [.sv (.int .i64 p0)] [] (Xu6 r) (Xu5 r) := by
 refine Xae hT Try.func98 rfl fun C hC => ?_
 unfold Xg1 at h
 refine Xad ?_
 refine kO hT hC ?_
 refine kN ?_
 iterate 2 refine kO hT hC ?_
 refine Vc.nil (Xaw (Xad ?_))
 refine kO hT hC ?_
 refine Vc.nil ?_
 refine kL [0,3,7] [96] [_,_,_] [_] ?_
 refine kX h (fun v7 => ([(7, .sv (.int .i64 v7.1))], [(96, some (.ints .i64 v7.2))])) (fun v14 => ([(0, .any), (7, .any)], [(96, some (.ints .i64 v14))])) (kW hC []) (fun v7 s h => ?_) fun v14 h => ?_
 unfold Xgn at h
 refine Xad ?_
 refine kO hT hC ?_
 refine Vc.nil (Xaw ?_)
 refine kS h ?_ ?_ <;> intro b9 h
 refine kt b9 (Xag (Xaf (Xaw (Xap (Xad ?_)))))
 iterate 2 refine kO hT hC ?_
 refine kN ?_
 refine kO hT hC ?_
 refine Vc.nil ?_
 refine kL [0,3,4,7,10] [96] [_,_,_,_,_] [_] ?_
 refine kX h (fun v16 => ([(10, .sv (.int .i64 v16.1))], [(96, some (.ints .i64 v16.2))])) (fun v18 => ([(4, .any), (10, .any)], [(96, some (.ints .i64 v18))])) (kW hC []) (fun v16 s h => ?_) fun v18 h => ?_
 unfold Xj6 at h
 refine Xad ?_
 refine kO hT hC ?_
 refine Vc.nil (Xaw ?_)
 refine kS h ?_ ?_ <;> intro b12 h
 refine kt b12 (Xag (Xaf (Xaw (Xap (Xad ?_)))))
 iterate 2 refine kO hT hC ?_
 refine Vc.nil (Xac ?_)
 iterate 3 refine kO hT hC ?_
 refine kQ hT hC h fun h => ?_
 iterate 6 refine kO hT hC ?_
 refine kQ hT hC h fun h => ?_
 iterate 3 refine kO hT hC ?_
 refine kT hT hC h fun h => ?_
 refine kO hT hC ?_
 refine Vc.nil (Xas (Xaf (Xac ?_)))
 iterate 2 refine kO hT hC ?_
 refine Vc.nil ?_
 obtain rfl := kj h
 exact Ye0 (kW hC [(96, 432)])
 exact kf b12 (Xar (Xa1 ku))
 refine Xas (Xaf (Xac ?_))
 iterate 2 refine kO hT hC ?_
 exact Vc.nil kG
 exact kf b9 (Xar (Xa1 ku))
 refine Xaf (Xad ?_)
 iterate 2 refine kO hT hC ?_
 refine Vc.nil (Xaj ?_)
 obtain rfl := kj h
 exact Xfn (τ := ⟨[(2, .own 16)], [(16, some (.ints .i64 v14))]⟩) (kW hC [(16, 96)]) rfl ⟨rfl, trivial⟩
def Xtg (r : (List Int)) : AV := .own 16
def Xtf (r : (List Int)) : Xbd := [(16, .ints .i64 r)]
theorem Xnr {p0 r} (h : Xfs p0 = some r) : AC Try.prog 167 [.sv (.ints .i64 p0)] [] (Xtg r) (Xtf r) := by
 refine Xae hT Try.func167 rfl fun C hC => ?_
 unfold Xfs at h
 refine Xad ?_
 refine kO hT hC ?_
 refine kN ?_
 iterate 2 refine kO hT hC ?_
 refine kT hT hC h fun h => ?_
 refine kO hT hC ?_
 refine Vc.nil (Xaj ?_)
 obtain rfl := kj h
 exact Xfn (τ := ⟨[(2, .own 16)], [(16, some (.ints .i64 (([] : List Int) ++ p0)))]⟩) (kW hC [(16, 80)]) rfl ⟨rfl, trivial⟩
def Xwy (r : (Int × Int × Int × Int)) : AV := .agg [.sv (.int .i64 r.1), .sv (.int .i64 r.2.1), .sv (.int .i64 r.2.2.1), .sv (.int .i64 r.2.2.2)]
def Xwx (r : (Int × Int × Int × Int)) : Xbd := []
theorem Xpb {p0 p1 p2 p3 r} (h : Xie p0 p1 p2 p3 = some r) : AC Try.prog 140 [.sv (.int .i64 p0), .sv (.int .i64 p1), .sv (.int .i64 p2), .sv (.int .i64 p3)] [] (Xwy r) (Xwx r) := by
 refine Xae hT Try.func140 rfl fun C hC => ?_
 unfold Xie at h
 refine Xad ?_
 refine kO hT hC ?_
 refine kN ?_
 iterate 34 refine kO hT hC ?_
 exact Vc.nil (Xaj kR)
def Xkw (r : (List Int)) : AV := .own 16
def Xkv (r : (List Int)) : Xbd := [(16, .ints .i64 r)]
theorem Xlc {p0 r} (h : Xcn p0 = some r) : AC Try.prog 139 [.sv (.ints .i64 p0), .fn 140 []] [] (Xkw r) (Xkv r) := by
 refine Xae hT Try.func139 rfl fun C hC => ?_
 unfold Xcn at h
 refine Xad ?_
 refine kO hT hC ?_
 refine kN ?_
 refine kO hT hC ?_
 refine kC hC [(16, 208)] Try.call167 h (fun _ => Xnr) fun q1 h => ?_
 refine kO hT hC ?_
 refine Vc.nil (Xaw (Xad ?_))
 refine kO hT hC ?_
 refine Vc.nil ?_
 refine kL [1,5,6] [208] [_,_,_] [_] ?_
 refine kX h (fun v4 => ([(6, .sv (.int .i64 v4.1))], [(208, some (.ints .i64 v4.2))])) (fun v7 => ([(6, .any)], [(208, some (.ints .i64 v7))])) (kW hC []) (fun v4 s h => ?_) fun v7 h => ?_
 unfold Xfy at h
 refine Xaw (Xad ?_)
 iterate 2 refine kO hT hC ?_
 refine Vc.nil ?_
 refine kS h ?_ ?_ <;> intro b3 h
 refine kt b3 (Xag (Xaf (Xaw (Xap ?_))))
 refine Xhr hm ?_
 iterate 3 refine kO hT hC ?_
 iterate 2 refine kQ hT hC h fun h => ?_
 iterate 3 refine kO hT hC ?_
 iterate 2 refine kQ hT hC h fun h => ?_
 iterate 3 refine kO hT hC ?_
 iterate 2 refine kQ hT hC h fun h => ?_
 iterate 3 refine kO hT hC ?_
 iterate 2 refine kQ hT hC h fun h => ?_
 refine kC hC [] Try.call140 h (fun _ => Xpb) fun q8 h => ?_
 iterate 2 refine kO hT hC ?_
 refine kD ?_
 refine Xj0 hm ?_
 iterate 4 refine kO hT hC ?_
 refine kQ hT hC h fun h => ?_
 refine Ynd hT hC rfl rfl rfl rfl rfl rfl rfl rfl rfl ?_
 obtain ⟨hq, h⟩ := Xat h
 refine Yld hT hC rfl rfl rfl rfl rfl rfl rfl rfl rfl ⟨⟨trivial, hq.1⟩, hq.2⟩ ?_
 refine kD (Xas (Xaf (Xac ?_)))
 iterate 3 refine kO hT hC ?_
 exact Vc.nil kG
 exact kf b3 (Xar (Xa1 ku))
 refine Xaf (Xaw (Xad ?_))
 refine kO hT hC ?_
 refine Vc.nil ?_
 refine kL [1,5,46] [208] [_,_,_] [_] ?_
 refine kX h (fun v17 => ([(46, .sv (.int .i64 v17.1))], [(208, some (.ints .i64 v17.2))])) (fun v25 => ([(1, .any), (46, .any)], [(208, some (.ints .i64 v25))])) (kW hC []) (fun v17 s h => ?_) fun v25 h => ?_
 unfold Xe6 at h
 refine Xad ?_
 refine kO hT hC ?_
 refine Vc.nil (Xaw ?_)
 refine kS h ?_ ?_ <;> intro b12 h
 refine kt b12 (Xag (Xaf (Xaw (Xap (Xad ?_)))))
 iterate 2 refine kO hT hC ?_
 refine Vc.nil ?_
 refine Xhr hm ?_
 iterate 3 refine kO hT hC ?_
 iterate 2 refine kQ hT hC h fun h => ?_
 iterate 3 refine kO hT hC ?_
 iterate 2 refine kQ hT hC h fun h => ?_
 iterate 3 refine kO hT hC ?_
 iterate 2 refine kQ hT hC h fun h => ?_
 iterate 3 refine kO hT hC ?_
 iterate 2 refine kQ hT hC h fun h => ?_
 refine kC hC [] Try.call140 h (fun _ => Xpb) fun q26 h => ?_
 iterate 2 refine kO hT hC ?_
 refine kD (Xad ?_)
 iterate 2 refine kO hT hC ?_
 refine Vc.nil ?_
 refine kL [1,5,8,46,70,71] [208] [_,_,_,_,_,_] [_] ?_
 refine kX h (fun v28 => ([(71, .sv (.int .i64 v28.1))], [(208, some (.ints .i64 v28.2))])) (fun v30 => ([(8, .any), (70, .any), (71, .any)], [(208, some (.ints .i64 v30))])) (kW hC []) (fun v28 s h => ?_) fun v30 h => ?_
 unfold Xe7 at h
 refine Xad ?_
 refine kO hT hC ?_
 refine Vc.nil (Xaw ?_)
 refine kS h ?_ ?_ <;> intro b15 h
 refine kt b15 (Xag (Xaf (Xaw (Xap (Xad ?_)))))
 refine kO hT hC ?_
 obtain ⟨hq, h⟩ := Xat h
 refine Yne hT hC rfl rfl rfl rfl rfl rfl rfl hq ?_
 iterate 2 refine kO hT hC ?_
 refine Vc.nil (Xac ?_)
 iterate 6 refine kO hT hC ?_
 iterate 2 refine kQ hT hC h fun h => ?_
 refine Vc.nil (Xas (Xaf (Xac ?_)))
 iterate 2 refine kO hT hC ?_
 exact Vc.nil kG
 exact kf b15 (Xar (Xa1 ku))
 refine Xas (Xaf (Xac ?_))
 iterate 2 refine kO hT hC ?_
 exact Vc.nil kG
 exact kf b12 (Xar (Xa1 ku))
 refine Xaf (Xad ?_)
 iterate 2 refine kO hT hC ?_
 refine Vc.nil (Xaj ?_)
 obtain rfl := kj h
 exact Xfn (τ := ⟨[(4, .own 16)], [(16, some (.ints .i64 v25))]⟩) (kW hC [(16, 208)]) rfl ⟨rfl, trivial⟩
def Ya1 (r : (List Int)) : AV := .own 16
def Ya0 (r : (List Int)) : Xbd := [(16, .ints .i64 r)]
theorem Ycy {p0 r} (h : Xn8 p0 = some r) : AC Try.prog 99 [.sv (.ints .i64 p0)] [] (Ya1 r) (Ya0 r) := by
 refine Xae hT Try.func99 rfl fun C hC => ?_
 unfold Xn8 at h
 refine Xad ?_
 refine kO hT hC ?_
 refine Vc.nil (Xaw (Xad ?_))
 refine kO hT hC ?_
 refine kC hC [] Try.call52 h (fun _ => Xbh) fun q1 h => ?_
 refine kO hT hC ?_
 refine Vc.nil ?_
 refine kS h ?_ ?_ <;> intro b1 h
 refine kt b1 (Xad ?_)
 iterate 2 refine kO hT hC ?_
 refine Vc.nil (Xaj (Xbk ?_))
 obtain rfl := kj h
 exact Xfn (τ := ⟨[(2, .own 16)], [(16, some (.ints .i64 ([] : List Int)))]⟩) (kW hC [(16, 96)]) rfl ⟨rfl, trivial⟩
 refine kf b1 (Xag (Xaf (Xad ?_)))
 refine kO hT hC ?_
 refine kC hC [(16, 128)] Try.call139 h (fun _ => Xlc) fun q2 h => ?_
 refine kO hT hC ?_
 refine Vc.nil (Xaj ?_)
 obtain rfl := kj h
 exact Xfn (τ := ⟨[(2, .own 16)], [(16, some (.ints .i64 q2))]⟩) (kW hC [(16, 128)]) rfl ⟨rfl, trivial⟩
def Xw2 (r : Int) : AV := .sv (.int .i64 r)
def Xw1 (r : Int) : Xbd := []
theorem Xpd {p0 r} (h : Xm0 p0 = some r) : AC Try.prog 168 [.sv (.int .i64 p0)] [] (Xw2 r) (Xw1 r) := by
 refine Xae hT Try.func168 rfl fun C hC => ?_
 unfold Xm0 at h
 refine Xad ?_
 refine kO hT hC ?_
 refine Vc.nil (Xaw (Xad ?_))
 refine kO hT hC ?_
 refine kC hC [] Try.call53 h (fun _ => Xai) fun q1 h => ?_
 refine kO hT hC ?_
 refine Vc.nil ?_
 refine kS h ?_ ?_ <;> intro b1 h
 refine kt b1 (Xad ?_)
 refine kO hT hC ?_
 exact Vc.nil (Xaj (Xbk kR))
 refine kf b1 (Xag (Xaf (Xad ?_)))
 refine kO hT hC ?_
 iterate 2 refine kQ hT hC h fun h => ?_
 refine kO hT hC ?_
 iterate 2 refine kQ hT hC h fun h => ?_
 iterate 2 refine kO hT hC ?_
 refine Vc.nil (Xaw (Xap ?_))
 refine kL [3,4] [] [_,_] [] ?_
 refine kA h (fun v2 => ([(14, .sv (.bool v2))], [])) (fun v2 h => ?_) fun v2 h => ?_
 refine Xac ?_
 iterate 3 refine kO hT hC ?_
 refine kS h ?_ ?_ <;> intro b2 h
 iterate 2 refine kI hT hC b2 ?_
 refine kP hC true b2 ?_
 refine kO hT hC ?_
 exact Vc.nil kM
 iterate 2 refine kF hC b2 ?_
 refine kP hC false b2 ?_
 refine kO hT hC ?_
 exact Vc.nil kM
 refine kS h ?_ ?_ <;> intro b3 h
 refine kt b3 (Xad ?_)
 refine kO hT hC ?_
 exact Vc.nil (Xaj (Xuk (Xbk kR)))
 refine kf b3 ?_
 refine kL [3,4] [] [_,_] [] ?_
 refine kA h (fun v3 => ([(21, .sv (.bool v3)), (3, .any), (4, .any)], [])) (fun v3 h => ?_) fun v3 h => ?_
 refine Xac ?_
 iterate 3 refine kO hT hC ?_
 refine kS h ?_ ?_ <;> intro b4 h
 iterate 2 refine kI hT hC b4 ?_
 refine kP hC true b4 ?_
 refine kO hT hC ?_
 exact Vc.nil kM
 iterate 2 refine kF hC b4 ?_
 refine kP hC false b4 ?_
 refine kO hT hC ?_
 exact Vc.nil kM
 refine kS h ?_ ?_ <;> intro b5 h
 refine kt b5 (Xad ?_)
 refine kO hT hC ?_
 exact Vc.nil (Xaj (Xuk (Xbk kR)))
 refine kf b5 (Xag (Xas (Xaf (Xad ?_))))
 refine kO hT hC ?_
 exact Vc.nil (Xaj kR)
def Xu3 (r : Int) : AV := .sv (.int .i64 r)
def Xu2 (r : Int) : Xbd := []
theorem Xw6 {p0 p1 r} (h : Xjl p0 p1 = some r) : AC Try.prog 141 [.sv (.int .i64 p0), .sv (.int .i64 p1)] [] (Xu3 r) (Xu2 r) := by
 refine Xae hT Try.func141 rfl fun C hC => ?_
 unfold Xjl at h
 refine Xad ?_
 refine kO hT hC ?_
 refine Vc.nil (Xaw ?_)
 refine kL [0,1] [] [_,_] [] ?_
 refine kA h (fun v1 => ([(13, .sv (.bool v1))], [])) (fun v1 h => ?_) fun v1 h => ?_
 refine Xac ?_
 refine kO hT hC ?_
 refine kC hC [] Try.call53 h (fun _ => Xai) fun q2 h => ?_
 iterate 2 refine kO hT hC ?_
 refine kS h ?_ ?_ <;> intro b1 h
 refine kI hT hC (kn b1) ?_
 refine kE hC (kn b1) [] Try.call53 h (fun _ => Xai) fun q3 h => ?_
 refine kI hT hC (kn b1) ?_
 refine kP hC false (kn b1) ?_
 exact Vc.nil kM
 iterate 3 refine kF hC (kn b1) ?_
 refine kP hC true (kn b1) ?_
 exact Vc.nil kM
 refine kS h ?_ ?_ <;> intro b2 h
 refine kt b2 (Xad ?_)
 refine kO hT hC ?_
 exact Vc.nil (Xaj (Xbk kR))
 refine kf b2 (Xag (Xaf (Xad ?_)))
 iterate 9 refine kO hT hC ?_
 refine Vc.nil ?_
 refine Xhr hm ?_
 refine kO hT hC ?_
 refine kQ hT hC h fun h => ?_
 refine kO hT hC ?_
 refine kC hC [] Try.call168 h (fun _ => Xpd) fun q4 h => ?_
 iterate 2 refine kQ hT hC h fun h => ?_
 obtain ⟨hq, h⟩ := Xat h
 refine Yng hT hC rfl rfl rfl rfl rfl rfl hq ?_
 refine kO hT hC ?_
 exact kD (Xaj kR)
def Xqb (r : Int) : AV := .sv (.int .i64 r)
def Xqa (r : Int) : Xbd := []
theorem Xrl {p0 p1 p2 r} (h : Xe4 p0 p1 p2 = some r) : AC Try.prog 100 [.sv (.int .i64 p0), .sv (.int .i64 p1), .sv (.int .i64 p2)] [] (Xqb r) (Xqa r) := by
 refine Xae hT Try.func100 rfl fun C hC => ?_
 unfold Xe4 at h
 refine Xad ?_
 refine kO hT hC ?_
 refine Vc.nil (Xaw ?_)
 refine kL [0,1,2] [] [_,_,_] [] ?_
 refine kA h (fun v1 => ([(20, .sv (.bool v1))], [])) (fun v1 h => ?_) fun v1 h => ?_
 refine Xac ?_
 refine kO hT hC ?_
 refine kC hC [] Try.call53 h (fun _ => Xai) fun q2 h => ?_
 iterate 2 refine kO hT hC ?_
 refine kS h ?_ ?_ <;> intro b1 h
 refine kI hT hC (kn b1) ?_
 refine kE hC (kn b1) [] Try.call53 h (fun _ => Xai) fun q3 h => ?_
 refine kI hT hC (kn b1) ?_
 refine kP hC false (kn b1) ?_
 refine kO hT hC ?_
 refine kS h ?_ ?_ <;> intro b2 h
 refine kI hT hC (kn b2) ?_
 refine kE hC (kn b2) [] Try.call53 h (fun _ => Xai) fun q4 h => ?_
 refine kI hT hC (kn b2) ?_
 refine kP hC false (kn b2) ?_
 exact Vc.nil kM
 iterate 3 refine kF hC (kn b2) ?_
 refine kP hC true (kn b2) ?_
 exact Vc.nil kM
 iterate 3 refine kF hC (kn b1) ?_
 refine kP hC true (kn b1) ?_
 refine kO hT hC ?_
 iterate 3 refine kF hC rfl ?_
 refine kO hT hC ?_
 exact Vc.nil kM
 refine kS h ?_ ?_ <;> intro b3 h
 refine kt b3 (Xad ?_)
 refine kO hT hC ?_
 exact Vc.nil (Xaj (Xbk kR))
 refine kf b3 (Xag (Xaf (Xad ?_)))
 refine kO hT hC ?_
 refine kQ hT hC h fun h => ?_
 refine kO hT hC ?_
 refine kQ hT hC h fun h => ?_
 refine kO hT hC ?_
 refine kN ?_
 refine kO hT hC ?_
 refine kC hC [] Try.call104 h (fun _ => Xoe) fun q5 h => ?_
 iterate 2 refine kO hT hC ?_
 refine kC hC [] Try.call141 h (fun _ => Xw6) fun q6 h => ?_
 iterate 2 refine kO hT hC ?_
 refine kQ hT hC h fun h => ?_
 iterate 2 refine kO hT hC ?_
 refine kQ hT hC h fun h => ?_
 refine kO hT hC ?_
 refine kC hC [] Try.call138 h (fun _ => Xpm) fun q7 h => ?_
 refine kO hT hC ?_
 exact Vc.nil (Xaj kR)
def Xs5 (r : ((List Int) × Bool)) : AV := .tup [.own 16, .sv (.bool r.2)]
def Xs4 (r : ((List Int) × Bool)) : Xbd := [(16, .ints .i64 r.1)]
theorem Xnm {p0 p1 r} (h : Xeg p0 p1 = some r) : AC Try.prog 56 [.sv (.ints .i64 p0), .agg [.sv (.bool p1.Key), .sv (.int .i64 p1.Qp), .sv (.bool p1.Large), .sv (.bool p1.Exact)]] [] (Xs5 r) (Xs4 r) := by
 refine Xae hT Try.func56 rfl fun C hC => ?_
 unfold Xeg at h
 refine Xad ?_
 iterate 3 refine kO hT hC ?_
 refine Vc.nil (Xaw ?_)
 refine kL [0,3] [48] [_,_] [_] ?_
 refine kA h (fun v1 => ([(26, .sv (.bool v1))], [])) (fun v1 h => ?_) fun v1 h => ?_
 refine Xac ?_
 refine kO hT hC ?_
 refine kC hC [] Try.call52 h (fun _ => Xbh) fun q2 h => ?_
 iterate 2 refine kO hT hC ?_
 refine kS h ?_ ?_ <;> intro b1 h
 refine kI hT hC (kn b1) ?_
 refine kE hC (kn b1) [] Try.call27 h (fun _ => Xeq) fun q3 h => ?_
 refine kI hT hC (kn b1) ?_
 refine kP hC false (kn b1) ?_
 exact Vc.nil kM
 iterate 3 refine kF hC (kn b1) ?_
 refine kP hC true (kn b1) ?_
 exact Vc.nil kM
 refine kS h ?_ ?_ <;> intro b2 h
 refine kt b2 (Xad ?_)
 iterate 3 refine kO hT hC ?_
 refine Vc.nil (Xaj (Xbk ?_))
 obtain rfl := kj h
 exact Xfn (τ := ⟨[(4, .own 16), (5, .sv (.bool false))], [(16, some (.ints .i64 ([] : List Int)))]⟩) (kW hC [(16, 432)]) rfl ⟨rfl, trivial⟩
 refine kf b2 (Xag (Xaf (Xaw (Xad ?_))))
 iterate 2 refine kO hT hC ?_
 refine Vc.nil ?_
 refine kS h ?_ ?_ <;> intro b3 h
 refine kt b3 (Xad ?_)
 refine kO hT hC ?_
 refine kC hC [(16, 496)] Try.call95 h (fun _ => Xkq) fun q4 h => ?_
 iterate 4 refine kO hT hC ?_
 refine Vc.nil (Xaj (Xbk ?_))
 obtain rfl := kj h
 exact Xfn (τ := ⟨[(4, .own 16), (5, .sv (.bool q4.2))], [(16, some (.ints .i64 q4.1))]⟩) (kW hC [(16, 496)]) rfl ⟨rfl, trivial⟩
 refine kf b3 (Xag (Xaf (Xaw (Xad ?_))))
 iterate 2 refine kO hT hC ?_
 refine Vc.nil ?_
 refine kS h ?_ ?_ <;> intro b4 h
 refine kt b4 (Xad ?_)
 refine kO hT hC ?_
 refine kC hC [(16, 592)] Try.call96 h (fun _ => Yaz) fun q5 h => ?_
 refine kO hT hC ?_
 refine Vc.nil (Xaw (Xad ?_))
 iterate 3 refine kO hT hC ?_
 refine Vc.nil ?_
 refine kL [3,6,38,39,40] [48,592] [_,_,_,_,_] [_,_] ?_
 refine kX h (fun v8 => ([(40, .sv (.int .i64 v8.1))], [(592, some (.ints .i64 v8.2))])) (fun v11 => ([(3, .any), (38, .any), (39, .any), (40, .any)], [(592, some (.ints .i64 v11)), (48, none)])) (kW hC []) (fun v8 s h => ?_) fun v11 h => ?_
 unfold Xgl at h
 refine Xad ?_
 refine kO hT hC ?_
 refine Vc.nil (Xaw ?_)
 refine kS h ?_ ?_ <;> intro b7 h
 refine kt b7 (Xag (Xaf (Xaw (Xap (Xad ?_)))))
 refine kO hT hC ?_
 iterate 2 refine kQ hT hC h fun h => ?_
 iterate 2 refine kO hT hC ?_
 refine Vc.nil (Xac ?_)
 iterate 5 refine kO hT hC ?_
 refine kC hC [] Try.call97 h (fun _ => Xrd) fun q12 h => ?_
 iterate 2 refine kQ hT hC h fun h => ?_
 refine Vc.nil (Xas (Xaf (Xac ?_)))
 iterate 2 refine kO hT hC ?_
 exact Vc.nil kG
 exact kf b7 (Xar (Xa1 ku))
 refine Xaf (Xad ?_)
 refine kO hT hC ?_
 refine kC hC [(16, 864)] Try.call95 h (fun _ => Xkq) fun q14 h => ?_
 iterate 4 refine kO hT hC ?_
 refine Vc.nil (Xaj (Xbk ?_))
 obtain rfl := kj h
 exact Xfn (τ := ⟨[(4, .own 16), (5, .sv (.bool q14.2))], [(16, some (.ints .i64 q14.1))]⟩) (kW hC [(16, 864)]) rfl ⟨rfl, trivial⟩
 refine kf b4 (Xag (Xaf (Xad ?_)))
 iterate 2 refine kO hT hC ?_
 refine Vc.nil (Xaw (Xad ?_))
 refine kO hT hC ?_
 refine Vc.nil ?_
 refine kL [0,3,9,58] [48,912] [_,_,_,_] [_,_] ?_
 refine kX h (fun v32 => ([(58, .sv (.int .i64 v32.1))], [(912, some (.ints .i64 v32.2))])) (fun v50 => ([(0, .any), (3, .any), (58, .any)], [(912, some (.ints .i64 v50)), (48, none)])) (kW hC []) (fun v32 s h => ?_) fun v50 h => ?_
 unfold Xig at h
 refine Xad ?_
 refine kO hT hC ?_
 refine Vc.nil (Xaw ?_)
 refine kS h ?_ ?_ <;> intro b22 h
 refine kt b22 (Xag (Xaf (Xaw (Xap (Xad ?_)))))
 iterate 2 refine kO hT hC ?_
 refine kN ?_
 iterate 2 refine kO hT hC ?_
 refine Vc.nil (Xaw (Xad ?_))
 refine kO hT hC ?_
 refine kC hC [(16, 1008)] Try.call98 h (fun _ => Xoc) fun q51 h => ?_
 iterate 2 refine kO hT hC ?_
 refine Vc.nil ?_
 refine kL [0,3,9,11,58,63,64,65] [48,912,976,1008] [_,_,_,_,_,_,_,_] [_,_,_,_] ?_
 refine kX h (fun v53 => ([(65, .sv (.int .i64 v53.1))], [(976, some (.ints .i64 v53.2))])) (fun v55 => ([(63, .any), (64, .any), (65, .any)], [(976, some (.ints .i64 v55)), (1008, none)])) (kW hC []) (fun v53 s h => ?_) fun v55 h => ?_
 unfold Xd0 at h
 refine Xad ?_
 refine kO hT hC ?_
 refine Vc.nil (Xaw ?_)
 refine kS h ?_ ?_ <;> intro b25 h
 refine kt b25 (Xag (Xaf (Xaw (Xap (Xad ?_)))))
 iterate 2 refine kQ hT hC h fun h => ?_
 refine kO hT hC ?_
 refine Vc.nil (Xac ?_)
 iterate 3 refine kO hT hC ?_
 refine kQ hT hC h fun h => ?_
 iterate 2 refine kO hT hC ?_
 refine kT hT hC h fun h => ?_
 refine kO hT hC ?_
 refine Vc.nil (Xas (Xaf (Xac ?_)))
 iterate 2 refine kO hT hC ?_
 refine Vc.nil ?_
 obtain rfl := kj h
 exact Ye0 (kW hC [(976, 1200)])
 exact kf b25 (Xar (Xa1 ku))
 refine Xaf (Xad ?_)
 refine kO hT hC ?_
 refine kC hC [(16, 1248)] Try.call99 h (fun _ => Ycy) fun q57 h => ?_
 refine kO hT hC ?_
 refine Vc.nil (Xaw (Xad ?_))
 iterate 3 refine kO hT hC ?_
 refine Vc.nil ?_
 refine kL [0,3,9,14,58,79,80,81] [48,912,1248] [_,_,_,_,_,_,_,_] [_,_,_] ?_
 refine kX h (fun v60 => ([(81, .sv (.int .i64 v60.1))], [(1248, some (.ints .i64 v60.2))])) (fun v63 => ([(79, .any), (80, .any), (81, .any)], [(1248, some (.ints .i64 v63))])) (kW hC []) (fun v60 s h => ?_) fun v63 h => ?_
 unfold Xfp at h
 refine Xad ?_
 refine kO hT hC ?_
 refine Vc.nil (Xaw ?_)
 refine kS h ?_ ?_ <;> intro b28 h
 refine kt b28 (Xag (Xaf (Xaw (Xap (Xad ?_)))))
 refine kO hT hC ?_
 iterate 2 refine kQ hT hC h fun h => ?_
 iterate 2 refine kO hT hC ?_
 refine Vc.nil (Xac ?_)
 iterate 6 refine kO hT hC ?_
 refine kC hC [] Try.call100 h (fun _ => Xrl) fun q64 h => ?_
 iterate 2 refine kQ hT hC h fun h => ?_
 refine Vc.nil (Xas (Xaf (Xac ?_)))
 iterate 2 refine kO hT hC ?_
 exact Vc.nil kG
 exact kf b28 (Xar (Xa1 ku))
 refine Xaf (Xad ?_)
 refine kO hT hC ?_
 refine kC hC [(16, 1552)] Try.call95 h (fun _ => Xkq) fun q66 h => ?_
 iterate 5 refine kO hT hC ?_
 refine Vc.nil (Xac ?_)
 iterate 2 refine kO hT hC ?_
 refine kT hT hC h fun h => ?_
 refine kO hT hC ?_
 refine Vc.nil (Xas (Xaf (Xac ?_)))
 iterate 2 refine kO hT hC ?_
 refine Vc.nil ?_
 obtain rfl := kj h
 exact Ye0 (kW hC [(912, 1632)])
 exact kf b22 (Xar (Xa1 ku))
 refine Xaf (Xad ?_)
 iterate 3 refine kO hT hC ?_
 refine Vc.nil (Xaj ?_)
 obtain rfl := kj h
 exact Xfn (τ := ⟨[(4, .own 16), (5, .sv (.bool true))], [(16, some (.ints .i64 v50))]⟩) (kW hC [(16, 912)]) rfl ⟨rfl, trivial⟩
def Xrg (r : (List Int)) : AV := .own 16
def Xrf (r : (List Int)) : Xbd := [(16, .ints .i64 r)]
theorem Xcu {p0 p1 p2 r} (h : Xbf p0 p1 p2 = some r) : AC Try.prog 60 [.agg [.sv (.int .i64 p0.Wide), .sv (.int .i64 p0.High), .sv (.str p0.Dots)], .sv (.int .i64 p1), .sv (.int .i64 p2)] [] (Xrg r) (Xrf r) := by
 refine Xae hT Try.func60 rfl fun C hC => ?_
 unfold Xbf at h
 refine Xad ?_
 iterate 2 refine kO hT hC ?_
 refine kN ?_
 obtain ⟨hq, h⟩ := Xat h
 refine Yjf hT hC rfl rfl rfl rfl ⟨hq.1, hq.2.1, hq.2.2, by decide⟩ ?_
 refine kO hT hC ?_
 refine Vc.nil (Xaw (Xad ?_))
 refine kO hT hC ?_
 refine Vc.nil ?_
 refine kL [1,2,3,7,11] [48,160] [_,_,_,_,_] [_,_] ?_
 refine kX h (fun v10 => ([(11, .sv (.int .i64 v10.1))], [(160, some (.ints .i64 v10.2))])) (fun v20 => ([(1, .any), (2, .any), (3, .any), (11, .any)], [(160, some (.ints .i64 v20)), (48, none)])) (kW hC []) (fun v10 s h => ?_) fun v20 h => ?_
 unfold Xdh at h
 refine Xad ?_
 refine kO hT hC ?_
 refine Vc.nil (Xaw ?_)
 refine kS h ?_ ?_ <;> intro b9 h
 refine kt b9 (Xag (Xaf (Xaw (Xap (Xad ?_)))))
 iterate 2 refine kO hT hC ?_
 refine kN ?_
 refine kO hT hC ?_
 refine Vc.nil ?_
 refine kL [1,2,3,7,8,11,14] [48,160] [_,_,_,_,_,_,_] [_,_] ?_
 refine kX h (fun v23 => ([(14, .sv (.int .i64 v23.1))], [(160, some (.ints .i64 v23.2))])) (fun v26 => ([(8, .any), (14, .any)], [(160, some (.ints .i64 v26))])) (kW hC []) (fun v23 s h => ?_) fun v26 h => ?_
 unfold Xdi at h
 refine Xad ?_
 refine kO hT hC ?_
 refine Vc.nil (Xaw ?_)
 refine kS h ?_ ?_ <;> intro b12 h
 refine kt b12 (Xag (Xaf (Xaw (Xap (Xad ?_)))))
 iterate 2 refine kO hT hC ?_
 refine Vc.nil (Xac ?_)
 iterate 8 refine kO hT hC ?_
 refine kC hC [] Try.call92 h (fun _ => Xhf) fun q27 h => ?_
 refine kO hT hC ?_
 refine kT hT hC h fun h => ?_
 refine kO hT hC ?_
 refine Vc.nil (Xas (Xaf (Xac ?_)))
 iterate 2 refine kO hT hC ?_
 refine Vc.nil ?_
 obtain rfl := kj h
 exact Ye0 (kW hC [(160, 432)])
 exact kf b12 (Xar (Xa1 ku))
 refine Xas (Xaf (Xac ?_))
 iterate 2 refine kO hT hC ?_
 exact Vc.nil kG
 exact kf b9 (Xar (Xa1 ku))
 refine Xaf (Xad ?_)
 iterate 2 refine kO hT hC ?_
 refine Vc.nil (Xaj ?_)
 obtain rfl := kj h
 exact Xfn (τ := ⟨[(6, .own 16)], [(16, some (.ints .i64 v20))]⟩) (kW hC [(16, 160)]) rfl ⟨rfl, trivial⟩
def Xri (r : Bool) : AV := .sv (.bool r)
def Xrh (r : Bool) : Xbd := []
theorem Xs6 {p0 p1 r} (h : Xf9 p0 p1 = some r) : AC Try.prog 75 [.agg [.sv (.int .i64 p0.Wide), .sv (.int .i64 p0.High), .sv (.str p0.Dots)], .agg [.sv (.int .i64 p1.Left), .sv (.int .i64 p1.Top), .sv (.int .i64 p1.Wide), .sv (.int .i64 p1.High)]] [] (Xri r) (Xrh r) := by
 refine Xae hT Try.func75 rfl fun C hC => ?_
 unfold Xf9 at h
 refine Xad ?_
 iterate 3 refine kO hT hC ?_
 refine Vc.nil ?_
 refine kL [2,3,4] [32,48] [_,_,_] [_,_] ?_
 refine kA h (fun v1 => ([(4, .sv (.bool v1)), (2, .any), (3, .any)], [(32, none), (48, none)])) (fun v1 h => ?_) fun v1 h => ?_
 refine Xac ?_
 iterate 4 refine kO hT hC ?_
 refine kC hC [] Try.call53 h (fun _ => Xai) fun q2 h => ?_
 refine kO hT hC ?_
 refine kS h ?_ ?_ <;> intro b1 h
 iterate 4 refine kI hT hC b1 ?_
 refine kE hC b1 [] Try.call53 h (fun _ => Xai) fun q3 h => ?_
 refine kP hC true b1 ?_
 refine kO hT hC ?_
 refine kS h ?_ ?_ <;> intro b2 h
 iterate 7 refine kI hT hC b2 ?_
 refine kE hC b2 [] Try.call53 h (fun _ => Xai) fun q4 h => ?_
 refine kP hC true b2 ?_
 refine kO hT hC ?_
 refine kS h ?_ ?_ <;> intro b3 h
 iterate 7 refine kI hT hC b3 ?_
 refine kE hC b3 [] Try.call53 h (fun _ => Xai) fun q5 h => ?_
 refine kP hC true b3 ?_
 refine kO hT hC ?_
 exact Vc.nil kM
 iterate 8 refine kF hC b3 ?_
 refine kP hC false b3 ?_
 refine kO hT hC ?_
 exact Vc.nil kM
 iterate 8 refine kF hC b2 ?_
 refine kP hC false b2 ?_
 refine kO hT hC ?_
 iterate 8 refine kF hC rfl ?_
 iterate 2 refine kO hT hC ?_
 exact Vc.nil kM
 iterate 5 refine kF hC b1 ?_
 refine kP hC false b1 ?_
 refine kO hT hC ?_
 iterate 8 refine kF hC rfl ?_
 iterate 2 refine kO hT hC ?_
 iterate 8 refine kF hC rfl ?_
 iterate 2 refine kO hT hC ?_
 exact Vc.nil kM
 exact Xaj kR
def Xww (r : (Int × Bool)) : AV := .tup [.sv (.int .i64 r.1), .sv (.bool r.2)]
def Xwv (r : (Int × Bool)) : Xbd := []
theorem Xo9 {p0 r} (h : Xid p0 = some r) : AC Try.prog 151 [.sv (.int .i64 p0)] [] (Xww r) (Xwv r) := by
 refine Xae hT Try.func151 rfl fun C hC => ?_
 unfold Xid at h
 refine Xad ?_
 iterate 2 refine kO hT hC ?_
 refine Vc.nil (Xaw (Xap (Xad ?_)))
 refine kO hT hC ?_
 refine kC hC [] Try.call53 h (fun _ => Xai) fun q1 h => ?_
 iterate 2 refine kO hT hC ?_
 refine Vc.nil ?_
 refine kS h ?_ ?_ <;> intro b1 h
 refine kt b1 (Xad ?_)
 iterate 2 refine kO hT hC ?_
 exact Vc.nil (Xaj (Xuk (Xbk kR)))
 refine kf b1 (Xad ?_)
 iterate 3 refine kO hT hC ?_
 refine Vc.nil ?_
 refine kS h ?_ ?_ <;> intro b2 h
 refine kt b2 (Xad ?_)
 iterate 5 refine kO hT hC ?_
 exact Vc.nil (Xaj (Xuk (Xbk kR)))
 refine kf b2 (Xag (Xas (Xaf (Xad ?_))))
 iterate 4 refine kO hT hC ?_
 exact Vc.nil (Xaj kR)
def Xy9 (r : (ByteArray × Bool)) : AV := .tup [.sv (.str r.1), .sv (.bool r.2)]
def Xy8 (r : (ByteArray × Bool)) : Xbd := []
theorem Xm1 {p0 r} (h : Xih p0 = some r) : AC Try.prog 117 [.sv (.int .i64 p0)] [] (Xy9 r) (Xy8 r) := by
 refine Xae hT Try.func117 rfl fun C hC => ?_
 unfold Xih at h
 refine Xad ?_
 iterate 2 refine kO hT hC ?_
 refine kN ?_
 refine kO hT hC ?_
 refine kC hC [] Try.call151 h (fun _ => Xo9) fun q1 h => ?_
 iterate 5 refine kO hT hC ?_
 refine Vc.nil (Xaw (Xad ?_))
 iterate 2 refine kO hT hC ?_
 refine Vc.nil ?_
 refine kS h ?_ ?_ <;> intro b1 h
 refine kt b1 (Xad ?_)
 iterate 2 refine kO hT hC ?_
 exact Vc.nil (Xaj (Xbk kR))
 refine kf b1 (Xag (Xaf (Xad ?_)))
 refine kO hT hC ?_
 refine kC hC [] Try.call135 h (fun _ => Xrr) fun q2 h => ?_
 iterate 4 refine kO hT hC ?_
 exact Vc.nil (Xaj kR)
def Xw5 (r : Int) : AV := .sv (.int .i64 r)
def Xw4 (r : Int) : Xbd := []
theorem Xpe {p0 r} (h : Xii p0 = some r) : AC Try.prog 105 [.sv (.int .i64 p0)] [] (Xw5 r) (Xw4 r) := by
 refine Xae hT Try.func105 rfl fun C hC => ?_
 unfold Xii at h
 refine Xad ?_
 refine kO hT hC ?_
 refine kN ?_
 refine kO hT hC ?_
 refine kC hC [] Try.call117 h (fun _ => Xm1) fun q1 h => ?_
 iterate 5 refine kO hT hC ?_
 refine kN ?_
 iterate 3 refine kO hT hC ?_
 exact Vc.nil (Xaj kR)
def Xsz (r : (Int × Int × Int)) : AV := .tup [.sv (.int .i64 r.1), .sv (.int .i64 r.2.1), .sv (.int .i64 r.2.2)]
def Xsy (r : (Int × Int × Int)) : Xbd := []
theorem Xum {p0 p1 p2 p3 p4 r} (h : Xcl p0 p1 p2 p3 p4 = some r) : AC Try.prog 61 [.agg [.sv (.int .i64 p0.Wide), .sv (.int .i64 p0.High), .sv (.str p0.Dots)], .sv (.ints .i64 p1), .sv (.int .i64 p2), .sv (.int .i64 p3), .sv (.int .i64 p4)] [] (Xsz r) (Xsy r) := by
 refine Xae hT Try.func61 rfl fun C hC => ?_
 unfold Xcl at h
 refine Xad ?_
 iterate 4 refine kO hT hC ?_
 refine Vc.nil (Xaw ?_)
 refine kL [1,2,3,4,5] [80] [_,_,_,_,_] [_] ?_
 refine kA h (fun v1 => ([(38, .sv (.bool v1))], [])) (fun v1 h => ?_) fun v1 h => ?_
 refine Xac ?_
 refine kO hT hC ?_
 refine kC hC [] Try.call50 h (fun _ => Xdg) fun q2 h => ?_
 iterate 2 refine kO hT hC ?_
 refine kS h ?_ ?_ <;> intro b1 h
 refine kI hT hC (kn b1) ?_
 refine kE hC (kn b1) [] Try.call52 h (fun _ => Xbh) fun q3 h => ?_
 refine kI hT hC (kn b1) ?_
 refine kP hC false (kn b1) ?_
 refine kO hT hC ?_
 refine kS h ?_ ?_ <;> intro b2 h
 refine kI hT hC (kn b2) ?_
 refine kE hC (kn b2) [] Try.call53 h (fun _ => Xai) fun q4 h => ?_
 refine kI hT hC (kn b2) ?_
 refine kP hC false (kn b2) ?_
 refine kO hT hC ?_
 refine kS h ?_ ?_ <;> intro b3 h
 iterate 3 refine kI hT hC (kn b3) ?_
 refine kE hC (kn b3) [] Try.call51 h (fun _ => Xdw) fun q5 h => ?_
 refine kI hT hC (kn b3) ?_
 refine kP hC false (kn b3) ?_
 exact Vc.nil kM
 iterate 5 refine kF hC (kn b3) ?_
 refine kP hC true (kn b3) ?_
 exact Vc.nil kM
 iterate 3 refine kF hC (kn b2) ?_
 refine kP hC true (kn b2) ?_
 refine kO hT hC ?_
 iterate 5 refine kF hC rfl ?_
 refine kO hT hC ?_
 exact Vc.nil kM
 iterate 3 refine kF hC (kn b1) ?_
 refine kP hC true (kn b1) ?_
 refine kO hT hC ?_
 iterate 3 refine kF hC rfl ?_
 iterate 2 refine kO hT hC ?_
 iterate 5 refine kF hC rfl ?_
 refine kO hT hC ?_
 exact Vc.nil kM
 refine kS h ?_ ?_ <;> intro b4 h
 refine kt b4 (Xad ?_)
 iterate 3 refine kO hT hC ?_
 exact Vc.nil (Xaj (Xbk kR))
 refine kf b4 (Xag (Xaf (Xad ?_)))
 iterate 3 refine kO hT hC ?_
 refine Vc.nil (Xaw (Xad ?_))
 iterate 3 refine kO hT hC ?_
 refine Vc.nil ?_
 refine kL [1,2,3,4,5,13,14,15,16] [80] [_,_,_,_,_,_,_,_,_] [_] ?_
 refine kX h (fun v33 => ([(13, .sv (.int .i64 v33.1)), (14, .sv (.int .i64 v33.2.1)), (15, .sv (.int .i64 v33.2.2.1)), (16, .sv (.int .i64 v33.2.2.2))], [])) (fun v61 => ([(13, .sv (.int .i64 v61.1)), (14, .sv (.int .i64 v61.2.1)), (15, .sv (.int .i64 v61.2.2)), (1, .any), (2, .any), (3, .any), (4, .any), (5, .any), (16, .any)], [(80, none)])) (kW hC []) (fun v33 s h => ?_) fun v61 h => ?_
 unfold Xdy at h
 refine Xaw (Xad ?_)
 iterate 3 refine kO hT hC ?_
 refine Vc.nil ?_
 refine kS h ?_ ?_ <;> intro b31 h
 refine kt b31 (Xag (Xaf (Xaw (Xap (Xad ?_)))))
 iterate 3 refine kO hT hC ?_
 refine Vc.nil ?_
 refine kL [1,2,3,4,5,13,14,15,16,17] [80] [_,_,_,_,_,_,_,_,_,_] [_] ?_
 refine kX h (fun v70 => ([(13, .sv (.int .i64 v70.1)), (14, .sv (.int .i64 v70.2.1)), (15, .sv (.int .i64 v70.2.2.1)), (17, .sv (.int .i64 v70.2.2.2))], [])) (fun v79 => ([(13, .sv (.int .i64 v79.1)), (14, .sv (.int .i64 v79.2.1)), (15, .sv (.int .i64 v79.2.2)), (17, .any)], [])) (kW hC []) (fun v70 s h => ?_) fun v79 h => ?_
 unfold Xbz at h
 refine Xaw (Xad ?_)
 iterate 3 refine kO hT hC ?_
 refine Vc.nil ?_
 refine kS h ?_ ?_ <;> intro b40 h
 refine kt b40 (Xag (Xaf ?_))
 refine kL [1,2,3,4,5,13,14,15,16,17] [80] [_,_,_,_,_,_,_,_,_,_] [_] ?_
 refine kA h (fun v80 => ([(13, .sv (.int .i64 v80.1)), (14, .sv (.int .i64 v80.2.1)), (15, .sv (.int .i64 v80.2.2))], [])) (fun v80 h => ?_) fun v80 h => ?_
 refine Xap (Xaw (Xad ?_))
 iterate 8 refine kO hT hC ?_
 refine kC hC [] Try.call75 h (fun _ => Xs6) fun q81 h => ?_
 refine kO hT hC ?_
 refine Vc.nil ?_
 refine kS h ?_ ?_ <;> intro b41 h
 exact kt b41 (Xar (Xa1 (Yfh kM)))
 refine kf b41 (Xag (Xaf (Xad ?_)))
 iterate 8 refine kO hT hC ?_
 refine kC hC [(16, 1136)] Try.call60 h (fun _ => Xcu) fun q82 h => ?_
 refine kC hC [] Try.call59 h (fun _ => Xqg) fun q83 h => ?_
 refine kO hT hC ?_
 refine kC hC [] Try.call105 h (fun _ => Xpe) fun q84 h => ?_
 iterate 2 refine kO hT hC ?_
 refine kC hC [] Try.call105 h (fun _ => Xpe) fun q85 h => ?_
 iterate 2 refine kO hT hC ?_
 refine Vc.nil ?_
 refine kL [1,2,3,4,5,13,14,15,16,17,18] [80] [_,_,_,_,_,_,_,_,_,_,_] [_] ?_
 refine kA h (fun v86 => ([(85, .sv (.bool v86))], [])) (fun v86 h => ?_) fun v86 h => ?_
 refine Xac ?_
 iterate 3 refine kO hT hC ?_
 refine kS h ?_ ?_ <;> intro b42 h
 iterate 3 refine kF hC b42 ?_
 refine kP hC true b42 ?_
 exact Vc.nil kM
 iterate 3 refine kI hT hC b42 ?_
 refine kP hC false b42 ?_
 exact Vc.nil kM
 refine kS h ?_ ?_ <;> intro b43 h
 refine kt b43 (Xac ?_)
 iterate 6 refine kO hT hC ?_
 exact Vc.nil (Xas kM)
 exact kf b43 (Xag (Xas kM))
 refine Xac ?_
 iterate 3 refine kO hT hC ?_
 exact Vc.nil kG
 exact kf b40 (Xar (Xa1 ku))
 refine Xas (Xaf (Xac ?_))
 iterate 3 refine kO hT hC ?_
 exact Vc.nil kG
 exact kf b31 (Xar (Xa1 ku))
 refine Xaf (Xad ?_)
 iterate 6 refine kO hT hC ?_
 exact Vc.nil (Xaj kR)
def Xrv (r : Bool) : AV := .sv (.bool r)
def Xru (r : Bool) : Xbd := []
theorem Xim {p0 r} (h : Xdq p0 = some r) : AC Try.prog 65 [.sv (.ints .i64 p0)] [] (Xrv r) (Xru r) := by
 refine Xae hT Try.func65 rfl fun C hC => ?_
 unfold Xdq at h
 refine Xad ?_
 refine kO hT hC ?_
 refine kN ?_
 refine kO hT hC ?_
 refine kC hC [] Try.call52 h (fun _ => Xbh) fun q1 h => ?_
 refine kO hT hC ?_
 exact Vc.nil (Xaj kR)
def Xtc (r : Bool) : AV := .sv (.bool r)
def Xtb (r : Bool) : Xbd := []
theorem Xnn {p0 r} (h : Xfq p0 = some r) : AC Try.prog 15 [.agg [.sv (.int .i64 p0.Kind), .sv (.int .i64 p0.Mode), .sv (.int .i64 p0.Dx), .sv (.int .i64 p0.Dy), .sv (.ints .i64 p0.Levels)]] [] (Xtc r) (Xtb r) := by
 refine Xae hT Try.func15 rfl fun C hC => ?_
 unfold Xfq at h
 refine Xad ?_
 iterate 2 refine kO hT hC ?_
 refine Vc.nil (Xaw (Xad ?_))
 iterate 2 refine kO hT hC ?_
 refine Vc.nil (Xap (Xad ?_))
 iterate 2 refine kO hT hC ?_
 refine Vc.nil ?_
 refine kS h ?_ ?_ <;> intro b1 h
 refine kt b1 ?_
 refine kL [1,2] [16] [_,_] [_] ?_
 refine kA h (fun v1 => ([(2, .sv (.bool v1)), (1, .any)], [(16, none)])) (fun v1 h => ?_) fun v1 h => ?_
 refine Xac ?_
 iterate 4 refine kO hT hC ?_
 refine kS h ?_ ?_ <;> intro b2 h
 iterate 3 refine kI hT hC b2 ?_
 refine kP hC true b2 ?_
 refine kO hT hC ?_
 refine kS h ?_ ?_ <;> intro b3 h
 iterate 3 refine kI hT hC b3 ?_
 refine kP hC true b3 ?_
 refine kO hT hC ?_
 refine kS h ?_ ?_ <;> intro b4 h
 iterate 4 refine kI hT hC b4 ?_
 refine kP hC true b4 ?_
 refine kO hT hC ?_
 exact Vc.nil kM
 iterate 4 refine kF hC b4 ?_
 refine kP hC false b4 ?_
 refine kO hT hC ?_
 exact Vc.nil kM
 iterate 3 refine kF hC b3 ?_
 refine kP hC false b3 ?_
 refine kO hT hC ?_
 iterate 4 refine kF hC rfl ?_
 iterate 2 refine kO hT hC ?_
 exact Vc.nil kM
 iterate 3 refine kF hC b2 ?_
 refine kP hC false b2 ?_
 refine kO hT hC ?_
 iterate 3 refine kF hC rfl ?_
 iterate 2 refine kO hT hC ?_
 iterate 4 refine kF hC rfl ?_
 iterate 2 refine kO hT hC ?_
 exact Vc.nil kM
 exact Xaj (Xuk (Xbk kR))
 refine kf b1 (Xad ?_)
 iterate 2 refine kO hT hC ?_
 refine Vc.nil ?_
 refine kS h ?_ ?_ <;> intro b5 h
 refine kt b5 ?_
 refine kL [1,2] [16] [_,_] [_] ?_
 refine kA h (fun v2 => ([(2, .sv (.bool v2)), (1, .any)], [(16, none)])) (fun v2 h => ?_) fun v2 h => ?_
 refine Xac ?_
 iterate 4 refine kO hT hC ?_
 refine kS h ?_ ?_ <;> intro b6 h
 iterate 2 refine kI hT hC b6 ?_
 refine kE hC b6 [] Try.call53 h (fun _ => Xai) fun q3 h => ?_
 refine kP hC true b6 ?_
 refine kO hT hC ?_
 refine kS h ?_ ?_ <;> intro b7 h
 iterate 2 refine kI hT hC b7 ?_
 refine kE hC b7 [] Try.call53 h (fun _ => Xai) fun q4 h => ?_
 refine kP hC true b7 ?_
 refine kO hT hC ?_
 refine kS h ?_ ?_ <;> intro b8 h
 iterate 2 refine kI hT hC b8 ?_
 refine kE hC b8 [] Try.call65 h (fun _ => Xim) fun q5 h => ?_
 refine kP hC true b8 ?_
 refine kO hT hC ?_
 exact Vc.nil kM
 iterate 3 refine kF hC b8 ?_
 refine kP hC false b8 ?_
 refine kO hT hC ?_
 exact Vc.nil kM
 iterate 3 refine kF hC b7 ?_
 refine kP hC false b7 ?_
 refine kO hT hC ?_
 iterate 3 refine kF hC rfl ?_
 iterate 2 refine kO hT hC ?_
 exact Vc.nil kM
 iterate 3 refine kF hC b6 ?_
 refine kP hC false b6 ?_
 refine kO hT hC ?_
 iterate 3 refine kF hC rfl ?_
 iterate 2 refine kO hT hC ?_
 iterate 3 refine kF hC rfl ?_
 iterate 2 refine kO hT hC ?_
 exact Vc.nil kM
 exact Xaj (Xuk (Xbk kR))
 refine kf b5 (Xad ?_)
 iterate 2 refine kO hT hC ?_
 refine Vc.nil ?_
 refine kS h ?_ ?_ <;> intro b9 h
 refine kt b9 ?_
 refine kL [1,2] [16] [_,_] [_] ?_
 refine kA h (fun v6 => ([(2, .sv (.bool v6)), (1, .any)], [(16, none)])) (fun v6 h => ?_) fun v6 h => ?_
 refine Xac ?_
 iterate 2 refine kO hT hC ?_
 refine kC hC [] Try.call53 h (fun _ => Xai) fun q7 h => ?_
 refine kO hT hC ?_
 refine kS h ?_ ?_ <;> intro b10 h
 iterate 3 refine kI hT hC b10 ?_
 refine kP hC true b10 ?_
 refine kO hT hC ?_
 refine kS h ?_ ?_ <;> intro b11 h
 iterate 3 refine kI hT hC b11 ?_
 refine kP hC true b11 ?_
 refine kO hT hC ?_
 refine kS h ?_ ?_ <;> intro b12 h
 iterate 2 refine kI hT hC b12 ?_
 refine kE hC b12 [] Try.call65 h (fun _ => Xim) fun q8 h => ?_
 refine kP hC true b12 ?_
 refine kO hT hC ?_
 exact Vc.nil kM
 iterate 3 refine kF hC b12 ?_
 refine kP hC false b12 ?_
 refine kO hT hC ?_
 exact Vc.nil kM
 iterate 3 refine kF hC b11 ?_
 refine kP hC false b11 ?_
 refine kO hT hC ?_
 iterate 3 refine kF hC rfl ?_
 iterate 2 refine kO hT hC ?_
 exact Vc.nil kM
 iterate 3 refine kF hC b10 ?_
 refine kP hC false b10 ?_
 refine kO hT hC ?_
 iterate 3 refine kF hC rfl ?_
 iterate 2 refine kO hT hC ?_
 iterate 3 refine kF hC rfl ?_
 iterate 2 refine kO hT hC ?_
 exact Vc.nil kM
 exact Xaj (Xuk (Xbk kR))
 refine kf b9 (Xag (Xas (Xaf (Xad ?_))))
 refine kO hT hC ?_
 exact Vc.nil (Xaj kR)
def Xqf (r : Bool) : AV := .sv (.bool r)
def Xqe (r : Bool) : Xbd := []
theorem Xli {p0 p1 r} (h : Xc0 p0 p1 = some r) : AC Try.prog 62 [.agg [.sv (.int .i64 p0.Kind), .sv (.int .i64 p0.Mode), .sv (.int .i64 p0.Dx), .sv (.int .i64 p0.Dy), .sv (.ints .i64 p0.Levels)], .agg [.sv (.bool p1.Key), .sv (.int .i64 p1.Qp), .sv (.bool p1.Large), .sv (.bool p1.Exact)]] [] (Xqf r) (Xqe r) := by
 refine Xae hT Try.func62 rfl fun C hC => ?_
 unfold Xc0 at h
 refine Xad ?_
 iterate 3 refine kO hT hC ?_
 refine Vc.nil ?_
 refine kL [2,3,4] [32,48] [_,_,_] [_,_] ?_
 refine kA h (fun v1 => ([(4, .sv (.bool v1)), (2, .any), (3, .any)], [(32, none), (48, none)])) (fun v1 h => ?_) fun v1 h => ?_
 refine Xac ?_
 iterate 4 refine kO hT hC ?_
 refine kS h ?_ ?_ <;> intro b1 h
 iterate 3 refine kI hT hC (kn b1) ?_
 refine kP hC false (kn b1) ?_
 refine kO hT hC ?_
 exact Vc.nil kM
 iterate 3 refine kF hC (kn b1) ?_
 refine kP hC true (kn b1) ?_
 refine kO hT hC ?_
 exact Vc.nil kM
 exact Xaj kR
def Xrt (r : ((List Int) × Bool)) : AV := .tup [.own 16, .sv (.bool r.2)]
def Xrs (r : ((List Int) × Bool)) : Xbd := [(16, .ints .i64 r.1)]
theorem Xil {p0 p1 r} (h : Xdp p0 p1 = some r) : AC Try.prog 106 [.sv (.int .i64 p0), .sv (.ints .i64 p1)] [] (Xrt r) (Xrs r) := by
 refine Xae hT Try.func106 rfl fun C hC => ?_
 unfold Xdp at h
 refine Xad ?_
 iterate 2 refine kO hT hC ?_
 refine Vc.nil (Xaw ?_)
 refine kL [0,1] [] [_,_] [] ?_
 refine kA h (fun v1 => ([(22, .sv (.bool v1))], [])) (fun v1 h => ?_) fun v1 h => ?_
 refine Xac ?_
 iterate 3 refine kO hT hC ?_
 refine kS h ?_ ?_ <;> intro b1 h
 iterate 2 refine kI hT hC b1 ?_
 refine kP hC true b1 ?_
 refine kO hT hC ?_
 refine kS h ?_ ?_ <;> intro b2 h
 iterate 6 refine kF hC b2 ?_
 refine kP hC true b2 ?_
 exact Vc.nil kM
 iterate 6 refine kI hT hC b2 ?_
 refine kP hC false b2 ?_
 exact Vc.nil kM
 iterate 2 refine kF hC b1 ?_
 refine kP hC false b1 ?_
 refine kO hT hC ?_
 iterate 6 refine kI hT hC rfl ?_
 refine kO hT hC ?_
 exact Vc.nil kM
 refine kS h ?_ ?_ <;> intro b3 h
 refine kt b3 (Xad ?_)
 iterate 3 refine kO hT hC ?_
 refine Vc.nil (Xaj (Xbk ?_))
 obtain rfl := kj h
 exact Xfn (τ := ⟨[(4, .own 16), (5, .sv (.bool false))], [(16, some (.ints .i64 ([] : List Int)))]⟩) (kW hC [(16, 368)]) rfl ⟨rfl, trivial⟩
 refine kf b3 (Xag (Xaf (Xad ?_)))
 iterate 2 refine kO hT hC ?_
 obtain ⟨hq, h⟩ := Xat h
 refine Yjf hT hC rfl rfl rfl rfl ⟨hq.1, hq.2.1, hq.2.2, by decide⟩ ?_
 refine kO hT hC ?_
 refine Vc.nil (Xaw (Xad ?_))
 refine kO hT hC ?_
 refine kC hC [(16, 448)] Try.call136 h (fun _ => Xmc) fun q2 h => ?_
 iterate 2 refine kO hT hC ?_
 refine Vc.nil ?_
 refine kL [1,6,28,29,30] [416,448] [_,_,_,_,_] [_,_] ?_
 refine kX h (fun v4 => ([(30, .sv (.int .i64 v4.1))], [(416, some (.ints .i64 v4.2))])) (fun v6 => ([(1, .any), (28, .any), (29, .any), (30, .any)], [(416, some (.ints .i64 v6)), (448, none)])) (kW hC []) (fun v4 s h => ?_) fun v6 h => ?_
 unfold Xfr at h
 refine Xad ?_
 refine kO hT hC ?_
 refine Vc.nil (Xaw ?_)
 refine kS h ?_ ?_ <;> intro b6 h
 refine kt b6 (Xag (Xaf (Xaw (Xap (Xad ?_)))))
 refine kO hT hC ?_
 iterate 2 refine kQ hT hC h fun h => ?_
 iterate 2 refine kO hT hC ?_
 refine Vc.nil (Xac ?_)
 iterate 4 refine kO hT hC ?_
 refine kQ hT hC h fun h => ?_
 refine kO hT hC ?_
 iterate 2 refine kQ hT hC h fun h => ?_
 refine Vc.nil (Xas (Xaf (Xac ?_)))
 iterate 2 refine kO hT hC ?_
 exact Vc.nil kG
 exact kf b6 (Xar (Xa1 ku))
 refine Xaf (Xad ?_)
 iterate 3 refine kO hT hC ?_
 refine Vc.nil (Xaj ?_)
 obtain rfl := kj h
 exact Xfn (τ := ⟨[(4, .own 16), (5, .sv (.bool true))], [(16, some (.ints .i64 v6))]⟩) (kW hC [(16, 416)]) rfl ⟨rfl, trivial⟩
def Xrc (r : Int) : AV := .sv (.int .i64 r)
def Xrb (r : Int) : Xbd := []
theorem Xs3 {p0 p1 r} (h : Xf8 p0 p1 = some r) : AC Try.prog 107 [.sv (.int .i64 p0), .sv (.int .i64 p1)] [] (Xrc r) (Xrb r) := by
 refine Xae hT Try.func107 rfl fun C hC => ?_
 unfold Xf8 at h
 refine Xad ?_
 refine kO hT hC ?_
 refine Vc.nil (Xaw (Xad ?_))
 refine kO hT hC ?_
 refine kC hC [] Try.call53 h (fun _ => Xai) fun q1 h => ?_
 refine kO hT hC ?_
 refine Vc.nil ?_
 refine kS h ?_ ?_ <;> intro b1 h
 refine kt b1 (Xad ?_)
 refine kO hT hC ?_
 exact Vc.nil (Xaj (Xbk kR))
 refine kf b1 (Xag (Xaf (Xad ?_)))
 iterate 2 refine kO hT hC ?_
 refine kC hC [] Try.call31 h (fun _ => Xpg) fun q2 h => ?_
 iterate 2 refine kO hT hC ?_
 exact Vc.nil (Xaj kR)
def Xzf (r : Int) : AV := .sv (.int .i64 r)
def Xze (r : Int) : Xbd := []
theorem Xm3 {p0 p1 r} (h : Xkj p0 p1 = some r) : AC Try.prog 145 [.sv (.int .i64 p0), .sv (.int .i64 p1)] [] (Xzf r) (Xze r) := by
 refine Xae hT Try.func145 rfl fun C hC => ?_
 unfold Xkj at h
 refine Xad ?_
 refine kO hT hC ?_
 refine kN ?_
 iterate 2 refine kO hT hC ?_
 refine kQ hT hC h fun h => ?_
 refine kO hT hC ?_
 refine Vc.nil ?_
 refine kL [0,1,5] [] [_,_,_] [] ?_
 refine kA h (fun v1 => ([(5, .sv (.int .i64 v1)), (0, .any), (1, .any)], [])) (fun v1 h => ?_) fun v1 h => ?_
 refine Xad ?_
 iterate 2 refine kO hT hC ?_
 refine kQ hT hC h fun h => ?_
 refine kO hT hC ?_
 refine Vc.nil ?_
 refine kS h ?_ ?_ <;> intro b1 h
 refine kt b1 (Xac ?_)
 iterate 3 refine kO hT hC ?_
 exact Vc.nil kM
 exact kf b1 (Xag kM)
 refine Xad ?_
 iterate 2 refine kO hT hC ?_
 exact Vc.nil (Xaj kR)
def Xu8 (r : ((List Int) × (List Int))) : AV := .own 0
def Xu7 (r : ((List Int) × (List Int))) : Xbd := [(0, .ints .i64 r.2)]
theorem Xod {p0 r} (h : Xg4 p0 = some r) : AC Try.prog 142 [.own 0] [(0, .ints .i64 p0)] (Xu8 r) (Xu7 r) := by
 refine Xae hT Try.func142 rfl fun C hC => ?_
 unfold Xg4 at h
 refine Xad ?_
 refine kO hT hC ?_
 refine Vc.nil (Xaw (Xad ?_))
 iterate 3 refine kO hT hC ?_
 refine Vc.nil ?_
 refine kL [0,5,6,7] [0] [_,_,_,_] [_] ?_
 refine kX h (fun v3 => ([(7, .sv (.int .i64 v3.1))], [(0, some (.ints .i64 v3.2))])) (fun v6 => ([(5, .any), (6, .any), (7, .any)], [(0, some (.ints .i64 v6))])) (kW hC []) (fun v3 s h => ?_) fun v6 h => ?_
 unfold Xkt at h
 refine Xad ?_
 refine kO hT hC ?_
 refine Vc.nil (Xaw ?_)
 refine kS h ?_ ?_ <;> intro b3 h
 refine kt b3 (Xag (Xaf (Xaw (Xap (Xad ?_)))))
 refine kO hT hC ?_
 iterate 2 refine kQ hT hC h fun h => ?_
 iterate 2 refine kO hT hC ?_
 refine Vc.nil (Xac ?_)
 iterate 4 refine kO hT hC ?_
 refine kC hC [] Try.call145 h (fun _ => Xm3) fun q7 h => ?_
 iterate 2 refine kQ hT hC h fun h => ?_
 refine Vc.nil (Xas (Xaf (Xac ?_)))
 iterate 2 refine kO hT hC ?_
 exact Vc.nil kG
 exact kf b3 (Xar (Xa1 ku))
 refine Xaf (Xad ?_)
 iterate 2 refine kO hT hC ?_
 refine Vc.nil (Xaj ?_)
 obtain rfl := kj h
 exact Xfn (Xkf.refl _) rfl ⟨rfl, trivial⟩
def Xq9 (r : (List Int)) : AV := .own 16
def Xq8 (r : (List Int)) : Xbd := [(16, .ints .i64 r)]
theorem Xs0 {p0 r} (h : Xf7 p0 = some r) : AC Try.prog 108 [.sv (.ints .i64 p0)] [] (Xq9 r) (Xq8 r) := by
 refine Xae hT Try.func108 rfl fun C hC => ?_
 unfold Xf7 at h
 refine Xad ?_
 refine kO hT hC ?_
 refine Vc.nil (Xaw (Xad ?_))
 refine kO hT hC ?_
 refine kC hC [] Try.call52 h (fun _ => Xbh) fun q1 h => ?_
 refine kO hT hC ?_
 refine Vc.nil ?_
 refine kS h ?_ ?_ <;> intro b1 h
 refine kt b1 (Xad ?_)
 iterate 2 refine kO hT hC ?_
 refine Vc.nil (Xaj (Xbk ?_))
 obtain rfl := kj h
 exact Xfn (τ := ⟨[(2, .own 16)], [(16, some (.ints .i64 ([] : List Int)))]⟩) (kW hC [(16, 96)]) rfl ⟨rfl, trivial⟩
 refine kf b1 (Xag (Xaf (Xad ?_)))
 refine kO hT hC ?_
 refine kC hC [(16, 128)] Try.call137 h (fun _ => Xub) fun q2 h => ?_
 refine kC hC [(0, 128)] Try.call142 h (fun _ => Xod) fun q3 h => ?_
 refine kO hT hC ?_
 refine Vc.nil (Xaj ?_)
 obtain rfl := kj h
 exact Xfn (τ := ⟨[(2, .own 16)], [(16, some (.ints .i64 q3.2))]⟩) (kW hC [(16, 128)]) rfl ⟨rfl, trivial⟩
def Xuy (r : Int) : AV := .sv (.int .i64 r)
def Xux (r : Int) : Xbd := []
theorem Xw3 {p0 p1 r} (h : Xjk p0 p1 = some r) : AC Try.prog 143 [.sv (.int .i64 p0), .sv (.int .i64 p1)] [] (Xuy r) (Xux r) := by
 refine Xae hT Try.func143 rfl fun C hC => ?_
 unfold Xjk at h
 refine Xad ?_
 refine kO hT hC ?_
 refine Vc.nil (Xaw ?_)
 refine kL [0,1] [] [_,_] [] ?_
 refine kA h (fun v1 => ([(13, .sv (.bool v1))], [])) (fun v1 h => ?_) fun v1 h => ?_
 refine Xac ?_
 refine kO hT hC ?_
 refine kC hC [] Try.call53 h (fun _ => Xai) fun q2 h => ?_
 iterate 2 refine kO hT hC ?_
 refine kS h ?_ ?_ <;> intro b1 h
 refine kI hT hC (kn b1) ?_
 refine kE hC (kn b1) [] Try.call53 h (fun _ => Xai) fun q3 h => ?_
 refine kI hT hC (kn b1) ?_
 refine kP hC false (kn b1) ?_
 exact Vc.nil kM
 iterate 3 refine kF hC (kn b1) ?_
 refine kP hC true (kn b1) ?_
 exact Vc.nil kM
 refine kS h ?_ ?_ <;> intro b2 h
 refine kt b2 (Xad ?_)
 refine kO hT hC ?_
 exact Vc.nil (Xaj (Xbk kR))
 refine kf b2 (Xag (Xaf (Xad ?_)))
 iterate 9 refine kO hT hC ?_
 refine Vc.nil ?_
 refine Xhr hm ?_
 refine kO hT hC ?_
 refine kQ hT hC h fun h => ?_
 refine kO hT hC ?_
 refine kC hC [] Try.call168 h (fun _ => Xpd) fun q4 h => ?_
 iterate 2 refine kQ hT hC h fun h => ?_
 obtain ⟨hq, h⟩ := Xat h
 refine Yng hT hC rfl rfl rfl rfl rfl rfl hq ?_
 refine kO hT hC ?_
 iterate 2 refine kQ hT hC h fun h => ?_
 refine kO hT hC ?_
 exact kD (Xaj kR)
def Xrk (r : Int) : AV := .sv (.int .i64 r)
def Xrj (r : Int) : Xbd := []
theorem Xs9 {p0 p1 p2 r} (h : Xga p0 p1 p2 = some r) : AC Try.prog 109 [.sv (.int .i64 p0), .sv (.int .i64 p1), .sv (.int .i64 p2)] [] (Xrk r) (Xrj r) := by
 refine Xae hT Try.func109 rfl fun C hC => ?_
 unfold Xga at h
 refine Xad ?_
 refine kO hT hC ?_
 refine Vc.nil (Xaw (Xad ?_))
 refine kO hT hC ?_
 refine kC hC [] Try.call53 h (fun _ => Xai) fun q1 h => ?_
 refine kO hT hC ?_
 refine Vc.nil ?_
 refine kS h ?_ ?_ <;> intro b1 h
 refine kt b1 (Xad ?_)
 refine kO hT hC ?_
 exact Vc.nil (Xaj (Xbk kR))
 refine kf b1 (Xag (Xaf (Xad ?_)))
 iterate 3 refine kO hT hC ?_
 refine kC hC [] Try.call143 h (fun _ => Xw3) fun q2 h => ?_
 iterate 2 refine kO hT hC ?_
 exact Vc.nil (Xaj kR)
def Xp5 (r : (Int × Int × Int × Int)) : AV := .agg [.sv (.int .i64 r.1), .sv (.int .i64 r.2.1), .sv (.int .i64 r.2.2.1), .sv (.int .i64 r.2.2.2)]
def Xp4 (r : (Int × Int × Int × Int)) : Xbd := []
theorem Xlh {p0 p1 p2 p3 r} (h : Xcx p0 p1 p2 p3 = some r) : AC Try.prog 144 [.sv (.int .i64 p0), .sv (.int .i64 p1), .sv (.int .i64 p2), .sv (.int .i64 p3)] [] (Xp5 r) (Xp4 r) := by
 refine Xae hT Try.func144 rfl fun C hC => ?_
 unfold Xcx at h
 refine Xad ?_
 refine kO hT hC ?_
 refine kN ?_
 iterate 7 refine kO hT hC ?_
 refine kC hC [] Try.call145 h (fun _ => Xm3) fun q1 h => ?_
 iterate 4 refine kO hT hC ?_
 refine kC hC [] Try.call145 h (fun _ => Xm3) fun q2 h => ?_
 iterate 5 refine kO hT hC ?_
 refine kN ?_
 iterate 14 refine kO hT hC ?_
 exact Vc.nil (Xaj kR)
def Xiq (r : (List Int)) : AV := .own 16
def Xip (r : (List Int)) : Xbd := [(16, .ints .i64 r)]
theorem Xjp {p0 r} (h : Xbt p0 = some r) : AC Try.prog 139 [.sv (.ints .i64 p0), .fn 144 []] [] (Xiq r) (Xip r) := by
 refine Xae hT Try.func139 rfl fun C hC => ?_
 unfold Xbt at h
 refine Xad ?_
 refine kO hT hC ?_
 refine kN ?_
 refine kO hT hC ?_
 refine kC hC [(16, 208)] Try.call167 h (fun _ => Xnr) fun q1 h => ?_
 refine kO hT hC ?_
 refine Vc.nil (Xaw (Xad ?_))
 refine kO hT hC ?_
 refine Vc.nil ?_
 refine kL [1,5,6] [208] [_,_,_] [_] ?_
 refine kX h (fun v4 => ([(6, .sv (.int .i64 v4.1))], [(208, some (.ints .i64 v4.2))])) (fun v7 => ([(6, .any)], [(208, some (.ints .i64 v7))])) (kW hC []) (fun v4 s h => ?_) fun v7 h => ?_
 unfold Xd9 at h
 refine Xaw (Xad ?_)
 iterate 2 refine kO hT hC ?_
 refine Vc.nil ?_
 refine kS h ?_ ?_ <;> intro b3 h
 refine kt b3 (Xag (Xaf (Xaw (Xap ?_))))
 refine Xhr hm ?_
 iterate 3 refine kO hT hC ?_
 iterate 2 refine kQ hT hC h fun h => ?_
 iterate 3 refine kO hT hC ?_
 iterate 2 refine kQ hT hC h fun h => ?_
 iterate 3 refine kO hT hC ?_
 iterate 2 refine kQ hT hC h fun h => ?_
 iterate 3 refine kO hT hC ?_
 iterate 2 refine kQ hT hC h fun h => ?_
 refine kC hC [] Try.call144 h (fun _ => Xlh) fun q8 h => ?_
 iterate 2 refine kO hT hC ?_
 refine kD ?_
 refine Xj0 hm ?_
 iterate 4 refine kO hT hC ?_
 refine kQ hT hC h fun h => ?_
 refine Ynd hT hC rfl rfl rfl rfl rfl rfl rfl rfl rfl ?_
 obtain ⟨hq, h⟩ := Xat h
 refine Yld hT hC rfl rfl rfl rfl rfl rfl rfl rfl rfl ⟨⟨trivial, hq.1⟩, hq.2⟩ ?_
 refine kD (Xas (Xaf (Xac ?_)))
 iterate 3 refine kO hT hC ?_
 exact Vc.nil kG
 exact kf b3 (Xar (Xa1 ku))
 refine Xaf (Xaw (Xad ?_))
 refine kO hT hC ?_
 refine Vc.nil ?_
 refine kL [1,5,46] [208] [_,_,_] [_] ?_
 refine kX h (fun v17 => ([(46, .sv (.int .i64 v17.1))], [(208, some (.ints .i64 v17.2))])) (fun v25 => ([(1, .any), (46, .any)], [(208, some (.ints .i64 v25))])) (kW hC []) (fun v17 s h => ?_) fun v25 h => ?_
 unfold Xd2 at h
 refine Xad ?_
 refine kO hT hC ?_
 refine Vc.nil (Xaw ?_)
 refine kS h ?_ ?_ <;> intro b12 h
 refine kt b12 (Xag (Xaf (Xaw (Xap (Xad ?_)))))
 iterate 2 refine kO hT hC ?_
 refine Vc.nil ?_
 refine Xhr hm ?_
 iterate 3 refine kO hT hC ?_
 iterate 2 refine kQ hT hC h fun h => ?_
 iterate 3 refine kO hT hC ?_
 iterate 2 refine kQ hT hC h fun h => ?_
 iterate 3 refine kO hT hC ?_
 iterate 2 refine kQ hT hC h fun h => ?_
 iterate 3 refine kO hT hC ?_
 iterate 2 refine kQ hT hC h fun h => ?_
 refine kC hC [] Try.call144 h (fun _ => Xlh) fun q26 h => ?_
 iterate 2 refine kO hT hC ?_
 refine kD (Xad ?_)
 iterate 2 refine kO hT hC ?_
 refine Vc.nil ?_
 refine kL [1,5,8,46,70,71] [208] [_,_,_,_,_,_] [_] ?_
 refine kX h (fun v28 => ([(71, .sv (.int .i64 v28.1))], [(208, some (.ints .i64 v28.2))])) (fun v30 => ([(8, .any), (70, .any), (71, .any)], [(208, some (.ints .i64 v30))])) (kW hC []) (fun v28 s h => ?_) fun v30 h => ?_
 unfold Xd3 at h
 refine Xad ?_
 refine kO hT hC ?_
 refine Vc.nil (Xaw ?_)
 refine kS h ?_ ?_ <;> intro b15 h
 refine kt b15 (Xag (Xaf (Xaw (Xap (Xad ?_)))))
 refine kO hT hC ?_
 obtain ⟨hq, h⟩ := Xat h
 refine Yne hT hC rfl rfl rfl rfl rfl rfl rfl hq ?_
 iterate 2 refine kO hT hC ?_
 refine Vc.nil (Xac ?_)
 iterate 6 refine kO hT hC ?_
 iterate 2 refine kQ hT hC h fun h => ?_
 refine Vc.nil (Xas (Xaf (Xac ?_)))
 iterate 2 refine kO hT hC ?_
 exact Vc.nil kG
 exact kf b15 (Xar (Xa1 ku))
 refine Xas (Xaf (Xac ?_))
 iterate 2 refine kO hT hC ?_
 exact Vc.nil kG
 exact kf b12 (Xar (Xa1 ku))
 refine Xaf (Xad ?_)
 iterate 2 refine kO hT hC ?_
 refine Vc.nil (Xaj ?_)
 obtain rfl := kj h
 exact Xfn (τ := ⟨[(4, .own 16)], [(16, some (.ints .i64 v25))]⟩) (kW hC [(16, 208)]) rfl ⟨rfl, trivial⟩
def Xs2 (r : (List Int)) : AV := .own 16
def Xs1 (r : (List Int)) : Xbd := [(16, .ints .i64 r)]
theorem Xus {p0 r} (h : Xhe p0 = some r) : AC Try.prog 110 [.sv (.ints .i64 p0)] [] (Xs2 r) (Xs1 r) := by
 refine Xae hT Try.func110 rfl fun C hC => ?_
 unfold Xhe at h
 refine Xad ?_
 refine kO hT hC ?_
 refine Vc.nil (Xaw (Xad ?_))
 refine kO hT hC ?_
 refine kC hC [] Try.call52 h (fun _ => Xbh) fun q1 h => ?_
 refine kO hT hC ?_
 refine Vc.nil ?_
 refine kS h ?_ ?_ <;> intro b1 h
 refine kt b1 (Xad ?_)
 iterate 2 refine kO hT hC ?_
 refine Vc.nil (Xaj (Xbk ?_))
 obtain rfl := kj h
 exact Xfn (τ := ⟨[(2, .own 16)], [(16, some (.ints .i64 ([] : List Int)))]⟩) (kW hC [(16, 96)]) rfl ⟨rfl, trivial⟩
 refine kf b1 (Xag (Xaf (Xad ?_)))
 refine kO hT hC ?_
 refine kC hC [(16, 128)] Try.call139 h (fun _ => Xjp) fun q2 h => ?_
 refine kC hC [(0, 128)] Try.call142 h (fun _ => Xod) fun q3 h => ?_
 refine kO hT hC ?_
 refine Vc.nil (Xaj ?_)
 obtain rfl := kj h
 exact Xfn (τ := ⟨[(2, .own 16)], [(16, some (.ints .i64 q3.2))]⟩) (kW hC [(16, 128)]) rfl ⟨rfl, trivial⟩
def Xp9 (r : ((List Int) × Bool)) : AV := .tup [.own 16, .sv (.bool r.2)]
def Xp8 (r : ((List Int) × Bool)) : Xbd := [(16, .ints .i64 r.1)]
theorem Xre {p0 p1 r} (h : Xe2 p0 p1 = some r) : AC Try.prog 63 [.sv (.ints .i64 p0), .agg [.sv (.bool p1.Key), .sv (.int .i64 p1.Qp), .sv (.bool p1.Large), .sv (.bool p1.Exact)]] [] (Xp9 r) (Xp8 r) := by
 refine Xae hT Try.func63 rfl fun C hC => ?_
 unfold Xe2 at h
 refine Xad ?_
 iterate 3 refine kO hT hC ?_
 refine Vc.nil (Xaw ?_)
 refine kL [0,3] [48] [_,_] [_] ?_
 refine kA h (fun v1 => ([(26, .sv (.bool v1))], [])) (fun v1 h => ?_) fun v1 h => ?_
 refine Xac ?_
 refine kO hT hC ?_
 refine kC hC [] Try.call65 h (fun _ => Xim) fun q2 h => ?_
 iterate 2 refine kO hT hC ?_
 refine kS h ?_ ?_ <;> intro b1 h
 refine kI hT hC (kn b1) ?_
 refine kE hC (kn b1) [] Try.call27 h (fun _ => Xeq) fun q3 h => ?_
 refine kI hT hC (kn b1) ?_
 refine kP hC false (kn b1) ?_
 exact Vc.nil kM
 iterate 3 refine kF hC (kn b1) ?_
 refine kP hC true (kn b1) ?_
 exact Vc.nil kM
 refine kS h ?_ ?_ <;> intro b2 h
 refine kt b2 (Xad ?_)
 iterate 3 refine kO hT hC ?_
 refine Vc.nil (Xaj (Xbk ?_))
 obtain rfl := kj h
 exact Xfn (τ := ⟨[(4, .own 16), (5, .sv (.bool false))], [(16, some (.ints .i64 ([] : List Int)))]⟩) (kW hC [(16, 432)]) rfl ⟨rfl, trivial⟩
 refine kf b2 (Xag (Xaf (Xaw (Xad ?_))))
 iterate 2 refine kO hT hC ?_
 refine Vc.nil ?_
 refine kS h ?_ ?_ <;> intro b3 h
 refine kt b3 (Xad ?_)
 refine kO hT hC ?_
 refine kC hC [(16, 496)] Try.call106 h (fun _ => Xil) fun q4 h => ?_
 iterate 4 refine kO hT hC ?_
 refine Vc.nil (Xaj (Xbk ?_))
 obtain rfl := kj h
 exact Xfn (τ := ⟨[(4, .own 16), (5, .sv (.bool q4.2))], [(16, some (.ints .i64 q4.1))]⟩) (kW hC [(16, 496)]) rfl ⟨rfl, trivial⟩
 refine kf b3 (Xag (Xaf (Xaw (Xad ?_))))
 iterate 2 refine kO hT hC ?_
 refine Vc.nil ?_
 refine kS h ?_ ?_ <;> intro b4 h
 refine kt b4 (Xad ?_)
 refine kO hT hC ?_
 refine kC hC [(16, 608)] Try.call106 h (fun _ => Xil) fun q5 h => ?_
 iterate 5 refine kO hT hC ?_
 refine Vc.nil (Xaw (Xad ?_))
 iterate 3 refine kO hT hC ?_
 refine Vc.nil ?_
 refine kL [3,6,41,42,43] [48,608] [_,_,_,_,_] [_,_] ?_
 refine kX h (fun v8 => ([(43, .sv (.int .i64 v8.1))], [(608, some (.ints .i64 v8.2))])) (fun v11 => ([(3, .any), (41, .any), (42, .any), (43, .any)], [(608, some (.ints .i64 v11)), (48, none)])) (kW hC []) (fun v8 s h => ?_) fun v11 h => ?_
 unfold Xdf at h
 refine Xad ?_
 refine kO hT hC ?_
 refine Vc.nil (Xaw ?_)
 refine kS h ?_ ?_ <;> intro b7 h
 refine kt b7 (Xag (Xaf (Xaw (Xap (Xad ?_)))))
 refine kO hT hC ?_
 iterate 2 refine kQ hT hC h fun h => ?_
 iterate 2 refine kO hT hC ?_
 refine Vc.nil (Xac ?_)
 iterate 5 refine kO hT hC ?_
 refine kC hC [] Try.call107 h (fun _ => Xs3) fun q12 h => ?_
 iterate 2 refine kQ hT hC h fun h => ?_
 refine Vc.nil (Xas (Xaf (Xac ?_)))
 iterate 2 refine kO hT hC ?_
 exact Vc.nil kG
 exact kf b7 (Xar (Xa1 ku))
 refine Xaf (Xad ?_)
 refine kO hT hC ?_
 refine kC hC [(16, 912)] Try.call108 h (fun _ => Xs0) fun q14 h => ?_
 iterate 2 refine kO hT hC ?_
 refine Vc.nil (Xaj (Xbk ?_))
 obtain rfl := kj h
 exact Xfn (τ := ⟨[(4, .own 16), (5, .sv (.bool true))], [(16, some (.ints .i64 q14))]⟩) (kW hC [(16, 912)]) rfl ⟨rfl, trivial⟩
 refine kf b4 (Xag (Xaf (Xad ?_)))
 obtain ⟨hq, h⟩ := Xat h
 refine Yjf hT hC rfl rfl rfl rfl ⟨hq.1, hq.2.1, hq.2.2, by decide⟩ ?_
 refine kO hT hC ?_
 refine Vc.nil (Xaw (Xad ?_))
 refine kO hT hC ?_
 refine Vc.nil ?_
 refine kL [0,3,10,59] [48,928] [_,_,_,_] [_,_] ?_
 refine kX h (fun v32 => ([(59, .sv (.int .i64 v32.1))], [(928, some (.ints .i64 v32.2))])) (fun v50 => ([(0, .any), (3, .any), (59, .any)], [(928, some (.ints .i64 v50)), (48, none)])) (kW hC []) (fun v32 s h => ?_) fun v50 h => ?_
 unfold Xgt at h
 refine Xad ?_
 refine kO hT hC ?_
 refine Vc.nil (Xaw ?_)
 refine kS h ?_ ?_ <;> intro b22 h
 refine kt b22 (Xag (Xaf (Xaw (Xap (Xad ?_)))))
 iterate 2 refine kO hT hC ?_
 refine kN ?_
 iterate 6 refine kO hT hC ?_
 refine kQ hT hC h fun h => ?_
 refine kC hC [(16, 1120)] Try.call106 h (fun _ => Xil) fun q51 h => ?_
 iterate 5 refine kO hT hC ?_
 refine Vc.nil (Xaw (Xad ?_))
 iterate 3 refine kO hT hC ?_
 refine Vc.nil ?_
 refine kL [0,3,10,11,12,59,73,74,75] [48,928,1120] [_,_,_,_,_,_,_,_,_] [_,_,_] ?_
 refine kX h (fun v54 => ([(75, .sv (.int .i64 v54.1))], [(1120, some (.ints .i64 v54.2))])) (fun v57 => ([(73, .any), (74, .any), (75, .any)], [(1120, some (.ints .i64 v57))])) (kW hC []) (fun v54 s h => ?_) fun v57 h => ?_
 unfold Xcy at h
 refine Xad ?_
 refine kO hT hC ?_
 refine Vc.nil (Xaw ?_)
 refine kS h ?_ ?_ <;> intro b25 h
 refine kt b25 (Xag (Xaf (Xaw (Xap (Xad ?_)))))
 refine kO hT hC ?_
 iterate 2 refine kQ hT hC h fun h => ?_
 iterate 2 refine kO hT hC ?_
 refine Vc.nil (Xac ?_)
 iterate 6 refine kO hT hC ?_
 refine kC hC [] Try.call109 h (fun _ => Xs9) fun q58 h => ?_
 iterate 2 refine kQ hT hC h fun h => ?_
 refine Vc.nil (Xas (Xaf (Xac ?_)))
 iterate 2 refine kO hT hC ?_
 exact Vc.nil kG
 exact kf b25 (Xar (Xa1 ku))
 refine Xaf (Xad ?_)
 refine kO hT hC ?_
 refine kC hC [(16, 1440)] Try.call110 h (fun _ => Xus) fun q60 h => ?_
 refine kO hT hC ?_
 refine kN ?_
 refine kO hT hC ?_
 refine kC hC [(16, 1472)] Try.call98 h (fun _ => Xoc) fun q61 h => ?_
 iterate 2 refine kO hT hC ?_
 refine Vc.nil ?_
 refine kL [0,3,10,16,59,92,93,94] [48,928,1440,1472] [_,_,_,_,_,_,_,_] [_,_,_,_] ?_
 refine kX h (fun v63 => ([(94, .sv (.int .i64 v63.1))], [(928, some (.ints .i64 v63.2))])) (fun v65 => ([(16, .any), (92, .any), (93, .any), (94, .any)], [(928, some (.ints .i64 v65)), (1440, none), (1472, none)])) (kW hC []) (fun v63 s h => ?_) fun v65 h => ?_
 unfold Xef at h
 refine Xad ?_
 refine kO hT hC ?_
 refine Vc.nil (Xaw ?_)
 refine kS h ?_ ?_ <;> intro b28 h
 refine kt b28 (Xag (Xaf (Xaw (Xap (Xad ?_)))))
 refine kO hT hC ?_
 iterate 2 refine kQ hT hC h fun h => ?_
 iterate 2 refine kO hT hC ?_
 refine Vc.nil (Xac ?_)
 iterate 4 refine kO hT hC ?_
 iterate 4 refine kQ hT hC h fun h => ?_
 refine Vc.nil (Xas (Xaf (Xac ?_)))
 iterate 2 refine kO hT hC ?_
 exact Vc.nil kG
 exact kf b28 (Xar (Xa1 ku))
 refine Xas (Xaf (Xac ?_))
 iterate 2 refine kO hT hC ?_
 exact Vc.nil kG
 exact kf b22 (Xar (Xa1 ku))
 refine Xaf (Xad ?_)
 iterate 3 refine kO hT hC ?_
 refine Vc.nil (Xaj ?_)
 obtain rfl := kj h
 exact Xfn (τ := ⟨[(4, .own 16), (5, .sv (.bool true))], [(16, some (.ints .i64 v50))]⟩) (kW hC [(16, 928)]) rfl ⟨rfl, trivial⟩
def Xw0 (r : (List Int)) : AV := .own 16
def Xwz (r : (List Int)) : Xbd := [(16, .ints .i64 r)]
theorem Xpc {p0 p1 r} (h : Xif p0 p1 = some r) : AC Try.prog 64 [.sv (.ints .i64 p0), .sv (.ints .i64 p1)] [] (Xw0 r) (Xwz r) := by
 refine Xae hT Try.func64 rfl fun C hC => ?_
 unfold Xif at h
 refine Xad ?_
 refine kO hT hC ?_
 refine kN ?_
 iterate 2 refine kO hT hC ?_
 refine Vc.nil (Xaw ?_)
 refine kL [0,1,5] [128] [_,_,_] [_] ?_
 refine kA h (fun v1 => ([(16, .sv (.bool v1))], [])) (fun v1 h => ?_) fun v1 h => ?_
 refine Xac ?_
 refine kO hT hC ?_
 refine kC hC [] Try.call52 h (fun _ => Xbh) fun q2 h => ?_
 iterate 2 refine kO hT hC ?_
 refine kS h ?_ ?_ <;> intro b1 h
 refine kI hT hC (kn b1) ?_
 refine kE hC (kn b1) [] Try.call52 h (fun _ => Xbh) fun q3 h => ?_
 refine kI hT hC (kn b1) ?_
 refine kP hC false (kn b1) ?_
 exact Vc.nil kM
 iterate 3 refine kF hC (kn b1) ?_
 refine kP hC true (kn b1) ?_
 exact Vc.nil kM
 refine kS h ?_ ?_ <;> intro b2 h
 refine kt b2 (Xad ?_)
 iterate 2 refine kO hT hC ?_
 refine Vc.nil (Xaj (Xbk ?_))
 obtain rfl := kj h
 exact Xfn (τ := ⟨[(4, .own 16)], [(16, some (.ints .i64 ([] : List Int)))]⟩) (kW hC [(16, 128)]) rfl ⟨rfl, trivial⟩
 refine kf b2 (Xag (Xaf (Xaw (Xad ?_))))
 iterate 3 refine kO hT hC ?_
 refine Vc.nil ?_
 refine kL [1,5,18,19,20] [128] [_,_,_,_,_] [_] ?_
 refine kX h (fun v6 => ([(20, .sv (.int .i64 v6.1))], [(128, some (.ints .i64 v6.2))])) (fun v9 => ([(1, .any), (18, .any), (19, .any), (20, .any)], [(128, some (.ints .i64 v9))])) (kW hC []) (fun v6 s h => ?_) fun v9 h => ?_
 unfold Xi4 at h
 refine Xad ?_
 refine kO hT hC ?_
 refine Vc.nil (Xaw ?_)
 refine kS h ?_ ?_ <;> intro b5 h
 refine kt b5 (Xag (Xaf (Xaw (Xap (Xad ?_)))))
 refine kO hT hC ?_
 refine kQ hT hC h fun h => ?_
 iterate 3 refine kO hT hC ?_
 refine Vc.nil (Xac ?_)
 iterate 4 refine kO hT hC ?_
 refine kQ hT hC h fun h => ?_
 iterate 2 refine kO hT hC ?_
 refine kC hC [] Try.call103 h (fun _ => Xhb) fun q10 h => ?_
 refine kO hT hC ?_
 refine kT hT hC h fun h => ?_
 refine kO hT hC ?_
 refine Vc.nil (Xas (Xaf (Xac ?_)))
 iterate 2 refine kO hT hC ?_
 refine Vc.nil ?_
 obtain rfl := kj h
 exact Ye0 (kW hC [(128, 544)])
 exact kf b5 (Xar (Xa1 ku))
 refine Xaf (Xad ?_)
 iterate 2 refine kO hT hC ?_
 refine Vc.nil (Xaj ?_)
 obtain rfl := kj h
 exact Xfn (τ := ⟨[(4, .own 16)], [(16, some (.ints .i64 v9))]⟩) (kW hC [(16, 128)]) rfl ⟨rfl, trivial⟩
def Xqd (r : ((List Int) × Bool)) : AV := .tup [.own 16, .sv (.bool r.2)]
def Xqc (r : ((List Int) × Bool)) : Xbd := [(16, .ints .i64 r.1)]
theorem Xrm {p0 p1 p2 p3 p4 p5 p6 p7 r} (h : Xcz p0 p1 p2 p3 p4 p5 p6 p7 = some r) : AC Try.prog 14 [.agg [.sv (.int .i64 p0.Wide), .sv (.int .i64 p0.High), .sv (.str p0.Dots)], .agg [.sv (.int .i64 p1.Wide), .sv (.int .i64 p1.High), .sv (.str p1.Dots)], .sv (.int .i64 p2), .sv (.int .i64 p3), .agg [.sv (.bool p4.Key), .sv (.int .i64 p4.Qp), .sv (.bool p4.Large), .sv (.bool p4.Exact)], .sv (.int .i64 p5), .sv (.int .i64 p6), .agg [.sv (.int .i64 p7.Kind), .sv (.int .i64 p7.Mode), .sv (.int .i64 p7.Dx), .sv (.int .i64 p7.Dy), .sv (.ints .i64 p7.Levels)]] [] (Xqd r) (Xqc r) := by
 refine Xae hT Try.func14 rfl fun C hC => ?_
 unfold Xcz at h
 refine Xad ?_
 iterate 6 refine kO hT hC ?_
 refine Vc.nil (Xaw ?_)
 refine kL [2,3,5,6,8,9,12,15] [128,144,192,240] [_,_,_,_,_,_,_,_] [_,_,_,_] ?_
 refine kA h (fun v1 => ([(67, .sv (.bool v1))], [])) (fun v1 h => ?_) fun v1 h => ?_
 refine Xac ?_
 refine kO hT hC ?_
 refine kC hC [] Try.call50 h (fun _ => Xdg) fun q2 h => ?_
 iterate 2 refine kO hT hC ?_
 refine kS h ?_ ?_ <;> intro b1 h
 iterate 3 refine kI hT hC (kn b1) ?_
 refine kE hC (kn b1) [] Try.call51 h (fun _ => Xdw) fun q3 h => ?_
 refine kI hT hC (kn b1) ?_
 refine kP hC false (kn b1) ?_
 refine kO hT hC ?_
 refine kS h ?_ ?_ <;> intro b2 h
 refine kI hT hC (kn b2) ?_
 refine kE hC (kn b2) [] Try.call53 h (fun _ => Xai) fun q4 h => ?_
 refine kI hT hC (kn b2) ?_
 refine kP hC false (kn b2) ?_
 refine kO hT hC ?_
 refine kS h ?_ ?_ <;> intro b3 h
 refine kI hT hC (kn b3) ?_
 refine kE hC (kn b3) [] Try.call53 h (fun _ => Xai) fun q5 h => ?_
 refine kI hT hC (kn b3) ?_
 refine kP hC false (kn b3) ?_
 refine kO hT hC ?_
 refine kS h ?_ ?_ <;> intro b4 h
 refine kI hT hC (kn b4) ?_
 refine kE hC (kn b4) [] Try.call15 h (fun _ => Xnn) fun q6 h => ?_
 refine kI hT hC (kn b4) ?_
 refine kP hC false (kn b4) ?_
 refine kO hT hC ?_
 refine kS h ?_ ?_ <;> intro b5 h
 refine kI hT hC (kn b5) ?_
 refine kE hC (kn b5) [] Try.call27 h (fun _ => Xeq) fun q7 h => ?_
 refine kI hT hC (kn b5) ?_
 refine kP hC false (kn b5) ?_
 refine kO hT hC ?_
 refine kS h ?_ ?_ <;> intro b6 h
 iterate 2 refine kI hT hC (kn b6) ?_
 refine kE hC (kn b6) [] Try.call62 h (fun _ => Xli) fun q8 h => ?_
 refine kI hT hC (kn b6) ?_
 refine kP hC false (kn b6) ?_
 refine kO hT hC ?_
 refine kS h ?_ ?_ <;> intro b7 h
 iterate 4 refine kI hT hC (kn b7) ?_
 refine kS h ?_ ?_ <;> intro b8 h
 refine kI hT hC b8 ?_
 refine kE hC b8 [] Try.call50 h (fun _ => Xdg) fun q9 h => ?_
 refine kI hT hC b8 ?_
 refine Xdl hC rfl rfl rfl rfl (kn b7) rfl rfl (b := true) b8 rfl rfl rfl trivial ?_
 refine kP hC false (kn b7) ?_
 exact Vc.nil kM
 iterate 3 refine kF hC b8 ?_
 refine Xdl hC rfl rfl rfl rfl (kn b7) rfl rfl (b := false) b8 rfl rfl rfl trivial ?_
 refine kP hC false (kn b7) ?_
 exact Vc.nil kM
 iterate 4 refine kF hC (kn b7) ?_
 iterate 3 refine Xn1 hC rfl rfl rfl rfl rfl rfl ?_
 refine kF hC (kn b7) ?_
 refine kP hC true (kn b7) ?_
 exact Vc.nil kM
 iterate 4 refine kF hC (kn b6) ?_
 refine kP hC true (kn b6) ?_
 refine kO hT hC ?_
 iterate 4 refine kF hC rfl ?_
 iterate 3 refine Xn1 hC rfl rfl rfl rfl rfl rfl ?_
 refine kF hC rfl ?_
 refine kO hT hC ?_
 exact Vc.nil kM
 iterate 3 refine kF hC (kn b5) ?_
 refine kP hC true (kn b5) ?_
 refine kO hT hC ?_
 iterate 4 refine kF hC rfl ?_
 iterate 2 refine kO hT hC ?_
 iterate 4 refine kF hC rfl ?_
 iterate 3 refine Xn1 hC rfl rfl rfl rfl rfl rfl ?_
 refine kF hC rfl ?_
 refine kO hT hC ?_
 exact Vc.nil kM
 iterate 3 refine kF hC (kn b4) ?_
 refine kP hC true (kn b4) ?_
 refine kO hT hC ?_
 iterate 3 refine kF hC rfl ?_
 iterate 2 refine kO hT hC ?_
 iterate 4 refine kF hC rfl ?_
 iterate 2 refine kO hT hC ?_
 iterate 4 refine kF hC rfl ?_
 iterate 3 refine Xn1 hC rfl rfl rfl rfl rfl rfl ?_
 refine kF hC rfl ?_
 refine kO hT hC ?_
 exact Vc.nil kM
 iterate 3 refine kF hC (kn b3) ?_
 refine kP hC true (kn b3) ?_
 refine kO hT hC ?_
 iterate 3 refine kF hC rfl ?_
 iterate 2 refine kO hT hC ?_
 iterate 3 refine kF hC rfl ?_
 iterate 2 refine kO hT hC ?_
 iterate 4 refine kF hC rfl ?_
 iterate 2 refine kO hT hC ?_
 iterate 4 refine kF hC rfl ?_
 iterate 3 refine Xn1 hC rfl rfl rfl rfl rfl rfl ?_
 refine kF hC rfl ?_
 refine kO hT hC ?_
 exact Vc.nil kM
 iterate 3 refine kF hC (kn b2) ?_
 refine kP hC true (kn b2) ?_
 refine kO hT hC ?_
 iterate 3 refine kF hC rfl ?_
 iterate 2 refine kO hT hC ?_
 iterate 3 refine kF hC rfl ?_
 iterate 2 refine kO hT hC ?_
 iterate 3 refine kF hC rfl ?_
 iterate 2 refine kO hT hC ?_
 iterate 4 refine kF hC rfl ?_
 iterate 2 refine kO hT hC ?_
 iterate 4 refine kF hC rfl ?_
 iterate 3 refine Xn1 hC rfl rfl rfl rfl rfl rfl ?_
 refine kF hC rfl ?_
 refine kO hT hC ?_
 exact Vc.nil kM
 iterate 5 refine kF hC (kn b1) ?_
 refine kP hC true (kn b1) ?_
 refine kO hT hC ?_
 iterate 3 refine kF hC rfl ?_
 iterate 2 refine kO hT hC ?_
 iterate 3 refine kF hC rfl ?_
 iterate 2 refine kO hT hC ?_
 iterate 3 refine kF hC rfl ?_
 iterate 2 refine kO hT hC ?_
 iterate 3 refine kF hC rfl ?_
 iterate 2 refine kO hT hC ?_
 iterate 4 refine kF hC rfl ?_
 iterate 2 refine kO hT hC ?_
 iterate 4 refine kF hC rfl ?_
 iterate 3 refine Xn1 hC rfl rfl rfl rfl rfl rfl ?_
 refine kF hC rfl ?_
 refine kO hT hC ?_
 exact Vc.nil kM
 refine kS h ?_ ?_ <;> intro b9 h
 refine kt b9 (Xad ?_)
 iterate 3 refine kO hT hC ?_
 refine Vc.nil (Xaj (Xbk ?_))
 obtain rfl := kj h
 exact Xfn (τ := ⟨[(16, .own 16), (17, .sv (.bool false))], [(16, some (.ints .i64 ([] : List Int)))]⟩) (kW hC [(16, 1088)]) rfl ⟨rfl, trivial⟩
 refine kf b9 (Xag (Xaf (Xaw (Xad ?_))))
 iterate 3 refine kO hT hC ?_
 refine Vc.nil ?_
 refine kS h ?_ ?_ <;> intro b10 h
 refine kt b10 (Xad ?_)
 iterate 7 refine kO hT hC ?_
 refine kC hC [(16, 1264)] Try.call60 h (fun _ => Xcu) fun q10 h => ?_
 iterate 2 refine kO hT hC ?_
 refine Vc.nil (Xaj (Xbk ?_))
 obtain rfl := kj h
 exact Xfn (τ := ⟨[(16, .own 16), (17, .sv (.bool true))], [(16, some (.ints .i64 q10))]⟩) (kW hC [(16, 1264)]) rfl ⟨rfl, trivial⟩
 refine kf b10 (Xag (Xaf (Xad ?_)))
 iterate 3 refine kO hT hC ?_
 refine kC hC [(16, 1344)] Try.call63 h (fun _ => Xre) fun q11 h => ?_
 iterate 5 refine kO hT hC ?_
 refine Vc.nil (Xaw (Xad ?_))
 iterate 3 refine kO hT hC ?_
 refine Vc.nil ?_
 refine kS h ?_ ?_ <;> intro b11 h
 refine kt b11 (Xad ?_)
 iterate 13 refine kO hT hC ?_
 refine kC hC [(16, 1648)] Try.call60 h (fun _ => Xcu) fun q12 h => ?_
 refine kO hT hC ?_
 refine kC hC [(16, 1680)] Try.call64 h (fun _ => Xpc) fun q13 h => ?_
 iterate 2 refine kO hT hC ?_
 refine Vc.nil (Xaj (Xbk ?_))
 obtain rfl := kj h
 exact Xfn (τ := ⟨[(16, .own 16), (17, .sv (.bool true))], [(16, some (.ints .i64 q13))]⟩) (kW hC [(16, 1680)]) rfl ⟨rfl, trivial⟩
 refine kf b11 (Xag (Xaf (Xad ?_)))
 iterate 3 refine kO hT hC ?_
 refine kC hC [(16, 1760), (17, 1761)] Try.call54 h (fun _ => Xn6) fun q14 h => ?_
 iterate 6 refine kO hT hC ?_
 refine kN ?_
 iterate 3 refine kO hT hC ?_
 refine kC hC [(16, 1856)] Try.call58 h (fun _ => Xkp) fun q15 h => ?_
 refine kO hT hC ?_
 refine kC hC [(16, 1888)] Try.call64 h (fun _ => Xpc) fun q16 h => ?_
 iterate 2 refine kO hT hC ?_
 refine Vc.nil (Xaj ?_)
 obtain rfl := kj h
 exact Xfn (τ := ⟨[(16, .own 16), (17, .sv (.bool true))], [(16, some (.ints .i64 q16))]⟩) (kW hC [(16, 1888)]) rfl ⟨rfl, trivial⟩
def Xro (r : (Xan × (List Int) × Bool)) : AV := .tup [.agg [.sv (.int .i64 r.1.Kind), .sv (.int .i64 r.1.Mode), .sv (.int .i64 r.1.Dx), .sv (.int .i64 r.1.Dy), .own 16], .own 17, .sv (.bool r.2.2)]
def Xrn (r : (Xan × (List Int) × Bool)) : Xbd := [(16, .ints .i64 r.1.Levels), (17, .ints .i64 r.2.1)]
theorem Xta {p0 p1 p2 p3 p4 p5 p6 r} (h : Xdo p0 p1 p2 p3 p4 p5 p6 = some r) : AC Try.prog 13 [.agg [.sv (.int .i64 p0.Wide), .sv (.int .i64 p0.High), .sv (.str p0.Dots)], .agg [.sv (.int .i64 p1.Wide), .sv (.int .i64 p1.High), .sv (.str p1.Dots)], .sv (.ints .i64 p2), .sv (.int .i64 p3), .sv (.int .i64 p4), .agg [.sv (.bool p5.Key), .sv (.int .i64 p5.Qp), .sv (.bool p5.Large), .sv (.bool p5.Exact)], .sv (.int .i64 p6)] [] (Xro r) (Xrn r) := by
 refine Xae hT Try.func13 rfl fun C hC => ?_
 unfold Xdo at h
 refine Xad ?_
 iterate 6 refine kO hT hC ?_
 refine Vc.nil (Xaw ?_)
 refine kL [2,3,4,6,7,8,12,14] [112,128,192,224] [_,_,_,_,_,_,_,_] [_,_,_,_] ?_
 refine kA h (fun v1 => ([(51, .sv (.bool v1))], [])) (fun v1 h => ?_) fun v1 h => ?_
 refine Xac ?_
 refine kO hT hC ?_
 refine kC hC [] Try.call50 h (fun _ => Xdg) fun q2 h => ?_
 iterate 2 refine kO hT hC ?_
 refine kS h ?_ ?_ <;> intro b1 h
 iterate 3 refine kI hT hC (kn b1) ?_
 refine kE hC (kn b1) [] Try.call51 h (fun _ => Xdw) fun q3 h => ?_
 refine kI hT hC (kn b1) ?_
 refine kP hC false (kn b1) ?_
 refine kO hT hC ?_
 refine kS h ?_ ?_ <;> intro b2 h
 refine kI hT hC (kn b2) ?_
 refine kE hC (kn b2) [] Try.call52 h (fun _ => Xbh) fun q4 h => ?_
 refine kI hT hC (kn b2) ?_
 refine kP hC false (kn b2) ?_
 refine kO hT hC ?_
 refine kS h ?_ ?_ <;> intro b3 h
 refine kI hT hC (kn b3) ?_
 refine kE hC (kn b3) [] Try.call27 h (fun _ => Xeq) fun q5 h => ?_
 refine kI hT hC (kn b3) ?_
 refine kP hC false (kn b3) ?_
 refine kO hT hC ?_
 refine kS h ?_ ?_ <;> intro b4 h
 refine kI hT hC (kn b4) ?_
 refine kE hC (kn b4) [] Try.call53 h (fun _ => Xai) fun q6 h => ?_
 refine kI hT hC (kn b4) ?_
 refine kP hC false (kn b4) ?_
 exact Vc.nil kM
 iterate 3 refine kF hC (kn b4) ?_
 refine kP hC true (kn b4) ?_
 exact Vc.nil kM
 iterate 3 refine kF hC (kn b3) ?_
 refine kP hC true (kn b3) ?_
 refine kO hT hC ?_
 iterate 3 refine kF hC rfl ?_
 refine kO hT hC ?_
 exact Vc.nil kM
 iterate 3 refine kF hC (kn b2) ?_
 refine kP hC true (kn b2) ?_
 refine kO hT hC ?_
 iterate 3 refine kF hC rfl ?_
 iterate 2 refine kO hT hC ?_
 iterate 3 refine kF hC rfl ?_
 refine kO hT hC ?_
 exact Vc.nil kM
 iterate 5 refine kF hC (kn b1) ?_
 refine kP hC true (kn b1) ?_
 refine kO hT hC ?_
 iterate 3 refine kF hC rfl ?_
 iterate 2 refine kO hT hC ?_
 iterate 3 refine kF hC rfl ?_
 iterate 2 refine kO hT hC ?_
 iterate 3 refine kF hC rfl ?_
 refine kO hT hC ?_
 exact Vc.nil kM
 refine kS h ?_ ?_ <;> intro b5 h
 refine kt b5 (Xad ?_)
 iterate 5 refine kO hT hC ?_
 refine Vc.nil (Xaj (Xbk ?_))
 obtain rfl := kj h
 refine Xfn (τ := ⟨[(14, .ptr 2000000 0), (15, .own 17), (16, .sv (.bool false))], [(16, some (.ints .i64 [])), (17, some (.ints .i64 ([] : List Int))), (2000000, some (.box [.sv (.int .i64 0), .sv (.int .i64 0), .sv (.int .i64 0), .sv (.int .i64 0), .own 16]))]⟩) ?_ rfl ⟨rfl, rfl, trivial⟩
 refine Xsp hC 224 4 2817 (.ints .i64 []) rfl rfl rfl rfl rfl trivial ?_
 apply Xlv hC [(16, 2817), (17, 848), (2000000, 224)]
 exact co
 rfl
 decide
 rfl
 refine kf b5 (Xag (Xaf (Xaw ?_)))
 refine kL [2,3,4,6,7,8,12,14] [112,128,192,224] [_,_,_,_,_,_,_,_] [_,_,_,_] ?_
 refine kA h (fun v7 => ([(75, .sv (.bool v7))], [])) (fun v7 h => ?_) fun v7 h => ?_
 refine Xac ?_
 iterate 4 refine kO hT hC ?_
 refine kS h ?_ ?_ <;> intro b6 h
 iterate 4 refine kF hC (kn b6) ?_
 iterate 5 refine Xn1 hC rfl rfl rfl rfl rfl rfl ?_
 iterate 2 refine kF hC (kn b6) ?_
 iterate 5 refine Xn1 hC rfl rfl rfl rfl rfl rfl ?_
 refine kF hC (kn b6) ?_
 refine kP hC false (kn b6) ?_
 exact Vc.nil kM
 refine kI hT hC (kn b6) ?_
 refine kE hC (kn b6) [] Try.call50 h (fun _ => Xdg) fun q8 h => ?_
 iterate 2 refine kI hT hC (kn b6) ?_
 refine kS h ?_ ?_ <;> intro b7 h
 iterate 5 refine kI hT hC (kn b7) ?_
 refine Xdl hC rfl rfl rfl rfl (kn b6) rfl rfl (b := false) (kn b7) rfl rfl rfl trivial ?_
 refine kI hT hC (kn b6) ?_
 refine kS h ?_ ?_ <;> intro b8 h
 iterate 5 refine kF hC b8 ?_
 refine Xdl hC rfl rfl rfl rfl (kn b6) rfl rfl (b := true) b8 rfl rfl rfl trivial ?_
 refine kP hC true (kn b6) ?_
 exact Vc.nil kM
 iterate 5 refine kI hT hC b8 ?_
 refine Xdl hC rfl rfl rfl rfl (kn b6) rfl rfl (b := false) b8 rfl rfl rfl trivial ?_
 refine kP hC true (kn b6) ?_
 exact Vc.nil kM
 iterate 5 refine kF hC (kn b7) ?_
 refine Xdl hC rfl rfl rfl rfl (kn b6) rfl rfl (b := true) (kn b7) rfl rfl rfl trivial ?_
 refine kI hT hC (kn b6) ?_
 iterate 5 refine kF hC rfl ?_
 refine Xdl hC rfl rfl rfl rfl (kn b6) rfl rfl (b := true) rfl rfl rfl rfl trivial ?_
 refine kP hC true (kn b6) ?_
 exact Vc.nil kM
 refine kS h ?_ ?_ <;> intro b9 h
 refine kt b9 (Xad ?_)
 iterate 5 refine kO hT hC ?_
 refine Vc.nil (Xaj (Xbk ?_))
 obtain rfl := kj h
 refine Xfn (τ := ⟨[(14, .ptr 2000000 0), (15, .own 17), (16, .sv (.bool false))], [(16, some (.ints .i64 [])), (17, some (.ints .i64 ([] : List Int))), (2000000, some (.box [.sv (.int .i64 0), .sv (.int .i64 0), .sv (.int .i64 0), .sv (.int .i64 0), .own 16]))]⟩) ?_ rfl ⟨rfl, rfl, trivial⟩
 refine Xsp hC 224 4 2818 (.ints .i64 []) rfl rfl rfl rfl rfl trivial ?_
 apply Xlv hC [(16, 2818), (17, 1232), (2000000, 224)]
 exact co
 rfl
 decide
 rfl
 refine kf b9 (Xag (Xaf (Xad ?_)))
 iterate 3 refine kO hT hC ?_
 refine kC hC [(16, 1312), (17, 1313)] Try.call54 h (fun _ => Xn6) fun q9 h => ?_
 iterate 6 refine kO hT hC ?_
 refine kN ?_
 iterate 2 refine kO hT hC ?_
 refine kC hC [] Try.call55 h (fun _ => Xsx) fun q10 h => ?_
 iterate 5 refine kO hT hC ?_
 refine kN ?_
 iterate 4 refine kO hT hC ?_
 refine Vc.nil ?_
 refine Xhr hm ?_
 iterate 3 refine kO hT hC ?_
 refine kC hC [(16, 1552)] Try.call58 h (fun _ => Xkp) fun q11 h => ?_
 refine kC hC [(16, 1568)] Try.call57 h (fun _ => Xns) fun q12 h => ?_
 refine kO hT hC ?_
 refine kC hC [(16, 1600)] Try.call56 h (fun _ => Xnm) fun q13 h => ?_
 iterate 5 refine kO hT hC ?_
 refine kD ?_
 refine kL [2,3,4,6,7,8,12,14,20,21] [112,128,192,224,336,1600] [_,_,_,_,_,_,_,_,_,_] [_,_,_,_,_,_] ?_
 refine kA h (fun v14 => ([(2, .any), (6, .any), (20, .any)], [(336, some (.box [.sv (.int .i64 v14.1), .sv (.int .i64 v14.2.1), .sv (.int .i64 v14.2.2.1), .sv (.int .i64 v14.2.2.2.1), .own 1600])), (1600, some (.ints .i64 v14.2.2.2.2))])) (fun v14 h => ?_) fun v14 h => ?_
 refine Xad ?_
 iterate 3 refine kO hT hC ?_
 refine Vc.nil ?_
 refine kS h ?_ ?_ <;> intro b10 h
 refine kt b10 (Xad ?_)
 iterate 4 refine kO hT hC ?_
 refine kC hC [(16, 1776)] Try.call60 h (fun _ => Xcu) fun q15 h => ?_
 refine kC hC [] Try.call59 h (fun _ => Xqg) fun q16 h => ?_
 refine kO hT hC ?_
 refine Vc.nil ?_
 refine kS h ?_ ?_ <;> intro b11 h
 refine kt b11 (Xac ?_)
 iterate 2 refine kO hT hC ?_
 refine Vc.nil ?_
 obtain rfl := kj h
 refine Xkz ?_
 refine Xsp hC 336 4 2819 (.ints .i64 []) rfl rfl rfl rfl rfl trivial ?_
 try dsimp only
 apply Xlv hC [(1600, 2819)]
 exact co
 rfl
 decide
 rfl
 refine kf b11 (Xad ?_)
 iterate 5 refine kO hT hC ?_
 refine kC hC [] Try.call61 h (fun _ => Xum) fun q17 h => ?_
 iterate 7 refine kO hT hC ?_
 refine kN ?_
 iterate 3 refine kO hT hC ?_
 refine Vc.nil ?_
 refine kS h ?_ ?_ <;> intro b12 h
 refine kt b12 (Xad ?_)
 iterate 4 refine kO hT hC ?_
 refine Vc.nil ?_
 refine Xhr hm ?_
 iterate 8 refine kO hT hC ?_
 refine kC hC [(16, 2240)] Try.call60 h (fun _ => Xcu) fun q18 h => ?_
 refine kC hC [(16, 2256)] Try.call57 h (fun _ => Xns) fun q19 h => ?_
 refine kO hT hC ?_
 refine kC hC [(16, 2288)] Try.call56 h (fun _ => Xnm) fun q20 h => ?_
 iterate 5 refine kO hT hC ?_
 refine kD ?_
 refine kL [3,4,7,8,12,14,21,22,23] [112,128,192,224,336,2288] [_,_,_,_,_,_,_,_,_] [_,_,_,_,_,_] ?_
 refine kA h (fun v21 => ([(157, .sv (.bool v21)), (22, .any), (23, .any)], [])) (fun v21 h => ?_) fun v21 h => ?_
 refine Xac ?_
 iterate 3 refine kO hT hC ?_
 refine kS h ?_ ?_ <;> intro b13 h
 iterate 2 refine kI hT hC b13 ?_
 refine kP hC true b13 ?_
 refine kO hT hC ?_
 refine kS h ?_ ?_ <;> intro b14 h
 iterate 2 refine kI hT hC b14 ?_
 refine kE hC b14 [] Try.call52 h (fun _ => Xbh) fun q22 h => ?_
 refine kP hC true b14 ?_
 exact Vc.nil kM
 iterate 3 refine kF hC b14 ?_
 refine kP hC false b14 ?_
 exact Vc.nil kM
 iterate 2 refine kF hC b13 ?_
 refine kP hC false b13 ?_
 refine kO hT hC ?_
 iterate 3 refine kF hC rfl ?_
 refine kO hT hC ?_
 exact Vc.nil kM
 refine kS h ?_ ?_ <;> intro b15 h
 refine kt b15 (Xac ?_)
 iterate 2 refine kO hT hC ?_
 refine Vc.nil ?_
 obtain rfl := kj h
 refine Xkz ?_
 refine Xsp hC 336 4 2820 (.ints .i64 []) rfl rfl rfl rfl rfl trivial ?_
 try dsimp only
 apply Xlv hC [(1600, 2820)]
 exact co
 rfl
 decide
 rfl
 refine kf b15 (Xag ?_)
 obtain rfl := kj h
 exact Xkz (kW hC [(1600, 2288)])
 exact kf b12 (Xag kM)
 exact kf b10 (Xag kM)
 refine Xad ?_
 iterate 6 refine kO hT hC ?_
 refine kC hC [(16, 2656)] Try.call14 h (fun _ => Xrm) fun q23 h => ?_
 iterate 5 refine kO hT hC ?_
 refine Vc.nil (Xaw (Xad ?_))
 iterate 2 refine kO hT hC ?_
 refine Vc.nil ?_
 refine kS h ?_ ?_ <;> intro b16 h
 refine kt b16 (Xad ?_)
 iterate 5 refine kO hT hC ?_
 refine Vc.nil (Xaj (Xbk ?_))
 obtain rfl := kj h
 refine Xfn (τ := ⟨[(14, .ptr 2000000 0), (15, .own 17), (16, .sv (.bool false))], [(16, some (.ints .i64 [])), (17, some (.ints .i64 ([] : List Int))), (2000000, some (.box [.sv (.int .i64 0), .sv (.int .i64 0), .sv (.int .i64 0), .sv (.int .i64 0), .own 16]))]⟩) ?_ rfl ⟨rfl, rfl, trivial⟩
 refine Xsp hC 224 4 2821 (.ints .i64 []) rfl rfl rfl rfl rfl trivial ?_
 apply Xlv hC [(16, 2821), (17, 2752), (2000000, 224)]
 exact co
 rfl
 decide
 rfl
 refine kf b16 (Xag (Xaf (Xad ?_)))
 iterate 5 refine kO hT hC ?_
 refine Vc.nil (Xaj ?_)
 obtain rfl := kj h
 exact Xfn (τ := ⟨[(14, .ptr 2000000 0), (15, .own 17), (16, .sv (.bool true))], [(16, some (.ints .i64 v14.2.2.2.2)), (17, some (.ints .i64 q23.1)), (2000000, some (.box [.sv (.int .i64 v14.1), .sv (.int .i64 v14.2.1), .sv (.int .i64 v14.2.2.1), .sv (.int .i64 v14.2.2.2.1), .own 16]))]⟩) (kW hC [(16, 1600), (17, 2656), (2000000, 224)]) rfl ⟨rfl, rfl, trivial⟩
def Xxi (r : Bool) : AV := .sv (.bool r)
def Xxh (r : Bool) : Xbd := []
theorem Xpj {p0 r} (h : Xin p0 = some r) : AC Try.prog 66 [.sv (.int .i64 p0)] [] (Xxi r) (Xxh r) := by
 refine Xae hT Try.func66 rfl fun C hC => ?_
 unfold Xin at h
 refine Xad ?_
 refine kO hT hC ?_
 refine Vc.nil ?_
 refine kL [0,2] [] [_,_] [] ?_
 refine kA h (fun v1 => ([(2, .sv (.bool v1)), (0, .any)], [])) (fun v1 h => ?_) fun v1 h => ?_
 refine Xac ?_
 refine kO hT hC ?_
 refine kQ hT hC h fun h => ?_
 iterate 2 refine kO hT hC ?_
 refine kS h ?_ ?_ <;> intro b1 h
 refine kI hT hC b1 ?_
 refine kE hC b1 [] Try.call53 h (fun _ => Xai) fun q2 h => ?_
 refine kP hC true b1 ?_
 refine kO hT hC ?_
 exact Vc.nil kM
 iterate 2 refine kF hC b1 ?_
 refine kP hC false b1 ?_
 refine kO hT hC ?_
 exact Vc.nil kM
 exact Xaj kR
def Ya3 (r : Pic) : AV := .agg [.sv (.int .i64 r.Wide), .sv (.int .i64 r.High), .sv (.str r.Dots)]
def Ya2 (r : Pic) : Xbd := []
theorem Ycz {p0 p1 r} (h : Xn9 p0 p1 = some r) : AC Try.prog 25 [.sv (.int .i64 p0), .sv (.int .i64 p1)] [] (Ya3 r) (Ya2 r) := by
 refine Xae hT Try.func25 rfl fun C hC => ?_
 unfold Xn9 at h
 refine Xad ?_
 refine kO hT hC ?_
 refine Vc.nil (Xaw ?_)
 refine kL [0,1,4] [64] [_,_,_] [_] ?_
 refine kA h (fun v1 => ([(14, .sv (.bool v1))], [])) (fun v1 h => ?_) fun v1 h => ?_
 refine Xac ?_
 refine kO hT hC ?_
 refine kC hC [] Try.call53 h (fun _ => Xai) fun q2 h => ?_
 iterate 2 refine kO hT hC ?_
 refine kS h ?_ ?_ <;> intro b1 h
 refine kI hT hC (kn b1) ?_
 refine kE hC (kn b1) [] Try.call53 h (fun _ => Xai) fun q3 h => ?_
 refine kI hT hC (kn b1) ?_
 refine kP hC false (kn b1) ?_
 exact Vc.nil kM
 iterate 3 refine kF hC (kn b1) ?_
 refine kP hC true (kn b1) ?_
 exact Vc.nil kM
 refine kS h ?_ ?_ <;> intro b2 h
 refine kt b2 (Xad ?_)
 iterate 2 refine kO hT hC ?_
 exact Vc.nil (Xaj (Xbk kR))
 refine kf b2 (Xag (Xaf (Xad ?_)))
 iterate 3 refine kO hT hC ?_
 obtain ⟨hq, h⟩ := Xat h
 refine Yjf hT hC rfl rfl rfl rfl ⟨hq.1, hq.2.1, hq.2.2, by decide⟩ ?_
 refine kO hT hC ?_
 refine Vc.nil (Xaw (Xad ?_))
 iterate 3 refine kO hT hC ?_
 refine Vc.nil ?_
 refine kL [0,1,4,5,21,22] [64,304] [_,_,_,_,_,_] [_,_] ?_
 refine kX h (fun v5 => ([(22, .sv (.int .i64 v5.1))], [(304, some (.ints .u8 v5.2))])) (fun v7 => ([(21, .any), (22, .any)], [(304, some (.ints .u8 v7))])) (kW hC []) (fun v5 s h => ?_) fun v7 h => ?_
 unfold Xjj at h
 refine Xad ?_
 refine kO hT hC ?_
 refine Vc.nil (Xaw ?_)
 refine kS h ?_ ?_ <;> intro b5 h
 refine kt b5 (Xag (Xaf (Xaw (Xap (Xad ?_)))))
 iterate 2 refine kO hT hC ?_
 refine Vc.nil (Xac ?_)
 iterate 2 refine kO hT hC ?_
 iterate 2 refine kQ hT hC h fun h => ?_
 refine Vc.nil (Xas (Xaf (Xac ?_)))
 iterate 2 refine kO hT hC ?_
 exact Vc.nil kG
 exact kf b5 (Xar (Xa1 ku))
 refine Xaf (Xad ?_)
 iterate 6 refine kO hT hC ?_
 exact Vc.nil (Xaj kR)
def Ya5 (r : (List Int)) : AV := .own 16
def Ya4 (r : (List Int)) : Xbd := [(16, .ints .u8 r)]
theorem Yc1 {p0 r} (h : Xrw p0 = some r) : AC Try.prog 111 [.agg [.sv (.int .i64 p0.Wide), .sv (.int .i64 p0.High), .sv (.str p0.Dots)]] [] (Ya5 r) (Ya4 r) := by
 refine Xae hT Try.func111 rfl fun C hC => ?_
 unfold Xrw at h
 refine Xad ?_
 iterate 2 refine kO hT hC ?_
 refine kN ?_
 iterate 2 refine kO hT hC ?_
 refine kQ hT hC h fun h => ?_
 refine kO hT hC ?_
 refine Vc.nil (Xaj ?_)
 obtain rfl := kj h
 exact Xfn (τ := ⟨[(2, .own 16)], [(16, some (.ints .u8 (Xax p0.Dots)))]⟩) (kW hC [(16, 80)]) rfl ⟨rfl, trivial⟩
def Yc5 (r : Pic) : AV := .agg [.sv (.int .i64 r.Wide), .sv (.int .i64 r.High), .sv (.str r.Dots)]
def Yc4 (r : Pic) : Xbd := []
theorem Yek {p0 p1 p2 p3 r} (h : Xr1 p0 p1 p2 p3 = some r) : AC Try.prog 67 [.agg [.sv (.int .i64 p0.Wide), .sv (.int .i64 p0.High), .sv (.str p0.Dots)], .sv (.int .i64 p1), .sv (.int .i64 p2), .sv (.ints .i64 p3)] [] (Yc5 r) (Yc4 r) := by
 refine Xae hT Try.func67 rfl fun C hC => ?_
 unfold Xr1 at h
 refine Xad ?_
 iterate 2 refine kO hT hC ?_
 refine kN ?_
 refine kO hT hC ?_
 refine kC hC [(16, 208)] Try.call111 h (fun _ => Yc1) fun q1 h => ?_
 refine kO hT hC ?_
 refine Vc.nil (Xaw (Xad ?_))
 iterate 3 refine kO hT hC ?_
 refine Vc.nil ?_
 refine kL [1,2,4,8,9,14,15,16] [64,128,208] [_,_,_,_,_,_,_,_] [_,_,_] ?_
 refine kX h (fun v3 => ([(16, .sv (.int .i64 v3.1))], [(208, some (.ints .u8 v3.2))])) (fun v5 => ([(1, .any), (2, .any), (14, .any), (15, .any), (16, .any)], [(208, some (.ints .u8 v5))])) (kW hC []) (fun v3 s h => ?_) fun v5 h => ?_
 unfold Xm5 at h
 refine Xad ?_
 refine kO hT hC ?_
 refine Vc.nil (Xaw ?_)
 refine kS h ?_ ?_ <;> intro b3 h
 refine kt b3 (Xag (Xaf (Xaw (Xap (Xad ?_)))))
 refine kO hT hC ?_
 refine kQ hT hC h fun h => ?_
 iterate 3 refine kO hT hC ?_
 refine Vc.nil (Xac ?_)
 iterate 3 refine kO hT hC ?_
 refine kQ hT hC h fun h => ?_
 iterate 7 refine kO hT hC ?_
 refine kQ hT hC h fun h => ?_
 iterate 3 refine kO hT hC ?_
 iterate 2 refine kQ hT hC h fun h => ?_
 refine Vc.nil (Xas (Xaf (Xac ?_)))
 iterate 2 refine kO hT hC ?_
 exact Vc.nil kG
 exact kf b3 (Xar (Xa1 ku))
 refine Xaf (Xad ?_)
 iterate 4 refine kO hT hC ?_
 refine kN ?_
 iterate 2 refine kO hT hC ?_
 exact Vc.nil (Xaj kR)
def Xj4 (r : ((List Xan) × Pic × Bool)) : AV := .tup [.own 16, .agg [.sv (.int .i64 r.2.1.Wide), .sv (.int .i64 r.2.1.High), .sv (.str r.2.1.Dots)], .sv (.bool r.2.2)]
def Xj3 (r : ((List Xan) × Pic × Bool)) : Xbd := [(16, .row Xed r.1)]
theorem Xxb {p0 p1 p2 p3 r} (h : Xjm p0 p1 p2 p3 = some r) : AC Try.prog 17 [.agg [.sv (.int .i64 p0.Wide), .sv (.int .i64 p0.High), .sv (.str p0.Dots)], .agg [.sv (.int .i64 p1.Wide), .sv (.int .i64 p1.High), .sv (.str p1.Dots)], .agg [.sv (.bool p2.Key), .sv (.int .i64 p2.Qp), .sv (.bool p2.Large), .sv (.bool p2.Exact)], .sv (.int .i64 p3)] [] (Xj4 r) (Xj3 r) := by
 refine Xae hT Try.func17 rfl fun C hC => ?_
 unfold Xjm at h
 refine Xad ?_
 iterate 6 refine kO hT hC ?_
 refine kN ?_
 iterate 2 refine kO hT hC ?_
 refine Vc.nil (Xaw ?_)
 refine kL [3,4,5,6,9,11] [64,80,96,144,288] [_,_,_,_,_,_] [_,_,_,_,_] ?_
 refine kA h (fun v1 => ([(43, .sv (.bool v1))], [])) (fun v1 h => ?_) fun v1 h => ?_
 refine Xac ?_
 refine kO hT hC ?_
 refine kC hC [] Try.call50 h (fun _ => Xdg) fun q2 h => ?_
 iterate 2 refine kO hT hC ?_
 refine kS h ?_ ?_ <;> intro b1 h
 iterate 2 refine kI hT hC (kn b1) ?_
 refine kE hC (kn b1) [] Try.call66 h (fun _ => Xpj) fun q3 h => ?_
 refine kI hT hC (kn b1) ?_
 refine kP hC false (kn b1) ?_
 refine kO hT hC ?_
 refine kS h ?_ ?_ <;> intro b2 h
 iterate 2 refine kI hT hC (kn b2) ?_
 refine kE hC (kn b2) [] Try.call66 h (fun _ => Xpj) fun q4 h => ?_
 refine kI hT hC (kn b2) ?_
 refine kP hC false (kn b2) ?_
 refine kO hT hC ?_
 refine kS h ?_ ?_ <;> intro b3 h
 refine kI hT hC (kn b3) ?_
 refine kE hC (kn b3) [] Try.call27 h (fun _ => Xeq) fun q5 h => ?_
 refine kI hT hC (kn b3) ?_
 refine kP hC false (kn b3) ?_
 refine kO hT hC ?_
 refine kS h ?_ ?_ <;> intro b4 h
 refine kI hT hC (kn b4) ?_
 refine kE hC (kn b4) [] Try.call53 h (fun _ => Xai) fun q6 h => ?_
 refine kI hT hC (kn b4) ?_
 refine kP hC false (kn b4) ?_
 exact Vc.nil kM
 iterate 3 refine kF hC (kn b4) ?_
 refine kP hC true (kn b4) ?_
 exact Vc.nil kM
 iterate 3 refine kF hC (kn b3) ?_
 refine kP hC true (kn b3) ?_
 refine kO hT hC ?_
 iterate 3 refine kF hC rfl ?_
 refine kO hT hC ?_
 exact Vc.nil kM
 iterate 4 refine kF hC (kn b2) ?_
 refine kP hC true (kn b2) ?_
 refine kO hT hC ?_
 iterate 3 refine kF hC rfl ?_
 iterate 2 refine kO hT hC ?_
 iterate 3 refine kF hC rfl ?_
 refine kO hT hC ?_
 exact Vc.nil kM
 iterate 4 refine kF hC (kn b1) ?_
 refine kP hC true (kn b1) ?_
 refine kO hT hC ?_
 iterate 4 refine kF hC rfl ?_
 iterate 2 refine kO hT hC ?_
 iterate 3 refine kF hC rfl ?_
 iterate 2 refine kO hT hC ?_
 iterate 3 refine kF hC rfl ?_
 refine kO hT hC ?_
 exact Vc.nil kM
 refine kS h ?_ ?_ <;> intro b5 h
 refine kt b5 (Xad ?_)
 iterate 5 refine kO hT hC ?_
 refine Vc.nil (Xaj (Xbk ?_))
 obtain rfl := kj h
 exact Xfn (τ := ⟨[(8, .own 16), (9, .ptr 2000001 0), (10, .sv (.bool false))], [(16, some (.row Xed ([] : List Xan))), (2000001, some (.box [.sv (.int .i64 0), .sv (.int .i64 0), .sv (.str ⟨#[]⟩)]))]⟩) (kW hC [(16, 288), (2000001, 144)]) rfl ⟨rfl, trivial⟩
 refine kf b5 (Xag (Xaf (Xaw ?_)))
 refine kL [3,4,5,6,9,11] [64,80,96,144,288] [_,_,_,_,_,_] [_,_,_,_,_] ?_
 refine kA h (fun v7 => ([(67, .sv (.bool v7))], [])) (fun v7 h => ?_) fun v7 h => ?_
 refine Xac ?_
 iterate 4 refine kO hT hC ?_
 refine kS h ?_ ?_ <;> intro b6 h
 iterate 4 refine kF hC (kn b6) ?_
 iterate 5 refine Xn1 hC rfl rfl rfl rfl rfl rfl ?_
 iterate 2 refine kF hC (kn b6) ?_
 iterate 5 refine Xn1 hC rfl rfl rfl rfl rfl rfl ?_
 refine kF hC (kn b6) ?_
 refine kP hC false (kn b6) ?_
 exact Vc.nil kM
 refine kI hT hC (kn b6) ?_
 refine kE hC (kn b6) [] Try.call50 h (fun _ => Xdg) fun q8 h => ?_
 iterate 2 refine kI hT hC (kn b6) ?_
 refine kS h ?_ ?_ <;> intro b7 h
 iterate 5 refine kI hT hC (kn b7) ?_
 refine Xdl hC rfl rfl rfl rfl (kn b6) rfl rfl (b := false) (kn b7) rfl rfl rfl trivial ?_
 refine kI hT hC (kn b6) ?_
 refine kS h ?_ ?_ <;> intro b8 h
 iterate 5 refine kF hC b8 ?_
 refine Xdl hC rfl rfl rfl rfl (kn b6) rfl rfl (b := true) b8 rfl rfl rfl trivial ?_
 refine kP hC true (kn b6) ?_
 exact Vc.nil kM
 iterate 5 refine kI hT hC b8 ?_
 refine Xdl hC rfl rfl rfl rfl (kn b6) rfl rfl (b := false) b8 rfl rfl rfl trivial ?_
 refine kP hC true (kn b6) ?_
 exact Vc.nil kM
 iterate 5 refine kF hC (kn b7) ?_
 refine Xdl hC rfl rfl rfl rfl (kn b6) rfl rfl (b := true) (kn b7) rfl rfl rfl trivial ?_
 refine kI hT hC (kn b6) ?_
 iterate 5 refine kF hC rfl ?_
 refine Xdl hC rfl rfl rfl rfl (kn b6) rfl rfl (b := true) rfl rfl rfl rfl trivial ?_
 refine kP hC true (kn b6) ?_
 exact Vc.nil kM
 refine kS h ?_ ?_ <;> intro b9 h
 refine kt b9 (Xad ?_)
 iterate 5 refine kO hT hC ?_
 refine Vc.nil (Xaj (Xbk ?_))
 obtain rfl := kj h
 exact Xfn (τ := ⟨[(8, .own 16), (9, .ptr 2000001 0), (10, .sv (.bool false))], [(16, some (.row Xed ([] : List Xan))), (2000001, some (.box [.sv (.int .i64 0), .sv (.int .i64 0), .sv (.str ⟨#[]⟩)]))]⟩) (kW hC [(16, 288), (2000001, 144)]) rfl ⟨rfl, trivial⟩
 refine kf b9 (Xag (Xaf (Xad ?_)))
 iterate 4 refine kO hT hC ?_
 refine kC hC [] Try.call25 h (fun _ => Ycz) fun q9 h => ?_
 iterate 2 refine kO hT hC ?_
 refine Vc.nil (Xaw (Xad ?_))
 refine kO hT hC ?_
 refine Vc.nil ?_
 refine kL [3,4,5,6,9,11,12,13] [64,80,96,144,192,288] [_,_,_,_,_,_,_,_] [_,_,_,_,_,_] ?_
 obtain ⟨o56, hl, h⟩ := Xbl h
 refine Xx7 (fun v25 => ([(13, .sv (.int .i64 v25.1))], [(192, some (.box [.sv (.int .i64 v25.2.2.1), .sv (.int .i64 v25.2.2.2.1), .sv (.str v25.2.2.2.2)])), (288, some (.row Xed v25.2.1))])) (fun v41 => ([(3, .any), (4, .any), (5, .any), (6, .any), (13, .any)], [(192, some (.box [.sv (.int .i64 v41.2.1), .sv (.int .i64 v41.2.2.1), .sv (.str v41.2.2.2)])), (288, some (.row Xed v41.1)), (64, none), (80, none), (96, none)])) (fun r => Yd4 C T Try.f17.results.toList (Xj4 r) (Xj3 r)) hl ?_ ?_ ?_ ?_
 try dsimp only
 apply Xlv hC []
 exact co
 rfl
 decide
 rfl
 intro v25 s hs
 have h := hs
 unfold Xc9 at h
 refine Xaw (Xad ?_)
 iterate 4 refine kO hT hC ?_
 refine Vc.nil ?_
 refine kS h ?_ ?_ <;> intro b24 h
 refine kt b24 (Xag (Xaf (Xaw (Xap (Xad ?_)))))
 refine kO hT hC ?_
 refine Vc.nil ?_
 refine kL [3,4,5,6,9,11,12,13,14] [64,80,96,144,192,288] [_,_,_,_,_,_,_,_,_] [_,_,_,_,_,_] ?_
 obtain ⟨o55, hl, h⟩ := Xbl h
 refine Xx7 (fun v46 => ([(14, .sv (.int .i64 v46.1))], [(192, some (.box [.sv (.int .i64 v46.2.2.1), .sv (.int .i64 v46.2.2.2.1), .sv (.str v46.2.2.2.2)])), (288, some (.row Xed v46.2.1))])) (fun v51 => ([(14, .any)], [(192, some (.box [.sv (.int .i64 v51.2.1), .sv (.int .i64 v51.2.2.1), .sv (.str v51.2.2.2)])), (288, some (.row Xed v51.1))])) (fun r => Yd4 C T Try.f17.results.toList (Xj4 r) (Xj3 r)) hl ?_ ?_ ?_ ?_
 try dsimp only
 apply Xlv hC []
 exact co
 rfl
 decide
 rfl
 intro v46 s hs
 have h := hs
 unfold Xda at h
 refine Xaw (Xad ?_)
 iterate 4 refine kO hT hC ?_
 refine Vc.nil ?_
 refine kS h ?_ ?_ <;> intro b29 h
 refine kt b29 (Xag (Xaf (Xaw (Xap ?_))))
 refine Xhr hm ?_
 iterate 5 refine kO hT hC ?_
 refine kC hC [(16, 1488)] Try.call60 h (fun _ => Xcu) fun q52 h => ?_
 iterate 4 refine kO hT hC ?_
 obtain ⟨q53, hq, h⟩ := Xbl h
 refine Ylc hC [(16, 1568), (17, 1569)] rfl rfl rfl rfl Try.call13 (Xta hq) rfl (by decide) trivial rfl (.inr ⟨rfl, ⟨trivial, trivial, trivial⟩⟩) rfl ?_
 iterate 8 refine kO hT hC ?_
 refine kD (Xaw (Xad ?_))
 iterate 2 refine kO hT hC ?_
 refine Vc.nil ?_
 refine kS h ?_ ?_ <;> intro b30 h
 refine kt b30 (Xad ?_)
 iterate 5 refine kO hT hC ?_
 refine Vc.nil (Xaj (Xbk (Xuk (Xbk ?_))))
 obtain rfl := kj h
 refine Yir (Yio ?_)
 refine Xfn (τ := ⟨[(8, .own 16), (9, .ptr 2000001 0), (10, .sv (.bool false))], [(16, some (.row Xed ([] : List Xan))), (2000001, some (.box [.sv (.int .i64 0), .sv (.int .i64 0), .sv (.str ⟨#[]⟩)]))]⟩) ?_ rfl ⟨rfl, trivial⟩
 apply Xlv hC [(16, 1664), (2000001, 144)]
 exact co
 rfl
 decide
 rfl
 refine kf b30 (Xag (Xaf (Xad ?_)))
 iterate 3 refine kO hT hC ?_
 obtain ⟨hq, h⟩ := Xat h
 refine Yjf hT hC rfl rfl rfl rfl ⟨fun _ _ => rfl, by rw [Xz6]; exact hq⟩ ?_
 rw [Xz6]
 refine kO hT hC ?_
 refine Vc.nil (Xac ?_)
 iterate 4 refine kO hT hC ?_
 refine kC hC [] Try.call67 h (fun _ => Yek) fun q54 h => ?_
 refine kO hT hC ?_
 refine Vc.nil (Xas (Xaf (Xac ?_)))
 iterate 3 refine kO hT hC ?_
 refine Vc.nil ?_
 obtain rfl := kj h
 exact Ye0 (kW hC [(288, 1744)])
 exact kf b29 (Xar (Xa1 kb))
 intro v51 e
 subst e
 refine Xas (Xaf (Xac ?_))
 iterate 3 refine kO hT hC ?_
 exact Vc.nil kG
 intro r' σ' e hE
 subst e
 obtain rfl := kj h
 refine Xuk (Xbk (Yir (Yio ?_)))
 exact hE
 exact kf b24 (Xar (Xa1 kb))
 intro v41 e
 subst e
 refine Xaf ?_
 refine Xhr hm ?_
 iterate 5 refine kO hT hC ?_
 refine kD (Xaj ?_)
 obtain rfl := kj h
 exact Xfn (τ := ⟨[(8, .own 16), (9, .ptr 2000001 0), (10, .sv (.bool true))], [(16, some (.row Xed v41.1)), (2000001, some (.box [.sv (.int .i64 v41.2.1), .sv (.int .i64 v41.2.2.1), .sv (.str v41.2.2.2)]))]⟩) (kW hC [(16, 288), (2000001, 144)]) rfl ⟨rfl, trivial⟩
 intro r' σ' e hE
 subst e
 obtain rfl := kj h
 refine Xbk ?_
 exact hE
def Ya7 (r : (List Int)) : AV := .own 16
def Ya6 (r : (List Int)) : Xbd := [(16, .ints .u8 r)]
theorem Xt9 {p0 r} (h : Xmb p0 = some r) : AC Try.prog 152 [.sv (.ints .i64 p0)] [] (Ya7 r) (Ya6 r) := by
 refine Xae hT Try.func152 rfl fun C hC => ?_
 unfold Xmb at h
 refine Xad ?_
 refine kO hT hC ?_
 refine kN ?_
 iterate 2 refine kO hT hC ?_
 refine kN ?_
 refine kO hT hC ?_
 refine Vc.nil (Xaw (Xad ?_))
 iterate 3 refine kO hT hC ?_
 refine Vc.nil ?_
 refine kL [0,3,4,13,14,15] [192] [_,_,_,_,_,_] [_] ?_
 refine kX h (fun v3 => ([(4, .sv (.int .i64 v3.1)), (15, .sv (.int .i64 v3.2))], [])) (fun v6 => ([(4, .sv (.int .i64 v6)), (13, .any), (14, .any), (15, .any)], [])) (kW hC []) (fun v3 s h => ?_) fun v6 h => ?_
 unfold Xg2 at h
 refine Xad ?_
 refine kO hT hC ?_
 refine Vc.nil (Xaw ?_)
 refine kS h ?_ ?_ <;> intro b5 h
 refine kt b5 (Xag (Xaf ?_))
 refine kL [0,3,4,13,14,15] [192] [_,_,_,_,_,_] [_] ?_
 refine kA h (fun v7 => ([(4, .sv (.int .i64 v7))], [])) (fun v7 h => ?_) fun v7 h => ?_
 refine Xap (Xad ?_)
 refine kQ hT hC h fun h => ?_
 iterate 2 refine kO hT hC ?_
 refine kN ?_
 iterate 2 refine kO hT hC ?_
 refine Vc.nil ?_
 refine kS h ?_ ?_ <;> intro b6 h
 refine kt b6 (Xac ?_)
 iterate 3 refine kO hT hC ?_
 exact Vc.nil (Xas kM)
 exact kf b6 (Xag (Xas kM))
 refine Xac ?_
 iterate 2 refine kO hT hC ?_
 exact Vc.nil kG
 exact kf b5 (Xar (Xa1 ku))
 refine Xaf (Xad ?_)
 iterate 2 refine kO hT hC ?_
 refine kC hC [] Try.call116 h (fun _ => Xkk) fun q9 h => ?_
 refine kT hT hC h fun h => ?_
 refine kO hT hC ?_
 refine kN ?_
 refine kO hT hC ?_
 refine Vc.nil (Xaw (Xad ?_))
 iterate 3 refine kO hT hC ?_
 refine Vc.nil ?_
 refine kL [3,7,28,29,30] [432] [_,_,_,_,_] [_] ?_
 refine kX h (fun v15 => ([(7, .sv (.int .i64 v15.1)), (30, .sv (.int .i64 v15.2.1))], [(432, some (.ints .u8 v15.2.2))])) (fun v21 => ([(7, .any), (28, .any), (29, .any), (30, .any)], [(432, some (.ints .u8 v21))])) (kW hC []) (fun v15 s h => ?_) fun v21 h => ?_
 unfold Xg3 at h
 refine Xad ?_
 refine kO hT hC ?_
 refine Vc.nil (Xaw ?_)
 refine kS h ?_ ?_ <;> intro b11 h
 refine kt b11 (Xag (Xaf ?_))
 refine kL [3,7,28,29,30] [432] [_,_,_,_,_] [_] ?_
 refine kA h (fun v22 => ([(7, .sv (.int .i64 v22.1))], [(432, some (.ints .u8 v22.2))])) (fun v22 h => ?_) fun v22 h => ?_
 refine Xap (Xad ?_)
 refine kQ hT hC h fun h => ?_
 iterate 2 refine kO hT hC ?_
 refine Vc.nil (Xaw (Xad ?_))
 iterate 2 refine kO hT hC ?_
 refine Vc.nil ?_
 refine kS h ?_ ?_ <;> intro b12 h
 refine kt b12 (Xad ?_)
 iterate 3 refine kO hT hC ?_
 exact Vc.nil (Xar (Xa1 (Yfh kM)))
 refine kf b12 (Xag (Xaf (Xad ?_)))
 refine kO hT hC ?_
 refine kC hC [] Try.call151 h (fun _ => Xo9) fun q23 h => ?_
 iterate 5 refine kO hT hC ?_
 refine kN ?_
 iterate 2 refine kO hT hC ?_
 refine kC hC [] Try.call116 h (fun _ => Xkk) fun q24 h => ?_
 refine kT hT hC h fun h => ?_
 refine kO hT hC ?_
 refine kC hC [] Try.call116 h (fun _ => Xkk) fun q25 h => ?_
 refine kT hT hC h fun h => ?_
 refine kO hT hC ?_
 refine Vc.nil (Xac ?_)
 refine kO hT hC ?_
 refine Vc.nil (Xas ?_)
 obtain rfl := kj h
 exact Xkz (kW hC [(432, 784)])
 refine Xac ?_
 iterate 2 refine kO hT hC ?_
 exact Vc.nil kG
 exact kf b11 (Xar (Xa1 ku))
 refine Xaf (Xad ?_)
 iterate 2 refine kO hT hC ?_
 refine Vc.nil (Xaj ?_)
 obtain rfl := kj h
 exact Xfn (τ := ⟨[(2, .own 16)], [(16, some (.ints .u8 v21))]⟩) (kW hC [(16, 432)]) rfl ⟨rfl, trivial⟩
end
end Go.Proofs.Ytlebkepfhdjnmac.A
