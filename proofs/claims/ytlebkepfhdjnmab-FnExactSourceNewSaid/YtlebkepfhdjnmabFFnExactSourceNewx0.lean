/- Contracts of the functions that the law FnExactSourceNew reaches, part 0: each comes to what its pure function tells. Written by a program of this session. Conditions: as each statement tells. -/
import Derived.Test.YtlebkepfhdjnmabBFnExactSourceNew
namespace Go.Proofs.Ytlebkepfhdjnmab.A
open Go Go.Proofs Go.Proofs.YtlebkepfhdjnmabAL Go.RowKit
set_option linter.unusedVariables false
set_option linter.unusedSimpArgs false
set_option maxRecDepth 100000
set_option maxHeartbeats 8000000
noncomputable section
def Xk2 (r : Bool) : AV := .sv (.bool r)
def Xk1 (r : Bool) : Xaw := []
theorem Xam {p0 p1 p2 r} (h : Xao p0 p1 p2 = some r) : AC Try.prog 48 [.sv (.int .i64 p0), .sv (.int .i64 p1), .sv (.int .i64 p2)] [] (Xk2 r) (Xk1 r) := by
 refine Xab hT Try.func48 rfl fun C hC => ?_
 unfold Xao at h
 refine Xaa ?_
 refine kO hT hC ?_
 refine Vc.nil ?_
 refine kL [0,1,2,6] [] [_,_,_,_] [] ?_
 refine kA h (fun v1 => ([(6, .sv (.bool v1)), (0, .any), (1, .any), (2, .any)], [])) (fun v1 h => ?_) fun v1 h => ?_
 refine Xag ?_
 iterate 4 refine kO hT hC ?_
 refine kS h ?_ ?_ <;> intro b1 h
 iterate 3 refine kI hT hC b1 ?_
 refine kP hC true b1 ?_
 refine kO hT hC ?_
 exact Vc.nil kM
 iterate 3 refine kF hC b1 ?_
 refine kP hC false b1 ?_
 refine kO hT hC ?_
 exact Vc.nil kM
 exact Xac kR
def Xku (r : Bool) : AV := .sv (.bool r)
def Xkt (r : Bool) : Xaw := []
theorem Xmm {p0 r} (h : Xd9 p0 = some r) : AC Try.prog 47 [.agg [.sv (.int .i64 p0.Wide), .sv (.int .i64 p0.High), .sv (.str p0.Dots)]] [] (Xku r) (Xkt r) := by
 refine Xab hT Try.func47 rfl fun C hC => ?_
 unfold Xd9 at h
 refine Xaa ?_
 iterate 2 refine kO hT hC ?_
 refine Vc.nil ?_
 refine kL [1,2] [16] [_,_] [_] ?_
 refine kA h (fun v1 => ([(2, .sv (.bool v1)), (1, .any)], [(16, none)])) (fun v1 h => ?_) fun v1 h => ?_
 refine Xag ?_
 iterate 2 refine kO hT hC ?_
 refine kC hC [] Try.call48 h (fun _ => Xam) fun q2 h => ?_
 refine kO hT hC ?_
 refine kS h ?_ ?_ <;> intro b1 h
 iterate 2 refine kI hT hC b1 ?_
 refine kE hC b1 [] Try.call48 h (fun _ => Xam) fun q3 h => ?_
 refine kP hC true b1 ?_
 refine kO hT hC ?_
 refine kS h ?_ ?_ <;> intro b2 h
 iterate 9 refine kI hT hC b2 ?_
 refine kP hC true b2 ?_
 refine kO hT hC ?_
 exact Vc.nil kM
 iterate 9 refine kF hC b2 ?_
 refine kP hC false b2 ?_
 refine kO hT hC ?_
 exact Vc.nil kM
 iterate 3 refine kF hC b1 ?_
 refine kP hC false b1 ?_
 refine kO hT hC ?_
 iterate 9 refine kF hC rfl ?_
 iterate 2 refine kO hT hC ?_
 exact Vc.nil kM
 exact Xac kR
def Xiw (r : Bool) : AV := .sv (.bool r)
def Xiv (r : Bool) : Xaw := []
theorem Xah {p0 p1 p2 r} (h : Xai p0 p1 p2 = some r) : AC Try.prog 52 [.sv (.int .i64 p0), .sv (.int .i64 p1), .sv (.int .i64 p2)] [] (Xiw r) (Xiv r) := by
 refine Xab hT Try.func52 rfl fun C hC => ?_
 unfold Xai at h
 refine Xaa ?_
 refine kO hT hC ?_
 refine Vc.nil ?_
 refine kL [0,1,2,6] [] [_,_,_,_] [] ?_
 refine kA h (fun v1 => ([(6, .sv (.bool v1)), (0, .any), (1, .any), (2, .any)], [])) (fun v1 h => ?_) fun v1 h => ?_
 refine Xag ?_
 iterate 4 refine kO hT hC ?_
 refine kS h ?_ ?_ <;> intro b1 h
 iterate 3 refine kI hT hC b1 ?_
 refine kP hC true b1 ?_
 refine kO hT hC ?_
 exact Vc.nil kM
 iterate 3 refine kF hC b1 ?_
 refine kP hC false b1 ?_
 refine kO hT hC ?_
 exact Vc.nil kM
 exact Xac kR
def Xj5 (r : Bool) : AV := .sv (.bool r)
def Xj4 (r : Bool) : Xaw := []
theorem Xlu {p0 r} (h : Xdv p0 = some r) : AC Try.prog 50 [.agg [.sv (.int .i64 p0.Wide), .sv (.int .i64 p0.High), .sv (.str p0.Dots)]] [] (Xj5 r) (Xj4 r) := by
 refine Xab hT Try.func50 rfl fun C hC => ?_
 unfold Xdv at h
 refine Xaa ?_
 iterate 2 refine kO hT hC ?_
 refine Vc.nil ?_
 refine kL [1,2] [16] [_,_] [_] ?_
 refine kA h (fun v1 => ([(2, .sv (.bool v1)), (1, .any)], [(16, none)])) (fun v1 h => ?_) fun v1 h => ?_
 refine Xag ?_
 iterate 2 refine kO hT hC ?_
 refine kC hC [] Try.call52 h (fun _ => Xah) fun q2 h => ?_
 refine kO hT hC ?_
 refine kS h ?_ ?_ <;> intro b1 h
 iterate 2 refine kI hT hC b1 ?_
 refine kE hC b1 [] Try.call52 h (fun _ => Xah) fun q3 h => ?_
 refine kP hC true b1 ?_
 refine kO hT hC ?_
 refine kS h ?_ ?_ <;> intro b2 h
 iterate 9 refine kI hT hC b2 ?_
 refine kP hC true b2 ?_
 refine kO hT hC ?_
 exact Vc.nil kM
 iterate 9 refine kF hC b2 ?_
 refine kP hC false b2 ?_
 refine kO hT hC ?_
 exact Vc.nil kM
 iterate 3 refine kF hC b1 ?_
 refine kP hC false b1 ?_
 refine kO hT hC ?_
 iterate 9 refine kF hC rfl ?_
 iterate 2 refine kO hT hC ?_
 exact Vc.nil kM
 exact Xac kR
def Xe1 (r : Bool) : AV := .sv (.bool r)
def Xe0 (r : Bool) : Xaw := []
theorem Xfl {p0 p1 r} (h : Xb8 p0 p1 = some r) : AC Try.prog 111 [.sv (.ints .i64 p0), .sv (.ints .i64 p1)] [] (Xe1 r) (Xe0 r) := by
 refine Xab hT Try.func111 rfl fun C hC => ?_
 unfold Xb8 at h
 refine Xaa ?_
 refine kO hT hC ?_
 refine Vc.nil (Xa8 (Xaa ?_))
 iterate 5 refine kO hT hC ?_
 refine Vc.nil ?_
 refine kS h ?_ ?_ <;> intro b1 h
 refine kt b1 (Xaa ?_)
 refine kO hT hC ?_
 exact Vc.nil (Xac (Xal kR))
 refine kf b1 (Xad (Xaf (Xa8 (Xaa ?_))))
 refine kO hT hC ?_
 refine Vc.nil ?_
 refine kL [0,1,5] [] [_,_,_] [] ?_
 obtain ⟨o5, hl, h⟩ := Xbv h
 refine Xf2 (fun v2 => ([(5, .sv (.int .i64 v2))], [])) (fun v4 => ([(0, .any), (1, .any), (5, .any)], [])) (fun r => Xlk C T Try.f111.results.toList (Xe1 r) (Xe0 r)) hl ?_ ?_ ?_ ?_
 apply Xfq hC []
 exact co
 rfl
 decide
 rfl
 intro v2 s hs
 have h := hs
 unfold Xbm at h
 refine Xa8 (Xaa ?_)
 iterate 4 refine kO hT hC ?_
 refine Vc.nil ?_
 refine kS h ?_ ?_ <;> intro b6 h
 refine kt b6 (Xad (Xaf (Xa8 (Xdp ?_))))
 refine Xhm hm ?_
 iterate 2 refine kO hT hC ?_
 refine kQ hT hC h fun h => ?_
 iterate 3 refine kO hT hC ?_
 refine kQ hT hC h fun h => ?_
 iterate 2 refine kO hT hC ?_
 refine kD ?_
 refine kS h ?_ ?_ <;> intro b7 h
 refine kt b7 (Xaa ?_)
 refine kO hT hC ?_
 refine Vc.nil (Xac (Xij (Xal ?_)))
 obtain rfl := kj h
 refine Xnm (Xni ?_)
 exact Xn3 (Xdh.refl _) rfl trivial
 refine kf b7 (Xad (Xfk (Xaf (Xag ?_))))
 iterate 3 refine kO hT hC ?_
 exact Vc.nil kG
 exact kf b6 (Xea (Xgn kb))
 intro v4 e
 subst e
 refine Xaf (Xaa ?_)
 refine kO hT hC ?_
 exact Vc.nil (Xac kR)
 intro r' σ' e hE
 subst e
 obtain rfl := kj h
 refine Xal ?_
 exact hE
def Xkm (r : Par) : AV := .agg [.sv (.int .i64 r.Qp), .sv (.bool r.Large), .sv (.bool r.Exact), .sv (.bool r.Confined)]
def Xkl (r : Par) : Xaw := []
theorem Xeg {p0 r} (h : Xc4 p0 = some r) : AC Try.prog 32 [.agg [.sv (.int .i64 p0.Qp), .sv (.bool p0.Large), .sv (.bool p0.Exact), .sv (.bool p0.Confined)]] [] (Xkm r) (Xkl r) := by
 refine Xab hT Try.func32 rfl fun C hC => ?_
 unfold Xc4 at h
 refine Xaa ?_
 iterate 2 refine kO hT hC ?_
 refine kN ?_
 refine kO hT hC ?_
 refine kN ?_
 iterate 4 refine kO hT hC ?_
 refine kN ?_
 iterate 4 refine kO hT hC ?_
 refine kN ?_
 iterate 4 refine kO hT hC ?_
 refine kN ?_
 iterate 4 refine kO hT hC ?_
 refine kN ?_
 iterate 2 refine kO hT hC ?_
 exact Vc.nil (Xac kR)
def Xi7 (r : Rate) : AV := .agg [.sv (.int .i64 r.Qp), .sv (.int .i64 r.Target), .sv (.int .i64 r.Debt)]
def Xi6 (r : Rate) : Xaw := []
theorem Xdl {p0 r} (h : Xb9 p0 = some r) : AC Try.prog 33 [.agg [.sv (.int .i64 p0.Qp), .sv (.int .i64 p0.Target), .sv (.int .i64 p0.Debt)]] [] (Xi7 r) (Xi6 r) := by
 refine Xab hT Try.func33 rfl fun C hC => ?_
 unfold Xb9 at h
 refine Xaa ?_
 iterate 2 refine kO hT hC ?_
 refine kN ?_
 refine kO hT hC ?_
 refine kN ?_
 iterate 4 refine kO hT hC ?_
 refine kN ?_
 iterate 4 refine kO hT hC ?_
 refine kN ?_
 iterate 4 refine kO hT hC ?_
 refine kN ?_
 iterate 2 refine kO hT hC ?_
 exact Vc.nil (Xac kR)
def Xe7 (r : Int) : AV := .sv (.int .i64 r)
def Xe6 (r : Int) : Xaw := []
theorem Xci {p0 r} (h : Xbe p0 = some r) : AC Try.prog 150 [.sv (.ints .i64 p0)] [] (Xe7 r) (Xe6 r) := by
 refine Xab hT Try.func150 rfl fun C hC => ?_
 unfold Xbe at h
 refine Xaa ?_
 refine kO hT hC ?_
 refine Vc.nil (Xa8 ?_)
 refine kL [0] [] [_] [] ?_
 refine kA h (fun v1 => ([(12, .sv (.bool v1))], [])) (fun v1 h => ?_) fun v1 h => ?_
 refine Xag ?_
 iterate 4 refine kO hT hC ?_
 refine kS h ?_ ?_ <;> intro b1 h
 iterate 3 refine kF hC b1 ?_
 refine kP hC true b1 ?_
 exact Vc.nil kM
 iterate 3 refine kI hT hC b1 ?_
 refine kP hC false b1 ?_
 exact Vc.nil kM
 refine kS h ?_ ?_ <;> intro b2 h
 refine kt b2 (Xaa ?_)
 refine kO hT hC ?_
 exact Vc.nil (Xac (Xal kR))
 refine kf b2 (Xad (Xaf (Xaa ?_)))
 refine kO hT hC ?_
 refine Vc.nil (Xa8 (Xaa ?_))
 refine kO hT hC ?_
 refine Vc.nil ?_
 refine kL [0,3,4] [] [_,_,_] [] ?_
 obtain ⟨o9, hl, h⟩ := Xbv h
 refine Xf2 (fun v4 => ([(3, .sv (.int .i64 v4.1)), (4, .sv (.int .i64 v4.2))], [])) (fun v7 => ([(3, .sv (.int .i64 v7)), (0, .any), (4, .any)], [])) (fun r => Xlk C T Try.f150.results.toList (Xe7 r) (Xe6 r)) hl ?_ ?_ ?_ ?_
 try dsimp only
 apply Xfq hC []
 exact co
 rfl
 decide
 rfl
 intro v4 s hs
 have h := hs
 unfold Xa9 at h
 refine Xa8 (Xaa ?_)
 iterate 4 refine kO hT hC ?_
 refine Vc.nil ?_
 refine kS h ?_ ?_ <;> intro b7 h
 refine kt b7 (Xad (Xaf (Xa8 (Xdp (Xa8 (Xaa ?_))))))
 iterate 2 refine kO hT hC ?_
 refine kQ hT hC h fun h => ?_
 refine kO hT hC ?_
 refine kC hC [] Try.call48 h (fun _ => Xam) fun q8 h => ?_
 refine kO hT hC ?_
 refine Vc.nil ?_
 refine kS h ?_ ?_ <;> intro b8 h
 refine kt b8 (Xaa ?_)
 refine kO hT hC ?_
 refine Vc.nil (Xac (Xal (Xij (Xal ?_))))
 obtain rfl := kj h
 refine Xnm (Xni ?_)
 exact Xn3 (Xdh.refl _) rfl trivial
 refine kf b8 (Xad (Xaf (Xag ?_)))
 iterate 3 refine kO hT hC ?_
 refine kQ hT hC h fun h => ?_
 iterate 3 refine kO hT hC ?_
 refine Vc.nil (Xfk (Xaf (Xag ?_)))
 iterate 3 refine kO hT hC ?_
 exact Vc.nil kG
 exact kf b7 (Xea (Xgn kb))
 intro v7 e
 subst e
 refine Xaf (Xaa ?_)
 iterate 2 refine kO hT hC ?_
 exact Vc.nil (Xac kR)
 intro r' σ' e hE
 subst e
 obtain rfl := kj h
 refine Xal ?_
 exact hE
def Xgm (r : Int) : AV := .sv (.int .i64 r)
def Xgl (r : Int) : Xaw := []
theorem Xhc {p0 r} (h : Xbo p0 = some r) : AC Try.prog 148 [.agg [.sv (.int .i64 p0.Level), .sv (.int .i64 p0.Bits), .sv (.ints .i64 p0.Cols), .sv (.ints .i64 p0.Rows)]] [] (Xgm r) (Xgl r) := by
 refine Xab hT Try.func148 rfl fun C hC => ?_
 unfold Xbo at h
 refine Xaa ?_
 iterate 2 refine kO hT hC ?_
 refine Vc.nil ?_
 refine Xhm hm ?_
 iterate 2 refine kO hT hC ?_
 refine kC hC [] Try.call150 h (fun _ => Xci) fun q1 h => ?_
 iterate 2 refine kO hT hC ?_
 refine kC hC [] Try.call150 h (fun _ => Xci) fun q2 h => ?_
 iterate 2 refine kO hT hC ?_
 exact kD (Xac kR)
def Xe5 (r : Int) : AV := .sv (.int .i64 r)
def Xe4 (r : Int) : Xaw := []
theorem Xfi {p0 r} (h : Xa2 p0 = some r) : AC Try.prog 149 [.sv (.int .i64 p0)] [] (Xe5 r) (Xe4 r) := by
 refine Xab hT Try.func149 rfl fun C hC => ?_
 unfold Xa2 at h
 refine Xaa ?_
 refine kO hT hC ?_
 refine Vc.nil (Xa8 (Xaa ?_))
 refine kO hT hC ?_
 refine Vc.nil (Xdp (Xaa ?_))
 iterate 2 refine kO hT hC ?_
 refine Vc.nil ?_
 refine kS h ?_ ?_ <;> intro b1 h
 refine kt b1 (Xaa ?_)
 refine kO hT hC ?_
 exact Vc.nil (Xac (Xij (Xal kR)))
 refine kf b1 (Xaa ?_)
 iterate 2 refine kO hT hC ?_
 refine Vc.nil ?_
 refine kS h ?_ ?_ <;> intro b2 h
 refine kt b2 (Xaa ?_)
 refine kO hT hC ?_
 exact Vc.nil (Xac (Xij (Xal kR)))
 refine kf b2 (Xaa ?_)
 iterate 2 refine kO hT hC ?_
 refine Vc.nil ?_
 refine kS h ?_ ?_ <;> intro b3 h
 refine kt b3 (Xaa ?_)
 refine kO hT hC ?_
 exact Vc.nil (Xac (Xij (Xal kR)))
 refine kf b3 (Xad (Xfk (Xaf (Xaa ?_))))
 refine kO hT hC ?_
 exact Vc.nil (Xac kR)
def Xky (r : Bool) : AV := .sv (.bool r)
def Xkx (r : Bool) : Xaw := []
theorem Xem {p0 r} (h : Xce p0 = some r) : AC Try.prog 112 [.agg [.sv (.int .i64 p0.Level), .sv (.int .i64 p0.Bits), .sv (.ints .i64 p0.Cols), .sv (.ints .i64 p0.Rows)]] [] (Xky r) (Xkx r) := by
 refine Xab hT Try.func112 rfl fun C hC => ?_
 unfold Xce at h
 refine Xaa ?_
 iterate 2 refine kO hT hC ?_
 refine Vc.nil ?_
 refine kL [1,2] [16] [_,_] [_] ?_
 refine kA h (fun v1 => ([(2, .sv (.bool v1)), (1, .any)], [(16, none)])) (fun v1 h => ?_) fun v1 h => ?_
 refine Xlo hm ?_
 refine kO hT hC ?_
 refine kC hC [] Try.call148 h (fun _ => Xhc) fun q2 h => ?_
 iterate 2 refine kO hT hC ?_
 refine kC hC [] Try.call149 h (fun _ => Xfi) fun q3 h => ?_
 refine kC hC [] Try.call48 h (fun _ => Xam) fun q4 h => ?_
 refine kO hT hC ?_
 refine kS h ?_ ?_ <;> intro b1 h
 iterate 2 refine kI hT hC b1 ?_
 refine kE hC b1 [] Try.call48 h (fun _ => Xam) fun q5 h => ?_
 refine kP hC true b1 ?_
 refine kO hT hC ?_
 exact kD kM
 iterate 3 refine kF hC b1 ?_
 refine kP hC false b1 ?_
 refine kO hT hC ?_
 exact kD kM
 exact Xac kR
def Xd7 (r : Int) : AV := .sv (.int .i64 r)
def Xd6 (r : Int) : Xaw := []
theorem Xh1 {p0 p1 r} (h : Xb3 p0 p1 = some r) : AC Try.prog 73 [.sv (.ints .i64 p0), .sv (.ints .i64 p1)] [] (Xd7 r) (Xd6 r) := by
 refine Xab hT Try.func73 rfl fun C hC => ?_
 unfold Xb3 at h
 refine Xaa ?_
 refine kO hT hC ?_
 refine Vc.nil (Xa8 (Xaa ?_))
 refine kO hT hC ?_
 refine Vc.nil ?_
 refine kL [0,1,5] [] [_,_,_] [] ?_
 obtain ⟨o8, hl, h⟩ := Xbv h
 refine Xf2 (fun v3 => ([(5, .sv (.int .i64 v3))], [])) (fun v6 => ([(0, .any), (1, .any), (5, .any)], [])) (fun r => Xlk C T Try.f73.results.toList (Xd7 r) (Xd6 r)) hl ?_ ?_ ?_ ?_
 apply Xfq hC []
 exact co
 rfl
 decide
 rfl
 intro v3 s hs
 have h := hs
 unfold Xbr at h
 refine Xa8 (Xaa ?_)
 iterate 2 refine kO hT hC ?_
 refine Vc.nil ?_
 refine kS h ?_ ?_ <;> intro b5 h
 refine kt b5 (Xad (Xaf (Xa8 (Xdp (Xaa ?_)))))
 iterate 4 refine kO hT hC ?_
 refine kC hC [] Try.call112 h (fun _ => Xem) fun q7 h => ?_
 refine Vc.nil ?_
 refine kS h ?_ ?_ <;> intro b6 h
 refine kt b6 (Xaa ?_)
 iterate 2 refine kO hT hC ?_
 refine Vc.nil (Xac (Xij (Xal ?_)))
 obtain rfl := kj h
 refine Xnm (Xni ?_)
 exact Xn3 (Xdh.refl _) rfl trivial
 refine kf b6 (Xad (Xfk (Xaf (Xag ?_))))
 iterate 3 refine kO hT hC ?_
 exact Vc.nil kG
 exact kf b5 (Xea (Xgn kb))
 intro v6 e
 subst e
 refine Xaf (Xaa ?_)
 refine kO hT hC ?_
 exact Vc.nil (Xac kR)
 intro r' σ' e hE
 subst e
 obtain rfl := kj h
 refine Xal ?_
 exact hE
def Xh6 (r : Int) : AV := .sv (.int .i64 r)
def Xh5 (r : Int) : Xaw := []
theorem Xjs {p0 r} (h : Xcq p0 = some r) : AC Try.prog 113 [.agg [.sv (.int .i64 p0.Level), .sv (.int .i64 p0.Bits), .sv (.ints .i64 p0.Cols), .sv (.ints .i64 p0.Rows)]] [] (Xh6 r) (Xh5 r) := by
 refine Xab hT Try.func113 rfl fun C hC => ?_
 unfold Xcq at h
 refine Xaa ?_
 iterate 2 refine kO hT hC ?_
 refine Vc.nil (Xa8 (Xaa ?_))
 refine kO hT hC ?_
 refine kC hC [] Try.call112 h (fun _ => Xem) fun q1 h => ?_
 refine kO hT hC ?_
 refine Vc.nil ?_
 refine kS h ?_ ?_ <;> intro b1 h
 refine kt b1 (Xaa ?_)
 refine kO hT hC ?_
 exact Vc.nil (Xac (Xal kR))
 refine kf b1 (Xad (Xaf (Xaa ?_)))
 iterate 8 refine kO hT hC ?_
 exact Vc.nil (Xac kR)
def Xks (r : Bool) : AV := .sv (.bool r)
def Xkr (r : Bool) : Xaw := []
theorem Xmk {p0 r} (h : Xd8 p0 = some r) : AC Try.prog 114 [.agg [.sv (.int .i64 p0.Qp), .sv (.bool p0.Large), .sv (.bool p0.Exact), .sv (.bool p0.Confined)]] [] (Xks r) (Xkr r) := by
 refine Xab hT Try.func114 rfl fun C hC => ?_
 unfold Xd8 at h
 refine Xaa ?_
 iterate 2 refine kO hT hC ?_
 refine Vc.nil ?_
 refine kL [1,2] [16] [_,_] [_] ?_
 refine kA h (fun v1 => ([(2, .sv (.bool v1)), (1, .any)], [(16, none)])) (fun v1 h => ?_) fun v1 h => ?_
 refine Xag ?_
 iterate 2 refine kO hT hC ?_
 refine kC hC [] Try.call48 h (fun _ => Xam) fun q2 h => ?_
 refine kO hT hC ?_
 refine kS h ?_ ?_ <;> intro b1 h
 iterate 3 refine kI hT hC b1 ?_
 refine kS h ?_ ?_ <;> intro b2 h
 iterate 2 refine kI hT hC b2 ?_
 refine Xgo hC rfl rfl rfl rfl b1 rfl rfl (b := true) b2 rfl rfl rfl trivial ?_
 refine kI hT hC b1 ?_
 refine kP hC true b1 ?_
 refine kO hT hC ?_
 exact Vc.nil kM
 iterate 2 refine kF hC b2 ?_
 refine Xgo hC rfl rfl rfl rfl b1 rfl rfl (b := false) b2 rfl rfl rfl trivial ?_
 refine kI hT hC b1 ?_
 refine kP hC true b1 ?_
 refine kO hT hC ?_
 exact Vc.nil kM
 iterate 3 refine kF hC b1 ?_
 iterate 2 refine Xr8 hC rfl rfl rfl rfl rfl rfl ?_
 iterate 2 refine kF hC b1 ?_
 refine kP hC false b1 ?_
 refine kO hT hC ?_
 exact Vc.nil kM
 exact Xac kR
def Xjp (r : Bool) : AV := .sv (.bool r)
def Xjo (r : Bool) : Xaw := []
theorem Xkv {p0 r} (h : Xdc p0 = some r) : AC Try.prog 115 [.agg [.sv (.int .i64 p0.Qp), .sv (.int .i64 p0.Target), .sv (.int .i64 p0.Debt)]] [] (Xjp r) (Xjo r) := by
 refine Xab hT Try.func115 rfl fun C hC => ?_
 unfold Xdc at h
 refine Xaa ?_
 iterate 2 refine kO hT hC ?_
 refine Vc.nil ?_
 refine kL [1,2] [16] [_,_] [_] ?_
 refine kA h (fun v1 => ([(2, .sv (.bool v1)), (1, .any)], [(16, none)])) (fun v1 h => ?_) fun v1 h => ?_
 refine Xag ?_
 iterate 2 refine kO hT hC ?_
 refine kC hC [] Try.call48 h (fun _ => Xam) fun q2 h => ?_
 refine kO hT hC ?_
 refine kS h ?_ ?_ <;> intro b1 h
 iterate 2 refine kI hT hC b1 ?_
 refine kE hC b1 [] Try.call48 h (fun _ => Xam) fun q3 h => ?_
 refine kP hC true b1 ?_
 refine kO hT hC ?_
 refine kS h ?_ ?_ <;> intro b2 h
 iterate 8 refine kI hT hC b2 ?_
 refine kE hC b2 [] Try.call48 h (fun _ => Xam) fun q4 h => ?_
 refine kP hC true b2 ?_
 refine kO hT hC ?_
 exact Vc.nil kM
 iterate 9 refine kF hC b2 ?_
 refine kP hC false b2 ?_
 refine kO hT hC ?_
 exact Vc.nil kM
 iterate 3 refine kF hC b1 ?_
 refine kP hC false b1 ?_
 refine kO hT hC ?_
 iterate 9 refine kF hC rfl ?_
 iterate 2 refine kO hT hC ?_
 exact Vc.nil kM
 exact Xac kR
def Xjr (r : (Int × Int)) : AV := .tup [.sv (.int .i64 r.1), .sv (.int .i64 r.2)]
def Xjq (r : (Int × Int)) : Xaw := []
theorem Xkz {p0 r} (h : Xdd p0 = some r) : AC Try.prog 116 [.agg [.sv (.int .i64 p0.Level), .sv (.int .i64 p0.Bits), .sv (.ints .i64 p0.Cols), .sv (.ints .i64 p0.Rows)]] [] (Xjr r) (Xjq r) := by
 refine Xab hT Try.func116 rfl fun C hC => ?_
 unfold Xdd at h
 refine Xaa ?_
 iterate 3 refine kO hT hC ?_
 refine Vc.nil (Xa8 (Xaa ?_))
 refine kO hT hC ?_
 refine kC hC [] Try.call112 h (fun _ => Xem) fun q1 h => ?_
 refine kO hT hC ?_
 refine Vc.nil ?_
 refine kS h ?_ ?_ <;> intro b1 h
 refine kt b1 (Xaa ?_)
 iterate 2 refine kO hT hC ?_
 exact Vc.nil (Xac (Xal kR))
 refine kf b1 (Xad (Xaf ?_))
 refine Xhm hm ?_
 iterate 2 refine kO hT hC ?_
 refine kC hC [] Try.call150 h (fun _ => Xci) fun q2 h => ?_
 iterate 3 refine kO hT hC ?_
 refine kC hC [] Try.call150 h (fun _ => Xci) fun q3 h => ?_
 iterate 3 refine kO hT hC ?_
 exact kD (Xac kR)
def Xhb (r : Bool) : AV := .sv (.bool r)
def Xha (r : Bool) : Xaw := []
theorem Xh3 {p0 r} (h : Xb4 p0 = some r) : AC Try.prog 74 [.agg [.sv (.int .i64 p0.Seq.Level), .sv (.int .i64 p0.Seq.Bits), .sv (.ints .i64 p0.Seq.Cols), .sv (.ints .i64 p0.Seq.Rows), .sv (.int .i64 p0.Par.Qp), .sv (.bool p0.Par.Large), .sv (.bool p0.Par.Exact), .sv (.bool p0.Par.Confined), .sv (.int .i64 p0.Rate.Qp), .sv (.int .i64 p0.Rate.Target), .sv (.int .i64 p0.Rate.Debt), .sv (.int .i64 p0.Frame), .sv (.int .i64 p0.Since), .sv (.int .i64 p0.Every), .sv (.int .i64 p0.Reach), .sv (.bool p0.Has), .sv (.int .i64 p0.Ref.Wide), .sv (.int .i64 p0.Ref.High), .sv (.str p0.Ref.Dots)]] [] (Xhb r) (Xha r) := by
 refine Xab hT Try.func74 rfl fun C hC => ?_
 unfold Xb4 at h
 refine Xaa ?_
 iterate 2 refine kO hT hC ?_
 refine Vc.nil (Xa8 ?_)
 refine kL [1] [16] [_] [_] ?_
 refine kA h (fun v1 => ([(35, .sv (.bool v1))], [])) (fun v1 h => ?_) fun v1 h => ?_
 refine Xag ?_
 iterate 2 refine kO hT hC ?_
 refine kC hC [] Try.call113 h (fun _ => Xjs) fun q2 h => ?_
 iterate 2 refine kO hT hC ?_
 refine kS h ?_ ?_ <;> intro b1 h
 iterate 4 refine kF hC b1 ?_
 refine kP hC true b1 ?_
 refine kO hT hC ?_
 iterate 4 refine kF hC rfl ?_
 iterate 2 refine kO hT hC ?_
 iterate 3 refine kF hC rfl ?_
 iterate 2 refine kO hT hC ?_
 iterate 8 refine kF hC rfl ?_
 refine kO hT hC ?_
 exact Vc.nil kM
 iterate 2 refine kI hT hC b1 ?_
 refine kE hC b1 [] Try.call114 h (fun _ => Xmk) fun q3 h => ?_
 refine kI hT hC b1 ?_
 refine kP hC false b1 ?_
 refine kO hT hC ?_
 refine kS h ?_ ?_ <;> intro b2 h
 iterate 2 refine kI hT hC (kn b2) ?_
 refine kE hC (kn b2) [] Try.call115 h (fun _ => Xkv) fun q4 h => ?_
 refine kI hT hC (kn b2) ?_
 refine kP hC false (kn b2) ?_
 refine kO hT hC ?_
 refine kS h ?_ ?_ <;> intro b3 h
 iterate 3 refine kI hT hC (kn b3) ?_
 refine kP hC false (kn b3) ?_
 refine kO hT hC ?_
 refine kS h ?_ ?_ <;> intro b4 h
 iterate 8 refine kF hC b4 ?_
 refine kP hC true b4 ?_
 exact Vc.nil kM
 iterate 6 refine kI hT hC b4 ?_
 refine kJ hT hC b4 h fun h => ?_
 refine kI hT hC b4 ?_
 refine kP hC false b4 ?_
 exact Vc.nil kM
 iterate 3 refine kF hC (kn b3) ?_
 refine kP hC true (kn b3) ?_
 refine kO hT hC ?_
 iterate 8 refine kF hC rfl ?_
 refine kO hT hC ?_
 exact Vc.nil kM
 iterate 4 refine kF hC (kn b2) ?_
 refine kP hC true (kn b2) ?_
 refine kO hT hC ?_
 iterate 3 refine kF hC rfl ?_
 iterate 2 refine kO hT hC ?_
 iterate 8 refine kF hC rfl ?_
 refine kO hT hC ?_
 exact Vc.nil kM
 refine kS h ?_ ?_ <;> intro b5 h
 refine kt b5 (Xaa ?_)
 refine kO hT hC ?_
 exact Vc.nil (Xac (Xal kR))
 refine kf b5 (Xad (Xaf (Xa8 ?_)))
 refine kL [1] [16] [_] [_] ?_
 refine kA h (fun v5 => ([(51, .sv (.bool v5))], [])) (fun v5 h => ?_) fun v5 h => ?_
 refine Xag ?_
 iterate 2 refine kO hT hC ?_
 refine kC hC [] Try.call48 h (fun _ => Xam) fun q6 h => ?_
 iterate 2 refine kO hT hC ?_
 refine kS h ?_ ?_ <;> intro b6 h
 iterate 2 refine kI hT hC (kn b6) ?_
 refine kE hC (kn b6) [] Try.call48 h (fun _ => Xam) fun q7 h => ?_
 refine kI hT hC (kn b6) ?_
 refine kP hC false (kn b6) ?_
 refine kO hT hC ?_
 refine kS h ?_ ?_ <;> intro b7 h
 iterate 2 refine kI hT hC (kn b7) ?_
 refine kE hC (kn b7) [] Try.call48 h (fun _ => Xam) fun q8 h => ?_
 refine kI hT hC (kn b7) ?_
 refine kP hC false (kn b7) ?_
 exact Vc.nil kM
 iterate 4 refine kF hC (kn b7) ?_
 refine kP hC true (kn b7) ?_
 exact Vc.nil kM
 iterate 4 refine kF hC (kn b6) ?_
 refine kP hC true (kn b6) ?_
 refine kO hT hC ?_
 iterate 4 refine kF hC rfl ?_
 refine kO hT hC ?_
 exact Vc.nil kM
 refine kS h ?_ ?_ <;> intro b8 h
 refine kt b8 (Xaa ?_)
 refine kO hT hC ?_
 exact Vc.nil (Xac (Xal kR))
 refine kf b8 (Xad (Xaf (Xaa ?_)))
 iterate 2 refine kO hT hC ?_
 refine kC hC [] Try.call116 h (fun _ => Xkz) fun q9 h => ?_
 iterate 5 refine kO hT hC ?_
 refine Vc.nil (Xa8 (Xaa ?_))
 iterate 2 refine kO hT hC ?_
 refine Vc.nil ?_
 refine kS h ?_ ?_ <;> intro b9 h
 refine kt b9 ?_
 refine kL [1,3,4] [16] [_,_,_] [_] ?_
 refine kA h (fun v10 => ([(2, .sv (.bool v10)), (1, .any), (3, .any), (4, .any)], [(16, none)])) (fun v10 h => ?_) fun v10 h => ?_
 refine Xag ?_
 iterate 2 refine kO hT hC ?_
 refine kC hC [] Try.call47 h (fun _ => Xmm) fun q11 h => ?_
 refine kO hT hC ?_
 refine kS h ?_ ?_ <;> intro b10 h
 iterate 5 refine kI hT hC b10 ?_
 refine kP hC true b10 ?_
 refine kO hT hC ?_
 refine kS h ?_ ?_ <;> intro b11 h
 iterate 5 refine kI hT hC b11 ?_
 refine kP hC true b11 ?_
 refine kO hT hC ?_
 exact Vc.nil kM
 iterate 5 refine kF hC b11 ?_
 refine kP hC false b11 ?_
 refine kO hT hC ?_
 exact Vc.nil kM
 iterate 5 refine kF hC b10 ?_
 refine kP hC false b10 ?_
 refine kO hT hC ?_
 iterate 5 refine kF hC rfl ?_
 iterate 2 refine kO hT hC ?_
 exact Vc.nil kM
 exact Xac (Xal kR)
 refine kf b9 (Xad (Xaf ?_))
 refine kL [1] [16] [_] [_] ?_
 refine kA h (fun v12 => ([(2, .sv (.bool v12)), (1, .any)], [(16, none)])) (fun v12 h => ?_) fun v12 h => ?_
 refine Xag ?_
 iterate 5 refine kO hT hC ?_
 refine kS h ?_ ?_ <;> intro b12 h
 iterate 4 refine kI hT hC b12 ?_
 refine kP hC true b12 ?_
 refine kO hT hC ?_
 refine kS h ?_ ?_ <;> intro b13 h
 iterate 5 refine kI hT hC b13 ?_
 refine kP hC true b13 ?_
 refine kO hT hC ?_
 exact Vc.nil kM
 iterate 5 refine kF hC b13 ?_
 refine kP hC false b13 ?_
 refine kO hT hC ?_
 exact Vc.nil kM
 iterate 4 refine kF hC b12 ?_
 refine kP hC false b12 ?_
 refine kO hT hC ?_
 iterate 5 refine kF hC rfl ?_
 iterate 2 refine kO hT hC ?_
 exact Vc.nil kM
 exact Xac kR
def Xgk (r : (Xau × Bool)) : AV := .tup [.agg [.sv (.int .i64 r.1.Seq.Level), .sv (.int .i64 r.1.Seq.Bits), .own 16, .own 17, .sv (.int .i64 r.1.Par.Qp), .sv (.bool r.1.Par.Large), .sv (.bool r.1.Par.Exact), .sv (.bool r.1.Par.Confined), .sv (.int .i64 r.1.Rate.Qp), .sv (.int .i64 r.1.Rate.Target), .sv (.int .i64 r.1.Rate.Debt), .sv (.int .i64 r.1.Frame), .sv (.int .i64 r.1.Since), .sv (.int .i64 r.1.Every), .sv (.int .i64 r.1.Reach), .sv (.bool r.1.Has), .sv (.int .i64 r.1.Ref.Wide), .sv (.int .i64 r.1.Ref.High), .sv (.str r.1.Ref.Dots)], .sv (.bool r.2)]
def Xgj (r : (Xau × Bool)) : Xaw := [(16, .ints .i64 r.1.Seq.Cols), (17, .ints .i64 r.1.Seq.Rows)]
theorem Xg9 {p0 p1 p2 p3 p4 p5 p6 r} (h : Xbn p0 p1 p2 p3 p4 p5 p6 = some r) : AC Try.prog 31 [.sv (.int .i64 p0), .sv (.int .i64 p1), .sv (.int .i64 p2), .agg [.sv (.int .i64 p3.Qp), .sv (.bool p3.Large), .sv (.bool p3.Exact), .sv (.bool p3.Confined)], .agg [.sv (.int .i64 p4.Qp), .sv (.int .i64 p4.Target), .sv (.int .i64 p4.Debt)], .sv (.int .i64 p5), .sv (.int .i64 p6)] [] (Xgk r) (Xgj r) := by
 refine Xab hT Try.func31 rfl fun C hC => ?_
 unfold Xbn at h
 refine Xaa ?_
 iterate 4 refine kO hT hC ?_
 refine kN ?_
 iterate 8 refine kO hT hC ?_
 refine kN ?_
 iterate 4 refine kO hT hC ?_
 refine kC hC [] Try.call73 h (fun _ => Xh1) fun q1 h => ?_
 iterate 2 refine kO hT hC ?_
 refine kN ?_
 iterate 8 refine kO hT hC ?_
 refine Vc.nil (Xa8 (Xaa ?_))
 refine kO hT hC ?_
 refine kC hC [] Try.call74 h (fun _ => Xh3) fun q2 h => ?_
 refine kO hT hC ?_
 refine Vc.nil ?_
 refine kS h ?_ ?_ <;> intro b1 h
 refine kt b1 (Xaa ?_)
 iterate 3 refine kO hT hC ?_
 refine Vc.nil (Xac (Xal ?_))
 obtain rfl := kj h
 refine Xn3 (τ := ⟨[(14, .ptr 2000000 0), (15, .sv (.bool false))], [(16, some (.ints .i64 [])), (17, some (.ints .i64 [])), (2000000, some (.box [.sv (.int .i64 0), .sv (.int .i64 0), .own 16, .own 17, .sv (.int .i64 0), .sv (.bool false), .sv (.bool false), .sv (.bool false), .sv (.int .i64 0), .sv (.int .i64 0), .sv (.int .i64 0), .sv (.int .i64 0), .sv (.int .i64 0), .sv (.int .i64 0), .sv (.int .i64 0), .sv (.bool false), .sv (.int .i64 0), .sv (.int .i64 0), .sv (.str ⟨#[]⟩)]))]⟩) ?_ rfl ⟨rfl, rfl, trivial⟩
 refine Xpb hC 224 2 673 (.ints .i64 []) rfl rfl rfl rfl rfl trivial ?_
 refine Xpb hC 224 3 674 (.ints .i64 []) rfl rfl rfl rfl rfl trivial ?_
 apply Xfq hC [(16, 673), (17, 674), (2000000, 224)]
 exact co
 rfl
 decide
 rfl
 refine kf b1 (Xad (Xaf (Xaa ?_)))
 iterate 3 refine kO hT hC ?_
 refine Vc.nil (Xac ?_)
 obtain rfl := kj h
 exact Xn3 (τ := ⟨[(14, .ptr 2000000 0), (15, .sv (.bool true))], [(16, some (.ints .i64 ([p0]))), (17, some (.ints .i64 ([p1]))), (2000000, some (.box [.sv (.int .i64 q1), .sv (.int .i64 p2), .own 16, .own 17, .sv (.int .i64 p3.Qp), .sv (.bool p3.Large), .sv (.bool p3.Exact), .sv (.bool p3.Confined), .sv (.int .i64 p4.Qp), .sv (.int .i64 p4.Target), .sv (.int .i64 p4.Debt), .sv (.int .i64 0), .sv (.int .i64 0), .sv (.int .i64 p5), .sv (.int .i64 p6), .sv (.bool false), .sv (.int .i64 0), .sv (.int .i64 0), .sv (.str ⟨#[]⟩)]))]⟩) (kW hC [(16, 320), (17, 352), (2000000, 224)]) rfl ⟨rfl, rfl, trivial⟩
def Xkd (r : Int) : AV := .sv (.int .i64 r)
def Xkc (r : Int) : Xaw := []
theorem Xc0 {p0 r} (h : Xbt p0 = some r) : AC Try.prog 164 [.sv (.ints .i64 p0)] [] (Xkd r) (Xkc r) := by
 refine Xab hT Try.func164 rfl fun C hC => ?_
 unfold Xbt at h
 refine Xaa ?_
 refine kO hT hC ?_
 refine kN ?_
 refine kO hT hC ?_
 refine Vc.nil (Xa8 (Xaa ?_))
 iterate 3 refine kO hT hC ?_
 refine Vc.nil ?_
 refine kL [3,6,7,8] [] [_,_,_,_] [] ?_
 refine kX h (fun v2 => ([(3, .sv (.int .i64 v2.1)), (8, .sv (.int .i64 v2.2))], [])) (fun v4 => ([(3, .sv (.int .i64 v4)), (6, .any), (7, .any), (8, .any)], [])) (kW hC []) (fun v2 s h => ?_) fun v4 h => ?_
 unfold Xb0 at h
 refine Xaa ?_
 refine kO hT hC ?_
 refine Vc.nil (Xa8 ?_)
 refine kS h ?_ ?_ <;> intro b3 h
 refine kt b3 (Xad (Xaf (Xa8 (Xdp (Xaa ?_)))))
 refine kQ hT hC h fun h => ?_
 iterate 2 refine kO hT hC ?_
 refine Vc.nil (Xag ?_)
 iterate 4 refine kO hT hC ?_
 refine Vc.nil (Xfk (Xaf (Xag ?_)))
 iterate 2 refine kO hT hC ?_
 exact Vc.nil kG
 exact kf b3 (Xea (Xgn ku))
 refine Xaf (Xaa ?_)
 iterate 2 refine kO hT hC ?_
 exact Vc.nil (Xac kR)
def Xbz (r : Int) : AV := .sv (.int .i64 r)
def Xby (r : Int) : Xaw := []
theorem Xg0 {p0 r} (h : Xbl p0 = some r) : AC Try.prog 151 [.agg [.sv (.int .i64 p0.Level), .sv (.int .i64 p0.Bits), .sv (.ints .i64 p0.Cols), .sv (.ints .i64 p0.Rows)]] [] (Xbz r) (Xby r) := by
 refine Xab hT Try.func151 rfl fun C hC => ?_
 unfold Xbl at h
 refine Xaa ?_
 iterate 2 refine kO hT hC ?_
 refine Vc.nil (Xa8 (Xaa ?_))
 iterate 7 refine kO hT hC ?_
 refine Vc.nil ?_
 refine kL [1,11,12,13] [16,176] [_,_,_,_] [_,_] ?_
 obtain ⟨o32, hl, h⟩ := Xbv h
 refine Xf2 (fun v11 => ([(13, .sv (.int .i64 v11))], [])) (fun v22 => ([(11, .any), (12, .any), (13, .any)], [(176, none)])) (fun r => Xlk C T Try.f151.results.toList (Xbz r) (Xby r)) hl ?_ ?_ ?_ ?_
 apply Xfq hC []
 exact co
 rfl
 decide
 rfl
 intro v11 s hs
 have h := hs
 unfold Xas at h
 refine Xaa ?_
 refine kO hT hC ?_
 refine Vc.nil (Xa8 ?_)
 refine kS h ?_ ?_ <;> intro b17 h
 refine kt b17 (Xad (Xaf (Xa8 (Xdp (Xaa ?_)))))
 iterate 2 refine kQ hT hC h fun h => ?_
 refine kO hT hC ?_
 refine Vc.nil (Xa8 (Xaa ?_))
 iterate 2 refine kO hT hC ?_
 refine kC hC [] Try.call52 h (fun _ => Xah) fun q23 h => ?_
 refine kO hT hC ?_
 refine Vc.nil ?_
 refine kS h ?_ ?_ <;> intro b18 h
 refine kt b18 (Xaa ?_)
 refine kO hT hC ?_
 refine Vc.nil (Xac (Xal (Xij (Xal ?_))))
 obtain rfl := kj h
 refine Xnm (Xni ?_)
 exact Xn3 (Xdh.refl _) rfl trivial
 refine kf b18 (Xad (Xaf (Xaa ?_)))
 iterate 3 refine kO hT hC ?_
 refine Vc.nil ?_
 refine kL [1,11,12,13,21,22,23] [16,176] [_,_,_,_,_,_,_] [_,_] ?_
 obtain ⟨o31, hl, h⟩ := Xbv h
 refine Xf2 (fun v26 => ([(23, .sv (.int .i64 v26))], [])) (fun v29 => ([(21, .any), (22, .any), (23, .any)], [])) (fun r => Xlk C T Try.f151.results.toList (Xbz r) (Xby r)) hl ?_ ?_ ?_ ?_
 apply Xfq hC []
 exact co
 rfl
 decide
 rfl
 intro v26 s hs
 have h := hs
 unfold Xan at h
 refine Xaa ?_
 refine kO hT hC ?_
 refine Vc.nil (Xa8 ?_)
 refine kS h ?_ ?_ <;> intro b23 h
 refine kt b23 (Xad (Xaf (Xa8 (Xdp (Xaa ?_)))))
 refine kQ hT hC h fun h => ?_
 iterate 2 refine kO hT hC ?_
 refine kN ?_
 refine kO hT hC ?_
 refine kC hC [] Try.call52 h (fun _ => Xah) fun q30 h => ?_
 refine kO hT hC ?_
 refine Vc.nil ?_
 refine kS h ?_ ?_ <;> intro b24 h
 refine kt b24 (Xaa ?_)
 refine kO hT hC ?_
 refine Vc.nil (Xac (Xij (Xal ?_)))
 obtain rfl := kj h
 refine Xnm (Xni ?_)
 exact Xn3 (Xdh.refl _) rfl trivial
 refine kf b24 (Xad (Xfk (Xaf (Xag ?_))))
 iterate 2 refine kO hT hC ?_
 exact Vc.nil kG
 exact kf b23 (Xea (Xgn kb))
 intro v29 e
 subst e
 refine Xfk (Xaf (Xag ?_))
 iterate 2 refine kO hT hC ?_
 exact Vc.nil kG
 intro r' σ' e hE
 subst e
 obtain rfl := kj h
 refine Xij (Xal (Xnm (Xni ?_)))
 exact hE
 exact kf b17 (Xea (Xgn kb))
 intro v22 e
 subst e
 refine Xaf ?_
 refine Xhm hm ?_
 iterate 2 refine kO hT hC ?_
 refine kC hC [] Try.call164 h (fun _ => Xc0) fun q33 h => ?_
 iterate 2 refine kO hT hC ?_
 refine kC hC [] Try.call164 h (fun _ => Xc0) fun q34 h => ?_
 iterate 2 refine kO hT hC ?_
 exact kD (Xac kR)
 intro r' σ' e hE
 subst e
 obtain rfl := kj h
 refine Xal ?_
 exact hE
def Xey (r : Int) : AV := .sv (.int .i64 r)
def Xex (r : Int) : Xaw := []
theorem Xff {p0 r} (h : Xa0 p0 = some r) : AC Try.prog 152 [.sv (.int .i64 p0)] [] (Xey r) (Xex r) := by
 refine Xab hT Try.func152 rfl fun C hC => ?_
 unfold Xa0 at h
 refine Xaa ?_
 refine kO hT hC ?_
 refine Vc.nil (Xa8 (Xaa ?_))
 refine kO hT hC ?_
 refine kC hC [] Try.call52 h (fun _ => Xah) fun q1 h => ?_
 refine kO hT hC ?_
 refine Vc.nil ?_
 refine kS h ?_ ?_ <;> intro b1 h
 refine kt b1 (Xaa ?_)
 refine kO hT hC ?_
 exact Vc.nil (Xac (Xal kR))
 refine kf b1 (Xad (Xaf (Xaa ?_)))
 iterate 3 refine kO hT hC ?_
 iterate 2 refine kQ hT hC h fun h => ?_
 refine kO hT hC ?_
 exact Vc.nil (Xac kR)
def Xj9 (r : Bool) : AV := .sv (.bool r)
def Xj8 (r : Bool) : Xaw := []
theorem Xee {p0 r} (h : Xb6 p0 = some r) : AC Try.prog 117 [.agg [.sv (.int .i64 p0.Level), .sv (.int .i64 p0.Bits), .sv (.ints .i64 p0.Cols), .sv (.ints .i64 p0.Rows)]] [] (Xj9 r) (Xj8 r) := by
 refine Xab hT Try.func117 rfl fun C hC => ?_
 unfold Xb6 at h
 refine Xaa ?_
 iterate 2 refine kO hT hC ?_
 refine Vc.nil ?_
 refine kL [1,2] [16] [_,_] [_] ?_
 refine kA h (fun v1 => ([(2, .sv (.bool v1)), (1, .any)], [(16, none)])) (fun v1 h => ?_) fun v1 h => ?_
 refine Xlo hm ?_
 refine kO hT hC ?_
 refine kC hC [] Try.call151 h (fun _ => Xg0) fun q2 h => ?_
 iterate 2 refine kO hT hC ?_
 refine kC hC [] Try.call152 h (fun _ => Xff) fun q3 h => ?_
 refine kC hC [] Try.call52 h (fun _ => Xah) fun q4 h => ?_
 refine kO hT hC ?_
 refine kS h ?_ ?_ <;> intro b1 h
 iterate 2 refine kI hT hC b1 ?_
 refine kE hC b1 [] Try.call52 h (fun _ => Xah) fun q5 h => ?_
 refine kP hC true b1 ?_
 refine kO hT hC ?_
 exact kD kM
 iterate 3 refine kF hC b1 ?_
 refine kP hC false b1 ?_
 refine kO hT hC ?_
 exact kD kM
 exact Xac kR
def Xdt (r : Int) : AV := .sv (.int .i64 r)
def Xds (r : Int) : Xaw := []
theorem Xho {p0 p1 r} (h : Xbw p0 p1 = some r) : AC Try.prog 75 [.sv (.ints .i64 p0), .sv (.ints .i64 p1)] [] (Xdt r) (Xds r) := by
 refine Xab hT Try.func75 rfl fun C hC => ?_
 unfold Xbw at h
 refine Xaa ?_
 refine kO hT hC ?_
 refine Vc.nil (Xa8 (Xaa ?_))
 refine kO hT hC ?_
 refine Vc.nil ?_
 refine kL [0,1,5] [] [_,_,_] [] ?_
 obtain ⟨o8, hl, h⟩ := Xbv h
 refine Xf2 (fun v3 => ([(5, .sv (.int .i64 v3))], [])) (fun v6 => ([(0, .any), (1, .any), (5, .any)], [])) (fun r => Xlk C T Try.f75.results.toList (Xdt r) (Xds r)) hl ?_ ?_ ?_ ?_
 apply Xfq hC []
 exact co
 rfl
 decide
 rfl
 intro v3 s hs
 have h := hs
 unfold Xbp at h
 refine Xa8 (Xaa ?_)
 iterate 2 refine kO hT hC ?_
 refine Vc.nil ?_
 refine kS h ?_ ?_ <;> intro b5 h
 refine kt b5 (Xad (Xaf (Xa8 (Xdp (Xaa ?_)))))
 iterate 4 refine kO hT hC ?_
 refine kC hC [] Try.call117 h (fun _ => Xee) fun q7 h => ?_
 refine Vc.nil ?_
 refine kS h ?_ ?_ <;> intro b6 h
 refine kt b6 (Xaa ?_)
 iterate 2 refine kO hT hC ?_
 refine Vc.nil (Xac (Xij (Xal ?_)))
 obtain rfl := kj h
 refine Xnm (Xni ?_)
 exact Xn3 (Xdh.refl _) rfl trivial
 refine kf b6 (Xad (Xfk (Xaf (Xag ?_))))
 iterate 3 refine kO hT hC ?_
 exact Vc.nil kG
 exact kf b5 (Xea (Xgn kb))
 intro v6 e
 subst e
 refine Xaf (Xaa ?_)
 refine kO hT hC ?_
 exact Vc.nil (Xac kR)
 intro r' σ' e hE
 subst e
 obtain rfl := kj h
 refine Xal ?_
 exact hE
def Xht (r : Int) : AV := .sv (.int .i64 r)
def Xhs (r : Int) : Xaw := []
theorem Xit {p0 r} (h : Xck p0 = some r) : AC Try.prog 118 [.agg [.sv (.int .i64 p0.Level), .sv (.int .i64 p0.Bits), .sv (.ints .i64 p0.Cols), .sv (.ints .i64 p0.Rows)]] [] (Xht r) (Xhs r) := by
 refine Xab hT Try.func118 rfl fun C hC => ?_
 unfold Xck at h
 refine Xaa ?_
 iterate 2 refine kO hT hC ?_
 refine Vc.nil (Xa8 (Xaa ?_))
 refine kO hT hC ?_
 refine kC hC [] Try.call117 h (fun _ => Xee) fun q1 h => ?_
 refine kO hT hC ?_
 refine Vc.nil ?_
 refine kS h ?_ ?_ <;> intro b1 h
 refine kt b1 (Xaa ?_)
 refine kO hT hC ?_
 exact Vc.nil (Xac (Xal kR))
 refine kf b1 (Xad (Xaf (Xaa ?_)))
 iterate 8 refine kO hT hC ?_
 exact Vc.nil (Xac kR)
def Xj3 (r : Bool) : AV := .sv (.bool r)
def Xj2 (r : Bool) : Xaw := []
theorem Xls {p0 r} (h : Xdu p0 = some r) : AC Try.prog 119 [.agg [.sv (.int .i64 p0.Qp), .sv (.bool p0.Large), .sv (.bool p0.Exact), .sv (.bool p0.Confined)]] [] (Xj3 r) (Xj2 r) := by
 refine Xab hT Try.func119 rfl fun C hC => ?_
 unfold Xdu at h
 refine Xaa ?_
 iterate 2 refine kO hT hC ?_
 refine Vc.nil ?_
 refine kL [1,2] [16] [_,_] [_] ?_
 refine kA h (fun v1 => ([(2, .sv (.bool v1)), (1, .any)], [(16, none)])) (fun v1 h => ?_) fun v1 h => ?_
 refine Xag ?_
 iterate 2 refine kO hT hC ?_
 refine kC hC [] Try.call52 h (fun _ => Xah) fun q2 h => ?_
 refine kO hT hC ?_
 refine kS h ?_ ?_ <;> intro b1 h
 iterate 3 refine kI hT hC b1 ?_
 refine kS h ?_ ?_ <;> intro b2 h
 iterate 2 refine kI hT hC b2 ?_
 refine Xgo hC rfl rfl rfl rfl b1 rfl rfl (b := true) b2 rfl rfl rfl trivial ?_
 refine kI hT hC b1 ?_
 refine kP hC true b1 ?_
 refine kO hT hC ?_
 exact Vc.nil kM
 iterate 2 refine kF hC b2 ?_
 refine Xgo hC rfl rfl rfl rfl b1 rfl rfl (b := false) b2 rfl rfl rfl trivial ?_
 refine kI hT hC b1 ?_
 refine kP hC true b1 ?_
 refine kO hT hC ?_
 exact Vc.nil kM
 iterate 3 refine kF hC b1 ?_
 iterate 2 refine Xr8 hC rfl rfl rfl rfl rfl rfl ?_
 iterate 2 refine kF hC b1 ?_
 refine kP hC false b1 ?_
 refine kO hT hC ?_
 exact Vc.nil kM
 exact Xac kR
def Xiq (r : Bool) : AV := .sv (.bool r)
def Xip (r : Bool) : Xaw := []
theorem Xj6 {p0 r} (h : Xc6 p0 = some r) : AC Try.prog 120 [.agg [.sv (.int .i64 p0.Qp), .sv (.int .i64 p0.Target), .sv (.int .i64 p0.Debt)]] [] (Xiq r) (Xip r) := by
 refine Xab hT Try.func120 rfl fun C hC => ?_
 unfold Xc6 at h
 refine Xaa ?_
 iterate 2 refine kO hT hC ?_
 refine Vc.nil ?_
 refine kL [1,2] [16] [_,_] [_] ?_
 refine kA h (fun v1 => ([(2, .sv (.bool v1)), (1, .any)], [(16, none)])) (fun v1 h => ?_) fun v1 h => ?_
 refine Xag ?_
 iterate 2 refine kO hT hC ?_
 refine kC hC [] Try.call52 h (fun _ => Xah) fun q2 h => ?_
 refine kO hT hC ?_
 refine kS h ?_ ?_ <;> intro b1 h
 iterate 2 refine kI hT hC b1 ?_
 refine kE hC b1 [] Try.call52 h (fun _ => Xah) fun q3 h => ?_
 refine kP hC true b1 ?_
 refine kO hT hC ?_
 refine kS h ?_ ?_ <;> intro b2 h
 iterate 8 refine kI hT hC b2 ?_
 refine kE hC b2 [] Try.call52 h (fun _ => Xah) fun q4 h => ?_
 refine kP hC true b2 ?_
 refine kO hT hC ?_
 exact Vc.nil kM
 iterate 9 refine kF hC b2 ?_
 refine kP hC false b2 ?_
 refine kO hT hC ?_
 exact Vc.nil kM
 iterate 3 refine kF hC b1 ?_
 refine kP hC false b1 ?_
 refine kO hT hC ?_
 iterate 9 refine kF hC rfl ?_
 iterate 2 refine kO hT hC ?_
 exact Vc.nil kM
 exact Xac kR
def Xis (r : (Int × Int)) : AV := .tup [.sv (.int .i64 r.1), .sv (.int .i64 r.2)]
def Xir (r : (Int × Int)) : Xaw := []
theorem Xka {p0 r} (h : Xc7 p0 = some r) : AC Try.prog 153 [.agg [.sv (.int .i64 p0.Level), .sv (.int .i64 p0.Bits), .sv (.ints .i64 p0.Cols), .sv (.ints .i64 p0.Rows)]] [] (Xis r) (Xir r) := by
 refine Xab hT Try.func153 rfl fun C hC => ?_
 unfold Xc7 at h
 refine Xaa ?_
 iterate 3 refine kO hT hC ?_
 refine Vc.nil (Xa8 (Xaa ?_))
 refine kO hT hC ?_
 refine kC hC [] Try.call117 h (fun _ => Xee) fun q1 h => ?_
 refine kO hT hC ?_
 refine Vc.nil ?_
 refine kS h ?_ ?_ <;> intro b1 h
 refine kt b1 (Xaa ?_)
 iterate 2 refine kO hT hC ?_
 exact Vc.nil (Xac (Xal kR))
 refine kf b1 (Xad (Xaf ?_))
 refine Xhm hm ?_
 iterate 2 refine kO hT hC ?_
 refine kC hC [] Try.call164 h (fun _ => Xc0) fun q2 h => ?_
 iterate 3 refine kO hT hC ?_
 refine kC hC [] Try.call164 h (fun _ => Xc0) fun q3 h => ?_
 iterate 3 refine kO hT hC ?_
 exact kD (Xac kR)
def Xlx (r : Bool) : AV := .sv (.bool r)
def Xlw (r : Bool) : Xaw := []
theorem Xm7 {p0 p1 r} (h : Xez p0 p1 = some r) : AC Try.prog 121 [.agg [.sv (.int .i64 p0.Wide), .sv (.int .i64 p0.High), .sv (.str p0.Dots)], .agg [.sv (.int .i64 p1.Level), .sv (.int .i64 p1.Bits), .sv (.ints .i64 p1.Cols), .sv (.ints .i64 p1.Rows)]] [] (Xlx r) (Xlw r) := by
 refine Xab hT Try.func121 rfl fun C hC => ?_
 unfold Xez at h
 refine Xaa ?_
 iterate 3 refine kO hT hC ?_
 refine kN ?_
 refine kO hT hC ?_
 refine kC hC [] Try.call153 h (fun _ => Xka) fun q1 h => ?_
 iterate 5 refine kO hT hC ?_
 refine Vc.nil ?_
 refine kL [2,4,5,6] [32] [_,_,_,_] [_] ?_
 refine kA h (fun v2 => ([(4, .sv (.bool v2)), (2, .any), (5, .any), (6, .any)], [(32, none)])) (fun v2 h => ?_) fun v2 h => ?_
 refine Xag ?_
 refine kO hT hC ?_
 refine kC hC [] Try.call50 h (fun _ => Xlu) fun q3 h => ?_
 refine kO hT hC ?_
 refine kS h ?_ ?_ <;> intro b1 h
 iterate 4 refine kI hT hC b1 ?_
 refine kP hC true b1 ?_
 refine kO hT hC ?_
 refine kS h ?_ ?_ <;> intro b2 h
 iterate 4 refine kI hT hC b2 ?_
 refine kP hC true b2 ?_
 refine kO hT hC ?_
 exact Vc.nil kM
 iterate 4 refine kF hC b2 ?_
 refine kP hC false b2 ?_
 refine kO hT hC ?_
 exact Vc.nil kM
 iterate 4 refine kF hC b1 ?_
 refine kP hC false b1 ?_
 refine kO hT hC ?_
 iterate 4 refine kF hC rfl ?_
 iterate 2 refine kO hT hC ?_
 exact Vc.nil kM
 exact Xac kR
def Xgz (r : Bool) : AV := .sv (.bool r)
def Xgy (r : Bool) : Xaw := []
theorem Xhq {p0 r} (h : Xbx p0 = some r) : AC Try.prog 76 [.agg [.sv (.int .i64 p0.Seq.Level), .sv (.int .i64 p0.Seq.Bits), .sv (.ints .i64 p0.Seq.Cols), .sv (.ints .i64 p0.Seq.Rows), .sv (.int .i64 p0.Par.Qp), .sv (.bool p0.Par.Large), .sv (.bool p0.Par.Exact), .sv (.bool p0.Par.Confined), .sv (.int .i64 p0.Rate.Qp), .sv (.int .i64 p0.Rate.Target), .sv (.int .i64 p0.Rate.Debt), .sv (.int .i64 p0.Frame), .sv (.int .i64 p0.Since), .sv (.int .i64 p0.Every), .sv (.int .i64 p0.Reach), .sv (.bool p0.Has), .sv (.int .i64 p0.Ref.Wide), .sv (.int .i64 p0.Ref.High), .sv (.str p0.Ref.Dots)]] [] (Xgz r) (Xgy r) := by
 refine Xab hT Try.func76 rfl fun C hC => ?_
 unfold Xbx at h
 refine Xaa ?_
 iterate 2 refine kO hT hC ?_
 refine Vc.nil (Xa8 ?_)
 refine kL [1] [16] [_] [_] ?_
 refine kA h (fun v1 => ([(47, .sv (.bool v1))], [])) (fun v1 h => ?_) fun v1 h => ?_
 refine Xlo hm ?_
 iterate 2 refine kO hT hC ?_
 refine kC hC [] Try.call118 h (fun _ => Xit) fun q2 h => ?_
 iterate 2 refine kO hT hC ?_
 refine kS h ?_ ?_ <;> intro b1 h
 iterate 4 refine kF hC b1 ?_
 refine kP hC true b1 ?_
 refine kO hT hC ?_
 iterate 4 refine kF hC rfl ?_
 iterate 2 refine kO hT hC ?_
 iterate 9 refine kF hC rfl ?_
 iterate 2 refine kO hT hC ?_
 iterate 4 refine kF hC rfl ?_
 iterate 2 refine kO hT hC ?_
 iterate 4 refine kF hC rfl ?_
 iterate 2 refine kO hT hC ?_
 iterate 4 refine kF hC rfl ?_
 refine kO hT hC ?_
 exact kD kM
 iterate 2 refine kI hT hC b1 ?_
 refine kE hC b1 [] Try.call119 h (fun _ => Xls) fun q3 h => ?_
 refine kI hT hC b1 ?_
 refine kP hC false b1 ?_
 refine kO hT hC ?_
 refine kS h ?_ ?_ <;> intro b2 h
 iterate 2 refine kI hT hC (kn b2) ?_
 refine kE hC (kn b2) [] Try.call120 h (fun _ => Xj6) fun q4 h => ?_
 refine kI hT hC (kn b2) ?_
 refine kP hC false (kn b2) ?_
 refine kO hT hC ?_
 refine kS h ?_ ?_ <;> intro b3 h
 iterate 5 refine kI hT hC (kn b3) ?_
 refine kJ hT hC (kn b3) h fun h => ?_
 refine kI hT hC (kn b3) ?_
 refine kE hC (kn b3) [] Try.call52 h (fun _ => Xah) fun q5 h => ?_
 refine kI hT hC (kn b3) ?_
 refine kP hC false (kn b3) ?_
 refine kO hT hC ?_
 refine kS h ?_ ?_ <;> intro b4 h
 iterate 2 refine kI hT hC (kn b4) ?_
 refine kE hC (kn b4) [] Try.call52 h (fun _ => Xah) fun q6 h => ?_
 refine kI hT hC (kn b4) ?_
 refine kP hC false (kn b4) ?_
 refine kO hT hC ?_
 refine kS h ?_ ?_ <;> intro b5 h
 iterate 2 refine kI hT hC (kn b5) ?_
 refine kE hC (kn b5) [] Try.call52 h (fun _ => Xah) fun q7 h => ?_
 refine kI hT hC (kn b5) ?_
 refine kP hC false (kn b5) ?_
 refine kO hT hC ?_
 refine kS h ?_ ?_ <;> intro b6 h
 iterate 2 refine kI hT hC (kn b6) ?_
 refine kE hC (kn b6) [] Try.call52 h (fun _ => Xah) fun q8 h => ?_
 refine kI hT hC (kn b6) ?_
 refine kP hC false (kn b6) ?_
 exact kD kM
 iterate 4 refine kF hC (kn b6) ?_
 refine kP hC true (kn b6) ?_
 exact kD kM
 iterate 4 refine kF hC (kn b5) ?_
 refine kP hC true (kn b5) ?_
 refine kO hT hC ?_
 iterate 4 refine kF hC rfl ?_
 refine kO hT hC ?_
 exact kD kM
 iterate 4 refine kF hC (kn b4) ?_
 refine kP hC true (kn b4) ?_
 refine kO hT hC ?_
 iterate 4 refine kF hC rfl ?_
 iterate 2 refine kO hT hC ?_
 iterate 4 refine kF hC rfl ?_
 refine kO hT hC ?_
 exact kD kM
 iterate 9 refine kF hC (kn b3) ?_
 refine kP hC true (kn b3) ?_
 refine kO hT hC ?_
 iterate 4 refine kF hC rfl ?_
 iterate 2 refine kO hT hC ?_
 iterate 4 refine kF hC rfl ?_
 iterate 2 refine kO hT hC ?_
 iterate 4 refine kF hC rfl ?_
 refine kO hT hC ?_
 exact kD kM
 iterate 4 refine kF hC (kn b2) ?_
 refine kP hC true (kn b2) ?_
 refine kO hT hC ?_
 iterate 9 refine kF hC rfl ?_
 iterate 2 refine kO hT hC ?_
 iterate 4 refine kF hC rfl ?_
 iterate 2 refine kO hT hC ?_
 iterate 4 refine kF hC rfl ?_
 iterate 2 refine kO hT hC ?_
 iterate 4 refine kF hC rfl ?_
 refine kO hT hC ?_
 exact kD kM
 refine kS h ?_ ?_ <;> intro b7 h
 refine kt b7 (Xaa ?_)
 refine kO hT hC ?_
 exact Vc.nil (Xac (Xal kR))
 refine kf b7 (Xad (Xaf (Xa8 (Xaa ?_))))
 iterate 2 refine kO hT hC ?_
 refine Vc.nil ?_
 refine kS h ?_ ?_ <;> intro b8 h
 refine kt b8 (Xaa ?_)
 iterate 4 refine kO hT hC ?_
 refine kC hC [] Try.call121 h (fun _ => Xm7) fun q9 h => ?_
 refine kO hT hC ?_
 exact Vc.nil (Xac (Xal kR))
 refine kf b8 (Xad (Xaf (Xaa ?_)))
 iterate 3 refine kO hT hC ?_
 refine Xul hC rfl rfl rfl rfl Xs9 rfl rfl ?_
 refine kO hT hC ?_
 exact Vc.nil (Xac kR)
def Xgb (r : (Xau × Bool)) : AV := .tup [.agg [.sv (.int .i64 r.1.Seq.Level), .sv (.int .i64 r.1.Seq.Bits), .own 16, .own 17, .sv (.int .i64 r.1.Par.Qp), .sv (.bool r.1.Par.Large), .sv (.bool r.1.Par.Exact), .sv (.bool r.1.Par.Confined), .sv (.int .i64 r.1.Rate.Qp), .sv (.int .i64 r.1.Rate.Target), .sv (.int .i64 r.1.Rate.Debt), .sv (.int .i64 r.1.Frame), .sv (.int .i64 r.1.Since), .sv (.int .i64 r.1.Every), .sv (.int .i64 r.1.Reach), .sv (.bool r.1.Has), .sv (.int .i64 r.1.Ref.Wide), .sv (.int .i64 r.1.Ref.High), .sv (.str r.1.Ref.Dots)], .sv (.bool r.2)]
def Xga (r : (Xau × Bool)) : Xaw := [(16, .ints .i64 r.1.Seq.Cols), (17, .ints .i64 r.1.Seq.Rows)]
theorem Xdw {p0 p1 p2 p3 p4 p5 p6 r} (h : Xa7 p0 p1 p2 p3 p4 p5 p6 = some r) : AC Try.prog 34 [.sv (.int .i64 p0), .sv (.int .i64 p1), .sv (.int .i64 p2), .agg [.sv (.int .i64 p3.Qp), .sv (.bool p3.Large), .sv (.bool p3.Exact), .sv (.bool p3.Confined)], .agg [.sv (.int .i64 p4.Qp), .sv (.int .i64 p4.Target), .sv (.int .i64 p4.Debt)], .sv (.int .i64 p5), .sv (.int .i64 p6)] [] (Xgb r) (Xga r) := by
 refine Xab hT Try.func34 rfl fun C hC => ?_
 unfold Xa7 at h
 refine Xaa ?_
 iterate 4 refine kO hT hC ?_
 refine kN ?_
 iterate 8 refine kO hT hC ?_
 refine kN ?_
 iterate 4 refine kO hT hC ?_
 refine kC hC [] Try.call75 h (fun _ => Xho) fun q1 h => ?_
 iterate 2 refine kO hT hC ?_
 refine kN ?_
 iterate 8 refine kO hT hC ?_
 refine Vc.nil (Xa8 (Xaa ?_))
 refine kO hT hC ?_
 refine kC hC [] Try.call76 h (fun _ => Xhq) fun q2 h => ?_
 refine kO hT hC ?_
 refine Vc.nil ?_
 refine kS h ?_ ?_ <;> intro b1 h
 refine kt b1 (Xaa ?_)
 iterate 3 refine kO hT hC ?_
 refine Vc.nil (Xac (Xal ?_))
 obtain rfl := kj h
 refine Xn3 (τ := ⟨[(14, .ptr 2000000 0), (15, .sv (.bool false))], [(16, some (.ints .i64 [])), (17, some (.ints .i64 [])), (2000000, some (.box [.sv (.int .i64 0), .sv (.int .i64 0), .own 16, .own 17, .sv (.int .i64 0), .sv (.bool false), .sv (.bool false), .sv (.bool false), .sv (.int .i64 0), .sv (.int .i64 0), .sv (.int .i64 0), .sv (.int .i64 0), .sv (.int .i64 0), .sv (.int .i64 0), .sv (.int .i64 0), .sv (.bool false), .sv (.int .i64 0), .sv (.int .i64 0), .sv (.str ⟨#[]⟩)]))]⟩) ?_ rfl ⟨rfl, rfl, trivial⟩
 refine Xpb hC 224 2 673 (.ints .i64 []) rfl rfl rfl rfl rfl trivial ?_
 refine Xpb hC 224 3 674 (.ints .i64 []) rfl rfl rfl rfl rfl trivial ?_
 apply Xfq hC [(16, 673), (17, 674), (2000000, 224)]
 exact co
 rfl
 decide
 rfl
 refine kf b1 (Xad (Xaf (Xaa ?_)))
 iterate 3 refine kO hT hC ?_
 refine Vc.nil (Xac ?_)
 obtain rfl := kj h
 exact Xn3 (τ := ⟨[(14, .ptr 2000000 0), (15, .sv (.bool true))], [(16, some (.ints .i64 ([p0]))), (17, some (.ints .i64 ([p1]))), (2000000, some (.box [.sv (.int .i64 q1), .sv (.int .i64 p2), .own 16, .own 17, .sv (.int .i64 p3.Qp), .sv (.bool p3.Large), .sv (.bool p3.Exact), .sv (.bool p3.Confined), .sv (.int .i64 p4.Qp), .sv (.int .i64 p4.Target), .sv (.int .i64 p4.Debt), .sv (.int .i64 0), .sv (.int .i64 0), .sv (.int .i64 p5), .sv (.int .i64 p6), .sv (.bool false), .sv (.int .i64 0), .sv (.int .i64 0), .sv (.str ⟨#[]⟩)]))]⟩) (kW hC [(16, 320), (17, 352), (2000000, 224)]) rfl ⟨rfl, rfl, trivial⟩
def Xkk (r : Bool) : AV := .sv (.bool r)
def Xkj (r : Bool) : Xaw := []
theorem Xl4 {p0 p1 r} (h : Xd1 p0 p1 = some r) : AC Try.prog 77 [.agg [.sv (.int .i64 p0.Level), .sv (.int .i64 p0.Bits), .sv (.ints .i64 p0.Cols), .sv (.ints .i64 p0.Rows)], .agg [.sv (.int .i64 p1.Level), .sv (.int .i64 p1.Bits), .sv (.ints .i64 p1.Cols), .sv (.ints .i64 p1.Rows)]] [] (Xkk r) (Xkj r) := by
 refine Xab hT Try.func77 rfl fun C hC => ?_
 unfold Xd1 at h
 refine Xaa ?_
 iterate 3 refine kO hT hC ?_
 refine Vc.nil (Xa8 (Xaa ?_))
 iterate 5 refine kO hT hC ?_
 refine Vc.nil ?_
 refine kS h ?_ ?_ <;> intro b1 h
 refine kt b1 (Xaa ?_)
 refine kO hT hC ?_
 exact Vc.nil (Xac (Xal kR))
 refine kf b1 (Xad (Xaf (Xa8 (Xaa ?_))))
 iterate 5 refine kO hT hC ?_
 refine Vc.nil ?_
 refine kS h ?_ ?_ <;> intro b2 h
 refine kt b2 (Xaa ?_)
 refine kO hT hC ?_
 exact Vc.nil (Xac (Xal kR))
 refine kf b2 (Xad (Xaf (Xa8 (Xaa ?_))))
 iterate 4 refine kO hT hC ?_
 refine kC hC [] Try.call111 h (fun _ => Xfl) fun q1 h => ?_
 refine kO hT hC ?_
 refine Vc.nil ?_
 refine kS h ?_ ?_ <;> intro b3 h
 refine kt b3 (Xaa ?_)
 refine kO hT hC ?_
 exact Vc.nil (Xac (Xal kR))
 refine kf b3 (Xad (Xaf (Xa8 (Xaa ?_))))
 iterate 4 refine kO hT hC ?_
 refine kC hC [] Try.call111 h (fun _ => Xfl) fun q2 h => ?_
 refine kO hT hC ?_
 refine Vc.nil ?_
 refine kS h ?_ ?_ <;> intro b4 h
 refine kt b4 (Xaa ?_)
 refine kO hT hC ?_
 exact Vc.nil (Xac (Xal kR))
 refine kf b4 (Xad (Xaf (Xaa ?_)))
 refine kO hT hC ?_
 exact Vc.nil (Xac kR)
def Xkf (r : Bool) : AV := .sv (.bool r)
def Xke (r : Bool) : Xaw := []
theorem Xl2 {p0 p1 r} (h : Xdz p0 p1 = some r) : AC Try.prog 78 [.agg [.sv (.int .i64 p0.Qp), .sv (.bool p0.Large), .sv (.bool p0.Exact), .sv (.bool p0.Confined)], .agg [.sv (.int .i64 p1.Qp), .sv (.bool p1.Large), .sv (.bool p1.Exact), .sv (.bool p1.Confined)]] [] (Xkf r) (Xke r) := by
 refine Xab hT Try.func78 rfl fun C hC => ?_
 unfold Xdz at h
 refine Xaa ?_
 iterate 3 refine kO hT hC ?_
 refine Vc.nil (Xa8 (Xaa ?_))
 iterate 5 refine kO hT hC ?_
 refine Vc.nil ?_
 refine kS h ?_ ?_ <;> intro b1 h
 refine kt b1 (Xaa ?_)
 refine kO hT hC ?_
 exact Vc.nil (Xac (Xal kR))
 refine kf b1 (Xad (Xaf (Xa8 (Xaa ?_))))
 iterate 5 refine kO hT hC ?_
 refine Vc.nil ?_
 refine kS h ?_ ?_ <;> intro b2 h
 refine kt b2 (Xaa ?_)
 refine kO hT hC ?_
 exact Vc.nil (Xac (Xal kR))
 refine kf b2 (Xad (Xaf (Xa8 (Xaa ?_))))
 iterate 5 refine kO hT hC ?_
 refine Vc.nil ?_
 refine kS h ?_ ?_ <;> intro b3 h
 refine kt b3 (Xaa ?_)
 refine kO hT hC ?_
 exact Vc.nil (Xac (Xal kR))
 refine kf b3 (Xad (Xaf (Xa8 (Xaa ?_))))
 iterate 5 refine kO hT hC ?_
 refine Vc.nil ?_
 refine kS h ?_ ?_ <;> intro b4 h
 refine kt b4 (Xaa ?_)
 refine kO hT hC ?_
 exact Vc.nil (Xac (Xal kR))
 refine kf b4 (Xad (Xaf (Xaa ?_)))
 refine kO hT hC ?_
 exact Vc.nil (Xac kR)
def Xi0 (r : Bool) : AV := .sv (.bool r)
def Xiz (r : Bool) : Xaw := []
theorem Xki {p0 p1 r} (h : Xc8 p0 p1 = some r) : AC Try.prog 79 [.agg [.sv (.int .i64 p0.Qp), .sv (.int .i64 p0.Target), .sv (.int .i64 p0.Debt)], .agg [.sv (.int .i64 p1.Qp), .sv (.int .i64 p1.Target), .sv (.int .i64 p1.Debt)]] [] (Xi0 r) (Xiz r) := by
 refine Xab hT Try.func79 rfl fun C hC => ?_
 unfold Xc8 at h
 refine Xaa ?_
 iterate 3 refine kO hT hC ?_
 refine Vc.nil (Xa8 (Xaa ?_))
 iterate 5 refine kO hT hC ?_
 refine Vc.nil ?_
 refine kS h ?_ ?_ <;> intro b1 h
 refine kt b1 (Xaa ?_)
 refine kO hT hC ?_
 exact Vc.nil (Xac (Xal kR))
 refine kf b1 (Xad (Xaf (Xa8 (Xaa ?_))))
 iterate 5 refine kO hT hC ?_
 refine Vc.nil ?_
 refine kS h ?_ ?_ <;> intro b2 h
 refine kt b2 (Xaa ?_)
 refine kO hT hC ?_
 exact Vc.nil (Xac (Xal kR))
 refine kf b2 (Xad (Xaf (Xa8 (Xaa ?_))))
 iterate 5 refine kO hT hC ?_
 refine Vc.nil ?_
 refine kS h ?_ ?_ <;> intro b3 h
 refine kt b3 (Xaa ?_)
 refine kO hT hC ?_
 exact Vc.nil (Xac (Xal kR))
 refine kf b3 (Xad (Xaf (Xaa ?_)))
 refine kO hT hC ?_
 exact Vc.nil (Xac kR)
def Xkh (r : Bool) : AV := .sv (.bool r)
def Xkg (r : Bool) : Xaw := []
theorem Xl3 {p0 p1 r} (h : Xd0 p0 p1 = some r) : AC Try.prog 80 [.agg [.sv (.int .i64 p0.Wide), .sv (.int .i64 p0.High), .sv (.str p0.Dots)], .agg [.sv (.int .i64 p1.Wide), .sv (.int .i64 p1.High), .sv (.str p1.Dots)]] [] (Xkh r) (Xkg r) := by
 refine Xab hT Try.func80 rfl fun C hC => ?_
 unfold Xd0 at h
 refine Xaa ?_
 iterate 3 refine kO hT hC ?_
 refine Vc.nil (Xa8 (Xaa ?_))
 iterate 5 refine kO hT hC ?_
 refine Vc.nil ?_
 refine kS h ?_ ?_ <;> intro b1 h
 refine kt b1 (Xaa ?_)
 refine kO hT hC ?_
 exact Vc.nil (Xac (Xal kR))
 refine kf b1 (Xad (Xaf (Xa8 (Xaa ?_))))
 iterate 5 refine kO hT hC ?_
 refine Vc.nil ?_
 refine kS h ?_ ?_ <;> intro b2 h
 refine kt b2 (Xaa ?_)
 refine kO hT hC ?_
 exact Vc.nil (Xac (Xal kR))
 refine kf b2 (Xad (Xaf (Xa8 (Xaa ?_))))
 iterate 5 refine kO hT hC ?_
 refine Vc.nil ?_
 refine kS h ?_ ?_ <;> intro b3 h
 refine kt b3 (Xaa ?_)
 refine kO hT hC ?_
 exact Vc.nil (Xac (Xal kR))
 refine kf b3 (Xad (Xaf (Xaa ?_)))
 refine kO hT hC ?_
 exact Vc.nil (Xac kR)
def Xg3 (r : Bool) : AV := .sv (.bool r)
def Xg2 (r : Bool) : Xaw := []
theorem Xeq {p0 p1 r} (h : Xbf p0 p1 = some r) : AC Try.prog 35 [.agg [.sv (.int .i64 p0.Seq.Level), .sv (.int .i64 p0.Seq.Bits), .sv (.ints .i64 p0.Seq.Cols), .sv (.ints .i64 p0.Seq.Rows), .sv (.int .i64 p0.Par.Qp), .sv (.bool p0.Par.Large), .sv (.bool p0.Par.Exact), .sv (.bool p0.Par.Confined), .sv (.int .i64 p0.Rate.Qp), .sv (.int .i64 p0.Rate.Target), .sv (.int .i64 p0.Rate.Debt), .sv (.int .i64 p0.Frame), .sv (.int .i64 p0.Since), .sv (.int .i64 p0.Every), .sv (.int .i64 p0.Reach), .sv (.bool p0.Has), .sv (.int .i64 p0.Ref.Wide), .sv (.int .i64 p0.Ref.High), .sv (.str p0.Ref.Dots)], .agg [.sv (.int .i64 p1.Seq.Level), .sv (.int .i64 p1.Seq.Bits), .sv (.ints .i64 p1.Seq.Cols), .sv (.ints .i64 p1.Seq.Rows), .sv (.int .i64 p1.Par.Qp), .sv (.bool p1.Par.Large), .sv (.bool p1.Par.Exact), .sv (.bool p1.Par.Confined), .sv (.int .i64 p1.Rate.Qp), .sv (.int .i64 p1.Rate.Target), .sv (.int .i64 p1.Rate.Debt), .sv (.int .i64 p1.Frame), .sv (.int .i64 p1.Since), .sv (.int .i64 p1.Every), .sv (.int .i64 p1.Reach), .sv (.bool p1.Has), .sv (.int .i64 p1.Ref.Wide), .sv (.int .i64 p1.Ref.High), .sv (.str p1.Ref.Dots)]] [] (Xg3 r) (Xg2 r) := by
 refine Xab hT Try.func35 rfl fun C hC => ?_
 unfold Xbf at h
 refine Xaa ?_
 iterate 3 refine kO hT hC ?_
 refine Vc.nil (Xa8 (Xaa ?_))
 iterate 4 refine kO hT hC ?_
 refine kC hC [] Try.call77 h (fun _ => Xl4) fun q1 h => ?_
 refine kO hT hC ?_
 refine Vc.nil ?_
 refine kS h ?_ ?_ <;> intro b1 h
 refine kt b1 (Xaa ?_)
 refine kO hT hC ?_
 exact Vc.nil (Xac (Xal kR))
 refine kf b1 (Xad (Xaf (Xa8 (Xaa ?_))))
 iterate 4 refine kO hT hC ?_
 refine kC hC [] Try.call78 h (fun _ => Xl2) fun q2 h => ?_
 refine kO hT hC ?_
 refine Vc.nil ?_
 refine kS h ?_ ?_ <;> intro b2 h
 refine kt b2 (Xaa ?_)
 refine kO hT hC ?_
 exact Vc.nil (Xac (Xal kR))
 refine kf b2 (Xad (Xaf (Xa8 (Xaa ?_))))
 iterate 4 refine kO hT hC ?_
 refine kC hC [] Try.call79 h (fun _ => Xki) fun q3 h => ?_
 refine kO hT hC ?_
 refine Vc.nil ?_
 refine kS h ?_ ?_ <;> intro b3 h
 refine kt b3 (Xaa ?_)
 refine kO hT hC ?_
 exact Vc.nil (Xac (Xal kR))
 refine kf b3 (Xad (Xaf (Xa8 (Xaa ?_))))
 iterate 5 refine kO hT hC ?_
 refine Vc.nil ?_
 refine kS h ?_ ?_ <;> intro b4 h
 refine kt b4 (Xaa ?_)
 refine kO hT hC ?_
 exact Vc.nil (Xac (Xal kR))
 refine kf b4 (Xad (Xaf (Xa8 (Xaa ?_))))
 iterate 5 refine kO hT hC ?_
 refine Vc.nil ?_
 refine kS h ?_ ?_ <;> intro b5 h
 refine kt b5 (Xaa ?_)
 refine kO hT hC ?_
 exact Vc.nil (Xac (Xal kR))
 refine kf b5 (Xad (Xaf (Xa8 (Xaa ?_))))
 iterate 5 refine kO hT hC ?_
 refine Vc.nil ?_
 refine kS h ?_ ?_ <;> intro b6 h
 refine kt b6 (Xaa ?_)
 refine kO hT hC ?_
 exact Vc.nil (Xac (Xal kR))
 refine kf b6 (Xad (Xaf (Xa8 (Xaa ?_))))
 iterate 5 refine kO hT hC ?_
 refine Vc.nil ?_
 refine kS h ?_ ?_ <;> intro b7 h
 refine kt b7 (Xaa ?_)
 refine kO hT hC ?_
 exact Vc.nil (Xac (Xal kR))
 refine kf b7 (Xad (Xaf (Xa8 (Xaa ?_))))
 iterate 5 refine kO hT hC ?_
 refine Vc.nil ?_
 refine kS h ?_ ?_ <;> intro b8 h
 refine kt b8 (Xaa ?_)
 refine kO hT hC ?_
 exact Vc.nil (Xac (Xal kR))
 refine kf b8 (Xad (Xaf (Xa8 (Xaa ?_))))
 iterate 4 refine kO hT hC ?_
 refine kC hC [] Try.call80 h (fun _ => Xl3) fun q4 h => ?_
 refine kO hT hC ?_
 refine Vc.nil ?_
 refine kS h ?_ ?_ <;> intro b9 h
 refine kt b9 (Xaa ?_)
 refine kO hT hC ?_
 exact Vc.nil (Xac (Xal kR))
 refine kf b9 (Xad (Xaf (Xaa ?_)))
 refine kO hT hC ?_
 exact Vc.nil (Xac kR)
def Xg5 (r : (Int × (List Int))) : AV := .sv (.int .i64 r.1)
def Xg4 (r : (Int × (List Int))) : Xaw := [(0, .ints .i64 r.2)]
theorem Xet {p0 p1 r} (h : Xbh p0 p1 = some r) : AC Try.prog 122 [.own 0, .sv (.int .i64 p1)] [(0, .ints .i64 p0)] (Xg5 r) (Xg4 r) := by
 refine Xab hT Try.func122 rfl fun C hC => ?_
 unfold Xbh at h
 refine Xaa ?_
 refine kO hT hC ?_
 refine Vc.nil (Xa8 (Xaa ?_))
 refine kO hT hC ?_
 refine Vc.nil ?_
 refine kL [0,1,5] [0] [_,_,_] [_] ?_
 refine kX h (fun v2 => ([(1, .sv (.int .i64 v2.1)), (5, .sv (.int .i64 v2.2.1))], [(0, some (.ints .i64 v2.2.2))])) (fun v4 => ([(1, .sv (.int .i64 v4.1)), (0, .any), (5, .any)], [(0, some (.ints .i64 v4.2))])) (kW hC []) (fun v2 s h => ?_) fun v4 h => ?_
 unfold Xa6 at h
 refine Xa8 (Xaa ?_)
 iterate 4 refine kO hT hC ?_
 refine Vc.nil ?_
 refine kS h ?_ ?_ <;> intro b3 h
 refine kt b3 (Xad (Xaf (Xa8 (Xdp (Xaa ?_)))))
 iterate 3 refine kO hT hC ?_
 iterate 2 refine kQ hT hC h fun h => ?_
 refine Vc.nil (Xag ?_)
 iterate 3 refine kO hT hC ?_
 refine Vc.nil (Xfk (Xaf (Xag ?_)))
 iterate 3 refine kO hT hC ?_
 exact Vc.nil kG
 exact kf b3 (Xea (Xgn ku))
 refine Xaf (Xaa ?_)
 iterate 2 refine kO hT hC ?_
 refine Vc.nil (Xac ?_)
 obtain rfl := kj h
 exact Xn3 (Xdh.refl _) rfl ⟨rfl, trivial⟩
def Xhy (r : (Int × Seq)) : AV := .sv (.int .i64 r.1)
def Xhx (r : (Int × Seq)) : Xaw := [(2, .ints .i64 r.2.Cols), (3, .ints .i64 r.2.Rows)]
theorem Xi4 {p0 p1 r} (h : Xcm p0 p1 = some r) : AC Try.prog 81 [.agg [.sv (.int .i64 p0.Level), .sv (.int .i64 p0.Bits), .own 2, .own 3], .sv (.int .i64 p1)] [(2, .ints .i64 p0.Cols), (3, .ints .i64 p0.Rows)] (Xhy r) (Xhx r) := by
 refine Xab hT Try.func81 rfl fun C hC => ?_
 unfold Xcm at h
 refine Xaa ?_
 iterate 2 refine kO hT hC ?_
 refine kN ?_
 iterate 3 refine kO hT hC ?_
 refine kC hC [(0, 2)] Try.call122 h (fun _ => Xet) fun q1 h => ?_
 refine kO hT hC ?_
 refine kN ?_
 iterate 3 refine kO hT hC ?_
 refine kC hC [(0, 3)] Try.call122 h (fun _ => Xet) fun q2 h => ?_
 refine kO hT hC ?_
 refine kN ?_
 iterate 2 refine kO hT hC ?_
 refine Vc.nil (Xac ?_)
 obtain rfl := kj h
 exact Xn3 (Xdh.refl _) rfl ⟨rfl, rfl, trivial⟩
def Xf0 (r : (Int × Xau)) : AV := .sv (.int .i64 r.1)
def Xfz (r : (Int × Xau)) : Xaw := [(2, .ints .i64 r.2.Seq.Cols), (3, .ints .i64 r.2.Seq.Rows)]
theorem Xge {p0 p1 r} (h : Xbb p0 p1 = some r) : AC Try.prog 36 [.agg [.sv (.int .i64 p0.Seq.Level), .sv (.int .i64 p0.Seq.Bits), .own 2, .own 3, .sv (.int .i64 p0.Par.Qp), .sv (.bool p0.Par.Large), .sv (.bool p0.Par.Exact), .sv (.bool p0.Par.Confined), .sv (.int .i64 p0.Rate.Qp), .sv (.int .i64 p0.Rate.Target), .sv (.int .i64 p0.Rate.Debt), .sv (.int .i64 p0.Frame), .sv (.int .i64 p0.Since), .sv (.int .i64 p0.Every), .sv (.int .i64 p0.Reach), .sv (.bool p0.Has), .sv (.int .i64 p0.Ref.Wide), .sv (.int .i64 p0.Ref.High), .sv (.str p0.Ref.Dots)], .sv (.int .i64 p1)] [(2, .ints .i64 p0.Seq.Cols), (3, .ints .i64 p0.Seq.Rows)] (Xf0 r) (Xfz r) := by
 refine Xab hT Try.func36 rfl fun C hC => ?_
 unfold Xbb at h
 refine Xaa ?_
 iterate 2 refine kO hT hC ?_
 refine kN ?_
 iterate 3 refine kO hT hC ?_
 refine kC hC [(2, 2), (3, 3)] Try.call81 h (fun _ => Xi4) fun q1 h => ?_
 refine kO hT hC ?_
 refine kN ?_
 iterate 2 refine kO hT hC ?_
 refine Vc.nil (Xac ?_)
 obtain rfl := kj h
 exact Xn3 (Xdh.refl _) rfl ⟨rfl, rfl, trivial⟩
def Xd3 (r : Int) : AV := .sv (.int .i64 r)
def Xd2 (r : Int) : Xaw := []
theorem Xer {p0 p1 r} (h : Xbg p0 p1 = some r) : AC Try.prog 123 [.sv (.ints .i64 p0), .sv (.int .i64 p1)] [] (Xd3 r) (Xd2 r) := by
 refine Xab hT Try.func123 rfl fun C hC => ?_
 unfold Xbg at h
 refine Xaa ?_
 refine kO hT hC ?_
 refine Vc.nil (Xa8 (Xaa ?_))
 refine kO hT hC ?_
 refine Vc.nil ?_
 refine kL [0,1,5] [] [_,_,_] [] ?_
 obtain ⟨o5, hl, h⟩ := Xbv h
 refine Xf2 (fun v2 => ([(1, .sv (.int .i64 v2.1)), (5, .sv (.int .i64 v2.2))], [])) (fun v4 => ([(1, .sv (.int .i64 v4)), (0, .any), (5, .any)], [])) (fun r => Xlk C T Try.f123.results.toList (Xd3 r) (Xd2 r)) hl ?_ ?_ ?_ ?_
 try dsimp only
 apply Xfq hC []
 exact co
 rfl
 decide
 rfl
 intro v2 s hs
 have h := hs
 unfold Xa5 at h
 refine Xa8 (Xaa ?_)
 iterate 4 refine kO hT hC ?_
 refine Vc.nil ?_
 refine kS h ?_ ?_ <;> intro b5 h
 refine kt b5 (Xad (Xaf (Xa8 (Xdp (Xa8 (Xaa ?_))))))
 iterate 2 refine kO hT hC ?_
 refine kQ hT hC h fun h => ?_
 iterate 3 refine kO hT hC ?_
 refine Vc.nil ?_
 refine kS h ?_ ?_ <;> intro b6 h
 refine kt b6 (Xaa ?_)
 refine kO hT hC ?_
 refine Vc.nil (Xac (Xal (Xij (Xal ?_))))
 obtain rfl := kj h
 refine Xnm (Xni ?_)
 exact Xn3 (Xdh.refl _) rfl trivial
 refine kf b6 (Xad (Xaf (Xag ?_)))
 iterate 3 refine kO hT hC ?_
 refine Vc.nil (Xfk (Xaf (Xag ?_)))
 iterate 3 refine kO hT hC ?_
 exact Vc.nil kG
 exact kf b5 (Xea (Xgn kb))
 intro v4 e
 subst e
 refine Xaf (Xaa ?_)
 iterate 2 refine kO hT hC ?_
 exact Vc.nil (Xac kR)
 intro r' σ' e hE
 subst e
 obtain rfl := kj h
 refine Xal ?_
 exact hE
def Xhw (r : Int) : AV := .sv (.int .i64 r)
def Xhv (r : Int) : Xaw := []
theorem Xi2 {p0 p1 r} (h : Xcl p0 p1 = some r) : AC Try.prog 82 [.agg [.sv (.int .i64 p0.Level), .sv (.int .i64 p0.Bits), .sv (.ints .i64 p0.Cols), .sv (.ints .i64 p0.Rows)], .sv (.int .i64 p1)] [] (Xhw r) (Xhv r) := by
 refine Xab hT Try.func82 rfl fun C hC => ?_
 unfold Xcl at h
 refine Xaa ?_
 iterate 2 refine kO hT hC ?_
 refine kN ?_
 iterate 3 refine kO hT hC ?_
 refine kC hC [] Try.call123 h (fun _ => Xer) fun q1 h => ?_
 refine kO hT hC ?_
 refine Vc.nil (Xa8 (Xaa ?_))
 iterate 2 refine kO hT hC ?_
 refine Vc.nil ?_
 refine kS h ?_ ?_ <;> intro b1 h
 refine kt b1 (Xaa ?_)
 refine kO hT hC ?_
 exact Vc.nil (Xac (Xal kR))
 refine kf b1 (Xad (Xaf (Xaa ?_)))
 iterate 3 refine kO hT hC ?_
 refine kC hC [] Try.call123 h (fun _ => Xer) fun q2 h => ?_
 refine kO hT hC ?_
 refine Vc.nil (Xa8 (Xaa ?_))
 iterate 2 refine kO hT hC ?_
 refine Vc.nil ?_
 refine kS h ?_ ?_ <;> intro b2 h
 refine kt b2 (Xaa ?_)
 refine kO hT hC ?_
 exact Vc.nil (Xac (Xal kR))
 refine kf b2 (Xad (Xaf (Xaa ?_)))
 iterate 2 refine kO hT hC ?_
 exact Vc.nil (Xac kR)
def Xfy (r : Int) : AV := .sv (.int .i64 r)
def Xfx (r : Int) : Xaw := []
theorem Xdg {p0 p1 r} (h : Xa1 p0 p1 = some r) : AC Try.prog 37 [.agg [.sv (.int .i64 p0.Seq.Level), .sv (.int .i64 p0.Seq.Bits), .sv (.ints .i64 p0.Seq.Cols), .sv (.ints .i64 p0.Seq.Rows), .sv (.int .i64 p0.Par.Qp), .sv (.bool p0.Par.Large), .sv (.bool p0.Par.Exact), .sv (.bool p0.Par.Confined), .sv (.int .i64 p0.Rate.Qp), .sv (.int .i64 p0.Rate.Target), .sv (.int .i64 p0.Rate.Debt), .sv (.int .i64 p0.Frame), .sv (.int .i64 p0.Since), .sv (.int .i64 p0.Every), .sv (.int .i64 p0.Reach), .sv (.bool p0.Has), .sv (.int .i64 p0.Ref.Wide), .sv (.int .i64 p0.Ref.High), .sv (.str p0.Ref.Dots)], .sv (.int .i64 p1)] [] (Xfy r) (Xfx r) := by
 refine Xab hT Try.func37 rfl fun C hC => ?_
 unfold Xa1 at h
 refine Xaa ?_
 iterate 2 refine kO hT hC ?_
 refine kN ?_
 iterate 3 refine kO hT hC ?_
 refine kC hC [] Try.call82 h (fun _ => Xi2) fun q1 h => ?_
 refine kO hT hC ?_
 refine Vc.nil (Xa8 (Xaa ?_))
 iterate 2 refine kO hT hC ?_
 refine Vc.nil ?_
 refine kS h ?_ ?_ <;> intro b1 h
 refine kt b1 (Xaa ?_)
 refine kO hT hC ?_
 exact Vc.nil (Xac (Xal kR))
 refine kf b1 (Xad (Xaf (Xaa ?_)))
 iterate 2 refine kO hT hC ?_
 exact Vc.nil (Xac kR)
def Xdk (r : Bool) : AV := .sv (.bool r)
def Xdj (r : Bool) : Xaw := []
theorem Xdy {p0 p1 p2 p3 p4 p5 p6 r} (h : Xaz p0 p1 p2 p3 p4 p5 p6 = some r) : AC Try.prog 6 [.sv (.int .i64 p0), .sv (.int .i64 p1), .sv (.int .i64 p2), .agg [.sv (.int .i64 p3.Qp), .sv (.bool p3.Large), .sv (.bool p3.Exact), .sv (.bool p3.Confined)], .agg [.sv (.int .i64 p4.Qp), .sv (.int .i64 p4.Target), .sv (.int .i64 p4.Debt)], .sv (.int .i64 p5), .sv (.int .i64 p6)] [] (Xdk r) (Xdj r) := by
 refine Xab hT Try.func6 rfl fun C hC => ?_
 unfold Xaz at h
 refine Xaa ?_
 iterate 3 refine kO hT hC ?_
 refine Vc.nil ?_
 refine Xhm hm ?_
 iterate 4 refine kO hT hC ?_
 refine kC hC [] Try.call32 h (fun _ => Xeg) fun q1 h => ?_
 refine kO hT hC ?_
 refine kC hC [] Try.call33 h (fun _ => Xdl) fun q2 h => ?_
 iterate 2 refine kO hT hC ?_
 refine kC hC [(16, 528), (17, 529)] Try.call31 h (fun _ => Xg9) fun q3 h => ?_
 iterate 6 refine kO hT hC ?_
 refine kD ?_
 refine Xhm hm ?_
 iterate 4 refine kO hT hC ?_
 refine kC hC [] Try.call32 h (fun _ => Xeg) fun q4 h => ?_
 refine kO hT hC ?_
 refine kC hC [] Try.call33 h (fun _ => Xdl) fun q5 h => ?_
 iterate 2 refine kO hT hC ?_
 refine kC hC [(16, 736), (17, 737)] Try.call34 h (fun _ => Xdw) fun q6 h => ?_
 iterate 6 refine kO hT hC ?_
 refine kD (Xa8 ?_)
 refine kL [0,1,2,5,6,10,11,15,16,17,18] [160,176,240,272,528,529,736,737] [_,_,_,_,_,_,_,_,_,_,_] [_,_,_,_,_,_,_,_] ?_
 refine kA h (fun v7 => ([(57, .sv (.bool v7)), (18, .any)], [])) (fun v7 h => ?_) fun v7 h => ?_
 refine Xag ?_
 iterate 2 refine kO hT hC ?_
 refine kC hC [] Try.call35 h (fun _ => Xeq) fun q8 h => ?_
 iterate 2 refine kO hT hC ?_
 refine kS h ?_ ?_ <;> intro b1 h
 iterate 3 refine kI hT hC (kn b1) ?_
 refine kP hC false (kn b1) ?_
 exact Vc.nil kM
 iterate 3 refine kF hC (kn b1) ?_
 refine kP hC true (kn b1) ?_
 exact Vc.nil kM
 refine kS h ?_ ?_ <;> intro b2 h
 refine kt b2 (Xaa ?_)
 refine kO hT hC ?_
 exact Vc.nil (Xac (Xal kR))
 refine kf b2 (Xad (Xaf (Xaa ?_)))
 refine kO hT hC ?_
 refine kN ?_
 iterate 2 refine kO hT hC ?_
 refine kC hC [(2, 736), (3, 737)] Try.call36 h (fun _ => Xge) fun q9 h => ?_
 refine kO hT hC ?_
 refine kN ?_
 refine kO hT hC ?_
 refine kN ?_
 iterate 2 refine kO hT hC ?_
 refine kC hC [] Try.call37 h (fun _ => Xdg) fun q10 h => ?_
 refine kO hT hC ?_
 refine Vc.nil (Xa8 (Xaa ?_))
 iterate 2 refine kO hT hC ?_
 refine Vc.nil ?_
 refine kS h ?_ ?_ <;> intro b3 h
 refine kt b3 (Xaa ?_)
 refine kO hT hC ?_
 exact Vc.nil (Xac (Xal kR))
 refine kf b3 (Xad (Xaf (Xa8 (Xaa ?_))))
 iterate 3 refine kO hT hC ?_
 refine Vc.nil ?_
 refine kS h ?_ ?_ <;> intro b4 h
 refine kt b4 (Xaa ?_)
 refine kO hT hC ?_
 exact Vc.nil (Xac (Xal kR))
 refine kf b4 (Xad (Xaf ?_))
 refine Xhm hm ?_
 iterate 4 refine kO hT hC ?_
 refine kC hC [] Try.call32 h (fun _ => Xeg) fun q11 h => ?_
 refine kO hT hC ?_
 refine kC hC [] Try.call33 h (fun _ => Xdl) fun q12 h => ?_
 iterate 2 refine kO hT hC ?_
 refine kC hC [(16, 1264), (17, 1265)] Try.call34 h (fun _ => Xdw) fun q13 h => ?_
 iterate 6 refine kO hT hC ?_
 refine kD (Xa8 ?_)
 refine kL [15,16,17,19,21,22] [240,272,336,528,529,736,737,1264,1265] [_,_,_,_,_,_] [_,_,_,_,_,_,_,_,_] ?_
 refine kA h (fun v14 => ([(90, .sv (.bool v14)), (15, .any), (16, .any), (21, .any), (22, .any)], [(240, none), (336, none), (528, none), (529, none), (1264, none), (1265, none)])) (fun v14 h => ?_) fun v14 h => ?_
 refine Xag ?_
 iterate 2 refine kO hT hC ?_
 refine kC hC [] Try.call35 h (fun _ => Xeq) fun q15 h => ?_
 iterate 2 refine kO hT hC ?_
 refine kS h ?_ ?_ <;> intro b5 h
 iterate 3 refine kI hT hC (kn b5) ?_
 refine kP hC false (kn b5) ?_
 exact Vc.nil kM
 iterate 3 refine kF hC (kn b5) ?_
 refine kP hC true (kn b5) ?_
 exact Vc.nil kM
 refine kS h ?_ ?_ <;> intro b6 h
 refine kt b6 (Xaa ?_)
 refine kO hT hC ?_
 exact Vc.nil (Xac (Xal kR))
 refine kf b6 (Xad (Xaf (Xaa ?_)))
 refine kO hT hC ?_
 refine kN ?_
 iterate 2 refine kO hT hC ?_
 refine kC hC [] Try.call37 h (fun _ => Xdg) fun q16 h => ?_
 refine kO hT hC ?_
 refine Vc.nil (Xa8 (Xaa ?_))
 iterate 2 refine kO hT hC ?_
 refine Vc.nil ?_
 refine kS h ?_ ?_ <;> intro b7 h
 refine kt b7 (Xaa ?_)
 refine kO hT hC ?_
 exact Vc.nil (Xac (Xal kR))
 refine kf b7 (Xad (Xaf (Xa8 (Xaa ?_))))
 iterate 3 refine kO hT hC ?_
 refine Vc.nil ?_
 refine kS h ?_ ?_ <;> intro b8 h
 refine kt b8 (Xaa ?_)
 refine kO hT hC ?_
 exact Vc.nil (Xac (Xal kR))
 refine kf b8 (Xad (Xaf (Xaa ?_)))
 refine kO hT hC ?_
 exact Vc.nil (Xac kR)
end
end Go.Proofs.Ytlebkepfhdjnmab.A
