/- Contracts of the functions that the law FnExactSourceSets reaches, part 0: each comes to what its pure function tells. Written by a program of this session. Conditions: as each statement tells. -/
import Derived.Test.YtlebkepfhdjnmabBFnExactSourceSets
namespace Go.Proofs.Ytlebkepfhdjnmab.A
open Go Go.Proofs Go.Proofs.YtlebkepfhdjnmabAL Go.RowKit
set_option linter.unusedVariables false
set_option linter.unusedSimpArgs false
set_option maxRecDepth 100000
set_option maxHeartbeats 8000000
noncomputable section
def Xp0 (r : Bool) : AV := .sv (.bool r)
def Xpz (r : Bool) : Xap := []
theorem Xaq {p0 p1 p2 r} (h : Xat p0 p1 p2 = some r) : AC Try.prog 48 [.sv (.int .i64 p0), .sv (.int .i64 p1), .sv (.int .i64 p2)] [] (Xp0 r) (Xpz r) := by
 refine Xab hT Try.func48 rfl fun C hC => ?_
 unfold Xat at h
 refine Xaa ?_
 refine kO hT hC ?_
 refine Vc.nil ?_
 refine kL [0,1,2,6] [] [_,_,_,_] [] ?_
 refine kA h (fun v1 => ([(6, .sv (.bool v1)), (0, .any), (1, .any), (2, .any)], [])) (fun v1 h => ?_) fun v1 h => ?_
 refine Xaf ?_
 iterate 4 refine kO hT hC ?_
 refine kS h ?_ ?_ <;> intro b1 h
 iterate 3 refine kI hT hC b1 ?_
 refine kP hC true b1 ?_
 refine kO hT hC ?_
 exact Vc.nil kM
 iterate 3 refine kF hC b1 ?_
 refine kP hC false b1 ?_
 refine kO hT hC ?_
 exact Vc.nil kM
 exact Xac kR
def Xpq (r : Bool) : AV := .sv (.bool r)
def Xpp (r : Bool) : Xap := []
theorem Xr8 {p0 r} (h : Xfw p0 = some r) : AC Try.prog 47 [.agg [.sv (.int .i64 p0.Wide), .sv (.int .i64 p0.High), .sv (.str p0.Dots)]] [] (Xpq r) (Xpp r) := by
 refine Xab hT Try.func47 rfl fun C hC => ?_
 unfold Xfw at h
 refine Xaa ?_
 iterate 2 refine kO hT hC ?_
 refine Vc.nil ?_
 refine kL [1,2] [16] [_,_] [_] ?_
 refine kA h (fun v1 => ([(2, .sv (.bool v1)), (1, .any)], [(16, none)])) (fun v1 h => ?_) fun v1 h => ?_
 refine Xaf ?_
 iterate 2 refine kO hT hC ?_
 refine kC hC [] Try.call48 h (fun _ => Xaq) fun q2 h => ?_
 refine kO hT hC ?_
 refine kS h ?_ ?_ <;> intro b1 h
 iterate 2 refine kI hT hC b1 ?_
 refine kE hC b1 [] Try.call48 h (fun _ => Xaq) fun q3 h => ?_
 refine kP hC true b1 ?_
 refine kO hT hC ?_
 refine kS h ?_ ?_ <;> intro b2 h
 iterate 9 refine kI hT hC b2 ?_
 refine kP hC true b2 ?_
 refine kO hT hC ?_
 exact Vc.nil kM
 iterate 9 refine kF hC b2 ?_
 refine kP hC false b2 ?_
 refine kO hT hC ?_
 exact Vc.nil kM
 iterate 3 refine kF hC b1 ?_
 refine kP hC false b1 ?_
 refine kO hT hC ?_
 iterate 9 refine kF hC rfl ?_
 iterate 2 refine kO hT hC ?_
 exact Vc.nil kM
 exact Xac kR
def Xmr (r : Bool) : AV := .sv (.bool r)
def Xmq (r : Bool) : Xap := []
theorem Xaj {p0 p1 p2 r} (h : Xal p0 p1 p2 = some r) : AC Try.prog 52 [.sv (.int .i64 p0), .sv (.int .i64 p1), .sv (.int .i64 p2)] [] (Xmr r) (Xmq r) := by
 refine Xab hT Try.func52 rfl fun C hC => ?_
 unfold Xal at h
 refine Xaa ?_
 refine kO hT hC ?_
 refine Vc.nil ?_
 refine kL [0,1,2,6] [] [_,_,_,_] [] ?_
 refine kA h (fun v1 => ([(6, .sv (.bool v1)), (0, .any), (1, .any), (2, .any)], [])) (fun v1 h => ?_) fun v1 h => ?_
 refine Xaf ?_
 iterate 4 refine kO hT hC ?_
 refine kS h ?_ ?_ <;> intro b1 h
 iterate 3 refine kI hT hC b1 ?_
 refine kP hC true b1 ?_
 refine kO hT hC ?_
 exact Vc.nil kM
 iterate 3 refine kF hC b1 ?_
 refine kP hC false b1 ?_
 refine kO hT hC ?_
 exact Vc.nil kM
 exact Xac kR
def Xon (r : Bool) : AV := .sv (.bool r)
def Xom (r : Bool) : Xap := []
theorem Xq1 {p0 r} (h : Xfj p0 = some r) : AC Try.prog 50 [.agg [.sv (.int .i64 p0.Wide), .sv (.int .i64 p0.High), .sv (.str p0.Dots)]] [] (Xon r) (Xom r) := by
 refine Xab hT Try.func50 rfl fun C hC => ?_
 unfold Xfj at h
 refine Xaa ?_
 iterate 2 refine kO hT hC ?_
 refine Vc.nil ?_
 refine kL [1,2] [16] [_,_] [_] ?_
 refine kA h (fun v1 => ([(2, .sv (.bool v1)), (1, .any)], [(16, none)])) (fun v1 h => ?_) fun v1 h => ?_
 refine Xaf ?_
 iterate 2 refine kO hT hC ?_
 refine kC hC [] Try.call52 h (fun _ => Xaj) fun q2 h => ?_
 refine kO hT hC ?_
 refine kS h ?_ ?_ <;> intro b1 h
 iterate 2 refine kI hT hC b1 ?_
 refine kE hC b1 [] Try.call52 h (fun _ => Xaj) fun q3 h => ?_
 refine kP hC true b1 ?_
 refine kO hT hC ?_
 refine kS h ?_ ?_ <;> intro b2 h
 iterate 9 refine kI hT hC b2 ?_
 refine kP hC true b2 ?_
 refine kO hT hC ?_
 exact Vc.nil kM
 iterate 9 refine kF hC b2 ?_
 refine kP hC false b2 ?_
 refine kO hT hC ?_
 exact Vc.nil kM
 iterate 3 refine kF hC b1 ?_
 refine kP hC false b1 ?_
 refine kO hT hC ?_
 iterate 9 refine kF hC rfl ?_
 iterate 2 refine kO hT hC ?_
 exact Vc.nil kM
 exact Xac kR
def Xiy (r : Int) : AV := .sv (.int .i64 r)
def Xix (r : Int) : Xap := []
theorem Xjw {p0 r} (h : Xdq p0 = some r) : AC Try.prog 156 [.sv (.int .i64 p0)] [] (Xiy r) (Xix r) := by
 refine Xab hT Try.func156 rfl fun C hC => ?_
 unfold Xdq at h
 refine Xaa ?_
 refine kO hT hC ?_
 refine kN ?_
 refine kO hT hC ?_
 refine Vc.nil (Xao ?_)
 refine kL [0,3] [] [_,_] [] ?_
 refine kX h (fun v2 => ([(0, .sv (.int .i64 v2.1)), (3, .sv (.int .i64 v2.2))], [])) (fun v4 => ([(3, .sv (.int .i64 v4)), (0, .any)], [])) (kW hC []) (fun v2 s h => ?_) fun v4 h => ?_
 unfold Xax at h
 refine Xao (Xaa ?_)
 iterate 2 refine kO hT hC ?_
 refine Vc.nil ?_
 refine kS h ?_ ?_ <;> intro b3 h
 refine kt b3 (Xae (Xad (Xao (Xa0 (Xaf ?_)))))
 iterate 3 refine kO hT hC ?_
 refine Vc.nil (Xbi (Xad (Xaf ?_)))
 refine kO hT hC ?_
 refine kQ hT hC h fun h => ?_
 refine kO hT hC ?_
 exact Vc.nil kG
 exact kf b3 (Xa2 (Xbw ku))
 refine Xad (Xaa ?_)
 iterate 2 refine kO hT hC ?_
 exact Vc.nil (Xac kR)
def Xoz (r : ByteArray) : AV := .sv (.str r)
def Xoy (r : ByteArray) : Xap := []
theorem Xf2 {p0 p1 r} (h : Xdd p0 p1 = some r) : AC Try.prog 132 [.sv (.int .i64 p0), .sv (.int .i64 p1)] [] (Xoz r) (Xoy r) := by
 refine Xab hT Try.func132 rfl fun C hC => ?_
 unfold Xdd at h
 refine Xaa ?_
 refine kO hT hC ?_
 refine kN ?_
 refine kO hT hC ?_
 obtain ⟨hq, h⟩ := Xc7 h
 refine Xyq hT hC rfl rfl rfl rfl ⟨hq.1, hq.2.1, hq.2.2, by decide⟩ ?_
 refine kO hT hC ?_
 refine Vc.nil (Xao (Xaa ?_))
 iterate 3 refine kO hT hC ?_
 refine Vc.nil ?_
 refine kL [0,5,6] [128] [_,_,_] [_] ?_
 refine kX h (fun v2 => ([(0, .sv (.int .i64 v2.1)), (6, .sv (.int .i64 v2.2.1))], [(128, some (.ints .u8 v2.2.2))])) (fun v4 => ([(0, .any), (6, .any)], [(128, some (.ints .u8 v4))])) (kW hC []) (fun v2 s h => ?_) fun v4 h => ?_
 unfold Xc1 at h
 refine Xao (Xaa ?_)
 iterate 2 refine kO hT hC ?_
 refine Vc.nil ?_
 refine kS h ?_ ?_ <;> intro b3 h
 refine kt b3 (Xae (Xad (Xao (Xa0 (Xaa ?_)))))
 iterate 6 refine kO hT hC ?_
 iterate 2 refine kQ hT hC h fun h => ?_
 refine Vc.nil (Xaf ?_)
 refine kO hT hC ?_
 refine kQ hT hC h fun h => ?_
 refine kO hT hC ?_
 refine Vc.nil (Xbi (Xad (Xaf ?_)))
 iterate 3 refine kO hT hC ?_
 exact Vc.nil kG
 exact kf b3 (Xa2 (Xbw ku))
 refine Xad (Xaa ?_)
 iterate 3 refine kO hT hC ?_
 exact Vc.nil (Xac kR)
def Xts (r : ByteArray) : AV := .sv (.str r)
def Xtr (r : ByteArray) : Xap := []
theorem Xjx {p0 r} (h : Xh6 p0 = some r) : AC Try.prog 131 [.sv (.int .i64 p0)] [] (Xts r) (Xtr r) := by
 refine Xab hT Try.func131 rfl fun C hC => ?_
 unfold Xh6 at h
 refine Xaa ?_
 refine kO hT hC ?_
 refine kN ?_
 iterate 4 refine kO hT hC ?_
 refine kC hC [] Try.call156 h (fun _ => Xjw) fun q1 h => ?_
 iterate 2 refine kO hT hC ?_
 refine kC hC [] Try.call132 h (fun _ => Xf2) fun q2 h => ?_
 refine kO hT hC ?_
 exact Vc.nil (Xac kR)
def Xfa (r : Bool) : AV := .sv (.bool r)
def Xe9 (r : Bool) : Xap := []
theorem Xdf {p0 p1 r} (h : Xbg p0 p1 = some r) : AC Try.prog 20 [.sv (Xam.sv p0), .sv (Xam.sv p1)] [] (Xfa r) (Xe9 r) := by
 refine Xab hT Try.func20 rfl fun C hC => ?_
 unfold Xbg at h
 refine Xaa ?_
 refine kO hT hC ?_
 refine Vc.nil (Xao (Xaa ?_))
 iterate 5 refine kO hT hC ?_
 refine Vc.nil ?_
 refine kS h ?_ ?_ <;> intro b1 h
 refine kt b1 (Xaa ?_)
 refine kO hT hC ?_
 exact Vc.nil (Xac (Xak kR))
 refine kf b1 (Xae (Xad (Xao (Xaa ?_))))
 refine kO hT hC ?_
 refine Vc.nil ?_
 refine kL [0,1,5] [] [_,_,_] [] ?_
 obtain ⟨o5, hl, h⟩ := Xcl h
 refine Xgq (fun v2 => ([(5, .sv (.int .i64 v2))], [])) (fun v4 => ([(0, .any), (1, .any), (5, .any)], [])) (fun r => Xod C T Try.f20.results.toList (Xfa r) (Xe9 r)) hl ?_ ?_ ?_ ?_
 apply Xjg hC []
 exact co
 rfl
 decide
 rfl
 intro v2 s hs
 have h := hs
 unfold Xbl at h
 refine Xao (Xaa ?_)
 iterate 4 refine kO hT hC ?_
 refine Vc.nil ?_
 refine kS h ?_ ?_ <;> intro b6 h
 refine kt b6 (Xae (Xad (Xao (Xa0 ?_))))
 refine Xfb hm ?_
 iterate 2 refine kO hT hC ?_
 refine kQ hT hC h fun h => ?_
 iterate 3 refine kO hT hC ?_
 refine kQ hT hC h fun h => ?_
 iterate 2 refine kO hT hC ?_
 refine kD ?_
 refine kS h ?_ ?_ <;> intro b7 h
 refine kt b7 (Xaa ?_)
 refine kO hT hC ?_
 refine Vc.nil (Xac (Xky (Xak ?_)))
 obtain rfl := kj h
 refine Xrx (Xrt ?_)
 exact Xqe (Xfh.refl _) rfl trivial
 refine kf b7 (Xae (Xbi (Xad (Xaf ?_))))
 iterate 3 refine kO hT hC ?_
 exact Vc.nil kG
 exact kf b6 (Xa2 (Xbw kb))
 intro v4 e
 subst e
 refine Xad (Xaa ?_)
 refine kO hT hC ?_
 exact Vc.nil (Xac kR)
 intro r' σ' e hE
 subst e
 obtain rfl := kj h
 refine Xak ?_
 exact hE
def Xj4 (r : ByteArray) : AV := .sv (.str r)
def Xj3 (r : ByteArray) : Xap := []
theorem Xgf {p0 r} (h : Xbe p0 = some r) : AC Try.prog 67 [.sv (.int .i64 p0)] [] (Xj4 r) (Xj3 r) := by
 refine Xab hT Try.func67 rfl fun C hC => ?_
 unfold Xbe at h
 refine Xaa ?_
 refine kO hT hC ?_
 refine Vc.nil (Xao (Xaa ?_))
 iterate 2 refine kO hT hC ?_
 refine Vc.nil ?_
 refine kS h ?_ ?_ <;> intro b1 h
 refine kt b1 (Xaa ?_)
 refine kO hT hC ?_
 exact Vc.nil (Xac (Xak kR))
 refine kf b1 (Xae (Xad (Xaa ?_)))
 refine kO hT hC ?_
 refine Vc.nil (Xao ?_)
 refine kL [0,3] [] [_,_] [] ?_
 refine kX h (fun v2 => ([(0, .sv (.int .i64 v2.1)), (3, .sv (.str v2.2))], [])) (fun v4 => ([(3, .sv (.str v4)), (0, .any)], [])) (kW hC []) (fun v2 s h => ?_) fun v4 h => ?_
 unfold Xcn at h
 refine Xao (Xaa ?_)
 iterate 2 refine kO hT hC ?_
 refine Vc.nil ?_
 refine kS h ?_ ?_ <;> intro b4 h
 refine kt b4 (Xae (Xad (Xa0 (Xaa ?_))))
 refine kO hT hC ?_
 refine kQ hT hC h fun h => ?_
 iterate 5 refine kO hT hC ?_
 refine kQ hT hC h fun h => ?_
 refine kO hT hC ?_
 refine Vc.nil (Xaf ?_)
 refine kO hT hC ?_
 refine kQ hT hC h fun h => ?_
 refine kO hT hC ?_
 exact Vc.nil (Xbi kG)
 exact kf b4 (Xa2 (Xbw ku))
 refine Xad (Xaa ?_)
 refine kO hT hC ?_
 refine kQ hT hC h fun h => ?_
 refine kO hT hC ?_
 exact Vc.nil (Xac kR)
def Xhe (r : (Int × (List ByteArray))) : AV := .sv (.int .i64 r.1)
def Xhd (r : (Int × (List ByteArray))) : Xap := [(0, .row Xam r.2)]
theorem Xid {p0 p1 r} (h : Xbu p0 p1 = some r) : AC Try.prog 23 [.own 0, .sv (.int .i64 p1)] [(0, .row Xam p0)] (Xhe r) (Xhd r) := by
 refine Xab hT Try.func23 rfl fun C hC => ?_
 unfold Xbu at h
 refine Xaa ?_
 refine kO hT hC ?_
 refine Vc.nil (Xao (Xaa ?_))
 refine kO hT hC ?_
 refine Vc.nil ?_
 refine kL [0,1,5] [0] [_,_,_] [_] ?_
 refine kX h (fun v3 => ([(1, .sv (.int .i64 v3.1)), (5, .sv (.int .i64 v3.2.1))], [(0, some (.row Xam v3.2.2))])) (fun v6 => ([(1, .sv (.int .i64 v6.1)), (0, .any), (5, .any)], [(0, some (.row Xam v6.2))])) (kW hC []) (fun v3 s h => ?_) fun v6 h => ?_
 unfold Xa8 at h
 refine Xao (Xaa ?_)
 iterate 4 refine kO hT hC ?_
 refine Vc.nil ?_
 refine kS h ?_ ?_ <;> intro b3 h
 refine kt b3 (Xae (Xad (Xao (Xa0 (Xaa ?_)))))
 iterate 3 refine kO hT hC ?_
 refine kC hC [] Try.call67 h (fun _ => Xgf) fun q7 h => ?_
 iterate 2 refine kQ hT hC h fun h => ?_
 refine Vc.nil (Xaf ?_)
 iterate 3 refine kO hT hC ?_
 refine Vc.nil (Xbi (Xad (Xaf ?_)))
 iterate 3 refine kO hT hC ?_
 exact Vc.nil kG
 exact kf b3 (Xa2 (Xbw ku))
 refine Xad (Xaa ?_)
 iterate 2 refine kO hT hC ?_
 refine Vc.nil (Xac ?_)
 obtain rfl := kj h
 exact Xqe (Xfh.refl _) rfl ⟨rfl, trivial⟩
def Xd9 (r : Int) : AV := .sv (.int .i64 r)
def Xd8 (r : Int) : Xap := []
theorem Xeq {p0 p1 r} (h : Xbc p0 p1 = some r) : AC Try.prog 24 [.sv (Xam.sv p0), .sv (.int .i64 p1)] [] (Xd9 r) (Xd8 r) := by
 refine Xab hT Try.func24 rfl fun C hC => ?_
 unfold Xbc at h
 refine Xaa ?_
 refine kO hT hC ?_
 refine Vc.nil (Xao (Xaa ?_))
 refine kO hT hC ?_
 refine Vc.nil ?_
 refine kL [0,1,5] [] [_,_,_] [] ?_
 obtain ⟨o8, hl, h⟩ := Xcl h
 refine Xgq (fun v3 => ([(1, .sv (.int .i64 v3.1)), (5, .sv (.int .i64 v3.2))], [])) (fun v6 => ([(1, .sv (.int .i64 v6)), (0, .any), (5, .any)], [])) (fun r => Xod C T Try.f24.results.toList (Xd9 r) (Xd8 r)) hl ?_ ?_ ?_ ?_
 try dsimp only
 apply Xjg hC []
 exact co
 rfl
 decide
 rfl
 intro v3 s hs
 have h := hs
 unfold Xa7 at h
 refine Xao (Xaa ?_)
 iterate 4 refine kO hT hC ?_
 refine Vc.nil ?_
 refine kS h ?_ ?_ <;> intro b5 h
 refine kt b5 (Xae (Xad (Xao (Xa0 (Xao ?_)))))
 refine Xfb hm ?_
 iterate 2 refine kO hT hC ?_
 refine kQ hT hC h fun h => ?_
 iterate 2 refine kO hT hC ?_
 refine kC hC [] Try.call67 h (fun _ => Xgf) fun q7 h => ?_
 refine kO hT hC ?_
 refine kD ?_
 refine kS h ?_ ?_ <;> intro b6 h
 refine kt b6 (Xaa ?_)
 refine kO hT hC ?_
 refine Vc.nil (Xac (Xak (Xky (Xak ?_))))
 obtain rfl := kj h
 refine Xrx (Xrt ?_)
 exact Xqe (Xfh.refl _) rfl trivial
 refine kf b6 (Xae (Xad (Xaf ?_)))
 iterate 3 refine kO hT hC ?_
 refine Vc.nil (Xbi (Xad (Xaf ?_)))
 iterate 3 refine kO hT hC ?_
 exact Vc.nil kG
 exact kf b5 (Xa2 (Xbw kb))
 intro v6 e
 subst e
 refine Xad (Xaa ?_)
 iterate 2 refine kO hT hC ?_
 exact Vc.nil (Xac kR)
 intro r' σ' e hE
 subst e
 obtain rfl := kj h
 refine Xak ?_
 exact hE
def Xm0 (r : Int) : AV := .sv (.int .i64 r)
def Xmz (r : Int) : Xap := []
theorem Xhn {p0 p1 r} (h : Xdg p0 p1 = some r) : AC Try.prog 106 [.sv (.ints .i64 p0), .sv (.int .i64 p1)] [] (Xm0 r) (Xmz r) := by
 refine Xab hT Try.func106 rfl fun C hC => ?_
 unfold Xdg at h
 refine Xaa ?_
 refine kO hT hC ?_
 refine kN ?_
 iterate 5 refine kO hT hC ?_
 refine Vc.nil (Xao (Xaa ?_))
 iterate 2 refine kO hT hC ?_
 refine Vc.nil ?_
 refine kS h ?_ ?_ <;> intro b1 h
 refine kt b1 (Xaa ?_)
 refine kO hT hC ?_
 exact Vc.nil (Xac (Xak kR))
 refine kf b1 (Xae (Xad (Xaa ?_)))
 iterate 2 refine kO hT hC ?_
 exact Vc.nil (Xac kR)
def Xm2 (r : (List Int)) : AV := .own 16
def Xm1 (r : (List Int)) : Xap := [(16, .ints .i64 r)]
theorem Xhp {p0 r} (h : Xdh p0 = some r) : AC Try.prog 109 [.sv (.ints .i64 p0)] [] (Xm2 r) (Xm1 r) := by
 refine Xab hT Try.func109 rfl fun C hC => ?_
 unfold Xdh at h
 refine Xaa ?_
 refine kO hT hC ?_
 refine kN ?_
 iterate 2 refine kO hT hC ?_
 obtain ⟨hq, h⟩ := Xc7 h
 refine Xyq hT hC rfl rfl rfl rfl ⟨hq.1, hq.2.1, hq.2.2, by decide⟩ ?_
 refine kO hT hC ?_
 refine Vc.nil (Xao (Xaa ?_))
 refine kO hT hC ?_
 refine Vc.nil ?_
 refine kL [0,3,4] [112] [_,_,_] [_] ?_
 refine kX h (fun v2 => ([(4, .sv (.int .i64 v2.1))], [(112, some (.ints .i64 v2.2))])) (fun v4 => ([(0, .any), (4, .any)], [(112, some (.ints .i64 v4))])) (kW hC []) (fun v2 s h => ?_) fun v4 h => ?_
 unfold Xch at h
 refine Xao (Xaa ?_)
 iterate 4 refine kO hT hC ?_
 refine Vc.nil ?_
 refine kS h ?_ ?_ <;> intro b3 h
 refine kt b3 (Xae (Xad (Xao (Xa0 (Xaf ?_)))))
 iterate 4 refine kO hT hC ?_
 refine kQ hT hC h fun h => ?_
 refine kO hT hC ?_
 iterate 2 refine kQ hT hC h fun h => ?_
 refine Vc.nil (Xbi (Xad (Xaf ?_)))
 iterate 3 refine kO hT hC ?_
 exact Vc.nil kG
 exact kf b3 (Xa2 (Xbw ku))
 refine Xad (Xaa ?_)
 iterate 2 refine kO hT hC ?_
 refine Vc.nil (Xac ?_)
 obtain rfl := kj h
 exact Xqe (τ := ⟨[(2, .own 16)], [(16, some (.ints .i64 v4))]⟩) (kW hC [(16, 112)]) rfl ⟨rfl, trivial⟩
def Xlm (r : ByteArray) : AV := .sv (.str r)
def Xll (r : ByteArray) : Xap := []
theorem Xnv {p0 p1 r} (h : Xd0 p0 p1 = some r) : AC Try.prog 155 [.sv (.int .i64 p0), .sv (.int .u8 p1)] [] (Xlm r) (Xll r) := by
 refine Xab hT Try.func155 rfl fun C hC => ?_
 unfold Xd0 at h
 refine Xaa ?_
 refine kO hT hC ?_
 refine kN ?_
 refine kO hT hC ?_
 obtain ⟨hq, h⟩ := Xc7 h
 refine Xyq hT hC rfl rfl rfl rfl ⟨hq.1, hq.2.1, hq.2.2, by decide⟩ ?_
 refine kO hT hC ?_
 refine Vc.nil (Xao (Xaa ?_))
 refine kO hT hC ?_
 refine Vc.nil ?_
 refine kL [0,1,5,6] [128] [_,_,_,_] [_] ?_
 refine kX h (fun v2 => ([(6, .sv (.int .i64 v2.1))], [(128, some (.ints .u8 v2.2))])) (fun v4 => ([(0, .any), (1, .any), (6, .any)], [(128, some (.ints .u8 v4))])) (kW hC []) (fun v2 s h => ?_) fun v4 h => ?_
 unfold Xb5 at h
 refine Xao (Xaa ?_)
 iterate 3 refine kO hT hC ?_
 refine Vc.nil ?_
 refine kS h ?_ ?_ <;> intro b3 h
 refine kt b3 (Xae (Xad (Xao (Xa0 (Xaf ?_)))))
 iterate 3 refine kO hT hC ?_
 iterate 2 refine kQ hT hC h fun h => ?_
 refine Vc.nil (Xbi (Xad (Xaf ?_)))
 iterate 3 refine kO hT hC ?_
 exact Vc.nil kG
 exact kf b3 (Xa2 (Xbw ku))
 refine Xad (Xaa ?_)
 iterate 3 refine kO hT hC ?_
 exact Vc.nil (Xac kR)
def Xp4 (r : ByteArray) : AV := .sv (.str r)
def Xp3 (r : ByteArray) : Xap := []
theorem Xf9 {p0 r} (h : Xdo p0 = some r) : AC Try.prog 127 [.sv (.int .i64 p0)] [] (Xp4 r) (Xp3 r) := by
 refine Xab hT Try.func127 rfl fun C hC => ?_
 unfold Xdo at h
 refine Xaa ?_
 refine kO hT hC ?_
 refine kN ?_
 iterate 3 refine kO hT hC ?_
 refine kN ?_
 refine kO hT hC ?_
 refine Vc.nil (Xao ?_)
 refine kL [3,4] [] [_,_] [] ?_
 refine kX h (fun v2 => ([(3, .sv (.int .i64 v2.1)), (4, .sv (.str v2.2))], [])) (fun v4 => ([(4, .sv (.str v4)), (3, .any)], [])) (kW hC []) (fun v2 s h => ?_) fun v4 h => ?_
 unfold Xcb at h
 refine Xao (Xaa ?_)
 iterate 2 refine kO hT hC ?_
 refine Vc.nil ?_
 refine kS h ?_ ?_ <;> intro b3 h
 refine kt b3 (Xae (Xad (Xa0 (Xaa ?_))))
 refine kO hT hC ?_
 refine kQ hT hC h fun h => ?_
 iterate 5 refine kO hT hC ?_
 refine kQ hT hC h fun h => ?_
 refine kO hT hC ?_
 refine Vc.nil (Xaf ?_)
 refine kO hT hC ?_
 refine kQ hT hC h fun h => ?_
 refine kO hT hC ?_
 exact Vc.nil (Xbi kG)
 exact kf b3 (Xa2 (Xbw ku))
 refine Xad (Xaa ?_)
 iterate 3 refine kO hT hC ?_
 refine kC hC [] Try.call155 h (fun _ => Xnv) fun q6 h => ?_
 refine kO hT hC ?_
 refine kQ hT hC h fun h => ?_
 refine kO hT hC ?_
 exact Vc.nil (Xac kR)
def Xgo (r : Bool) : AV := .sv (.bool r)
def Xgn (r : Bool) : Xap := []
theorem Xhm {p0 p1 r} (h : Xde p0 p1 = some r) : AC Try.prog 111 [.sv (.ints .i64 p0), .sv (.ints .i64 p1)] [] (Xgo r) (Xgn r) := by
 refine Xab hT Try.func111 rfl fun C hC => ?_
 unfold Xde at h
 refine Xaa ?_
 refine kO hT hC ?_
 refine Vc.nil (Xao (Xaa ?_))
 iterate 5 refine kO hT hC ?_
 refine Vc.nil ?_
 refine kS h ?_ ?_ <;> intro b1 h
 refine kt b1 (Xaa ?_)
 refine kO hT hC ?_
 exact Vc.nil (Xac (Xak kR))
 refine kf b1 (Xae (Xad (Xao (Xaa ?_))))
 refine kO hT hC ?_
 refine Vc.nil ?_
 refine kL [0,1,5] [] [_,_,_] [] ?_
 obtain ⟨o5, hl, h⟩ := Xcl h
 refine Xgq (fun v2 => ([(5, .sv (.int .i64 v2))], [])) (fun v4 => ([(0, .any), (1, .any), (5, .any)], [])) (fun r => Xod C T Try.f111.results.toList (Xgo r) (Xgn r)) hl ?_ ?_ ?_ ?_
 apply Xjg hC []
 exact co
 rfl
 decide
 rfl
 intro v2 s hs
 have h := hs
 unfold Xcg at h
 refine Xao (Xaa ?_)
 iterate 4 refine kO hT hC ?_
 refine Vc.nil ?_
 refine kS h ?_ ?_ <;> intro b6 h
 refine kt b6 (Xae (Xad (Xao (Xa0 ?_))))
 refine Xfb hm ?_
 iterate 2 refine kO hT hC ?_
 refine kQ hT hC h fun h => ?_
 iterate 3 refine kO hT hC ?_
 refine kQ hT hC h fun h => ?_
 iterate 2 refine kO hT hC ?_
 refine kD ?_
 refine kS h ?_ ?_ <;> intro b7 h
 refine kt b7 (Xaa ?_)
 refine kO hT hC ?_
 refine Vc.nil (Xac (Xky (Xak ?_)))
 obtain rfl := kj h
 refine Xrx (Xrt ?_)
 exact Xqe (Xfh.refl _) rfl trivial
 refine kf b7 (Xae (Xbi (Xad (Xaf ?_))))
 iterate 3 refine kO hT hC ?_
 exact Vc.nil kG
 exact kf b6 (Xa2 (Xbw kb))
 intro v4 e
 subst e
 refine Xad (Xaa ?_)
 refine kO hT hC ?_
 exact Vc.nil (Xac kR)
 intro r' σ' e hE
 subst e
 obtain rfl := kj h
 refine Xak ?_
 exact hE
def Xpe (r : Par) : AV := .agg [.sv (.int .i64 r.Qp), .sv (.bool r.Large), .sv (.bool r.Exact), .sv (.bool r.Confined)]
def Xpd (r : Par) : Xap := []
theorem Xrk {p0 r} (h : Xj7 p0 = some r) : AC Try.prog 32 [.agg [.sv (.int .i64 p0.Qp), .sv (.bool p0.Large), .sv (.bool p0.Exact), .sv (.bool p0.Confined)]] [] (Xpe r) (Xpd r) := by
 refine Xab hT Try.func32 rfl fun C hC => ?_
 unfold Xj7 at h
 refine Xaa ?_
 iterate 2 refine kO hT hC ?_
 refine kN ?_
 refine kO hT hC ?_
 refine kN ?_
 iterate 4 refine kO hT hC ?_
 refine kN ?_
 iterate 4 refine kO hT hC ?_
 refine kN ?_
 iterate 4 refine kO hT hC ?_
 refine kN ?_
 iterate 4 refine kO hT hC ?_
 refine kN ?_
 iterate 2 refine kO hT hC ?_
 exact Vc.nil (Xac kR)
def Xm4 (r : Rate) : AV := .agg [.sv (.int .i64 r.Qp), .sv (.int .i64 r.Target), .sv (.int .i64 r.Debt)]
def Xm3 (r : Rate) : Xap := []
theorem Xph {p0 r} (h : Xif p0 = some r) : AC Try.prog 33 [.agg [.sv (.int .i64 p0.Qp), .sv (.int .i64 p0.Target), .sv (.int .i64 p0.Debt)]] [] (Xm4 r) (Xm3 r) := by
 refine Xab hT Try.func33 rfl fun C hC => ?_
 unfold Xif at h
 refine Xaa ?_
 iterate 2 refine kO hT hC ?_
 refine kN ?_
 refine kO hT hC ?_
 refine kN ?_
 iterate 4 refine kO hT hC ?_
 refine kN ?_
 iterate 4 refine kO hT hC ?_
 refine kN ?_
 iterate 4 refine kO hT hC ?_
 refine kN ?_
 iterate 2 refine kO hT hC ?_
 exact Vc.nil (Xac kR)
def Xgz (r : Int) : AV := .sv (.int .i64 r)
def Xgy (r : Int) : Xap := []
theorem Xdt {p0 r} (h : Xb7 p0 = some r) : AC Try.prog 150 [.sv (.ints .i64 p0)] [] (Xgz r) (Xgy r) := by
 refine Xab hT Try.func150 rfl fun C hC => ?_
 unfold Xb7 at h
 refine Xaa ?_
 refine kO hT hC ?_
 refine Vc.nil (Xao ?_)
 refine kL [0] [] [_] [] ?_
 refine kA h (fun v1 => ([(12, .sv (.bool v1))], [])) (fun v1 h => ?_) fun v1 h => ?_
 refine Xaf ?_
 iterate 4 refine kO hT hC ?_
 refine kS h ?_ ?_ <;> intro b1 h
 iterate 3 refine kF hC b1 ?_
 refine kP hC true b1 ?_
 exact Vc.nil kM
 iterate 3 refine kI hT hC b1 ?_
 refine kP hC false b1 ?_
 exact Vc.nil kM
 refine kS h ?_ ?_ <;> intro b2 h
 refine kt b2 (Xaa ?_)
 refine kO hT hC ?_
 exact Vc.nil (Xac (Xak kR))
 refine kf b2 (Xae (Xad (Xaa ?_)))
 refine kO hT hC ?_
 refine Vc.nil (Xao (Xaa ?_))
 refine kO hT hC ?_
 refine Vc.nil ?_
 refine kL [0,3,4] [] [_,_,_] [] ?_
 obtain ⟨o9, hl, h⟩ := Xcl h
 refine Xgq (fun v4 => ([(3, .sv (.int .i64 v4.1)), (4, .sv (.int .i64 v4.2))], [])) (fun v7 => ([(3, .sv (.int .i64 v7)), (0, .any), (4, .any)], [])) (fun r => Xod C T Try.f150.results.toList (Xgz r) (Xgy r)) hl ?_ ?_ ?_ ?_
 try dsimp only
 apply Xjg hC []
 exact co
 rfl
 decide
 rfl
 intro v4 s hs
 have h := hs
 unfold Xbx at h
 refine Xao (Xaa ?_)
 iterate 4 refine kO hT hC ?_
 refine Vc.nil ?_
 refine kS h ?_ ?_ <;> intro b7 h
 refine kt b7 (Xae (Xad (Xao (Xa0 (Xao (Xaa ?_))))))
 iterate 2 refine kO hT hC ?_
 refine kQ hT hC h fun h => ?_
 refine kO hT hC ?_
 refine kC hC [] Try.call48 h (fun _ => Xaq) fun q8 h => ?_
 refine kO hT hC ?_
 refine Vc.nil ?_
 refine kS h ?_ ?_ <;> intro b8 h
 refine kt b8 (Xaa ?_)
 refine kO hT hC ?_
 refine Vc.nil (Xac (Xak (Xky (Xak ?_))))
 obtain rfl := kj h
 refine Xrx (Xrt ?_)
 exact Xqe (Xfh.refl _) rfl trivial
 refine kf b8 (Xae (Xad (Xaf ?_)))
 iterate 3 refine kO hT hC ?_
 refine kQ hT hC h fun h => ?_
 iterate 3 refine kO hT hC ?_
 refine Vc.nil (Xbi (Xad (Xaf ?_)))
 iterate 3 refine kO hT hC ?_
 exact Vc.nil kG
 exact kf b7 (Xa2 (Xbw kb))
 intro v7 e
 subst e
 refine Xad (Xaa ?_)
 iterate 2 refine kO hT hC ?_
 exact Vc.nil (Xac kR)
 intro r' σ' e hE
 subst e
 obtain rfl := kj h
 refine Xak ?_
 exact hE
def Xjc (r : Int) : AV := .sv (.int .i64 r)
def Xjb (r : Int) : Xap := []
theorem Xki {p0 r} (h : Xci p0 = some r) : AC Try.prog 148 [.agg [.sv (.int .i64 p0.Level), .sv (.int .i64 p0.Bits), .sv (.ints .i64 p0.Cols), .sv (.ints .i64 p0.Rows)]] [] (Xjc r) (Xjb r) := by
 refine Xab hT Try.func148 rfl fun C hC => ?_
 unfold Xci at h
 refine Xaa ?_
 iterate 2 refine kO hT hC ?_
 refine Vc.nil ?_
 refine Xfb hm ?_
 iterate 2 refine kO hT hC ?_
 refine kC hC [] Try.call150 h (fun _ => Xdt) fun q1 h => ?_
 iterate 2 refine kO hT hC ?_
 refine kC hC [] Try.call150 h (fun _ => Xdt) fun q2 h => ?_
 iterate 2 refine kO hT hC ?_
 exact kD (Xac kR)
def Xgt (r : Int) : AV := .sv (.int .i64 r)
def Xgs (r : Int) : Xap := []
theorem Xhg {p0 r} (h : Xbm p0 = some r) : AC Try.prog 149 [.sv (.int .i64 p0)] [] (Xgt r) (Xgs r) := by
 refine Xab hT Try.func149 rfl fun C hC => ?_
 unfold Xbm at h
 refine Xaa ?_
 refine kO hT hC ?_
 refine Vc.nil (Xao (Xaa ?_))
 refine kO hT hC ?_
 refine Vc.nil (Xa0 (Xaa ?_))
 iterate 2 refine kO hT hC ?_
 refine Vc.nil ?_
 refine kS h ?_ ?_ <;> intro b1 h
 refine kt b1 (Xaa ?_)
 refine kO hT hC ?_
 exact Vc.nil (Xac (Xky (Xak kR)))
 refine kf b1 (Xaa ?_)
 iterate 2 refine kO hT hC ?_
 refine Vc.nil ?_
 refine kS h ?_ ?_ <;> intro b2 h
 refine kt b2 (Xaa ?_)
 refine kO hT hC ?_
 exact Vc.nil (Xac (Xky (Xak kR)))
 refine kf b2 (Xaa ?_)
 iterate 2 refine kO hT hC ?_
 refine Vc.nil ?_
 refine kS h ?_ ?_ <;> intro b3 h
 refine kt b3 (Xaa ?_)
 refine kO hT hC ?_
 exact Vc.nil (Xac (Xky (Xak kR)))
 refine kf b3 (Xae (Xbi (Xad (Xaa ?_))))
 refine kO hT hC ?_
 exact Vc.nil (Xac kR)
def Xpw (r : Bool) : AV := .sv (.bool r)
def Xpv (r : Bool) : Xap := []
theorem Xi7 {p0 r} (h : Xej p0 = some r) : AC Try.prog 112 [.agg [.sv (.int .i64 p0.Level), .sv (.int .i64 p0.Bits), .sv (.ints .i64 p0.Cols), .sv (.ints .i64 p0.Rows)]] [] (Xpw r) (Xpv r) := by
 refine Xab hT Try.func112 rfl fun C hC => ?_
 unfold Xej at h
 refine Xaa ?_
 iterate 2 refine kO hT hC ?_
 refine Vc.nil ?_
 refine kL [1,2] [16] [_,_] [_] ?_
 refine kA h (fun v1 => ([(2, .sv (.bool v1)), (1, .any)], [(16, none)])) (fun v1 h => ?_) fun v1 h => ?_
 refine Xl6 hm ?_
 refine kO hT hC ?_
 refine kC hC [] Try.call148 h (fun _ => Xki) fun q2 h => ?_
 iterate 2 refine kO hT hC ?_
 refine kC hC [] Try.call149 h (fun _ => Xhg) fun q3 h => ?_
 refine kC hC [] Try.call48 h (fun _ => Xaq) fun q4 h => ?_
 refine kO hT hC ?_
 refine kS h ?_ ?_ <;> intro b1 h
 iterate 2 refine kI hT hC b1 ?_
 refine kE hC b1 [] Try.call48 h (fun _ => Xaq) fun q5 h => ?_
 refine kP hC true b1 ?_
 refine kO hT hC ?_
 exact kD kM
 iterate 3 refine kF hC b1 ?_
 refine kP hC false b1 ?_
 refine kO hT hC ?_
 exact kD kM
 exact Xac kR
def Xlk (r : Int) : AV := .sv (.int .i64 r)
def Xlj (r : Int) : Xap := []
theorem Xnr {p0 r} (h : Xdz p0 = some r) : AC Try.prog 113 [.agg [.sv (.int .i64 p0.Level), .sv (.int .i64 p0.Bits), .sv (.ints .i64 p0.Cols), .sv (.ints .i64 p0.Rows)]] [] (Xlk r) (Xlj r) := by
 refine Xab hT Try.func113 rfl fun C hC => ?_
 unfold Xdz at h
 refine Xaa ?_
 iterate 2 refine kO hT hC ?_
 refine Vc.nil (Xao (Xaa ?_))
 refine kO hT hC ?_
 refine kC hC [] Try.call112 h (fun _ => Xi7) fun q1 h => ?_
 refine kO hT hC ?_
 refine Vc.nil ?_
 refine kS h ?_ ?_ <;> intro b1 h
 refine kt b1 (Xaa ?_)
 refine kO hT hC ?_
 exact Vc.nil (Xac (Xak kR))
 refine kf b1 (Xae (Xad (Xaa ?_)))
 iterate 8 refine kO hT hC ?_
 exact Vc.nil (Xac kR)
def Xpo (r : Bool) : AV := .sv (.bool r)
def Xpn (r : Bool) : Xap := []
theorem Xr6 {p0 r} (h : Xfv p0 = some r) : AC Try.prog 114 [.agg [.sv (.int .i64 p0.Qp), .sv (.bool p0.Large), .sv (.bool p0.Exact), .sv (.bool p0.Confined)]] [] (Xpo r) (Xpn r) := by
 refine Xab hT Try.func114 rfl fun C hC => ?_
 unfold Xfv at h
 refine Xaa ?_
 iterate 2 refine kO hT hC ?_
 refine Vc.nil ?_
 refine kL [1,2] [16] [_,_] [_] ?_
 refine kA h (fun v1 => ([(2, .sv (.bool v1)), (1, .any)], [(16, none)])) (fun v1 h => ?_) fun v1 h => ?_
 refine Xaf ?_
 iterate 2 refine kO hT hC ?_
 refine kC hC [] Try.call48 h (fun _ => Xaq) fun q2 h => ?_
 refine kO hT hC ?_
 refine kS h ?_ ?_ <;> intro b1 h
 iterate 3 refine kI hT hC b1 ?_
 refine kS h ?_ ?_ <;> intro b2 h
 iterate 2 refine kI hT hC b2 ?_
 refine Xjf hC rfl rfl rfl rfl b1 rfl rfl (b := true) b2 rfl rfl rfl trivial ?_
 refine kI hT hC b1 ?_
 refine kP hC true b1 ?_
 refine kO hT hC ?_
 exact Vc.nil kM
 iterate 2 refine kF hC b2 ?_
 refine Xjf hC rfl rfl rfl rfl b1 rfl rfl (b := false) b2 rfl rfl rfl trivial ?_
 refine kI hT hC b1 ?_
 refine kP hC true b1 ?_
 refine kO hT hC ?_
 exact Vc.nil kM
 iterate 3 refine kF hC b1 ?_
 iterate 2 refine Xyp hC rfl rfl rfl rfl rfl rfl ?_
 iterate 2 refine kF hC b1 ?_
 refine kP hC false b1 ?_
 refine kO hT hC ?_
 exact Vc.nil kM
 exact Xac kR
def Xno (r : Bool) : AV := .sv (.bool r)
def Xnn (r : Bool) : Xap := []
theorem Xpr {p0 r} (h : Xew p0 = some r) : AC Try.prog 115 [.agg [.sv (.int .i64 p0.Qp), .sv (.int .i64 p0.Target), .sv (.int .i64 p0.Debt)]] [] (Xno r) (Xnn r) := by
 refine Xab hT Try.func115 rfl fun C hC => ?_
 unfold Xew at h
 refine Xaa ?_
 iterate 2 refine kO hT hC ?_
 refine Vc.nil ?_
 refine kL [1,2] [16] [_,_] [_] ?_
 refine kA h (fun v1 => ([(2, .sv (.bool v1)), (1, .any)], [(16, none)])) (fun v1 h => ?_) fun v1 h => ?_
 refine Xaf ?_
 iterate 2 refine kO hT hC ?_
 refine kC hC [] Try.call48 h (fun _ => Xaq) fun q2 h => ?_
 refine kO hT hC ?_
 refine kS h ?_ ?_ <;> intro b1 h
 iterate 2 refine kI hT hC b1 ?_
 refine kE hC b1 [] Try.call48 h (fun _ => Xaq) fun q3 h => ?_
 refine kP hC true b1 ?_
 refine kO hT hC ?_
 refine kS h ?_ ?_ <;> intro b2 h
 iterate 8 refine kI hT hC b2 ?_
 refine kE hC b2 [] Try.call48 h (fun _ => Xaq) fun q4 h => ?_
 refine kP hC true b2 ?_
 refine kO hT hC ?_
 exact Vc.nil kM
 iterate 9 refine kF hC b2 ?_
 refine kP hC false b2 ?_
 refine kO hT hC ?_
 exact Vc.nil kM
 iterate 3 refine kF hC b1 ?_
 refine kP hC false b1 ?_
 refine kO hT hC ?_
 iterate 9 refine kF hC rfl ?_
 iterate 2 refine kO hT hC ?_
 exact Vc.nil kM
 exact Xac kR
def Xnq (r : (Int × Int)) : AV := .tup [.sv (.int .i64 r.1), .sv (.int .i64 r.2)]
def Xnp (r : (Int × Int)) : Xap := []
theorem Xpx {p0 r} (h : Xex p0 = some r) : AC Try.prog 116 [.agg [.sv (.int .i64 p0.Level), .sv (.int .i64 p0.Bits), .sv (.ints .i64 p0.Cols), .sv (.ints .i64 p0.Rows)]] [] (Xnq r) (Xnp r) := by
 refine Xab hT Try.func116 rfl fun C hC => ?_
 unfold Xex at h
 refine Xaa ?_
 iterate 3 refine kO hT hC ?_
 refine Vc.nil (Xao (Xaa ?_))
 refine kO hT hC ?_
 refine kC hC [] Try.call112 h (fun _ => Xi7) fun q1 h => ?_
 refine kO hT hC ?_
 refine Vc.nil ?_
 refine kS h ?_ ?_ <;> intro b1 h
 refine kt b1 (Xaa ?_)
 iterate 2 refine kO hT hC ?_
 exact Vc.nil (Xac (Xak kR))
 refine kf b1 (Xae (Xad ?_))
 refine Xfb hm ?_
 iterate 2 refine kO hT hC ?_
 refine kC hC [] Try.call150 h (fun _ => Xdt) fun q2 h => ?_
 iterate 3 refine kO hT hC ?_
 refine kC hC [] Try.call150 h (fun _ => Xdt) fun q3 h => ?_
 iterate 3 refine kO hT hC ?_
 exact kD (Xac kR)
def Xkh (r : Bool) : AV := .sv (.bool r)
def Xkg (r : Bool) : Xap := []
theorem Xlh {p0 r} (h : Xc8 p0 = some r) : AC Try.prog 74 [.agg [.sv (.int .i64 p0.Seq.Level), .sv (.int .i64 p0.Seq.Bits), .sv (.ints .i64 p0.Seq.Cols), .sv (.ints .i64 p0.Seq.Rows), .sv (.int .i64 p0.Par.Qp), .sv (.bool p0.Par.Large), .sv (.bool p0.Par.Exact), .sv (.bool p0.Par.Confined), .sv (.int .i64 p0.Rate.Qp), .sv (.int .i64 p0.Rate.Target), .sv (.int .i64 p0.Rate.Debt), .sv (.int .i64 p0.Frame), .sv (.int .i64 p0.Since), .sv (.int .i64 p0.Every), .sv (.int .i64 p0.Reach), .sv (.bool p0.Has), .sv (.int .i64 p0.Ref.Wide), .sv (.int .i64 p0.Ref.High), .sv (.str p0.Ref.Dots)]] [] (Xkh r) (Xkg r) := by
 refine Xab hT Try.func74 rfl fun C hC => ?_
 unfold Xc8 at h
 refine Xaa ?_
 iterate 2 refine kO hT hC ?_
 refine Vc.nil (Xao ?_)
 refine kL [1] [16] [_] [_] ?_
 refine kA h (fun v1 => ([(35, .sv (.bool v1))], [])) (fun v1 h => ?_) fun v1 h => ?_
 refine Xaf ?_
 iterate 2 refine kO hT hC ?_
 refine kC hC [] Try.call113 h (fun _ => Xnr) fun q2 h => ?_
 iterate 2 refine kO hT hC ?_
 refine kS h ?_ ?_ <;> intro b1 h
 iterate 4 refine kF hC b1 ?_
 refine kP hC true b1 ?_
 refine kO hT hC ?_
 iterate 4 refine kF hC rfl ?_
 iterate 2 refine kO hT hC ?_
 iterate 3 refine kF hC rfl ?_
 iterate 2 refine kO hT hC ?_
 iterate 8 refine kF hC rfl ?_
 refine kO hT hC ?_
 exact Vc.nil kM
 iterate 2 refine kI hT hC b1 ?_
 refine kE hC b1 [] Try.call114 h (fun _ => Xr6) fun q3 h => ?_
 refine kI hT hC b1 ?_
 refine kP hC false b1 ?_
 refine kO hT hC ?_
 refine kS h ?_ ?_ <;> intro b2 h
 iterate 2 refine kI hT hC (kn b2) ?_
 refine kE hC (kn b2) [] Try.call115 h (fun _ => Xpr) fun q4 h => ?_
 refine kI hT hC (kn b2) ?_
 refine kP hC false (kn b2) ?_
 refine kO hT hC ?_
 refine kS h ?_ ?_ <;> intro b3 h
 iterate 3 refine kI hT hC (kn b3) ?_
 refine kP hC false (kn b3) ?_
 refine kO hT hC ?_
 refine kS h ?_ ?_ <;> intro b4 h
 iterate 8 refine kF hC b4 ?_
 refine kP hC true b4 ?_
 exact Vc.nil kM
 iterate 6 refine kI hT hC b4 ?_
 refine kJ hT hC b4 h fun h => ?_
 refine kI hT hC b4 ?_
 refine kP hC false b4 ?_
 exact Vc.nil kM
 iterate 3 refine kF hC (kn b3) ?_
 refine kP hC true (kn b3) ?_
 refine kO hT hC ?_
 iterate 8 refine kF hC rfl ?_
 refine kO hT hC ?_
 exact Vc.nil kM
 iterate 4 refine kF hC (kn b2) ?_
 refine kP hC true (kn b2) ?_
 refine kO hT hC ?_
 iterate 3 refine kF hC rfl ?_
 iterate 2 refine kO hT hC ?_
 iterate 8 refine kF hC rfl ?_
 refine kO hT hC ?_
 exact Vc.nil kM
 refine kS h ?_ ?_ <;> intro b5 h
 refine kt b5 (Xaa ?_)
 refine kO hT hC ?_
 exact Vc.nil (Xac (Xak kR))
 refine kf b5 (Xae (Xad (Xao ?_)))
 refine kL [1] [16] [_] [_] ?_
 refine kA h (fun v5 => ([(51, .sv (.bool v5))], [])) (fun v5 h => ?_) fun v5 h => ?_
 refine Xaf ?_
 iterate 2 refine kO hT hC ?_
 refine kC hC [] Try.call48 h (fun _ => Xaq) fun q6 h => ?_
 iterate 2 refine kO hT hC ?_
 refine kS h ?_ ?_ <;> intro b6 h
 iterate 2 refine kI hT hC (kn b6) ?_
 refine kE hC (kn b6) [] Try.call48 h (fun _ => Xaq) fun q7 h => ?_
 refine kI hT hC (kn b6) ?_
 refine kP hC false (kn b6) ?_
 refine kO hT hC ?_
 refine kS h ?_ ?_ <;> intro b7 h
 iterate 2 refine kI hT hC (kn b7) ?_
 refine kE hC (kn b7) [] Try.call48 h (fun _ => Xaq) fun q8 h => ?_
 refine kI hT hC (kn b7) ?_
 refine kP hC false (kn b7) ?_
 exact Vc.nil kM
 iterate 4 refine kF hC (kn b7) ?_
 refine kP hC true (kn b7) ?_
 exact Vc.nil kM
 iterate 4 refine kF hC (kn b6) ?_
 refine kP hC true (kn b6) ?_
 refine kO hT hC ?_
 iterate 4 refine kF hC rfl ?_
 refine kO hT hC ?_
 exact Vc.nil kM
 refine kS h ?_ ?_ <;> intro b8 h
 refine kt b8 (Xaa ?_)
 refine kO hT hC ?_
 exact Vc.nil (Xac (Xak kR))
 refine kf b8 (Xae (Xad (Xaa ?_)))
 iterate 2 refine kO hT hC ?_
 refine kC hC [] Try.call116 h (fun _ => Xpx) fun q9 h => ?_
 iterate 5 refine kO hT hC ?_
 refine Vc.nil (Xao (Xaa ?_))
 iterate 2 refine kO hT hC ?_
 refine Vc.nil ?_
 refine kS h ?_ ?_ <;> intro b9 h
 refine kt b9 ?_
 refine kL [1,3,4] [16] [_,_,_] [_] ?_
 refine kA h (fun v10 => ([(2, .sv (.bool v10)), (1, .any), (3, .any), (4, .any)], [(16, none)])) (fun v10 h => ?_) fun v10 h => ?_
 refine Xaf ?_
 iterate 2 refine kO hT hC ?_
 refine kC hC [] Try.call47 h (fun _ => Xr8) fun q11 h => ?_
 refine kO hT hC ?_
 refine kS h ?_ ?_ <;> intro b10 h
 iterate 5 refine kI hT hC b10 ?_
 refine kP hC true b10 ?_
 refine kO hT hC ?_
 refine kS h ?_ ?_ <;> intro b11 h
 iterate 5 refine kI hT hC b11 ?_
 refine kP hC true b11 ?_
 refine kO hT hC ?_
 exact Vc.nil kM
 iterate 5 refine kF hC b11 ?_
 refine kP hC false b11 ?_
 refine kO hT hC ?_
 exact Vc.nil kM
 iterate 5 refine kF hC b10 ?_
 refine kP hC false b10 ?_
 refine kO hT hC ?_
 iterate 5 refine kF hC rfl ?_
 iterate 2 refine kO hT hC ?_
 exact Vc.nil kM
 exact Xac (Xak kR)
 refine kf b9 (Xae (Xad ?_))
 refine kL [1] [16] [_] [_] ?_
 refine kA h (fun v12 => ([(2, .sv (.bool v12)), (1, .any)], [(16, none)])) (fun v12 h => ?_) fun v12 h => ?_
 refine Xaf ?_
 iterate 5 refine kO hT hC ?_
 refine kS h ?_ ?_ <;> intro b12 h
 iterate 4 refine kI hT hC b12 ?_
 refine kP hC true b12 ?_
 refine kO hT hC ?_
 refine kS h ?_ ?_ <;> intro b13 h
 iterate 5 refine kI hT hC b13 ?_
 refine kP hC true b13 ?_
 refine kO hT hC ?_
 exact Vc.nil kM
 iterate 5 refine kF hC b13 ?_
 refine kP hC false b13 ?_
 refine kO hT hC ?_
 exact Vc.nil kM
 iterate 4 refine kF hC b12 ?_
 refine kP hC false b12 ?_
 refine kO hT hC ?_
 iterate 5 refine kF hC rfl ?_
 iterate 2 refine kO hT hC ?_
 exact Vc.nil kM
 exact Xac kR
def Xo1 (r : Int) : AV := .sv (.int .i64 r)
def Xo0 (r : Int) : Xap := []
theorem Xee {p0 r} (h : Xcr p0 = some r) : AC Try.prog 164 [.sv (.ints .i64 p0)] [] (Xo1 r) (Xo0 r) := by
 refine Xab hT Try.func164 rfl fun C hC => ?_
 unfold Xcr at h
 refine Xaa ?_
 refine kO hT hC ?_
 refine kN ?_
 refine kO hT hC ?_
 refine Vc.nil (Xao (Xaa ?_))
 iterate 3 refine kO hT hC ?_
 refine Vc.nil ?_
 refine kL [3,6,7,8] [] [_,_,_,_] [] ?_
 refine kX h (fun v2 => ([(3, .sv (.int .i64 v2.1)), (8, .sv (.int .i64 v2.2))], [])) (fun v4 => ([(3, .sv (.int .i64 v4)), (6, .any), (7, .any), (8, .any)], [])) (kW hC []) (fun v2 s h => ?_) fun v4 h => ?_
 unfold Xc2 at h
 refine Xaa ?_
 refine kO hT hC ?_
 refine Vc.nil (Xao ?_)
 refine kS h ?_ ?_ <;> intro b3 h
 refine kt b3 (Xae (Xad (Xao (Xa0 (Xaa ?_)))))
 refine kQ hT hC h fun h => ?_
 iterate 2 refine kO hT hC ?_
 refine Vc.nil (Xaf ?_)
 iterate 4 refine kO hT hC ?_
 refine Vc.nil (Xbi (Xad (Xaf ?_)))
 iterate 2 refine kO hT hC ?_
 exact Vc.nil kG
 exact kf b3 (Xa2 (Xbw ku))
 refine Xad (Xaa ?_)
 iterate 2 refine kO hT hC ?_
 exact Vc.nil (Xac kR)
def Xc0 (r : Int) : AV := .sv (.int .i64 r)
def Xcz (r : Int) : Xap := []
theorem Xju {p0 r} (h : Xcf p0 = some r) : AC Try.prog 151 [.agg [.sv (.int .i64 p0.Level), .sv (.int .i64 p0.Bits), .sv (.ints .i64 p0.Cols), .sv (.ints .i64 p0.Rows)]] [] (Xc0 r) (Xcz r) := by
 refine Xab hT Try.func151 rfl fun C hC => ?_
 unfold Xcf at h
 refine Xaa ?_
 iterate 2 refine kO hT hC ?_
 refine Vc.nil (Xao (Xaa ?_))
 iterate 7 refine kO hT hC ?_
 refine Vc.nil ?_
 refine kL [1,11,12,13] [16,176] [_,_,_,_] [_,_] ?_
 obtain ⟨o32, hl, h⟩ := Xcl h
 refine Xgq (fun v11 => ([(13, .sv (.int .i64 v11))], [])) (fun v22 => ([(11, .any), (12, .any), (13, .any)], [(176, none)])) (fun r => Xod C T Try.f151.results.toList (Xc0 r) (Xcz r)) hl ?_ ?_ ?_ ?_
 apply Xjg hC []
 exact co
 rfl
 decide
 rfl
 intro v11 s hs
 have h := hs
 unfold Xa1 at h
 refine Xaa ?_
 refine kO hT hC ?_
 refine Vc.nil (Xao ?_)
 refine kS h ?_ ?_ <;> intro b17 h
 refine kt b17 (Xae (Xad (Xao (Xa0 (Xaa ?_)))))
 iterate 2 refine kQ hT hC h fun h => ?_
 refine kO hT hC ?_
 refine Vc.nil (Xao (Xaa ?_))
 iterate 2 refine kO hT hC ?_
 refine kC hC [] Try.call52 h (fun _ => Xaj) fun q23 h => ?_
 refine kO hT hC ?_
 refine Vc.nil ?_
 refine kS h ?_ ?_ <;> intro b18 h
 refine kt b18 (Xaa ?_)
 refine kO hT hC ?_
 refine Vc.nil (Xac (Xak (Xky (Xak ?_))))
 obtain rfl := kj h
 refine Xrx (Xrt ?_)
 exact Xqe (Xfh.refl _) rfl trivial
 refine kf b18 (Xae (Xad (Xaa ?_)))
 iterate 3 refine kO hT hC ?_
 refine Vc.nil ?_
 refine kL [1,11,12,13,21,22,23] [16,176] [_,_,_,_,_,_,_] [_,_] ?_
 obtain ⟨o31, hl, h⟩ := Xcl h
 refine Xgq (fun v26 => ([(23, .sv (.int .i64 v26))], [])) (fun v29 => ([(21, .any), (22, .any), (23, .any)], [])) (fun r => Xod C T Try.f151.results.toList (Xc0 r) (Xcz r)) hl ?_ ?_ ?_ ?_
 apply Xjg hC []
 exact co
 rfl
 decide
 rfl
 intro v26 s hs
 have h := hs
 unfold Xas at h
 refine Xaa ?_
 refine kO hT hC ?_
 refine Vc.nil (Xao ?_)
 refine kS h ?_ ?_ <;> intro b23 h
 refine kt b23 (Xae (Xad (Xao (Xa0 (Xaa ?_)))))
 refine kQ hT hC h fun h => ?_
 iterate 2 refine kO hT hC ?_
 refine kN ?_
 refine kO hT hC ?_
 refine kC hC [] Try.call52 h (fun _ => Xaj) fun q30 h => ?_
 refine kO hT hC ?_
 refine Vc.nil ?_
 refine kS h ?_ ?_ <;> intro b24 h
 refine kt b24 (Xaa ?_)
 refine kO hT hC ?_
 refine Vc.nil (Xac (Xky (Xak ?_)))
 obtain rfl := kj h
 refine Xrx (Xrt ?_)
 exact Xqe (Xfh.refl _) rfl trivial
 refine kf b24 (Xae (Xbi (Xad (Xaf ?_))))
 iterate 2 refine kO hT hC ?_
 exact Vc.nil kG
 exact kf b23 (Xa2 (Xbw kb))
 intro v29 e
 subst e
 refine Xbi (Xad (Xaf ?_))
 iterate 2 refine kO hT hC ?_
 exact Vc.nil kG
 intro r' σ' e hE
 subst e
 obtain rfl := kj h
 refine Xky (Xak (Xrx (Xrt ?_)))
 exact hE
 exact kf b17 (Xa2 (Xbw kb))
 intro v22 e
 subst e
 refine Xad ?_
 refine Xfb hm ?_
 iterate 2 refine kO hT hC ?_
 refine kC hC [] Try.call164 h (fun _ => Xee) fun q33 h => ?_
 iterate 2 refine kO hT hC ?_
 refine kC hC [] Try.call164 h (fun _ => Xee) fun q34 h => ?_
 iterate 2 refine kO hT hC ?_
 exact kD (Xac kR)
 intro r' σ' e hE
 subst e
 obtain rfl := kj h
 refine Xak ?_
 exact hE
def Xgj (r : Int) : AV := .sv (.int .i64 r)
def Xgi (r : Int) : Xap := []
theorem Xhb {p0 r} (h : Xbj p0 = some r) : AC Try.prog 152 [.sv (.int .i64 p0)] [] (Xgj r) (Xgi r) := by
 refine Xab hT Try.func152 rfl fun C hC => ?_
 unfold Xbj at h
 refine Xaa ?_
 refine kO hT hC ?_
 refine Vc.nil (Xao (Xaa ?_))
 refine kO hT hC ?_
 refine kC hC [] Try.call52 h (fun _ => Xaj) fun q1 h => ?_
 refine kO hT hC ?_
 refine Vc.nil ?_
 refine kS h ?_ ?_ <;> intro b1 h
 refine kt b1 (Xaa ?_)
 refine kO hT hC ?_
 exact Vc.nil (Xac (Xak kR))
 refine kf b1 (Xae (Xad (Xaa ?_)))
 iterate 3 refine kO hT hC ?_
 iterate 2 refine kQ hT hC h fun h => ?_
 refine kO hT hC ?_
 exact Vc.nil (Xac kR)
def Xor (r : Bool) : AV := .sv (.bool r)
def Xoq (r : Bool) : Xap := []
theorem Xf0 {p0 r} (h : Xdb p0 = some r) : AC Try.prog 117 [.agg [.sv (.int .i64 p0.Level), .sv (.int .i64 p0.Bits), .sv (.ints .i64 p0.Cols), .sv (.ints .i64 p0.Rows)]] [] (Xor r) (Xoq r) := by
 refine Xab hT Try.func117 rfl fun C hC => ?_
 unfold Xdb at h
 refine Xaa ?_
 iterate 2 refine kO hT hC ?_
 refine Vc.nil ?_
 refine kL [1,2] [16] [_,_] [_] ?_
 refine kA h (fun v1 => ([(2, .sv (.bool v1)), (1, .any)], [(16, none)])) (fun v1 h => ?_) fun v1 h => ?_
 refine Xl6 hm ?_
 refine kO hT hC ?_
 refine kC hC [] Try.call151 h (fun _ => Xju) fun q2 h => ?_
 iterate 2 refine kO hT hC ?_
 refine kC hC [] Try.call152 h (fun _ => Xhb) fun q3 h => ?_
 refine kC hC [] Try.call52 h (fun _ => Xaj) fun q4 h => ?_
 refine kO hT hC ?_
 refine kS h ?_ ?_ <;> intro b1 h
 iterate 2 refine kI hT hC b1 ?_
 refine kE hC b1 [] Try.call52 h (fun _ => Xaj) fun q5 h => ?_
 refine kP hC true b1 ?_
 refine kO hT hC ?_
 exact kD kM
 iterate 3 refine kF hC b1 ?_
 refine kP hC false b1 ?_
 refine kO hT hC ?_
 exact kD kM
 exact Xac kR
def Xk4 (r : Int) : AV := .sv (.int .i64 r)
def Xk3 (r : Int) : Xap := []
theorem Xmk {p0 r} (h : Xdw p0 = some r) : AC Try.prog 118 [.agg [.sv (.int .i64 p0.Level), .sv (.int .i64 p0.Bits), .sv (.ints .i64 p0.Cols), .sv (.ints .i64 p0.Rows)]] [] (Xk4 r) (Xk3 r) := by
 refine Xab hT Try.func118 rfl fun C hC => ?_
 unfold Xdw at h
 refine Xaa ?_
 iterate 2 refine kO hT hC ?_
 refine Vc.nil (Xao (Xaa ?_))
 refine kO hT hC ?_
 refine kC hC [] Try.call117 h (fun _ => Xf0) fun q1 h => ?_
 refine kO hT hC ?_
 refine Vc.nil ?_
 refine kS h ?_ ?_ <;> intro b1 h
 refine kt b1 (Xaa ?_)
 refine kO hT hC ?_
 exact Vc.nil (Xac (Xak kR))
 refine kf b1 (Xae (Xad (Xaa ?_)))
 iterate 8 refine kO hT hC ?_
 exact Vc.nil (Xac kR)
def Xoj (r : Bool) : AV := .sv (.bool r)
def Xoi (r : Bool) : Xap := []
theorem Xiu {p0 r} (h : Xei p0 = some r) : AC Try.prog 119 [.agg [.sv (.int .i64 p0.Qp), .sv (.bool p0.Large), .sv (.bool p0.Exact), .sv (.bool p0.Confined)]] [] (Xoj r) (Xoi r) := by
 refine Xab hT Try.func119 rfl fun C hC => ?_
 unfold Xei at h
 refine Xaa ?_
 iterate 2 refine kO hT hC ?_
 refine Vc.nil ?_
 refine kL [1,2] [16] [_,_] [_] ?_
 refine kA h (fun v1 => ([(2, .sv (.bool v1)), (1, .any)], [(16, none)])) (fun v1 h => ?_) fun v1 h => ?_
 refine Xaf ?_
 iterate 2 refine kO hT hC ?_
 refine kC hC [] Try.call52 h (fun _ => Xaj) fun q2 h => ?_
 refine kO hT hC ?_
 refine kS h ?_ ?_ <;> intro b1 h
 iterate 3 refine kI hT hC b1 ?_
 refine kS h ?_ ?_ <;> intro b2 h
 iterate 2 refine kI hT hC b2 ?_
 refine Xjf hC rfl rfl rfl rfl b1 rfl rfl (b := true) b2 rfl rfl rfl trivial ?_
 refine kI hT hC b1 ?_
 refine kP hC true b1 ?_
 refine kO hT hC ?_
 exact Vc.nil kM
 iterate 2 refine kF hC b2 ?_
 refine Xjf hC rfl rfl rfl rfl b1 rfl rfl (b := false) b2 rfl rfl rfl trivial ?_
 refine kI hT hC b1 ?_
 refine kP hC true b1 ?_
 refine kO hT hC ?_
 exact Vc.nil kM
 iterate 3 refine kF hC b1 ?_
 iterate 2 refine Xyp hC rfl rfl rfl rfl rfl rfl ?_
 iterate 2 refine kF hC b1 ?_
 refine kP hC false b1 ?_
 refine kO hT hC ?_
 exact Vc.nil kM
 exact Xac kR
def Xmf (r : Bool) : AV := .sv (.bool r)
def Xme (r : Bool) : Xap := []
theorem Xoo {p0 r} (h : Xel p0 = some r) : AC Try.prog 120 [.agg [.sv (.int .i64 p0.Qp), .sv (.int .i64 p0.Target), .sv (.int .i64 p0.Debt)]] [] (Xmf r) (Xme r) := by
 refine Xab hT Try.func120 rfl fun C hC => ?_
 unfold Xel at h
 refine Xaa ?_
 iterate 2 refine kO hT hC ?_
 refine Vc.nil ?_
 refine kL [1,2] [16] [_,_] [_] ?_
 refine kA h (fun v1 => ([(2, .sv (.bool v1)), (1, .any)], [(16, none)])) (fun v1 h => ?_) fun v1 h => ?_
 refine Xaf ?_
 iterate 2 refine kO hT hC ?_
 refine kC hC [] Try.call52 h (fun _ => Xaj) fun q2 h => ?_
 refine kO hT hC ?_
 refine kS h ?_ ?_ <;> intro b1 h
 iterate 2 refine kI hT hC b1 ?_
 refine kE hC b1 [] Try.call52 h (fun _ => Xaj) fun q3 h => ?_
 refine kP hC true b1 ?_
 refine kO hT hC ?_
 refine kS h ?_ ?_ <;> intro b2 h
 iterate 8 refine kI hT hC b2 ?_
 refine kE hC b2 [] Try.call52 h (fun _ => Xaj) fun q4 h => ?_
 refine kP hC true b2 ?_
 refine kO hT hC ?_
 exact Vc.nil kM
 iterate 9 refine kF hC b2 ?_
 refine kP hC false b2 ?_
 refine kO hT hC ?_
 exact Vc.nil kM
 iterate 3 refine kF hC b1 ?_
 refine kP hC false b1 ?_
 refine kO hT hC ?_
 iterate 9 refine kF hC rfl ?_
 iterate 2 refine kO hT hC ?_
 exact Vc.nil kM
 exact Xac kR
def Xmj (r : (Int × Int)) : AV := .tup [.sv (.int .i64 r.1), .sv (.int .i64 r.2)]
def Xmi (r : (Int × Int)) : Xap := []
theorem Xou {p0 r} (h : Xen p0 = some r) : AC Try.prog 153 [.agg [.sv (.int .i64 p0.Level), .sv (.int .i64 p0.Bits), .sv (.ints .i64 p0.Cols), .sv (.ints .i64 p0.Rows)]] [] (Xmj r) (Xmi r) := by
 refine Xab hT Try.func153 rfl fun C hC => ?_
 unfold Xen at h
 refine Xaa ?_
 iterate 3 refine kO hT hC ?_
 refine Vc.nil (Xao (Xaa ?_))
 refine kO hT hC ?_
 refine kC hC [] Try.call117 h (fun _ => Xf0) fun q1 h => ?_
 refine kO hT hC ?_
 refine Vc.nil ?_
 refine kS h ?_ ?_ <;> intro b1 h
 refine kt b1 (Xaa ?_)
 iterate 2 refine kO hT hC ?_
 exact Vc.nil (Xac (Xak kR))
 refine kf b1 (Xae (Xad ?_))
 refine Xfb hm ?_
 iterate 2 refine kO hT hC ?_
 refine kC hC [] Try.call164 h (fun _ => Xee) fun q2 h => ?_
 iterate 3 refine kO hT hC ?_
 refine kC hC [] Try.call164 h (fun _ => Xee) fun q3 h => ?_
 iterate 3 refine kO hT hC ?_
 exact kD (Xac kR)
def Xq6 (r : Bool) : AV := .sv (.bool r)
def Xq5 (r : Bool) : Xap := []
theorem Xsu {p0 p1 r} (h : Xgk p0 p1 = some r) : AC Try.prog 121 [.agg [.sv (.int .i64 p0.Wide), .sv (.int .i64 p0.High), .sv (.str p0.Dots)], .agg [.sv (.int .i64 p1.Level), .sv (.int .i64 p1.Bits), .sv (.ints .i64 p1.Cols), .sv (.ints .i64 p1.Rows)]] [] (Xq6 r) (Xq5 r) := by
 refine Xab hT Try.func121 rfl fun C hC => ?_
 unfold Xgk at h
 refine Xaa ?_
 iterate 3 refine kO hT hC ?_
 refine kN ?_
 refine kO hT hC ?_
 refine kC hC [] Try.call153 h (fun _ => Xou) fun q1 h => ?_
 iterate 5 refine kO hT hC ?_
 refine Vc.nil ?_
 refine kL [2,4,5,6] [32] [_,_,_,_] [_] ?_
 refine kA h (fun v2 => ([(4, .sv (.bool v2)), (2, .any), (5, .any), (6, .any)], [(32, none)])) (fun v2 h => ?_) fun v2 h => ?_
 refine Xaf ?_
 refine kO hT hC ?_
 refine kC hC [] Try.call50 h (fun _ => Xq1) fun q3 h => ?_
 refine kO hT hC ?_
 refine kS h ?_ ?_ <;> intro b1 h
 iterate 4 refine kI hT hC b1 ?_
 refine kP hC true b1 ?_
 refine kO hT hC ?_
 refine kS h ?_ ?_ <;> intro b2 h
 iterate 4 refine kI hT hC b2 ?_
 refine kP hC true b2 ?_
 refine kO hT hC ?_
 exact Vc.nil kM
 iterate 4 refine kF hC b2 ?_
 refine kP hC false b2 ?_
 refine kO hT hC ?_
 exact Vc.nil kM
 iterate 4 refine kF hC b1 ?_
 refine kP hC false b1 ?_
 refine kO hT hC ?_
 iterate 4 refine kF hC rfl ?_
 iterate 2 refine kO hT hC ?_
 exact Vc.nil kM
 exact Xac kR
def Xjt (r : Bool) : AV := .sv (.bool r)
def Xjs (r : Bool) : Xap := []
theorem Xk1 {p0 r} (h : Xcy p0 = some r) : AC Try.prog 76 [.agg [.sv (.int .i64 p0.Seq.Level), .sv (.int .i64 p0.Seq.Bits), .sv (.ints .i64 p0.Seq.Cols), .sv (.ints .i64 p0.Seq.Rows), .sv (.int .i64 p0.Par.Qp), .sv (.bool p0.Par.Large), .sv (.bool p0.Par.Exact), .sv (.bool p0.Par.Confined), .sv (.int .i64 p0.Rate.Qp), .sv (.int .i64 p0.Rate.Target), .sv (.int .i64 p0.Rate.Debt), .sv (.int .i64 p0.Frame), .sv (.int .i64 p0.Since), .sv (.int .i64 p0.Every), .sv (.int .i64 p0.Reach), .sv (.bool p0.Has), .sv (.int .i64 p0.Ref.Wide), .sv (.int .i64 p0.Ref.High), .sv (.str p0.Ref.Dots)]] [] (Xjt r) (Xjs r) := by
 refine Xab hT Try.func76 rfl fun C hC => ?_
 unfold Xcy at h
 refine Xaa ?_
 iterate 2 refine kO hT hC ?_
 refine Vc.nil (Xao ?_)
 refine kL [1] [16] [_] [_] ?_
 refine kA h (fun v1 => ([(47, .sv (.bool v1))], [])) (fun v1 h => ?_) fun v1 h => ?_
 refine Xl6 hm ?_
 iterate 2 refine kO hT hC ?_
 refine kC hC [] Try.call118 h (fun _ => Xmk) fun q2 h => ?_
 iterate 2 refine kO hT hC ?_
 refine kS h ?_ ?_ <;> intro b1 h
 iterate 4 refine kF hC b1 ?_
 refine kP hC true b1 ?_
 refine kO hT hC ?_
 iterate 4 refine kF hC rfl ?_
 iterate 2 refine kO hT hC ?_
 iterate 9 refine kF hC rfl ?_
 iterate 2 refine kO hT hC ?_
 iterate 4 refine kF hC rfl ?_
 iterate 2 refine kO hT hC ?_
 iterate 4 refine kF hC rfl ?_
 iterate 2 refine kO hT hC ?_
 iterate 4 refine kF hC rfl ?_
 refine kO hT hC ?_
 exact kD kM
 iterate 2 refine kI hT hC b1 ?_
 refine kE hC b1 [] Try.call119 h (fun _ => Xiu) fun q3 h => ?_
 refine kI hT hC b1 ?_
 refine kP hC false b1 ?_
 refine kO hT hC ?_
 refine kS h ?_ ?_ <;> intro b2 h
 iterate 2 refine kI hT hC (kn b2) ?_
 refine kE hC (kn b2) [] Try.call120 h (fun _ => Xoo) fun q4 h => ?_
 refine kI hT hC (kn b2) ?_
 refine kP hC false (kn b2) ?_
 refine kO hT hC ?_
 refine kS h ?_ ?_ <;> intro b3 h
 iterate 5 refine kI hT hC (kn b3) ?_
 refine kJ hT hC (kn b3) h fun h => ?_
 refine kI hT hC (kn b3) ?_
 refine kE hC (kn b3) [] Try.call52 h (fun _ => Xaj) fun q5 h => ?_
 refine kI hT hC (kn b3) ?_
 refine kP hC false (kn b3) ?_
 refine kO hT hC ?_
 refine kS h ?_ ?_ <;> intro b4 h
 iterate 2 refine kI hT hC (kn b4) ?_
 refine kE hC (kn b4) [] Try.call52 h (fun _ => Xaj) fun q6 h => ?_
 refine kI hT hC (kn b4) ?_
 refine kP hC false (kn b4) ?_
 refine kO hT hC ?_
 refine kS h ?_ ?_ <;> intro b5 h
 iterate 2 refine kI hT hC (kn b5) ?_
 refine kE hC (kn b5) [] Try.call52 h (fun _ => Xaj) fun q7 h => ?_
 refine kI hT hC (kn b5) ?_
 refine kP hC false (kn b5) ?_
 refine kO hT hC ?_
 refine kS h ?_ ?_ <;> intro b6 h
 iterate 2 refine kI hT hC (kn b6) ?_
 refine kE hC (kn b6) [] Try.call52 h (fun _ => Xaj) fun q8 h => ?_
 refine kI hT hC (kn b6) ?_
 refine kP hC false (kn b6) ?_
 exact kD kM
 iterate 4 refine kF hC (kn b6) ?_
 refine kP hC true (kn b6) ?_
 exact kD kM
 iterate 4 refine kF hC (kn b5) ?_
 refine kP hC true (kn b5) ?_
 refine kO hT hC ?_
 iterate 4 refine kF hC rfl ?_
 refine kO hT hC ?_
 exact kD kM
 iterate 4 refine kF hC (kn b4) ?_
 refine kP hC true (kn b4) ?_
 refine kO hT hC ?_
 iterate 4 refine kF hC rfl ?_
 iterate 2 refine kO hT hC ?_
 iterate 4 refine kF hC rfl ?_
 refine kO hT hC ?_
 exact kD kM
 iterate 9 refine kF hC (kn b3) ?_
 refine kP hC true (kn b3) ?_
 refine kO hT hC ?_
 iterate 4 refine kF hC rfl ?_
 iterate 2 refine kO hT hC ?_
 iterate 4 refine kF hC rfl ?_
 iterate 2 refine kO hT hC ?_
 iterate 4 refine kF hC rfl ?_
 refine kO hT hC ?_
 exact kD kM
 iterate 4 refine kF hC (kn b2) ?_
 refine kP hC true (kn b2) ?_
 refine kO hT hC ?_
 iterate 9 refine kF hC rfl ?_
 iterate 2 refine kO hT hC ?_
 iterate 4 refine kF hC rfl ?_
 iterate 2 refine kO hT hC ?_
 iterate 4 refine kF hC rfl ?_
 iterate 2 refine kO hT hC ?_
 iterate 4 refine kF hC rfl ?_
 refine kO hT hC ?_
 exact kD kM
 refine kS h ?_ ?_ <;> intro b7 h
 refine kt b7 (Xaa ?_)
 refine kO hT hC ?_
 exact Vc.nil (Xac (Xak kR))
 refine kf b7 (Xae (Xad (Xao (Xaa ?_))))
 iterate 2 refine kO hT hC ?_
 refine Vc.nil ?_
 refine kS h ?_ ?_ <;> intro b8 h
 refine kt b8 (Xaa ?_)
 iterate 4 refine kO hT hC ?_
 refine kC hC [] Try.call121 h (fun _ => Xsu) fun q9 h => ?_
 refine kO hT hC ?_
 exact Vc.nil (Xac (Xak kR))
 refine kf b8 (Xae (Xad (Xaa ?_)))
 iterate 3 refine kO hT hC ?_
 refine Ybm hC rfl rfl rfl rfl Xz1 rfl rfl ?_
 refine kO hT hC ?_
 exact Vc.nil (Xac kR)
def Xo8 (r : Bool) : AV := .sv (.bool r)
def Xo7 (r : Bool) : Xap := []
theorem Xrf {p0 p1 r} (h : Xfp p0 p1 = some r) : AC Try.prog 77 [.agg [.sv (.int .i64 p0.Level), .sv (.int .i64 p0.Bits), .sv (.ints .i64 p0.Cols), .sv (.ints .i64 p0.Rows)], .agg [.sv (.int .i64 p1.Level), .sv (.int .i64 p1.Bits), .sv (.ints .i64 p1.Cols), .sv (.ints .i64 p1.Rows)]] [] (Xo8 r) (Xo7 r) := by
 refine Xab hT Try.func77 rfl fun C hC => ?_
 unfold Xfp at h
 refine Xaa ?_
 iterate 3 refine kO hT hC ?_
 refine Vc.nil (Xao (Xaa ?_))
 iterate 5 refine kO hT hC ?_
 refine Vc.nil ?_
 refine kS h ?_ ?_ <;> intro b1 h
 refine kt b1 (Xaa ?_)
 refine kO hT hC ?_
 exact Vc.nil (Xac (Xak kR))
 refine kf b1 (Xae (Xad (Xao (Xaa ?_))))
 iterate 5 refine kO hT hC ?_
 refine Vc.nil ?_
 refine kS h ?_ ?_ <;> intro b2 h
 refine kt b2 (Xaa ?_)
 refine kO hT hC ?_
 exact Vc.nil (Xac (Xak kR))
 refine kf b2 (Xae (Xad (Xao (Xaa ?_))))
 iterate 4 refine kO hT hC ?_
 refine kC hC [] Try.call111 h (fun _ => Xhm) fun q1 h => ?_
 refine kO hT hC ?_
 refine Vc.nil ?_
 refine kS h ?_ ?_ <;> intro b3 h
 refine kt b3 (Xaa ?_)
 refine kO hT hC ?_
 exact Vc.nil (Xac (Xak kR))
 refine kf b3 (Xae (Xad (Xao (Xaa ?_))))
 iterate 4 refine kO hT hC ?_
 refine kC hC [] Try.call111 h (fun _ => Xhm) fun q2 h => ?_
 refine kO hT hC ?_
 refine Vc.nil ?_
 refine kS h ?_ ?_ <;> intro b4 h
 refine kt b4 (Xaa ?_)
 refine kO hT hC ?_
 exact Vc.nil (Xac (Xak kR))
 refine kf b4 (Xae (Xad (Xaa ?_)))
 refine kO hT hC ?_
 exact Vc.nil (Xac kR)
def Xo3 (r : Bool) : AV := .sv (.bool r)
def Xo2 (r : Bool) : Xap := []
theorem Xrd {p0 p1 r} (h : Xfn p0 p1 = some r) : AC Try.prog 78 [.agg [.sv (.int .i64 p0.Qp), .sv (.bool p0.Large), .sv (.bool p0.Exact), .sv (.bool p0.Confined)], .agg [.sv (.int .i64 p1.Qp), .sv (.bool p1.Large), .sv (.bool p1.Exact), .sv (.bool p1.Confined)]] [] (Xo3 r) (Xo2 r) := by
 refine Xab hT Try.func78 rfl fun C hC => ?_
 unfold Xfn at h
 refine Xaa ?_
 iterate 3 refine kO hT hC ?_
 refine Vc.nil (Xao (Xaa ?_))
 iterate 5 refine kO hT hC ?_
 refine Vc.nil ?_
 refine kS h ?_ ?_ <;> intro b1 h
 refine kt b1 (Xaa ?_)
 refine kO hT hC ?_
 exact Vc.nil (Xac (Xak kR))
 refine kf b1 (Xae (Xad (Xao (Xaa ?_))))
 iterate 5 refine kO hT hC ?_
 refine Vc.nil ?_
 refine kS h ?_ ?_ <;> intro b2 h
 refine kt b2 (Xaa ?_)
 refine kO hT hC ?_
 exact Vc.nil (Xac (Xak kR))
 refine kf b2 (Xae (Xad (Xao (Xaa ?_))))
 iterate 5 refine kO hT hC ?_
 refine Vc.nil ?_
 refine kS h ?_ ?_ <;> intro b3 h
 refine kt b3 (Xaa ?_)
 refine kO hT hC ?_
 exact Vc.nil (Xac (Xak kR))
 refine kf b3 (Xae (Xad (Xao (Xaa ?_))))
 iterate 5 refine kO hT hC ?_
 refine Vc.nil ?_
 refine kS h ?_ ?_ <;> intro b4 h
 refine kt b4 (Xaa ?_)
 refine kO hT hC ?_
 exact Vc.nil (Xac (Xak kR))
 refine kf b4 (Xae (Xad (Xaa ?_)))
 refine kO hT hC ?_
 exact Vc.nil (Xac kR)
def Xmv (r : Bool) : AV := .sv (.bool r)
def Xmu (r : Bool) : Xap := []
theorem Xo6 {p0 p1 r} (h : Xep p0 p1 = some r) : AC Try.prog 79 [.agg [.sv (.int .i64 p0.Qp), .sv (.int .i64 p0.Target), .sv (.int .i64 p0.Debt)], .agg [.sv (.int .i64 p1.Qp), .sv (.int .i64 p1.Target), .sv (.int .i64 p1.Debt)]] [] (Xmv r) (Xmu r) := by
 refine Xab hT Try.func79 rfl fun C hC => ?_
 unfold Xep at h
 refine Xaa ?_
 iterate 3 refine kO hT hC ?_
 refine Vc.nil (Xao (Xaa ?_))
 iterate 5 refine kO hT hC ?_
 refine Vc.nil ?_
 refine kS h ?_ ?_ <;> intro b1 h
 refine kt b1 (Xaa ?_)
 refine kO hT hC ?_
 exact Vc.nil (Xac (Xak kR))
 refine kf b1 (Xae (Xad (Xao (Xaa ?_))))
 iterate 5 refine kO hT hC ?_
 refine Vc.nil ?_
 refine kS h ?_ ?_ <;> intro b2 h
 refine kt b2 (Xaa ?_)
 refine kO hT hC ?_
 exact Vc.nil (Xac (Xak kR))
 refine kf b2 (Xae (Xad (Xao (Xaa ?_))))
 iterate 5 refine kO hT hC ?_
 refine Vc.nil ?_
 refine kS h ?_ ?_ <;> intro b3 h
 refine kt b3 (Xaa ?_)
 refine kO hT hC ?_
 exact Vc.nil (Xac (Xak kR))
 refine kf b3 (Xae (Xad (Xaa ?_)))
 refine kO hT hC ?_
 exact Vc.nil (Xac kR)
def Xo5 (r : Bool) : AV := .sv (.bool r)
def Xo4 (r : Bool) : Xap := []
theorem Xre {p0 p1 r} (h : Xfo p0 p1 = some r) : AC Try.prog 80 [.agg [.sv (.int .i64 p0.Wide), .sv (.int .i64 p0.High), .sv (.str p0.Dots)], .agg [.sv (.int .i64 p1.Wide), .sv (.int .i64 p1.High), .sv (.str p1.Dots)]] [] (Xo5 r) (Xo4 r) := by
 refine Xab hT Try.func80 rfl fun C hC => ?_
 unfold Xfo at h
 refine Xaa ?_
 iterate 3 refine kO hT hC ?_
 refine Vc.nil (Xao (Xaa ?_))
 iterate 5 refine kO hT hC ?_
 refine Vc.nil ?_
 refine kS h ?_ ?_ <;> intro b1 h
 refine kt b1 (Xaa ?_)
 refine kO hT hC ?_
 exact Vc.nil (Xac (Xak kR))
 refine kf b1 (Xae (Xad (Xao (Xaa ?_))))
 iterate 5 refine kO hT hC ?_
 refine Vc.nil ?_
 refine kS h ?_ ?_ <;> intro b2 h
 refine kt b2 (Xaa ?_)
 refine kO hT hC ?_
 exact Vc.nil (Xac (Xak kR))
 refine kf b2 (Xae (Xad (Xao (Xaa ?_))))
 iterate 5 refine kO hT hC ?_
 refine Vc.nil ?_
 refine kS h ?_ ?_ <;> intro b3 h
 refine kt b3 (Xaa ?_)
 refine kO hT hC ?_
 exact Vc.nil (Xac (Xak kR))
 refine kf b3 (Xae (Xad (Xaa ?_)))
 refine kO hT hC ?_
 exact Vc.nil (Xac kR)
def Xj0 (r : Bool) : AV := .sv (.bool r)
def Xjz (r : Bool) : Xap := []
theorem Xk6 {p0 p1 r} (h : Xc4 p0 p1 = some r) : AC Try.prog 35 [.agg [.sv (.int .i64 p0.Seq.Level), .sv (.int .i64 p0.Seq.Bits), .sv (.ints .i64 p0.Seq.Cols), .sv (.ints .i64 p0.Seq.Rows), .sv (.int .i64 p0.Par.Qp), .sv (.bool p0.Par.Large), .sv (.bool p0.Par.Exact), .sv (.bool p0.Par.Confined), .sv (.int .i64 p0.Rate.Qp), .sv (.int .i64 p0.Rate.Target), .sv (.int .i64 p0.Rate.Debt), .sv (.int .i64 p0.Frame), .sv (.int .i64 p0.Since), .sv (.int .i64 p0.Every), .sv (.int .i64 p0.Reach), .sv (.bool p0.Has), .sv (.int .i64 p0.Ref.Wide), .sv (.int .i64 p0.Ref.High), .sv (.str p0.Ref.Dots)], .agg [.sv (.int .i64 p1.Seq.Level), .sv (.int .i64 p1.Seq.Bits), .sv (.ints .i64 p1.Seq.Cols), .sv (.ints .i64 p1.Seq.Rows), .sv (.int .i64 p1.Par.Qp), .sv (.bool p1.Par.Large), .sv (.bool p1.Par.Exact), .sv (.bool p1.Par.Confined), .sv (.int .i64 p1.Rate.Qp), .sv (.int .i64 p1.Rate.Target), .sv (.int .i64 p1.Rate.Debt), .sv (.int .i64 p1.Frame), .sv (.int .i64 p1.Since), .sv (.int .i64 p1.Every), .sv (.int .i64 p1.Reach), .sv (.bool p1.Has), .sv (.int .i64 p1.Ref.Wide), .sv (.int .i64 p1.Ref.High), .sv (.str p1.Ref.Dots)]] [] (Xj0 r) (Xjz r) := by
 refine Xab hT Try.func35 rfl fun C hC => ?_
 unfold Xc4 at h
 refine Xaa ?_
 iterate 3 refine kO hT hC ?_
 refine Vc.nil (Xao (Xaa ?_))
 iterate 4 refine kO hT hC ?_
 refine kC hC [] Try.call77 h (fun _ => Xrf) fun q1 h => ?_
 refine kO hT hC ?_
 refine Vc.nil ?_
 refine kS h ?_ ?_ <;> intro b1 h
 refine kt b1 (Xaa ?_)
 refine kO hT hC ?_
 exact Vc.nil (Xac (Xak kR))
 refine kf b1 (Xae (Xad (Xao (Xaa ?_))))
 iterate 4 refine kO hT hC ?_
 refine kC hC [] Try.call78 h (fun _ => Xrd) fun q2 h => ?_
 refine kO hT hC ?_
 refine Vc.nil ?_
 refine kS h ?_ ?_ <;> intro b2 h
 refine kt b2 (Xaa ?_)
 refine kO hT hC ?_
 exact Vc.nil (Xac (Xak kR))
 refine kf b2 (Xae (Xad (Xao (Xaa ?_))))
 iterate 4 refine kO hT hC ?_
 refine kC hC [] Try.call79 h (fun _ => Xo6) fun q3 h => ?_
 refine kO hT hC ?_
 refine Vc.nil ?_
 refine kS h ?_ ?_ <;> intro b3 h
 refine kt b3 (Xaa ?_)
 refine kO hT hC ?_
 exact Vc.nil (Xac (Xak kR))
 refine kf b3 (Xae (Xad (Xao (Xaa ?_))))
 iterate 5 refine kO hT hC ?_
 refine Vc.nil ?_
 refine kS h ?_ ?_ <;> intro b4 h
 refine kt b4 (Xaa ?_)
 refine kO hT hC ?_
 exact Vc.nil (Xac (Xak kR))
 refine kf b4 (Xae (Xad (Xao (Xaa ?_))))
 iterate 5 refine kO hT hC ?_
 refine Vc.nil ?_
 refine kS h ?_ ?_ <;> intro b5 h
 refine kt b5 (Xaa ?_)
 refine kO hT hC ?_
 exact Vc.nil (Xac (Xak kR))
 refine kf b5 (Xae (Xad (Xao (Xaa ?_))))
 iterate 5 refine kO hT hC ?_
 refine Vc.nil ?_
 refine kS h ?_ ?_ <;> intro b6 h
 refine kt b6 (Xaa ?_)
 refine kO hT hC ?_
 exact Vc.nil (Xac (Xak kR))
 refine kf b6 (Xae (Xad (Xao (Xaa ?_))))
 iterate 5 refine kO hT hC ?_
 refine Vc.nil ?_
 refine kS h ?_ ?_ <;> intro b7 h
 refine kt b7 (Xaa ?_)
 refine kO hT hC ?_
 exact Vc.nil (Xac (Xak kR))
 refine kf b7 (Xae (Xad (Xao (Xaa ?_))))
 iterate 5 refine kO hT hC ?_
 refine Vc.nil ?_
 refine kS h ?_ ?_ <;> intro b8 h
 refine kt b8 (Xaa ?_)
 refine kO hT hC ?_
 exact Vc.nil (Xac (Xak kR))
 refine kf b8 (Xae (Xad (Xao (Xaa ?_))))
 iterate 4 refine kO hT hC ?_
 refine kC hC [] Try.call80 h (fun _ => Xre) fun q4 h => ?_
 refine kO hT hC ?_
 refine Vc.nil ?_
 refine kS h ?_ ?_ <;> intro b9 h
 refine kt b9 (Xaa ?_)
 refine kO hT hC ?_
 exact Vc.nil (Xac (Xak kR))
 refine kf b9 (Xae (Xad (Xaa ?_)))
 refine kO hT hC ?_
 exact Vc.nil (Xac kR)
def Xj2 (r : (Int × (List Int))) : AV := .sv (.int .i64 r.1)
def Xj1 (r : (Int × (List Int))) : Xap := [(0, .ints .i64 r.2)]
theorem Xgd {p0 p1 r} (h : Xb8 p0 p1 = some r) : AC Try.prog 122 [.own 0, .sv (.int .i64 p1)] [(0, .ints .i64 p0)] (Xj2 r) (Xj1 r) := by
 refine Xab hT Try.func122 rfl fun C hC => ?_
 unfold Xb8 at h
 refine Xaa ?_
 refine kO hT hC ?_
 refine Vc.nil (Xao (Xaa ?_))
 refine kO hT hC ?_
 refine Vc.nil ?_
 refine kL [0,1,5] [0] [_,_,_] [_] ?_
 refine kX h (fun v2 => ([(1, .sv (.int .i64 v2.1)), (5, .sv (.int .i64 v2.2.1))], [(0, some (.ints .i64 v2.2.2))])) (fun v4 => ([(1, .sv (.int .i64 v4.1)), (0, .any), (5, .any)], [(0, some (.ints .i64 v4.2))])) (kW hC []) (fun v2 s h => ?_) fun v4 h => ?_
 unfold Xbt at h
 refine Xao (Xaa ?_)
 iterate 4 refine kO hT hC ?_
 refine Vc.nil ?_
 refine kS h ?_ ?_ <;> intro b3 h
 refine kt b3 (Xae (Xad (Xao (Xa0 (Xaa ?_)))))
 iterate 3 refine kO hT hC ?_
 iterate 2 refine kQ hT hC h fun h => ?_
 refine Vc.nil (Xaf ?_)
 iterate 3 refine kO hT hC ?_
 refine Vc.nil (Xbi (Xad (Xaf ?_)))
 iterate 3 refine kO hT hC ?_
 exact Vc.nil kG
 exact kf b3 (Xa2 (Xbw ku))
 refine Xad (Xaa ?_)
 iterate 2 refine kO hT hC ?_
 refine Vc.nil (Xac ?_)
 obtain rfl := kj h
 exact Xqe (Xfh.refl _) rfl ⟨rfl, trivial⟩
def Xk8 (r : (Int × Seq)) : AV := .sv (.int .i64 r.1)
def Xk7 (r : (Int × Seq)) : Xap := [(2, .ints .i64 r.2.Cols), (3, .ints .i64 r.2.Rows)]
theorem Xmx {p0 p1 r} (h : Xdx p0 p1 = some r) : AC Try.prog 81 [.agg [.sv (.int .i64 p0.Level), .sv (.int .i64 p0.Bits), .own 2, .own 3], .sv (.int .i64 p1)] [(2, .ints .i64 p0.Cols), (3, .ints .i64 p0.Rows)] (Xk8 r) (Xk7 r) := by
 refine Xab hT Try.func81 rfl fun C hC => ?_
 unfold Xdx at h
 refine Xaa ?_
 iterate 2 refine kO hT hC ?_
 refine kN ?_
 iterate 3 refine kO hT hC ?_
 refine kC hC [(0, 2)] Try.call122 h (fun _ => Xgd) fun q1 h => ?_
 refine kO hT hC ?_
 refine kN ?_
 iterate 3 refine kO hT hC ?_
 refine kC hC [(0, 3)] Try.call122 h (fun _ => Xgd) fun q2 h => ?_
 refine kO hT hC ?_
 refine kN ?_
 iterate 2 refine kO hT hC ?_
 refine Vc.nil (Xac ?_)
 obtain rfl := kj h
 exact Xqe (Xfh.refl _) rfl ⟨rfl, rfl, trivial⟩
def Xic (r : (Int × Source)) : AV := .sv (.int .i64 r.1)
def Xib (r : (Int × Source)) : Xap := [(2, .ints .i64 r.2.Seq.Cols), (3, .ints .i64 r.2.Seq.Rows)]
theorem Xi1 {p0 p1 r} (h : Xbz p0 p1 = some r) : AC Try.prog 36 [.agg [.sv (.int .i64 p0.Seq.Level), .sv (.int .i64 p0.Seq.Bits), .own 2, .own 3, .sv (.int .i64 p0.Par.Qp), .sv (.bool p0.Par.Large), .sv (.bool p0.Par.Exact), .sv (.bool p0.Par.Confined), .sv (.int .i64 p0.Rate.Qp), .sv (.int .i64 p0.Rate.Target), .sv (.int .i64 p0.Rate.Debt), .sv (.int .i64 p0.Frame), .sv (.int .i64 p0.Since), .sv (.int .i64 p0.Every), .sv (.int .i64 p0.Reach), .sv (.bool p0.Has), .sv (.int .i64 p0.Ref.Wide), .sv (.int .i64 p0.Ref.High), .sv (.str p0.Ref.Dots)], .sv (.int .i64 p1)] [(2, .ints .i64 p0.Seq.Cols), (3, .ints .i64 p0.Seq.Rows)] (Xic r) (Xib r) := by
 refine Xab hT Try.func36 rfl fun C hC => ?_
 unfold Xbz at h
 refine Xaa ?_
 iterate 2 refine kO hT hC ?_
 refine kN ?_
 iterate 3 refine kO hT hC ?_
 refine kC hC [(2, 2), (3, 3)] Try.call81 h (fun _ => Xmx) fun q1 h => ?_
 refine kO hT hC ?_
 refine kN ?_
 iterate 2 refine kO hT hC ?_
 refine Vc.nil (Xac ?_)
 obtain rfl := kj h
 exact Xqe (Xfh.refl _) rfl ⟨rfl, rfl, trivial⟩
def Xpc (r : Int) : AV := .sv (.int .i64 r)
def Xpb (r : Int) : Xap := []
theorem Xri {p0 p1 r} (h : Xfr p0 p1 = some r) : AC Try.prog 83 [.agg [.sv (.int .i64 p0.Level), .sv (.int .i64 p0.Bits), .sv (.ints .i64 p0.Cols), .sv (.ints .i64 p0.Rows)], .sv (.int .i64 p1)] [] (Xpc r) (Xpb r) := by
 refine Xab hT Try.func83 rfl fun C hC => ?_
 unfold Xfr at h
 refine Xaa ?_
 iterate 2 refine kO hT hC ?_
 refine kN ?_
 iterate 3 refine kO hT hC ?_
 refine kC hC [] Try.call106 h (fun _ => Xhn) fun q1 h => ?_
 refine kO hT hC ?_
 refine Vc.nil (Xao (Xaa ?_))
 iterate 2 refine kO hT hC ?_
 refine Vc.nil ?_
 refine kS h ?_ ?_ <;> intro b1 h
 refine kt b1 (Xaa ?_)
 refine kO hT hC ?_
 exact Vc.nil (Xac (Xak kR))
 refine kf b1 (Xae (Xad (Xaa ?_)))
 iterate 3 refine kO hT hC ?_
 refine kC hC [] Try.call106 h (fun _ => Xhn) fun q2 h => ?_
 refine kO hT hC ?_
 refine Vc.nil (Xao (Xaa ?_))
 iterate 2 refine kO hT hC ?_
 refine Vc.nil ?_
 refine kS h ?_ ?_ <;> intro b2 h
 refine kt b2 (Xaa ?_)
 refine kO hT hC ?_
 exact Vc.nil (Xac (Xak kR))
 refine kf b2 (Xae (Xad (Xaa ?_)))
 iterate 2 refine kO hT hC ?_
 exact Vc.nil (Xac kR)
def Xpa (r : Int) : AV := .sv (.int .i64 r)
def Xo9 (r : Int) : Xap := []
theorem Xrg {p0 p1 r} (h : Xfq p0 p1 = some r) : AC Try.prog 84 [.agg [.sv (.int .i64 p0.Wide), .sv (.int .i64 p0.High), .sv (.str p0.Dots)], .sv (.int .i64 p1)] [] (Xpa r) (Xo9 r) := by
 refine Xab hT Try.func84 rfl fun C hC => ?_
 unfold Xfq at h
 refine Xaa ?_
 iterate 2 refine kO hT hC ?_
 refine kN ?_
 iterate 6 refine kO hT hC ?_
 refine Vc.nil (Xao (Xaa ?_))
 iterate 2 refine kO hT hC ?_
 refine Vc.nil ?_
 refine kS h ?_ ?_ <;> intro b1 h
 refine kt b1 (Xaa ?_)
 refine kO hT hC ?_
 exact Vc.nil (Xac (Xak kR))
 refine kf b1 (Xae (Xad (Xaa ?_)))
 iterate 2 refine kO hT hC ?_
 exact Vc.nil (Xac kR)
def Xj6 (r : Int) : AV := .sv (.int .i64 r)
def Xj5 (r : Int) : Xap := []
theorem Xla {p0 p1 r} (h : Xc5 p0 p1 = some r) : AC Try.prog 38 [.agg [.sv (.int .i64 p0.Seq.Level), .sv (.int .i64 p0.Seq.Bits), .sv (.ints .i64 p0.Seq.Cols), .sv (.ints .i64 p0.Seq.Rows), .sv (.int .i64 p0.Par.Qp), .sv (.bool p0.Par.Large), .sv (.bool p0.Par.Exact), .sv (.bool p0.Par.Confined), .sv (.int .i64 p0.Rate.Qp), .sv (.int .i64 p0.Rate.Target), .sv (.int .i64 p0.Rate.Debt), .sv (.int .i64 p0.Frame), .sv (.int .i64 p0.Since), .sv (.int .i64 p0.Every), .sv (.int .i64 p0.Reach), .sv (.bool p0.Has), .sv (.int .i64 p0.Ref.Wide), .sv (.int .i64 p0.Ref.High), .sv (.str p0.Ref.Dots)], .sv (.int .i64 p1)] [] (Xj6 r) (Xj5 r) := by
 refine Xab hT Try.func38 rfl fun C hC => ?_
 unfold Xc5 at h
 refine Xaa ?_
 iterate 2 refine kO hT hC ?_
 refine kN ?_
 iterate 3 refine kO hT hC ?_
 refine kC hC [] Try.call83 h (fun _ => Xri) fun q1 h => ?_
 refine kO hT hC ?_
 refine Vc.nil (Xao (Xaa ?_))
 iterate 2 refine kO hT hC ?_
 refine Vc.nil ?_
 refine kS h ?_ ?_ <;> intro b1 h
 refine kt b1 (Xaa ?_)
 refine kO hT hC ?_
 exact Vc.nil (Xac (Xak kR))
 refine kf b1 (Xae (Xad (Xaa ?_)))
 iterate 3 refine kO hT hC ?_
 refine kC hC [] Try.call84 h (fun _ => Xrg) fun q2 h => ?_
 refine kO hT hC ?_
 refine Vc.nil (Xao (Xaa ?_))
 iterate 2 refine kO hT hC ?_
 refine Vc.nil ?_
 refine kS h ?_ ?_ <;> intro b2 h
 refine kt b2 (Xaa ?_)
 refine kO hT hC ?_
 exact Vc.nil (Xac (Xak kR))
 refine kf b2 (Xae (Xad (Xaa ?_)))
 iterate 2 refine kO hT hC ?_
 exact Vc.nil (Xac kR)
def Xpj (r : Seq) : AV := .agg [.sv (.int .i64 r.Level), .sv (.int .i64 r.Bits), .own 16, .own 17]
def Xpi (r : Seq) : Xap := [(16, .ints .i64 r.Cols), (17, .ints .i64 r.Rows)]
theorem Xrm {p0 r} (h : Xfs p0 = some r) : AC Try.prog 88 [.agg [.sv (.int .i64 p0.Level), .sv (.int .i64 p0.Bits), .sv (.ints .i64 p0.Cols), .sv (.ints .i64 p0.Rows)]] [] (Xpj r) (Xpi r) := by
 refine Xab hT Try.func88 rfl fun C hC => ?_
 unfold Xfs at h
 refine Xaa ?_
 iterate 2 refine kO hT hC ?_
 refine kN ?_
 refine kO hT hC ?_
 refine kN ?_
 iterate 4 refine kO hT hC ?_
 refine kN ?_
 iterate 4 refine kO hT hC ?_
 refine kN ?_
 iterate 2 refine kO hT hC ?_
 refine kC hC [(16, 192)] Try.call109 h (fun _ => Xhp) fun q1 h => ?_
 iterate 2 refine kO hT hC ?_
 refine kN ?_
 iterate 2 refine kO hT hC ?_
 refine kC hC [(16, 256)] Try.call109 h (fun _ => Xhp) fun q2 h => ?_
 iterate 2 refine kO hT hC ?_
 refine kN ?_
 iterate 2 refine kO hT hC ?_
 refine Vc.nil (Xac ?_)
 obtain rfl := kj h
 exact Xqe (τ := ⟨[(2, .ptr 2000000 0)], [(16, some (.ints .i64 q1)), (17, some (.ints .i64 q2)), (2000000, some (.box [.sv (.int .i64 p0.Level), .sv (.int .i64 p0.Bits), .own 16, .own 17]))]⟩) (kW hC [(16, 192), (17, 256), (2000000, 32)]) rfl ⟨rfl, rfl, trivial⟩
def Xpg (r : Pic) : AV := .agg [.sv (.int .i64 r.Wide), .sv (.int .i64 r.High), .sv (.str r.Dots)]
def Xpf (r : Pic) : Xap := []
theorem Xrl {p0 r} (h : Xj8 p0 = some r) : AC Try.prog 89 [.agg [.sv (.int .i64 p0.Wide), .sv (.int .i64 p0.High), .sv (.str p0.Dots)]] [] (Xpg r) (Xpf r) := by
 refine Xab hT Try.func89 rfl fun C hC => ?_
 unfold Xj8 at h
 refine Xaa ?_
 iterate 2 refine kO hT hC ?_
 refine kN ?_
 refine kO hT hC ?_
 refine kN ?_
 iterate 4 refine kO hT hC ?_
 refine kN ?_
 iterate 4 refine kO hT hC ?_
 refine kN ?_
 iterate 4 refine kO hT hC ?_
 refine kN ?_
 iterate 2 refine kO hT hC ?_
 exact Vc.nil (Xac kR)
def Xka (r : Source) : AV := .agg [.sv (.int .i64 r.Seq.Level), .sv (.int .i64 r.Seq.Bits), .own 16, .own 17, .sv (.int .i64 r.Par.Qp), .sv (.bool r.Par.Large), .sv (.bool r.Par.Exact), .sv (.bool r.Par.Confined), .sv (.int .i64 r.Rate.Qp), .sv (.int .i64 r.Rate.Target), .sv (.int .i64 r.Rate.Debt), .sv (.int .i64 r.Frame), .sv (.int .i64 r.Since), .sv (.int .i64 r.Every), .sv (.int .i64 r.Reach), .sv (.bool r.Has), .sv (.int .i64 r.Ref.Wide), .sv (.int .i64 r.Ref.High), .sv (.str r.Ref.Dots)]
def Xj9 (r : Source) : Xap := [(16, .ints .i64 r.Seq.Cols), (17, .ints .i64 r.Seq.Rows)]
theorem Xco {p0 r} (h : Xbf p0 = some r) : AC Try.prog 40 [.agg [.sv (.int .i64 p0.Seq.Level), .sv (.int .i64 p0.Seq.Bits), .sv (.ints .i64 p0.Seq.Cols), .sv (.ints .i64 p0.Seq.Rows), .sv (.int .i64 p0.Par.Qp), .sv (.bool p0.Par.Large), .sv (.bool p0.Par.Exact), .sv (.bool p0.Par.Confined), .sv (.int .i64 p0.Rate.Qp), .sv (.int .i64 p0.Rate.Target), .sv (.int .i64 p0.Rate.Debt), .sv (.int .i64 p0.Frame), .sv (.int .i64 p0.Since), .sv (.int .i64 p0.Every), .sv (.int .i64 p0.Reach), .sv (.bool p0.Has), .sv (.int .i64 p0.Ref.Wide), .sv (.int .i64 p0.Ref.High), .sv (.str p0.Ref.Dots)]] [] (Xka r) (Xj9 r) := by
 refine Xab hT Try.func40 rfl fun C hC => ?_
 unfold Xbf at h
 refine Xaa ?_
 iterate 2 refine kO hT hC ?_
 refine kN ?_
 refine kO hT hC ?_
 refine kN ?_
 iterate 2 refine kO hT hC ?_
 refine kC hC [(16, 96), (17, 97)] Try.call88 h (fun _ => Xrm) fun q1 h => ?_
 iterate 2 refine kO hT hC ?_
 refine kN ?_
 iterate 2 refine kO hT hC ?_
 refine kC hC [] Try.call32 h (fun _ => Xrk) fun q2 h => ?_
 iterate 2 refine kO hT hC ?_
 refine kN ?_
 iterate 2 refine kO hT hC ?_
 refine kC hC [] Try.call33 h (fun _ => Xph) fun q3 h => ?_
 iterate 2 refine kO hT hC ?_
 refine kN ?_
 iterate 4 refine kO hT hC ?_
 refine kN ?_
 iterate 4 refine kO hT hC ?_
 refine kN ?_
 iterate 4 refine kO hT hC ?_
 refine kN ?_
 iterate 4 refine kO hT hC ?_
 refine kN ?_
 iterate 4 refine kO hT hC ?_
 refine kN ?_
 iterate 2 refine kO hT hC ?_
 refine kC hC [] Try.call89 h (fun _ => Xrl) fun q4 h => ?_
 iterate 2 refine kO hT hC ?_
 refine kN ?_
 iterate 2 refine kO hT hC ?_
 refine Vc.nil (Xac ?_)
 obtain rfl := kj h
 exact Xqe (τ := ⟨[(2, .ptr 2000000 0)], [(16, some (.ints .i64 q1.Cols)), (17, some (.ints .i64 q1.Rows)), (2000000, some (.box [.sv (.int .i64 q1.Level), .sv (.int .i64 q1.Bits), .own 16, .own 17, .sv (.int .i64 q2.Qp), .sv (.bool q2.Large), .sv (.bool q2.Exact), .sv (.bool q2.Confined), .sv (.int .i64 q3.Qp), .sv (.int .i64 q3.Target), .sv (.int .i64 q3.Debt), .sv (.int .i64 p0.Frame), .sv (.int .i64 p0.Since), .sv (.int .i64 p0.Every), .sv (.int .i64 p0.Reach), .sv (.bool p0.Has), .sv (.int .i64 q4.Wide), .sv (.int .i64 q4.High), .sv (.str q4.Dots)]))]⟩) (kW hC [(16, 96), (17, 97), (2000000, 32)]) rfl ⟨rfl, rfl, trivial⟩
def Xny (r : ByteArray) : AV := .sv (.str r)
def Xnx (r : ByteArray) : Xap := []
theorem Xhv {p0 p1 r} (h : Xdn p0 p1 = some r) : AC Try.prog 128 [.sv (.int .i64 p0), .sv (.int .i64 p1)] [] (Xny r) (Xnx r) := by
 refine Xab hT Try.func128 rfl fun C hC => ?_
 unfold Xdn at h
 refine Xaa ?_
 refine kO hT hC ?_
 refine kN ?_
 refine kO hT hC ?_
 obtain ⟨hq, h⟩ := Xc7 h
 refine Xyq hT hC rfl rfl rfl rfl ⟨hq.1, hq.2.1, hq.2.2, by decide⟩ ?_
 refine kO hT hC ?_
 refine Vc.nil (Xao (Xaa ?_))
 iterate 3 refine kO hT hC ?_
 refine Vc.nil ?_
 refine kL [0,5,6] [128] [_,_,_] [_] ?_
 refine kX h (fun v2 => ([(0, .sv (.int .i64 v2.1)), (6, .sv (.int .i64 v2.2.1))], [(128, some (.ints .u8 v2.2.2))])) (fun v4 => ([(0, .any), (6, .any)], [(128, some (.ints .u8 v4))])) (kW hC []) (fun v2 s h => ?_) fun v4 h => ?_
 unfold Xcj at h
 refine Xao (Xaa ?_)
 iterate 2 refine kO hT hC ?_
 refine Vc.nil ?_
 refine kS h ?_ ?_ <;> intro b3 h
 refine kt b3 (Xae (Xad (Xao (Xa0 (Xaa ?_)))))
 iterate 3 refine kO hT hC ?_
 refine kQ hT hC h fun h => ?_
 iterate 2 refine kO hT hC ?_
 iterate 2 refine kQ hT hC h fun h => ?_
 refine Vc.nil (Xaf ?_)
 refine kO hT hC ?_
 refine kQ hT hC h fun h => ?_
 refine kO hT hC ?_
 refine Vc.nil (Xbi (Xad (Xaf ?_)))
 iterate 3 refine kO hT hC ?_
 exact Vc.nil kG
 exact kf b3 (Xa2 (Xbw ku))
 refine Xad (Xaa ?_)
 iterate 3 refine kO hT hC ?_
 exact Vc.nil (Xac kR)
def Xls (r : ByteArray) : AV := .sv (.str r)
def Xlr (r : ByteArray) : Xap := []
theorem Xgw {p0 r} (h : Xcv p0 = some r) : AC Try.prog 129 [.sv (.ints .i64 p0)] [] (Xls r) (Xlr r) := by
 refine Xab hT Try.func129 rfl fun C hC => ?_
 unfold Xcv at h
 refine Xaa ?_
 refine kO hT hC ?_
 refine kN ?_
 iterate 2 refine kO hT hC ?_
 refine kC hC [] Try.call127 h (fun _ => Xf9) fun q1 h => ?_
 refine kO hT hC ?_
 refine Vc.nil (Xao (Xaa ?_))
 refine kO hT hC ?_
 refine Vc.nil ?_
 refine kL [0,3,4] [] [_,_,_] [] ?_
 refine kX h (fun v4 => ([(3, .sv (.str v4.1)), (4, .sv (.int .i64 v4.2))], [])) (fun v7 => ([(3, .sv (.str v7)), (0, .any), (4, .any)], [])) (kW hC []) (fun v4 s h => ?_) fun v7 h => ?_
 unfold Xb6 at h
 refine Xao (Xaa ?_)
 iterate 4 refine kO hT hC ?_
 refine Vc.nil ?_
 refine kS h ?_ ?_ <;> intro b3 h
 refine kt b3 (Xae (Xad (Xao (Xa0 (Xaf ?_)))))
 iterate 3 refine kO hT hC ?_
 refine kQ hT hC h fun h => ?_
 refine kO hT hC ?_
 refine kC hC [] Try.call127 h (fun _ => Xf9) fun q8 h => ?_
 refine kQ hT hC h fun h => ?_
 refine kO hT hC ?_
 refine Vc.nil (Xbi (Xad (Xaf ?_)))
 iterate 3 refine kO hT hC ?_
 exact Vc.nil kG
 exact kf b3 (Xa2 (Xbw ku))
 refine Xad (Xaa ?_)
 iterate 2 refine kO hT hC ?_
 exact Vc.nil (Xac kR)
def Xn2 (r : ByteArray) : AV := .sv (.str r)
def Xn1 (r : ByteArray) : Xap := []
theorem Xp7 {p0 r} (h : Xe2 p0 = some r) : AC Try.prog 86 [.agg [.sv (.int .i64 p0.Level), .sv (.int .i64 p0.Bits), .sv (.ints .i64 p0.Cols), .sv (.ints .i64 p0.Rows)]] [] (Xn2 r) (Xn1 r) := by
 refine Xab hT Try.func86 rfl fun C hC => ?_
 unfold Xe2 at h
 refine Xaa ?_
 iterate 2 refine kO hT hC ?_
 refine Vc.nil ?_
 refine Xfb hm ?_
 iterate 2 refine kO hT hC ?_
 refine kC hC [] Try.call127 h (fun _ => Xf9) fun q1 h => ?_
 iterate 2 refine kO hT hC ?_
 refine kC hC [] Try.call128 h (fun _ => Xhv) fun q2 h => ?_
 refine kQ hT hC h fun h => ?_
 iterate 2 refine kO hT hC ?_
 refine kC hC [] Try.call129 h (fun _ => Xgw) fun q3 h => ?_
 refine kQ hT hC h fun h => ?_
 iterate 2 refine kO hT hC ?_
 refine kC hC [] Try.call129 h (fun _ => Xgw) fun q4 h => ?_
 refine kQ hT hC h fun h => ?_
 refine kO hT hC ?_
 exact kD (Xac kR)
def Xlu (r : Bool) : AV := .sv (.bool r)
def Xlt (r : Bool) : Xap := []
theorem Xn3 {p0 r} (h : Xd1 p0 = some r) : AC Try.prog 124 [.sv (.int .i64 p0)] [] (Xlu r) (Xlt r) := by
 refine Xab hT Try.func124 rfl fun C hC => ?_
 unfold Xd1 at h
 refine Xaa ?_
 refine kO hT hC ?_
 refine Vc.nil ?_
 refine kL [0,2] [] [_,_] [] ?_
 refine kA h (fun v1 => ([(2, .sv (.bool v1)), (0, .any)], [])) (fun v1 h => ?_) fun v1 h => ?_
 refine Xaf ?_
 iterate 3 refine kO hT hC ?_
 refine kS h ?_ ?_ <;> intro b1 h
 iterate 2 refine kF hC b1 ?_
 refine kP hC true b1 ?_
 refine kO hT hC ?_
 iterate 2 refine kF hC rfl ?_
 iterate 2 refine kO hT hC ?_
 iterate 2 refine kF hC rfl ?_
 iterate 2 refine kO hT hC ?_
 exact Vc.nil kM
 iterate 2 refine kI hT hC b1 ?_
 refine kP hC false b1 ?_
 refine kO hT hC ?_
 refine kS h ?_ ?_ <;> intro b2 h
 iterate 2 refine kF hC b2 ?_
 refine kP hC true b2 ?_
 refine kO hT hC ?_
 iterate 2 refine kF hC rfl ?_
 iterate 2 refine kO hT hC ?_
 exact Vc.nil kM
 iterate 2 refine kI hT hC b2 ?_
 refine kP hC false b2 ?_
 refine kO hT hC ?_
 refine kS h ?_ ?_ <;> intro b3 h
 iterate 2 refine kF hC b3 ?_
 refine kP hC true b3 ?_
 refine kO hT hC ?_
 exact Vc.nil kM
 iterate 2 refine kI hT hC b3 ?_
 refine kP hC false b3 ?_
 refine kO hT hC ?_
 exact Vc.nil kM
 exact Xac kR
def Xgv (r : Bool) : AV := .sv (.bool r)
def Xgu (r : Bool) : Xap := []
theorem Xp1 {p0 r} (h : Xey p0 = some r) : AC Try.prog 154 [.sv (.str p0)] [] (Xgv r) (Xgu r) := by
 refine Xab hT Try.func154 rfl fun C hC => ?_
 unfold Xey at h
 refine Xaa ?_
 refine kO hT hC ?_
 refine Vc.nil (Xao (Xaa ?_))
 refine kO hT hC ?_
 refine Vc.nil ?_
 refine kL [0,3] [] [_,_] [] ?_
 obtain ⟨o8, hl, h⟩ := Xcl h
 refine Xgq (fun v3 => ([(3, .sv (.int .i64 v3))], [])) (fun v6 => ([(0, .any), (3, .any)], [])) (fun r => Xod C T Try.f154.results.toList (Xgv r) (Xgu r)) hl ?_ ?_ ?_ ?_
 apply Xjg hC []
 exact co
 rfl
 decide
 rfl
 intro v3 s hs
 have h := hs
 unfold Xck at h
 refine Xao (Xaa ?_)
 iterate 4 refine kO hT hC ?_
 refine Vc.nil ?_
 refine kS h ?_ ?_ <;> intro b7 h
 refine kt b7 (Xae (Xad (Xao (Xa0 ?_))))
 refine kL [0,3] [] [_,_] [] ?_
 refine kA h (fun v7 => ([(19, .sv (.bool v7))], [])) (fun v7 h => ?_) fun v7 h => ?_
 refine Xaf ?_
 iterate 2 refine kO hT hC ?_
 refine kQ hT hC h fun h => ?_
 iterate 2 refine kO hT hC ?_
 refine kS h ?_ ?_ <;> intro b8 h
 iterate 2 refine kI hT hC b8 ?_
 refine kJ hT hC b8 h fun h => ?_
 refine kI hT hC b8 ?_
 refine kP hC true b8 ?_
 exact Vc.nil kM
 iterate 4 refine kF hC b8 ?_
 refine kP hC false b8 ?_
 exact Vc.nil kM
 refine kS h ?_ ?_ <;> intro b9 h
 refine kt b9 (Xaa ?_)
 refine kO hT hC ?_
 refine Vc.nil (Xac (Xky (Xak ?_)))
 obtain rfl := kj h
 refine Xrx (Xrt ?_)
 exact Xqe (Xfh.refl _) rfl trivial
 refine kf b9 (Xae (Xbi (Xad (Xaf ?_))))
 iterate 3 refine kO hT hC ?_
 exact Vc.nil kG
 exact kf b7 (Xa2 (Xbw kb))
 intro v6 e
 subst e
 refine Xad (Xaa ?_)
 refine kO hT hC ?_
 exact Vc.nil (Xac kR)
 intro r' σ' e hE
 subst e
 obtain rfl := kj h
 refine Xak ?_
 exact hE
def Xpu (r : Bool) : AV := .sv (.bool r)
def Xpt (r : Bool) : Xap := []
theorem Xsa {p0 r} (h : Xfx p0 = some r) : AC Try.prog 125 [.sv (.str p0)] [] (Xpu r) (Xpt r) := by
 refine Xab hT Try.func125 rfl fun C hC => ?_
 unfold Xfx at h
 refine Xaa ?_
 refine kO hT hC ?_
 refine Vc.nil ?_
 refine kL [0,2] [] [_,_] [] ?_
 refine kA h (fun v1 => ([(2, .sv (.bool v1)), (0, .any)], [])) (fun v1 h => ?_) fun v1 h => ?_
 refine Xaf ?_
 iterate 4 refine kO hT hC ?_
 refine kS h ?_ ?_ <;> intro b1 h
 refine kI hT hC b1 ?_
 refine kE hC b1 [] Try.call154 h (fun _ => Xp1) fun q2 h => ?_
 refine kP hC true b1 ?_
 refine kO hT hC ?_
 exact Vc.nil kM
 iterate 2 refine kF hC b1 ?_
 refine kP hC false b1 ?_
 refine kO hT hC ?_
 exact Vc.nil kM
 exact Xac kR
def Xkl (r : ByteArray) : AV := .sv (.str r)
def Xkk (r : ByteArray) : Xap := []
theorem Xln {p0 r} (h : Xc9 p0 = some r) : AC Try.prog 126 [.sv (.str p0)] [] (Xkl r) (Xkk r) := by
 refine Xab hT Try.func126 rfl fun C hC => ?_
 unfold Xc9 at h
 refine Xaa ?_
 refine kO hT hC ?_
 refine kN ?_
 refine kO hT hC ?_
 refine kQ hT hC h fun h => ?_
 refine kO hT hC ?_
 refine kT hT hC h fun h => ?_
 refine kO hT hC ?_
 refine Vc.nil (Xao ?_)
 refine kL [3] [176] [_] [_] ?_
 refine kX h (fun v2 => ([], [(176, some (.ints .u8 v2))])) (fun v4 => ([], [(176, some (.ints .u8 v4))])) (kW hC []) (fun v2 s h => ?_) fun v4 h => ?_
 unfold Xbv at h
 refine Xao (Xaa ?_)
 iterate 2 refine kO hT hC ?_
 refine kQ hT hC h fun h => ?_
 refine kO hT hC ?_
 refine Vc.nil ?_
 refine kS h ?_ ?_ <;> intro b3 h
 refine kt b3 (Xae (Xad (Xa0 (Xaf ?_))))
 iterate 2 refine kO hT hC ?_
 refine kT hT hC h fun h => ?_
 refine kO hT hC ?_
 refine Vc.nil (Xbi ?_)
 obtain rfl := kj h
 exact Ya0 (kW hC [(176, 288)])
 exact kf b3 (Xa2 (Xbw ku))
 refine Xad (Xaa ?_)
 iterate 2 refine kO hT hC ?_
 refine Vc.nil (Xao (Xaa ?_))
 refine kO hT hC ?_
 refine Vc.nil ?_
 refine kL [3,4,5] [176,304] [_,_,_] [_,_] ?_
 refine kX h (fun v12 => ([(5, .sv (.int .i64 v12.1))], [(304, some (.ints .u8 v12.2))])) (fun v19 => ([(3, .any), (5, .any)], [(304, some (.ints .u8 v19)), (176, none)])) (kW hC []) (fun v12 s h => ?_) fun v19 h => ?_
 unfold Xbn at h
 refine Xao (Xaa ?_)
 iterate 4 refine kO hT hC ?_
 refine Vc.nil ?_
 refine kS h ?_ ?_ <;> intro b12 h
 refine kt b12 (Xae (Xad (Xao (Xa0 (Xaa ?_)))))
 refine kO hT hC ?_
 refine Vc.nil (Xao (Xaa ?_))
 refine kO hT hC ?_
 refine Vc.nil ?_
 refine kL [3,4,5,6,7] [176,304] [_,_,_,_,_] [_,_] ?_
 refine kX h (fun v21 => ([(6, .sv (.int .i64 v21.1)), (7, .sv (.int .i64 v21.2))], [])) (fun v23 => ([(6, .sv (.int .i64 v23)), (7, .any)], [])) (kW hC []) (fun v21 s h => ?_) fun v23 h => ?_
 unfold Xa5 at h
 refine Xao (Xaa ?_)
 iterate 2 refine kO hT hC ?_
 refine Vc.nil ?_
 refine kS h ?_ ?_ <;> intro b15 h
 refine kt b15 (Xae (Xad (Xao (Xa0 (Xaf ?_)))))
 iterate 6 refine kO hT hC ?_
 iterate 2 refine kQ hT hC h fun h => ?_
 iterate 4 refine kO hT hC ?_
 refine Vc.nil (Xbi (Xad (Xaf ?_)))
 iterate 3 refine kO hT hC ?_
 exact Vc.nil kG
 exact kf b15 (Xa2 (Xbw ku))
 refine Xad (Xaf ?_)
 iterate 4 refine kO hT hC ?_
 refine kT hT hC h fun h => ?_
 refine kO hT hC ?_
 refine Vc.nil (Xbi (Xad (Xaf ?_)))
 iterate 3 refine kO hT hC ?_
 refine Vc.nil ?_
 obtain rfl := kj h
 exact Ya0 (kW hC [(304, 720)])
 exact kf b12 (Xa2 (Xbw ku))
 refine Xad (Xaa ?_)
 iterate 3 refine kO hT hC ?_
 exact Vc.nil (Xac kR)
def Xnu (r : (ByteArray × Bool)) : AV := .tup [.sv (.str r.1), .sv (.bool r.2)]
def Xnt (r : (ByteArray × Bool)) : Xap := []
theorem Xht {p0 p1 r} (h : Xdm p0 p1 = some r) : AC Try.prog 85 [.sv (.int .i64 p0), .sv (.str p1)] [] (Xnu r) (Xnt r) := by
 refine Xab hT Try.func85 rfl fun C hC => ?_
 unfold Xdm at h
 refine Xaa ?_
 iterate 2 refine kO hT hC ?_
 refine Vc.nil (Xao ?_)
 refine kL [0,1] [] [_,_] [] ?_
 refine kA h (fun v1 => ([(13, .sv (.bool v1))], [])) (fun v1 h => ?_) fun v1 h => ?_
 refine Xaf ?_
 refine kO hT hC ?_
 refine kC hC [] Try.call124 h (fun _ => Xn3) fun q2 h => ?_
 iterate 2 refine kO hT hC ?_
 refine kS h ?_ ?_ <;> intro b1 h
 refine kI hT hC (kn b1) ?_
 refine kE hC (kn b1) [] Try.call125 h (fun _ => Xsa) fun q3 h => ?_
 refine kI hT hC (kn b1) ?_
 refine kP hC false (kn b1) ?_
 exact Vc.nil kM
 iterate 3 refine kF hC (kn b1) ?_
 refine kP hC true (kn b1) ?_
 exact Vc.nil kM
 refine kS h ?_ ?_ <;> intro b2 h
 refine kt b2 (Xaa ?_)
 iterate 2 refine kO hT hC ?_
 exact Vc.nil (Xac (Xak kR))
 refine kf b2 (Xae (Xad ?_))
 refine Xfb hm ?_
 iterate 5 refine kO hT hC ?_
 refine kC hC [] Try.call126 h (fun _ => Xln) fun q4 h => ?_
 refine kQ hT hC h fun h => ?_
 iterate 2 refine kO hT hC ?_
 exact kD (Xac kR)
def Xlq (r : ByteArray) : AV := .sv (.str r)
def Xlp (r : ByteArray) : Xap := []
theorem Xez {p0 r} (h : Xcu p0 = some r) : AC Try.prog 130 [.sv (.bool p0)] [] (Xlq r) (Xlp r) := by
 refine Xab hT Try.func130 rfl fun C hC => ?_
 unfold Xcu at h
 refine Xaa ?_
 refine kO hT hC ?_
 refine Vc.nil (Xao (Xaa ?_))
 refine kO hT hC ?_
 refine Vc.nil ?_
 refine kS h ?_ ?_ <;> intro b1 h
 refine kt b1 (Xaa ?_)
 refine kO hT hC ?_
 exact Vc.nil (Xac (Xak kR))
 refine kf b1 (Xae (Xad (Xaa ?_)))
 refine kO hT hC ?_
 exact Vc.nil (Xac kR)
def Xn0 (r : ByteArray) : AV := .sv (.str r)
def Xnz (r : ByteArray) : Xap := []
theorem Xp5 {p0 r} (h : Xe1 p0 = some r) : AC Try.prog 87 [.agg [.sv (.int .i64 p0.Qp), .sv (.bool p0.Large), .sv (.bool p0.Exact), .sv (.bool p0.Confined)]] [] (Xn0 r) (Xnz r) := by
 refine Xab hT Try.func87 rfl fun C hC => ?_
 unfold Xe1 at h
 refine Xaa ?_
 iterate 2 refine kO hT hC ?_
 refine Vc.nil ?_
 refine Xfb hm ?_
 iterate 2 refine kO hT hC ?_
 refine kC hC [] Try.call128 h (fun _ => Xhv) fun q1 h => ?_
 iterate 2 refine kO hT hC ?_
 refine kC hC [] Try.call130 h (fun _ => Xez) fun q2 h => ?_
 refine kQ hT hC h fun h => ?_
 iterate 2 refine kO hT hC ?_
 refine kC hC [] Try.call130 h (fun _ => Xez) fun q3 h => ?_
 refine kQ hT hC h fun h => ?_
 iterate 2 refine kO hT hC ?_
 refine kC hC [] Try.call130 h (fun _ => Xez) fun q4 h => ?_
 refine kQ hT hC h fun h => ?_
 refine kO hT hC ?_
 exact kD (Xac kR)
def Xik (r : (List ByteArray)) : AV := .own 16
def Xij (r : (List ByteArray)) : Xap := [(16, .row Xam r)]
theorem Xi9 {p0 r} (h : Xb4 p0 = some r) : AC Try.prog 39 [.agg [.sv (.int .i64 p0.Seq.Level), .sv (.int .i64 p0.Seq.Bits), .sv (.ints .i64 p0.Seq.Cols), .sv (.ints .i64 p0.Seq.Rows), .sv (.int .i64 p0.Par.Qp), .sv (.bool p0.Par.Large), .sv (.bool p0.Par.Exact), .sv (.bool p0.Par.Confined), .sv (.int .i64 p0.Rate.Qp), .sv (.int .i64 p0.Rate.Target), .sv (.int .i64 p0.Rate.Debt), .sv (.int .i64 p0.Frame), .sv (.int .i64 p0.Since), .sv (.int .i64 p0.Every), .sv (.int .i64 p0.Reach), .sv (.bool p0.Has), .sv (.int .i64 p0.Ref.Wide), .sv (.int .i64 p0.Ref.High), .sv (.str p0.Ref.Dots)]] [] (Xik r) (Xij r) := by
 refine Xab hT Try.func39 rfl fun C hC => ?_
 unfold Xb4 at h
 refine Xaa ?_
 iterate 2 refine kO hT hC ?_
 refine Vc.nil (Xao (Xaa ?_))
 refine kO hT hC ?_
 refine kC hC [] Try.call74 h (fun _ => Xlh) fun q1 h => ?_
 refine kO hT hC ?_
 refine Vc.nil ?_
 refine kS h ?_ ?_ <;> intro b1 h
 refine kt b1 (Xaa ?_)
 iterate 2 refine kO hT hC ?_
 refine Vc.nil (Xac (Xak ?_))
 obtain rfl := kj h
 exact Xqe (τ := ⟨[(2, .own 16)], [(16, some (.row Xam ([] : List ByteArray)))]⟩) (kW hC [(16, 160)]) rfl ⟨rfl, trivial⟩
 refine kf b1 (Xae (Xad (Xaa ?_)))
 iterate 2 refine kO hT hC ?_
 refine kC hC [] Try.call86 h (fun _ => Xp7) fun q2 h => ?_
 refine kC hC [] Try.call85 h (fun _ => Xht) fun q3 h => ?_
 iterate 5 refine kO hT hC ?_
 refine kN ?_
 iterate 2 refine kO hT hC ?_
 refine kC hC [] Try.call87 h (fun _ => Xp5) fun q4 h => ?_
 refine kC hC [] Try.call85 h (fun _ => Xht) fun q5 h => ?_
 iterate 5 refine kO hT hC ?_
 refine kN ?_
 iterate 4 refine kO hT hC ?_
 refine Vc.nil (Xac ?_)
 obtain rfl := kj h
 exact Xqe (τ := ⟨[(2, .own 16)], [(16, some (.row Xam ([q3.1, q5.1])))]⟩) (kW hC [(16, 432)]) rfl ⟨rfl, trivial⟩
def Xmh (r : (ByteArray × Bool)) : AV := .tup [.sv (.str r.1), .sv (.bool r.2)]
def Xmg (r : (ByteArray × Bool)) : Xap := []
theorem Xos {p0 r} (h : Xem p0 = some r) : AC Try.prog 90 [.agg [.sv (.int .i64 p0.Level), .sv (.int .i64 p0.Bits), .sv (.ints .i64 p0.Cols), .sv (.ints .i64 p0.Rows)]] [] (Xmh r) (Xmg r) := by
 refine Xab hT Try.func90 rfl fun C hC => ?_
 unfold Xem at h
 refine Xaa ?_
 iterate 3 refine kO hT hC ?_
 refine Vc.nil (Xao (Xaa ?_))
 refine kO hT hC ?_
 refine kC hC [] Try.call117 h (fun _ => Xf0) fun q1 h => ?_
 refine kO hT hC ?_
 refine Vc.nil ?_
 refine kS h ?_ ?_ <;> intro b1 h
 refine kt b1 (Xaa ?_)
 iterate 2 refine kO hT hC ?_
 exact Vc.nil (Xac (Xak kR))
 refine kf b1 (Xae (Xad ?_))
 refine Xfb hm ?_
 iterate 2 refine kO hT hC ?_
 refine kC hC [] Try.call131 h (fun _ => Xjx) fun q2 h => ?_
 iterate 2 refine kO hT hC ?_
 refine kC hC [] Try.call132 h (fun _ => Xf2) fun q3 h => ?_
 refine kQ hT hC h fun h => ?_
 refine kO hT hC ?_
 refine kD (Xao (Xaa ?_))
 iterate 7 refine kO hT hC ?_
 refine Vc.nil ?_
 refine kL [4,23,24,25] [368] [_,_,_,_] [_] ?_
 refine kX h (fun v14 => ([(4, .sv (.str v14.1)), (25, .sv (.int .i64 v14.2))], [])) (fun v25 => ([(4, .sv (.str v25)), (23, .any), (24, .any), (25, .any)], [(368, none)])) (kW hC []) (fun v14 s h => ?_) fun v25 h => ?_
 unfold Xa6 at h
 refine Xaa ?_
 refine kO hT hC ?_
 refine Vc.nil (Xao ?_)
 refine kS h ?_ ?_ <;> intro b10 h
 refine kt b10 (Xae (Xad (Xao (Xa0 (Xaa ?_)))))
 iterate 2 refine kQ hT hC h fun h => ?_
 refine kO hT hC ?_
 refine kN ?_
 iterate 3 refine kO hT hC ?_
 refine kC hC [] Try.call131 h (fun _ => Xjx) fun q26 h => ?_
 refine kQ hT hC h fun h => ?_
 refine kO hT hC ?_
 refine kN ?_
 iterate 3 refine kO hT hC ?_
 refine Vc.nil ?_
 refine kL [4,23,24,25,34,35,36] [368] [_,_,_,_,_,_,_] [_] ?_
 refine kX h (fun v29 => ([(4, .sv (.str v29.1)), (36, .sv (.int .i64 v29.2))], [])) (fun v32 => ([(4, .sv (.str v32)), (34, .any), (35, .any), (36, .any)], [])) (kW hC []) (fun v29 s h => ?_) fun v32 h => ?_
 unfold Xby at h
 refine Xaa ?_
 refine kO hT hC ?_
 refine Vc.nil (Xao ?_)
 refine kS h ?_ ?_ <;> intro b13 h
 refine kt b13 (Xae (Xad (Xao (Xa0 (Xaa ?_)))))
 refine kQ hT hC h fun h => ?_
 iterate 2 refine kO hT hC ?_
 refine Vc.nil (Xaf ?_)
 iterate 2 refine kO hT hC ?_
 refine kC hC [] Try.call131 h (fun _ => Xjx) fun q33 h => ?_
 refine kQ hT hC h fun h => ?_
 refine kO hT hC ?_
 refine Vc.nil (Xbi (Xad (Xaf ?_)))
 iterate 2 refine kO hT hC ?_
 exact Vc.nil kG
 exact kf b13 (Xa2 (Xbw ku))
 refine Xbi (Xad (Xaf ?_))
 iterate 2 refine kO hT hC ?_
 exact Vc.nil kG
 exact kf b10 (Xa2 (Xbw ku))
 refine Xad (Xaa ?_)
 iterate 3 refine kO hT hC ?_
 exact Vc.nil (Xac kR)
def Xq8 (r : ByteArray) : AV := .sv (.str r)
def Xq7 (r : ByteArray) : Xap := []
theorem Xgl {p0 r} (h : Xfl p0 = some r) : AC Try.prog 133 [.sv (.bool p0)] [] (Xq8 r) (Xq7 r) := by
 refine Xab hT Try.func133 rfl fun C hC => ?_
 unfold Xfl at h
 refine Xaa ?_
 refine kO hT hC ?_
 refine Vc.nil (Xao (Xaa ?_))
 refine kO hT hC ?_
 refine Vc.nil ?_
 refine kS h ?_ ?_ <;> intro b1 h
 refine kt b1 (Xaa ?_)
 refine kO hT hC ?_
 exact Vc.nil (Xac (Xak kR))
 refine kf b1 (Xae (Xad (Xaa ?_)))
 refine kO hT hC ?_
 exact Vc.nil (Xac kR)
def Xmd (r : (ByteArray × Bool)) : AV := .tup [.sv (.str r.1), .sv (.bool r.2)]
def Xmc (r : (ByteArray × Bool)) : Xap := []
theorem Xok {p0 r} (h : Xek p0 = some r) : AC Try.prog 91 [.agg [.sv (.int .i64 p0.Qp), .sv (.bool p0.Large), .sv (.bool p0.Exact), .sv (.bool p0.Confined)]] [] (Xmd r) (Xmc r) := by
 refine Xab hT Try.func91 rfl fun C hC => ?_
 unfold Xek at h
 refine Xaa ?_
 iterate 3 refine kO hT hC ?_
 refine Vc.nil (Xao (Xaa ?_))
 refine kO hT hC ?_
 refine kC hC [] Try.call119 h (fun _ => Xiu) fun q1 h => ?_
 refine kO hT hC ?_
 refine Vc.nil ?_
 refine kS h ?_ ?_ <;> intro b1 h
 refine kt b1 (Xaa ?_)
 iterate 2 refine kO hT hC ?_
 exact Vc.nil (Xac (Xak kR))
 refine kf b1 (Xae (Xad ?_))
 refine Xfb hm ?_
 iterate 2 refine kO hT hC ?_
 refine kC hC [] Try.call132 h (fun _ => Xf2) fun q2 h => ?_
 iterate 2 refine kO hT hC ?_
 refine kC hC [] Try.call133 h (fun _ => Xgl) fun q3 h => ?_
 refine kQ hT hC h fun h => ?_
 iterate 2 refine kO hT hC ?_
 refine kC hC [] Try.call133 h (fun _ => Xgl) fun q4 h => ?_
 refine kQ hT hC h fun h => ?_
 iterate 2 refine kO hT hC ?_
 refine kC hC [] Try.call133 h (fun _ => Xgl) fun q5 h => ?_
 refine kQ hT hC h fun h => ?_
 iterate 2 refine kO hT hC ?_
 exact kD (Xac kR)
def Xhj (r : Bool) : AV := .sv (.bool r)
def Xhi (r : Bool) : Xap := []
theorem Xq3 {p0 r} (h : Xfk p0 = some r) : AC Try.prog 157 [.sv (.str p0)] [] (Xhj r) (Xhi r) := by
 refine Xab hT Try.func157 rfl fun C hC => ?_
 unfold Xfk at h
 refine Xaa ?_
 refine kO hT hC ?_
 refine Vc.nil (Xao (Xaa ?_))
 iterate 3 refine kO hT hC ?_
 refine Vc.nil ?_
 refine kS h ?_ ?_ <;> intro b1 h
 refine kt b1 (Xaa ?_)
 refine kO hT hC ?_
 exact Vc.nil (Xac (Xak kR))
 refine kf b1 (Xae (Xad (Xao (Xaa ?_))))
 refine kO hT hC ?_
 refine Vc.nil ?_
 refine kL [0,3] [] [_,_] [] ?_
 obtain ⟨o8, hl, h⟩ := Xcl h
 refine Xgq (fun v3 => ([(3, .sv (.int .i64 v3))], [])) (fun v6 => ([(0, .any), (3, .any)], [])) (fun r => Xod C T Try.f157.results.toList (Xhj r) (Xhi r)) hl ?_ ?_ ?_ ?_
 apply Xjg hC []
 exact co
 rfl
 decide
 rfl
 intro v3 s hs
 have h := hs
 unfold Xcx at h
 refine Xao (Xaa ?_)
 iterate 4 refine kO hT hC ?_
 refine Vc.nil ?_
 refine kS h ?_ ?_ <;> intro b8 h
 refine kt b8 (Xae (Xad (Xao (Xa0 ?_))))
 refine kL [0,3] [] [_,_] [] ?_
 refine kA h (fun v7 => ([(22, .sv (.bool v7))], [])) (fun v7 h => ?_) fun v7 h => ?_
 refine Xaf ?_
 iterate 2 refine kO hT hC ?_
 refine kQ hT hC h fun h => ?_
 iterate 2 refine kO hT hC ?_
 refine kS h ?_ ?_ <;> intro b9 h
 iterate 2 refine kI hT hC b9 ?_
 refine kJ hT hC b9 h fun h => ?_
 refine kI hT hC b9 ?_
 refine kP hC true b9 ?_
 exact Vc.nil kM
 iterate 4 refine kF hC b9 ?_
 refine kP hC false b9 ?_
 exact Vc.nil kM
 refine kS h ?_ ?_ <;> intro b10 h
 refine kt b10 (Xaa ?_)
 refine kO hT hC ?_
 refine Vc.nil (Xac (Xky (Xak ?_)))
 obtain rfl := kj h
 refine Xrx (Xrt ?_)
 exact Xqe (Xfh.refl _) rfl trivial
 refine kf b10 (Xae (Xbi (Xad (Xaf ?_))))
 iterate 3 refine kO hT hC ?_
 exact Vc.nil kG
 exact kf b8 (Xa2 (Xbw kb))
 intro v6 e
 subst e
 refine Xad (Xaa ?_)
 refine kO hT hC ?_
 exact Vc.nil (Xac kR)
 intro r' σ' e hE
 subst e
 obtain rfl := kj h
 refine Xak ?_
 exact hE
def Xjr (r : (ByteArray × Bool)) : AV := .tup [.sv (.str r.1), .sv (.bool r.2)]
def Xjq (r : (ByteArray × Bool)) : Xap := []
theorem Xkz {p0 r} (h : Xcw p0 = some r) : AC Try.prog 134 [.sv (.str p0)] [] (Xjr r) (Xjq r) := by
 refine Xab hT Try.func134 rfl fun C hC => ?_
 unfold Xcw at h
 refine Xaa ?_
 iterate 2 refine kO hT hC ?_
 refine Vc.nil (Xao (Xaa ?_))
 refine kO hT hC ?_
 refine kC hC [] Try.call157 h (fun _ => Xq3) fun q1 h => ?_
 refine kO hT hC ?_
 refine Vc.nil ?_
 refine kS h ?_ ?_ <;> intro b1 h
 refine kt b1 (Xaa ?_)
 iterate 2 refine kO hT hC ?_
 exact Vc.nil (Xac (Xak kR))
 refine kf b1 (Xae (Xad (Xaa ?_)))
 iterate 2 refine kO hT hC ?_
 refine kQ hT hC h fun h => ?_
 refine kO hT hC ?_
 obtain ⟨hq, h⟩ := Xc7 h
 refine Xyq hT hC rfl rfl rfl rfl ⟨hq.1, hq.2.1, hq.2.2, by decide⟩ ?_
 refine kO hT hC ?_
 refine Vc.nil (Xao (Xaa ?_))
 refine kO hT hC ?_
 refine Vc.nil ?_
 refine kL [0,4,5] [208] [_,_,_] [_] ?_
 refine kX h (fun v4 => ([(5, .sv (.int .i64 v4.1))], [(208, some (.ints .u8 v4.2))])) (fun v7 => ([(5, .any)], [(208, some (.ints .u8 v7))])) (kW hC []) (fun v4 s h => ?_) fun v7 h => ?_
 unfold Xbs at h
 refine Xao (Xaa ?_)
 iterate 4 refine kO hT hC ?_
 refine Vc.nil ?_
 refine kS h ?_ ?_ <;> intro b6 h
 refine kt b6 (Xae (Xad ?_))
 refine kL [0,4,5] [208] [_,_,_] [_] ?_
 refine kA h (fun v8 => ([], [(208, some (.ints .u8 v8))])) (fun v8 h => ?_) fun v8 h => ?_
 refine Xa0 (Xaa ?_)
 iterate 2 refine kO hT hC ?_
 refine kQ hT hC h fun h => ?_
 refine kO hT hC ?_
 refine Vc.nil ?_
 refine kS h ?_ ?_ <;> intro b7 h
 refine kt b7 ?_
 refine Xl6 hm ?_
 iterate 2 refine kO hT hC ?_
 iterate 3 refine kQ hT hC h fun h => ?_
 refine kO hT hC ?_
 iterate 2 refine kQ hT hC h fun h => ?_
 refine kO hT hC ?_
 iterate 2 refine kQ hT hC h fun h => ?_
 exact kD (Xbi kM)
 exact kf b7 (Xae (Xbi kM))
 refine Xaf ?_
 iterate 3 refine kO hT hC ?_
 exact Vc.nil kG
 exact kf b6 (Xa2 (Xbw ku))
 refine Xad ?_
 refine Xfb hm ?_
 iterate 3 refine kO hT hC ?_
 iterate 3 refine kQ hT hC h fun h => ?_
 iterate 2 refine kO hT hC ?_
 iterate 2 refine kQ hT hC h fun h => ?_
 refine kO hT hC ?_
 iterate 2 refine kQ hT hC h fun h => ?_
 refine kD (Xaa ?_)
 iterate 4 refine kO hT hC ?_
 exact Vc.nil (Xac kR)
def Xmp (r : Bool) : AV := .sv (.bool r)
def Xmo (r : Bool) : Xap := []
theorem Xow {p0 r} (h : Xeo p0 = some r) : AC Try.prog 135 [.sv (.int .i64 p0)] [] (Xmp r) (Xmo r) := by
 refine Xab hT Try.func135 rfl fun C hC => ?_
 unfold Xeo at h
 refine Xaa ?_
 refine kO hT hC ?_
 refine Vc.nil ?_
 refine kL [0,2] [] [_,_] [] ?_
 refine kA h (fun v1 => ([(2, .sv (.bool v1)), (0, .any)], [])) (fun v1 h => ?_) fun v1 h => ?_
 refine Xaf ?_
 iterate 3 refine kO hT hC ?_
 refine kS h ?_ ?_ <;> intro b1 h
 iterate 2 refine kF hC b1 ?_
 refine kP hC true b1 ?_
 refine kO hT hC ?_
 iterate 2 refine kF hC rfl ?_
 iterate 2 refine kO hT hC ?_
 iterate 2 refine kF hC rfl ?_
 iterate 2 refine kO hT hC ?_
 exact Vc.nil kM
 iterate 2 refine kI hT hC b1 ?_
 refine kP hC false b1 ?_
 refine kO hT hC ?_
 refine kS h ?_ ?_ <;> intro b2 h
 iterate 2 refine kF hC b2 ?_
 refine kP hC true b2 ?_
 refine kO hT hC ?_
 iterate 2 refine kF hC rfl ?_
 iterate 2 refine kO hT hC ?_
 exact Vc.nil kM
 iterate 2 refine kI hT hC b2 ?_
 refine kP hC false b2 ?_
 refine kO hT hC ?_
 refine kS h ?_ ?_ <;> intro b3 h
 iterate 2 refine kF hC b3 ?_
 refine kP hC true b3 ?_
 refine kO hT hC ?_
 exact Vc.nil kM
 iterate 2 refine kI hT hC b3 ?_
 refine kP hC false b3 ?_
 refine kO hT hC ?_
 exact Vc.nil kM
 exact Xac kR
def Xmn (r : (ByteArray × Bool)) : AV := .tup [.sv (.str r.1), .sv (.bool r.2)]
def Xmm (r : (ByteArray × Bool)) : Xap := []
theorem Xhk {p0 p1 r} (h : Xdc p0 p1 = some r) : AC Try.prog 92 [.sv (.int .i64 p0), .sv (.str p1)] [] (Xmn r) (Xmm r) := by
 refine Xab hT Try.func92 rfl fun C hC => ?_
 unfold Xdc at h
 refine Xaa ?_
 iterate 2 refine kO hT hC ?_
 refine kN ?_
 refine kO hT hC ?_
 refine kC hC [] Try.call134 h (fun _ => Xkz) fun q1 h => ?_
 iterate 5 refine kO hT hC ?_
 refine Vc.nil (Xao ?_)
 refine kL [0,6,7] [] [_,_,_] [] ?_
 refine kA h (fun v2 => ([(19, .sv (.bool v2)), (7, .any)], [])) (fun v2 h => ?_) fun v2 h => ?_
 refine Xaf ?_
 iterate 3 refine kO hT hC ?_
 refine kS h ?_ ?_ <;> intro b1 h
 refine kI hT hC (kn b1) ?_
 refine kE hC (kn b1) [] Try.call135 h (fun _ => Xow) fun q3 h => ?_
 refine kI hT hC (kn b1) ?_
 refine kP hC false (kn b1) ?_
 exact Vc.nil kM
 iterate 3 refine kF hC (kn b1) ?_
 refine kP hC true (kn b1) ?_
 exact Vc.nil kM
 refine kS h ?_ ?_ <;> intro b2 h
 refine kt b2 (Xaa ?_)
 iterate 2 refine kO hT hC ?_
 exact Vc.nil (Xac (Xak kR))
 refine kf b2 (Xae (Xad (Xaa ?_)))
 iterate 5 refine kO hT hC ?_
 refine kQ hT hC h fun h => ?_
 iterate 2 refine kO hT hC ?_
 exact Vc.nil (Xac kR)
def Xh5 (r : (List ByteArray)) : AV := .own 16
def Xh4 (r : (List ByteArray)) : Xap := [(16, .row Xam r)]
theorem Xe8 {p0 r} (h : Xbk p0 = some r) : AC Try.prog 41 [.agg [.sv (.int .i64 p0.Seq.Level), .sv (.int .i64 p0.Seq.Bits), .sv (.ints .i64 p0.Seq.Cols), .sv (.ints .i64 p0.Seq.Rows), .sv (.int .i64 p0.Par.Qp), .sv (.bool p0.Par.Large), .sv (.bool p0.Par.Exact), .sv (.bool p0.Par.Confined), .sv (.int .i64 p0.Rate.Qp), .sv (.int .i64 p0.Rate.Target), .sv (.int .i64 p0.Rate.Debt), .sv (.int .i64 p0.Frame), .sv (.int .i64 p0.Since), .sv (.int .i64 p0.Every), .sv (.int .i64 p0.Reach), .sv (.bool p0.Has), .sv (.int .i64 p0.Ref.Wide), .sv (.int .i64 p0.Ref.High), .sv (.str p0.Ref.Dots)]] [] (Xh5 r) (Xh4 r) := by
 refine Xab hT Try.func41 rfl fun C hC => ?_
 unfold Xbk at h
 refine Xaa ?_
 iterate 2 refine kO hT hC ?_
 refine Vc.nil (Xao (Xaa ?_))
 refine kO hT hC ?_
 refine kC hC [] Try.call76 h (fun _ => Xk1) fun q1 h => ?_
 refine kO hT hC ?_
 refine Vc.nil ?_
 refine kS h ?_ ?_ <;> intro b1 h
 refine kt b1 (Xaa ?_)
 iterate 2 refine kO hT hC ?_
 refine Vc.nil (Xac (Xak ?_))
 obtain rfl := kj h
 exact Xqe (τ := ⟨[(2, .own 16)], [(16, some (.row Xam ([] : List ByteArray)))]⟩) (kW hC [(16, 224)]) rfl ⟨rfl, trivial⟩
 refine kf b1 (Xae (Xad (Xaa ?_)))
 iterate 2 refine kO hT hC ?_
 refine kC hC [] Try.call90 h (fun _ => Xos) fun q2 h => ?_
 iterate 5 refine kO hT hC ?_
 refine kN ?_
 iterate 2 refine kO hT hC ?_
 refine kC hC [] Try.call91 h (fun _ => Xok) fun q3 h => ?_
 iterate 5 refine kO hT hC ?_
 refine kN ?_
 refine kO hT hC ?_
 refine kC hC [] Try.call92 h (fun _ => Xhk) fun q4 h => ?_
 iterate 5 refine kO hT hC ?_
 refine kN ?_
 refine kO hT hC ?_
 refine kC hC [] Try.call92 h (fun _ => Xhk) fun q5 h => ?_
 iterate 5 refine kO hT hC ?_
 refine kN ?_
 iterate 4 refine kO hT hC ?_
 refine Vc.nil (Xac ?_)
 obtain rfl := kj h
 exact Xqe (τ := ⟨[(2, .own 16)], [(16, some (.row Xam ([q4.1, q5.1])))]⟩) (kW hC [(16, 624)]) rfl ⟨rfl, trivial⟩
def Xe5 (r : Bool) : AV := .sv (.bool r)
def Xe4 (r : Bool) : Xap := []
theorem Xfd {p0 r} (h : Xa9 p0 = some r) : AC Try.prog 7 [.agg [.sv (.int .i64 p0.Seq.Level), .sv (.int .i64 p0.Seq.Bits), .sv (.ints .i64 p0.Seq.Cols), .sv (.ints .i64 p0.Seq.Rows), .sv (.int .i64 p0.Par.Qp), .sv (.bool p0.Par.Large), .sv (.bool p0.Par.Exact), .sv (.bool p0.Par.Confined), .sv (.int .i64 p0.Rate.Qp), .sv (.int .i64 p0.Rate.Target), .sv (.int .i64 p0.Rate.Debt), .sv (.int .i64 p0.Frame), .sv (.int .i64 p0.Since), .sv (.int .i64 p0.Every), .sv (.int .i64 p0.Reach), .sv (.bool p0.Has), .sv (.int .i64 p0.Ref.Wide), .sv (.int .i64 p0.Ref.High), .sv (.str p0.Ref.Dots)]] [] (Xe5 r) (Xe4 r) := by
 refine Xab hT Try.func7 rfl fun C hC => ?_
 unfold Xa9 at h
 refine Xaa ?_
 iterate 2 refine kO hT hC ?_
 refine kN ?_
 refine kO hT hC ?_
 refine kN ?_
 iterate 2 refine kO hT hC ?_
 refine kC hC [] Try.call38 h (fun _ => Xla) fun q1 h => ?_
 refine kO hT hC ?_
 refine Vc.nil (Xao (Xaa ?_))
 iterate 2 refine kO hT hC ?_
 refine Vc.nil ?_
 refine kS h ?_ ?_ <;> intro b1 h
 refine kt b1 (Xaa ?_)
 refine kO hT hC ?_
 exact Vc.nil (Xac (Xak kR))
 refine kf b1 (Xae (Xad (Xaa ?_)))
 refine kO hT hC ?_
 refine kC hC [(16, 272), (17, 273)] Try.call40 h (fun _ => Xco) fun q2 h => ?_
 refine kC hC [(16, 288)] Try.call39 h (fun _ => Xi9) fun q3 h => ?_
 refine kO hT hC ?_
 refine kN ?_
 refine kO hT hC ?_
 refine kC hC [(16, 320), (17, 321)] Try.call40 h (fun _ => Xco) fun q4 h => ?_
 iterate 2 refine kO hT hC ?_
 refine kN ?_
 refine kO hT hC ?_
 refine kC hC [(16, 352)] Try.call41 h (fun _ => Xe8) fun q5 h => ?_
 refine kO hT hC ?_
 refine Vc.nil (Xao (Xaa ?_))
 iterate 2 refine kO hT hC ?_
 refine kC hC [] Try.call20 h (fun _ => Xdf) fun q6 h => ?_
 refine kO hT hC ?_
 refine Vc.nil ?_
 refine kS h ?_ ?_ <;> intro b2 h
 refine kt b2 (Xaa ?_)
 refine kO hT hC ?_
 exact Vc.nil (Xac (Xak kR))
 refine kf b2 (Xae (Xad (Xao ?_)))
 refine Xfb hm ?_
 iterate 2 refine kO hT hC ?_
 refine kC hC [(16, 464), (17, 465)] Try.call40 h (fun _ => Xco) fun q7 h => ?_
 refine kC hC [] Try.call35 h (fun _ => Xk6) fun q8 h => ?_
 refine kO hT hC ?_
 refine kD ?_
 refine kS h ?_ ?_ <;> intro b3 h
 refine kt b3 (Xaa ?_)
 refine kO hT hC ?_
 exact Vc.nil (Xac (Xak kR))
 refine kf b3 (Xae (Xad (Xaa ?_)))
 refine kO hT hC ?_
 refine kN ?_
 iterate 2 refine kO hT hC ?_
 refine kC hC [(2, 320), (3, 321)] Try.call36 h (fun _ => Xi1) fun q9 h => ?_
 refine kO hT hC ?_
 refine Vc.nil (Xao ?_)
 refine kL [1,4,6,7] [16,288,352] [_,_,_,_] [_,_,_] ?_
 refine kA h (fun v10 => ([(42, .sv (.bool v10)), (7, .any)], [])) (fun v10 h => ?_) fun v10 h => ?_
 refine Xaf ?_
 iterate 3 refine kO hT hC ?_
 refine kS h ?_ ?_ <;> intro b4 h
 iterate 4 refine kF hC b4 ?_
 refine kP hC true b4 ?_
 exact Vc.nil kM
 iterate 2 refine kI hT hC b4 ?_
 refine kE hC b4 [] Try.call20 h (fun _ => Xdf) fun q11 h => ?_
 refine kI hT hC b4 ?_
 refine kP hC false b4 ?_
 exact Vc.nil kM
 refine kS h ?_ ?_ <;> intro b5 h
 refine kt b5 (Xaa ?_)
 refine kO hT hC ?_
 exact Vc.nil (Xac (Xak kR))
 refine kf b5 (Xae (Xad (Xaa ?_)))
 refine kO hT hC ?_
 refine kN ?_
 iterate 2 refine kO hT hC ?_
 refine kC hC [(0, 352)] Try.call23 h (fun _ => Xid) fun q12 h => ?_
 refine kO hT hC ?_
 refine kN ?_
 refine kO hT hC ?_
 refine kN ?_
 iterate 2 refine kO hT hC ?_
 refine kC hC [] Try.call24 h (fun _ => Xeq) fun q13 h => ?_
 refine kO hT hC ?_
 refine Vc.nil (Xao (Xaa ?_))
 iterate 2 refine kO hT hC ?_
 refine Vc.nil ?_
 refine kS h ?_ ?_ <;> intro b6 h
 refine kt b6 (Xaa ?_)
 refine kO hT hC ?_
 exact Vc.nil (Xac (Xak kR))
 refine kf b6 (Xae (Xad (Xao (Xaa ?_))))
 iterate 3 refine kO hT hC ?_
 refine Vc.nil ?_
 refine kS h ?_ ?_ <;> intro b7 h
 refine kt b7 (Xaa ?_)
 refine kO hT hC ?_
 exact Vc.nil (Xac (Xak kR))
 refine kf b7 (Xae (Xad (Xaa ?_)))
 refine kO hT hC ?_
 refine kC hC [(16, 880), (17, 881)] Try.call40 h (fun _ => Xco) fun q14 h => ?_
 refine kC hC [(16, 896)] Try.call41 h (fun _ => Xe8) fun q15 h => ?_
 refine kO hT hC ?_
 refine Vc.nil (Xao (Xaa ?_))
 iterate 2 refine kO hT hC ?_
 refine kC hC [] Try.call20 h (fun _ => Xdf) fun q16 h => ?_
 refine kO hT hC ?_
 refine Vc.nil ?_
 refine kS h ?_ ?_ <;> intro b8 h
 refine kt b8 (Xaa ?_)
 refine kO hT hC ?_
 exact Vc.nil (Xac (Xak kR))
 refine kf b8 (Xae (Xad (Xaa ?_)))
 refine kO hT hC ?_
 refine kN ?_
 iterate 2 refine kO hT hC ?_
 refine kC hC [] Try.call24 h (fun _ => Xeq) fun q17 h => ?_
 refine kO hT hC ?_
 refine Vc.nil (Xao (Xaa ?_))
 iterate 2 refine kO hT hC ?_
 refine Vc.nil ?_
 refine kS h ?_ ?_ <;> intro b9 h
 refine kt b9 (Xaa ?_)
 refine kO hT hC ?_
 exact Vc.nil (Xac (Xak kR))
 refine kf b9 (Xae (Xad (Xao (Xaa ?_))))
 iterate 3 refine kO hT hC ?_
 refine Vc.nil ?_
 refine kS h ?_ ?_ <;> intro b10 h
 refine kt b10 (Xaa ?_)
 refine kO hT hC ?_
 exact Vc.nil (Xac (Xak kR))
 refine kf b10 (Xae (Xad (Xaa ?_)))
 refine kO hT hC ?_
 exact Vc.nil (Xac kR)
end
end Go.Proofs.Ytlebkepfhdjnmab.A
