/- Contracts of the functions that the law FnExactTileBack reaches, part 0: each comes to what its pure function tells. Written by a program of this session. Conditions: as each statement tells. -/
import Derived.Test.YtlebkepfhdjnmacBFnExactTileBack
namespace Go.Proofs.Ytlebkepfhdjnmac.A
open Go Go.Proofs Go.Proofs.YtlebkepfhdjnmacAL Go.RowKit
set_option linter.unusedVariables false
set_option linter.unusedSimpArgs false
set_option maxRecDepth 100000
set_option maxHeartbeats 8000000
noncomputable section
def Xvx (r : Bool) : AV := .sv (.bool r)
def Xvw (r : Bool) : Xa2 := []
theorem Xak {p0 p1 p2 r} (h : Xaq p0 p1 p2 = some r) : AC Try.prog 48 [.sv (.int .i64 p0), .sv (.int .i64 p1), .sv (.int .i64 p2)] [] (Xvx r) (Xvw r) := by
 refine Xaf hT Try.func48 rfl fun C hC => ?_
 unfold Xaq at h
 refine Xac ?_
 refine kO hT hC ?_
 refine Vc.nil ?_
 refine kL [0,1,2,6] [] [_,_,_,_] [] ?_
 refine kA h (fun v1 => ([(6, .sv (.bool v1)), (0, .any), (1, .any), (2, .any)], [])) (fun v1 h => ?_) fun v1 h => ?_
 refine Xab ?_
 iterate 4 refine kO hT hC ?_
 refine kS h ?_ ?_ <;> intro b1 h
 iterate 3 refine kI hT hC b1 ?_
 refine kP hC true b1 ?_
 refine kO hT hC ?_
 exact Vc.nil kM
 iterate 3 refine kF hC b1 ?_
 refine kP hC false b1 ?_
 refine kO hT hC ?_
 exact Vc.nil kM
 exact Xah kR
def Xvr (r : Bool) : AV := .sv (.bool r)
def Xvq (r : Bool) : Xa2 := []
theorem Xhq {p0 r} (h : Xff p0 = some r) : AC Try.prog 47 [.agg [.sv (.int .i64 p0.Wide), .sv (.int .i64 p0.High), .sv (.str p0.Dots)]] [] (Xvr r) (Xvq r) := by
 refine Xaf hT Try.func47 rfl fun C hC => ?_
 unfold Xff at h
 refine Xac ?_
 iterate 2 refine kO hT hC ?_
 refine Vc.nil ?_
 refine kL [1,2] [16] [_,_] [_] ?_
 refine kA h (fun v1 => ([(2, .sv (.bool v1)), (1, .any)], [(16, none)])) (fun v1 h => ?_) fun v1 h => ?_
 refine Xab ?_
 iterate 2 refine kO hT hC ?_
 refine kC hC [] Try.call48 h (fun _ => Xak) fun q2 h => ?_
 refine kO hT hC ?_
 refine kS h ?_ ?_ <;> intro b1 h
 iterate 2 refine kI hT hC b1 ?_
 refine kE hC b1 [] Try.call48 h (fun _ => Xak) fun q3 h => ?_
 refine kP hC true b1 ?_
 refine kO hT hC ?_
 refine kS h ?_ ?_ <;> intro b2 h
 iterate 9 refine kI hT hC b2 ?_
 refine kP hC true b2 ?_
 refine kO hT hC ?_
 exact Vc.nil kM
 iterate 9 refine kF hC b2 ?_
 refine kP hC false b2 ?_
 refine kO hT hC ?_
 exact Vc.nil kM
 iterate 3 refine kF hC b1 ?_
 refine kP hC false b1 ?_
 refine kO hT hC ?_
 iterate 9 refine kF hC rfl ?_
 iterate 2 refine kO hT hC ?_
 exact Vc.nil kM
 exact Xah kR
def Xqy (r : Int) : AV := .sv (.int .i64 r)
def Xqx (r : Int) : Xa2 := []
theorem Xfz {p0 p1 p2 r} (h : Xck p0 p1 p2 = some r) : AC Try.prog 91 [.sv (.int .i64 p0), .sv (.int .i64 p1), .sv (.int .i64 p2)] [] (Xqy r) (Xqx r) := by
 refine Xaf hT Try.func91 rfl fun C hC => ?_
 unfold Xck at h
 refine Xac ?_
 refine kO hT hC ?_
 refine Vc.nil (Xap ?_)
 refine kL [0,1,2] [] [_,_,_] [] ?_
 refine kA h (fun v1 => ([(14, .sv (.bool v1))], [])) (fun v1 h => ?_) fun v1 h => ?_
 refine Xab ?_
 iterate 4 refine kO hT hC ?_
 refine kS h ?_ ?_ <;> intro b1 h
 iterate 3 refine kF hC b1 ?_
 refine kP hC true b1 ?_
 exact Vc.nil kM
 iterate 3 refine kI hT hC b1 ?_
 refine kP hC false b1 ?_
 exact Vc.nil kM
 refine kS h ?_ ?_ <;> intro b2 h
 refine kt b2 (Xac ?_)
 iterate 2 refine kO hT hC ?_
 exact Vc.nil (Xah (Xau kR))
 refine kf b2 (Xae (Xad (Xap (Xac ?_))))
 iterate 3 refine kO hT hC ?_
 refine Vc.nil ?_
 refine kS h ?_ ?_ <;> intro b3 h
 refine kt b3 (Xac ?_)
 iterate 2 refine kO hT hC ?_
 exact Vc.nil (Xah (Xau kR))
 refine kf b3 (Xae (Xad (Xac ?_)))
 iterate 2 refine kO hT hC ?_
 exact Vc.nil (Xah kR)
def Xvo (r : Int) : AV := .sv (.int .i64 r)
def Xvn (r : Int) : Xa2 := []
theorem Xhp {p0 p1 p2 r} (h : Xc5 p0 p1 p2 = some r) : AC Try.prog 49 [.agg [.sv (.int .i64 p0.Wide), .sv (.int .i64 p0.High), .sv (.str p0.Dots)], .sv (.int .i64 p1), .sv (.int .i64 p2)] [] (Xvo r) (Xvn r) := by
 refine Xaf hT Try.func49 rfl fun C hC => ?_
 unfold Xc5 at h
 refine Xac ?_
 iterate 2 refine kO hT hC ?_
 refine Vc.nil (Xap (Xac ?_))
 refine kO hT hC ?_
 refine kC hC [] Try.call47 h (fun _ => Xhq) fun q1 h => ?_
 refine kO hT hC ?_
 refine Vc.nil ?_
 refine kS h ?_ ?_ <;> intro b1 h
 refine kt b1 (Xac ?_)
 refine kO hT hC ?_
 exact Vc.nil (Xah (Xau kR))
 refine kf b1 (Xae (Xad ?_))
 refine Xjd hm ?_
 iterate 6 refine kO hT hC ?_
 refine kC hC [] Try.call91 h (fun _ => Xfz) fun q2 h => ?_
 iterate 7 refine kO hT hC ?_
 refine kC hC [] Try.call91 h (fun _ => Xfz) fun q3 h => ?_
 refine kO hT hC ?_
 refine kQ hT hC h fun h => ?_
 iterate 2 refine kO hT hC ?_
 exact kD (Xah kR)
def Xqw (r : (List Int)) : AV := .own 16
def Xqv (r : (List Int)) : Xa2 := [(16, .ints .i64 r)]
theorem Xts {p0 p1 p2 r} (h : Xg3 p0 p1 p2 = some r) : AC Try.prog 12 [.agg [.sv (.int .i64 p0.Wide), .sv (.int .i64 p0.High), .sv (.str p0.Dots)], .sv (.int .i64 p1), .sv (.int .i64 p2)] [] (Xqw r) (Xqv r) := by
 refine Xaf hT Try.func12 rfl fun C hC => ?_
 unfold Xg3 at h
 refine Xac ?_
 iterate 2 refine kO hT hC ?_
 refine kN ?_
 iterate 2 refine kO hT hC ?_
 refine Vc.nil (Xap ?_)
 refine kL [1,2,3,7] [48,144] [_,_,_,_] [_,_] ?_
 refine kA h (fun v1 => ([(22, .sv (.bool v1))], [])) (fun v1 h => ?_) fun v1 h => ?_
 refine Xab ?_
 refine kO hT hC ?_
 refine kC hC [] Try.call47 h (fun _ => Xhq) fun q2 h => ?_
 iterate 2 refine kO hT hC ?_
 refine kS h ?_ ?_ <;> intro b1 h
 refine kI hT hC (kn b1) ?_
 refine kE hC (kn b1) [] Try.call48 h (fun _ => Xak) fun q3 h => ?_
 refine kI hT hC (kn b1) ?_
 refine kP hC false (kn b1) ?_
 refine kO hT hC ?_
 refine kS h ?_ ?_ <;> intro b2 h
 refine kI hT hC (kn b2) ?_
 refine kE hC (kn b2) [] Try.call48 h (fun _ => Xak) fun q4 h => ?_
 refine kI hT hC (kn b2) ?_
 refine kP hC false (kn b2) ?_
 exact Vc.nil kM
 iterate 3 refine kF hC (kn b2) ?_
 refine kP hC true (kn b2) ?_
 exact Vc.nil kM
 iterate 3 refine kF hC (kn b1) ?_
 refine kP hC true (kn b1) ?_
 refine kO hT hC ?_
 iterate 3 refine kF hC rfl ?_
 refine kO hT hC ?_
 exact Vc.nil kM
 refine kS h ?_ ?_ <;> intro b3 h
 refine kt b3 (Xac ?_)
 iterate 2 refine kO hT hC ?_
 refine Vc.nil (Xah (Xau ?_))
 obtain rfl := kj h
 exact Xea (τ := ⟨[(6, .own 16)], [(16, some (.ints .i64 ([] : List Int)))]⟩) (kW hC [(16, 144)]) rfl ⟨rfl, trivial⟩
 refine kf b3 (Xae (Xad (Xap (Xac ?_))))
 refine kO hT hC ?_
 refine Vc.nil ?_
 refine kL [1,2,3,7,8] [48,144] [_,_,_,_,_] [_,_] ?_
 refine kX h (fun v7 => ([(8, .sv (.int .i64 v7.1))], [(144, some (.ints .i64 v7.2))])) (fun v10 => ([(1, .any), (2, .any), (3, .any), (8, .any)], [(144, some (.ints .i64 v10)), (48, none)])) (kW hC []) (fun v7 s h => ?_) fun v10 h => ?_
 unfold Xdz at h
 refine Xap (Xac ?_)
 iterate 2 refine kO hT hC ?_
 refine Vc.nil ?_
 refine kS h ?_ ?_ <;> intro b6 h
 refine kt b6 (Xae (Xad (Xap (Xal (Xab ?_)))))
 iterate 4 refine kO hT hC ?_
 refine kQ hT hC h fun h => ?_
 iterate 3 refine kO hT hC ?_
 refine kQ hT hC h fun h => ?_
 refine kO hT hC ?_
 refine kC hC [] Try.call49 h (fun _ => Xhp) fun q11 h => ?_
 refine kO hT hC ?_
 refine kT hT hC h fun h => ?_
 refine kO hT hC ?_
 refine Vc.nil (Xam (Xad (Xab ?_)))
 iterate 3 refine kO hT hC ?_
 refine Vc.nil ?_
 obtain rfl := kj h
 exact Yce (kW hC [(144, 640)])
 exact kf b6 (Xan (Xav ku))
 refine Xad (Xac ?_)
 iterate 2 refine kO hT hC ?_
 refine Vc.nil (Xah ?_)
 obtain rfl := kj h
 exact Xea (τ := ⟨[(6, .own 16)], [(16, some (.ints .i64 v10))]⟩) (kW hC [(16, 144)]) rfl ⟨rfl, trivial⟩
def Xs2 (r : Bool) : AV := .sv (.bool r)
def Xs1 (r : Bool) : Xa2 := []
theorem Xaj {p0 p1 p2 r} (h : Xao p0 p1 p2 = some r) : AC Try.prog 53 [.sv (.int .i64 p0), .sv (.int .i64 p1), .sv (.int .i64 p2)] [] (Xs2 r) (Xs1 r) := by
 refine Xaf hT Try.func53 rfl fun C hC => ?_
 unfold Xao at h
 refine Xac ?_
 refine kO hT hC ?_
 refine Vc.nil ?_
 refine kL [0,1,2,6] [] [_,_,_,_] [] ?_
 refine kA h (fun v1 => ([(6, .sv (.bool v1)), (0, .any), (1, .any), (2, .any)], [])) (fun v1 h => ?_) fun v1 h => ?_
 refine Xab ?_
 iterate 4 refine kO hT hC ?_
 refine kS h ?_ ?_ <;> intro b1 h
 iterate 3 refine kI hT hC b1 ?_
 refine kP hC true b1 ?_
 refine kO hT hC ?_
 exact Vc.nil kM
 iterate 3 refine kF hC b1 ?_
 refine kP hC false b1 ?_
 refine kO hT hC ?_
 exact Vc.nil kM
 exact Xah kR
def Xuz (r : Bool) : AV := .sv (.bool r)
def Xuy (r : Bool) : Xa2 := []
theorem Xfo {p0 r} (h : Xdm p0 = some r) : AC Try.prog 50 [.agg [.sv (.int .i64 p0.Wide), .sv (.int .i64 p0.High), .sv (.str p0.Dots)]] [] (Xuz r) (Xuy r) := by
 refine Xaf hT Try.func50 rfl fun C hC => ?_
 unfold Xdm at h
 refine Xac ?_
 iterate 2 refine kO hT hC ?_
 refine Vc.nil ?_
 refine kL [1,2] [16] [_,_] [_] ?_
 refine kA h (fun v1 => ([(2, .sv (.bool v1)), (1, .any)], [(16, none)])) (fun v1 h => ?_) fun v1 h => ?_
 refine Xab ?_
 iterate 2 refine kO hT hC ?_
 refine kC hC [] Try.call53 h (fun _ => Xaj) fun q2 h => ?_
 refine kO hT hC ?_
 refine kS h ?_ ?_ <;> intro b1 h
 iterate 2 refine kI hT hC b1 ?_
 refine kE hC b1 [] Try.call53 h (fun _ => Xaj) fun q3 h => ?_
 refine kP hC true b1 ?_
 refine kO hT hC ?_
 refine kS h ?_ ?_ <;> intro b2 h
 iterate 9 refine kI hT hC b2 ?_
 refine kP hC true b2 ?_
 refine kO hT hC ?_
 exact Vc.nil kM
 iterate 9 refine kF hC b2 ?_
 refine kP hC false b2 ?_
 refine kO hT hC ?_
 exact Vc.nil kM
 iterate 3 refine kF hC b1 ?_
 refine kP hC false b1 ?_
 refine kO hT hC ?_
 iterate 9 refine kF hC rfl ?_
 iterate 2 refine kO hT hC ?_
 exact Vc.nil kM
 exact Xah kR
def Xkq (r : Bool) : AV := .sv (.bool r)
def Xkp (r : Bool) : Xa2 := []
theorem Xhh {p0 p1 p2 r} (h : Xbp p0 p1 p2 = some r) : AC Try.prog 51 [.agg [.sv (.int .i64 p0.Wide), .sv (.int .i64 p0.High), .sv (.str p0.Dots)], .sv (.int .i64 p1), .sv (.int .i64 p2)] [] (Xkq r) (Xkp r) := by
 refine Xaf hT Try.func51 rfl fun C hC => ?_
 unfold Xbp at h
 refine Xac ?_
 iterate 2 refine kO hT hC ?_
 refine Vc.nil ?_
 refine kL [1,2,3,6] [48] [_,_,_,_] [_] ?_
 refine kA h (fun v1 => ([(6, .sv (.bool v1)), (1, .any), (2, .any), (3, .any)], [(48, none)])) (fun v1 h => ?_) fun v1 h => ?_
 refine Xab ?_
 refine kO hT hC ?_
 refine kQ hT hC h fun h => ?_
 iterate 2 refine kO hT hC ?_
 refine kS h ?_ ?_ <;> intro b1 h
 refine kI hT hC b1 ?_
 refine kJ hT hC b1 h fun h => ?_
 refine kI hT hC b1 ?_
 refine kP hC true b1 ?_
 refine kO hT hC ?_
 refine kS h ?_ ?_ <;> intro b2 h
 iterate 4 refine kI hT hC b2 ?_
 refine kE hC b2 [] Try.call53 h (fun _ => Xaj) fun q2 h => ?_
 refine kP hC true b2 ?_
 refine kO hT hC ?_
 refine kS h ?_ ?_ <;> intro b3 h
 iterate 4 refine kI hT hC b3 ?_
 refine kE hC b3 [] Try.call53 h (fun _ => Xaj) fun q3 h => ?_
 refine kP hC true b3 ?_
 refine kO hT hC ?_
 exact Vc.nil kM
 iterate 5 refine kF hC b3 ?_
 refine kP hC false b3 ?_
 refine kO hT hC ?_
 exact Vc.nil kM
 iterate 5 refine kF hC b2 ?_
 refine kP hC false b2 ?_
 refine kO hT hC ?_
 iterate 5 refine kF hC rfl ?_
 iterate 2 refine kO hT hC ?_
 exact Vc.nil kM
 iterate 3 refine kF hC b1 ?_
 refine kP hC false b1 ?_
 refine kO hT hC ?_
 iterate 5 refine kF hC rfl ?_
 iterate 2 refine kO hT hC ?_
 iterate 5 refine kF hC rfl ?_
 iterate 2 refine kO hT hC ?_
 exact Vc.nil kM
 exact Xah kR
def Xlp (r : Bool) : AV := .sv (.bool r)
def Xlo (r : Bool) : Xa2 := []
theorem Xed {p0 p1 p2 p3 r} (h : Xb6 p0 p1 p2 p3 = some r) : AC Try.prog 52 [.sv (.ints .i64 p0), .sv (.int .i64 p1), .sv (.int .i64 p2), .sv (.int .i64 p3)] [] (Xlp r) (Xlo r) := by
 refine Xaf hT Try.func52 rfl fun C hC => ?_
 unfold Xb6 at h
 refine Xac ?_
 refine kO hT hC ?_
 refine Vc.nil (Xap (Xac ?_))
 iterate 3 refine kO hT hC ?_
 refine Vc.nil ?_
 refine kL [0,1,2,3,11,12,13] [] [_,_,_,_,_,_,_] [] ?_
 obtain ⟨o8, hl, h⟩ := Xa9 h
 refine Xhc (fun v3 => ([(13, .sv (.int .i64 v3))], [])) (fun v6 => ([(2, .any), (3, .any), (11, .any), (12, .any), (13, .any)], [])) (fun r => Xmy C T Try.f52.results.toList (Xlp r) (Xlo r)) hl ?_ ?_ ?_ ?_
 apply Xg7 hC []
 exact co
 rfl
 decide
 rfl
 intro v3 s hs
 have h := hs
 unfold Xfs at h
 refine Xac ?_
 refine kO hT hC ?_
 refine Vc.nil (Xap ?_)
 refine kS h ?_ ?_ <;> intro b5 h
 refine kt b5 (Xae (Xad (Xap (Xal (Xac ?_)))))
 refine kQ hT hC h fun h => ?_
 iterate 2 refine kO hT hC ?_
 refine kN ?_
 iterate 3 refine kO hT hC ?_
 refine kC hC [] Try.call53 h (fun _ => Xaj) fun q7 h => ?_
 refine kO hT hC ?_
 refine Vc.nil ?_
 refine kS h ?_ ?_ <;> intro b6 h
 refine kt b6 (Xac ?_)
 refine kO hT hC ?_
 refine Vc.nil (Xah (Xid (Xau ?_)))
 obtain rfl := kj h
 refine Xqt (Xqs ?_)
 exact Xea (Xhs.refl _) rfl trivial
 refine kf b6 (Xae (Xam (Xad (Xab ?_))))
 iterate 2 refine kO hT hC ?_
 exact Vc.nil kG
 exact kf b5 (Xan (Xav kb))
 intro v6 e
 subst e
 refine Xad (Xac ?_)
 iterate 5 refine kO hT hC ?_
 exact Vc.nil (Xah kR)
 intro r' σ' e hE
 subst e
 obtain rfl := kj h
 refine Xau ?_
 exact hE
def Xsf (r : Bool) : AV := .sv (.bool r)
def Xse (r : Bool) : Xa2 := []
theorem Xit {p0 r} (h : Xe6 p0 = some r) : AC Try.prog 27 [.agg [.sv (.bool p0.Key), .sv (.int .i64 p0.Qp), .sv (.bool p0.Large), .sv (.bool p0.Exact)]] [] (Xsf r) (Xse r) := by
 refine Xaf hT Try.func27 rfl fun C hC => ?_
 unfold Xe6 at h
 refine Xac ?_
 iterate 2 refine kO hT hC ?_
 refine Vc.nil ?_
 refine kL [1,2] [16] [_,_] [_] ?_
 refine kA h (fun v1 => ([(2, .sv (.bool v1)), (1, .any)], [(16, none)])) (fun v1 h => ?_) fun v1 h => ?_
 refine Xab ?_
 iterate 2 refine kO hT hC ?_
 refine kC hC [] Try.call53 h (fun _ => Xaj) fun q2 h => ?_
 refine kO hT hC ?_
 refine kS h ?_ ?_ <;> intro b1 h
 iterate 3 refine kI hT hC b1 ?_
 refine kS h ?_ ?_ <;> intro b2 h
 iterate 2 refine kI hT hC b2 ?_
 refine Xe1 hC rfl rfl rfl rfl b1 rfl rfl (b := true) b2 rfl rfl rfl trivial ?_
 refine kI hT hC b1 ?_
 refine kP hC true b1 ?_
 refine kO hT hC ?_
 exact Vc.nil kM
 iterate 2 refine kF hC b2 ?_
 refine Xe1 hC rfl rfl rfl rfl b1 rfl rfl (b := false) b2 rfl rfl rfl trivial ?_
 refine kI hT hC b1 ?_
 refine kP hC true b1 ?_
 refine kO hT hC ?_
 exact Vc.nil kM
 iterate 3 refine kF hC b1 ?_
 iterate 2 refine Xla hC rfl rfl rfl rfl rfl rfl ?_
 iterate 2 refine kF hC b1 ?_
 refine kP hC false b1 ?_
 refine kO hT hC ?_
 exact Vc.nil kM
 exact Xah kR
def Xp5 (r : Int) : AV := .sv (.int .i64 r)
def Xp4 (r : Int) : Xa2 := []
theorem Xfk {p0 p1 p2 r} (h : Xcf p0 p1 p2 = some r) : AC Try.prog 103 [.sv (.int .i64 p0), .sv (.int .i64 p1), .sv (.int .i64 p2)] [] (Xp5 r) (Xp4 r) := by
 refine Xaf hT Try.func103 rfl fun C hC => ?_
 unfold Xcf at h
 refine Xac ?_
 refine kO hT hC ?_
 refine kN ?_
 iterate 6 refine kO hT hC ?_
 exact Vc.nil (Xah kR)
def Xqc (r : Int) : AV := .sv (.int .i64 r)
def Xqb (r : Int) : Xa2 := []
theorem Xfp {p0 p1 p2 r} (h : Xcj p0 p1 p2 = some r) : AC Try.prog 92 [.agg [.sv (.int .i64 p0.Wide), .sv (.int .i64 p0.High), .sv (.str p0.Dots)], .sv (.int .i64 p1), .sv (.int .i64 p2)] [] (Xqc r) (Xqb r) := by
 refine Xaf hT Try.func92 rfl fun C hC => ?_
 unfold Xcj at h
 refine Xac ?_
 iterate 2 refine kO hT hC ?_
 refine Vc.nil ?_
 refine Xjd hm ?_
 iterate 6 refine kO hT hC ?_
 refine kC hC [] Try.call103 h (fun _ => Xfk) fun q1 h => ?_
 iterate 7 refine kO hT hC ?_
 refine kC hC [] Try.call103 h (fun _ => Xfk) fun q2 h => ?_
 refine kO hT hC ?_
 refine kQ hT hC h fun h => ?_
 iterate 2 refine kO hT hC ?_
 exact kD (Xah kR)
def Xp7 (r : (Xf6 × Bool)) : AV := .tup [.agg [.own 16, .own 17, .sv (.int .i64 r.1.Corner)], .sv (.bool r.2)]
def Xp6 (r : (Xf6 × Bool)) : Xa2 := [(16, .ints .i64 r.1.Above), (17, .ints .i64 r.1.Left)]
theorem Xsg {p0 p1 p2 r} (h : Xgv p0 p1 p2 = some r) : AC Try.prog 54 [.agg [.sv (.int .i64 p0.Wide), .sv (.int .i64 p0.High), .sv (.str p0.Dots)], .sv (.int .i64 p1), .sv (.int .i64 p2)] [] (Xp7 r) (Xp6 r) := by
 refine Xaf hT Try.func54 rfl fun C hC => ?_
 unfold Xgv at h
 refine Xac ?_
 iterate 3 refine kO hT hC ?_
 refine Vc.nil (Xap ?_)
 refine kL [1,2,3,6] [48,96] [_,_,_,_] [_,_] ?_
 refine kA h (fun v1 => ([(19, .sv (.bool v1))], [])) (fun v1 h => ?_) fun v1 h => ?_
 refine Xab ?_
 refine kO hT hC ?_
 refine kC hC [] Try.call50 h (fun _ => Xfo) fun q2 h => ?_
 iterate 2 refine kO hT hC ?_
 refine kS h ?_ ?_ <;> intro b1 h
 iterate 3 refine kI hT hC (kn b1) ?_
 refine kE hC (kn b1) [] Try.call51 h (fun _ => Xhh) fun q3 h => ?_
 refine kI hT hC (kn b1) ?_
 refine kP hC false (kn b1) ?_
 exact Vc.nil kM
 iterate 5 refine kF hC (kn b1) ?_
 refine kP hC true (kn b1) ?_
 exact Vc.nil kM
 refine kS h ?_ ?_ <;> intro b2 h
 refine kt b2 (Xac ?_)
 iterate 3 refine kO hT hC ?_
 refine Vc.nil (Xah (Xau ?_))
 obtain rfl := kj h
 refine Xea (τ := ⟨[(6, .ptr 2000000 0), (7, .sv (.bool false))], [(16, some (.ints .i64 [])), (17, some (.ints .i64 [])), (2000000, some (.box [.own 16, .own 17, .sv (.int .i64 0)]))]⟩) ?_ rfl ⟨rfl, rfl, trivial⟩
 refine Xp3 hC 96 0 1105 (.ints .i64 []) rfl rfl rfl rfl rfl trivial ?_
 refine Xp3 hC 96 1 1106 (.ints .i64 []) rfl rfl rfl rfl rfl trivial ?_
 apply Xg7 hC [(16, 1105), (17, 1106), (2000000, 96)]
 exact co
 rfl
 decide
 rfl
 refine kf b2 (Xae (Xad (Xac ?_)))
 iterate 3 refine kO hT hC ?_
 refine Vc.nil (Xap (Xac ?_))
 refine kO hT hC ?_
 refine Vc.nil ?_
 refine kL [1,2,3,6,8,22] [48,96,128] [_,_,_,_,_,_] [_,_,_] ?_
 obtain ⟨v15, hl, h⟩ := Xa9 h
 refine Ydv (fun v9 => ([(22, .sv (.int .i64 v9.1))], [(128, some (.box [.own 1129, .own 1130, .sv (.int .i64 (-1))])), (1129, some (.ints .i64 v9.2.1)), (1130, some (.ints .i64 v9.2.2))])) (fun v15 => ([(22, .any)], [(128, some (.box [.own 1133, .own 1134, .sv (.int .i64 (-1))])), (1133, some (.ints .i64 v15.1)), (1134, some (.ints .i64 v15.2))])) hl ?_ ?_ ?_
 refine Xp3 hC 128 0 1135 (.ints .i64 []) rfl rfl rfl rfl rfl trivial ?_
 refine Xp3 hC 128 1 1136 (.ints .i64 []) rfl rfl rfl rfl rfl trivial ?_
 try dsimp only
 apply Xg7 hC [(1129, 1135), (1130, 1136)]
 exact co
 rfl
 decide
 rfl
 intro v9 s hs
 have h := hs
 unfold Xfm at h
 refine Xac ?_
 refine kO hT hC ?_
 refine Vc.nil (Xap ?_)
 refine kS h ?_ ?_ <;> intro b9 h
 refine kt b9 (Xae (Xad ?_))
 refine kL [1,2,3,6,8,22] [48,96,128,1129,1130] [_,_,_,_,_,_] [_,_,_,_,_] ?_
 refine kA h (fun v16 => ([], [(1129, some (.ints .i64 v16.1)), (1130, some (.ints .i64 v16.2))])) (fun v16 h => ?_) fun v16 h => ?_
 refine Xal (Xac ?_)
 iterate 2 refine kO hT hC ?_
 refine Vc.nil ?_
 refine kL [1,2,3,6,8,9,22] [48,96,128,1129,1130] [_,_,_,_,_,_,_] [_,_,_,_,_] ?_
 refine kA h (fun v17 => ([], [(1129, some (.ints .i64 v17))])) (fun v17 h => ?_) fun v17 h => ?_
 refine Xac ?_
 iterate 2 refine kO hT hC ?_
 refine Vc.nil ?_
 refine kS h ?_ ?_ <;> intro b10 h
 refine kt b10 ?_
 refine Xdt hm ?_
 iterate 8 refine kO hT hC ?_
 refine kC hC [] Try.call92 h (fun _ => Xfp) fun q18 h => ?_
 refine kO hT hC ?_
 refine kT hT hC h fun h => ?_
 iterate 2 refine kO hT hC ?_
 refine kD ?_
 obtain rfl := kj h
 exact Xil (kW hC [(1129, 592)])
 exact kf b10 (Xae kM)
 refine Xac ?_
 iterate 2 refine kO hT hC ?_
 refine Vc.nil ?_
 refine kS h ?_ ?_ <;> intro b11 h
 refine kt b11 ?_
 refine Xdt hm ?_
 iterate 8 refine kO hT hC ?_
 refine kC hC [] Try.call92 h (fun _ => Xfp) fun q19 h => ?_
 refine kO hT hC ?_
 refine kT hT hC h fun h => ?_
 iterate 2 refine kO hT hC ?_
 refine kD (Xam ?_)
 obtain rfl := kj h
 exact Xil (kW hC [(1130, 816)])
 exact kf b11 (Xae (Xam kM))
 refine Xab ?_
 iterate 2 refine kO hT hC ?_
 exact Vc.nil kG
 refine kf b9 (Xan (Xav ?_))
 obtain rfl := kj h
 exact Ybq (Ygp (kW hC [(1133, 1129), (1134, 1130)]))
 refine Xad ?_
 refine kL [1,2,3,6,8] [48,96,128,1133,1134] [_,_,_,_,_] [_,_,_,_,_] ?_
 refine kA h (fun v21 => ([(1, .any), (2, .any), (3, .any)], [(128, some (.box [.own 1133, .own 1134, .sv (.int .i64 v21)])), (48, none)])) (fun v21 h => ?_) fun v21 h => ?_
 refine kL [1,2,3,6,8] [48,96,128,1133,1134] [_,_,_,_,_] [_,_,_,_,_] ?_
 refine kA h (fun v22 => ([(59, .sv (.bool v22))], [])) (fun v22 h => ?_) fun v22 h => ?_
 refine Xab ?_
 iterate 3 refine kO hT hC ?_
 refine kS h ?_ ?_ <;> intro b12 h
 iterate 2 refine kI hT hC b12 ?_
 refine kP hC true b12 ?_
 exact Vc.nil kM
 iterate 2 refine kF hC b12 ?_
 refine kP hC false b12 ?_
 exact Vc.nil kM
 refine kS h ?_ ?_ <;> intro b13 h
 refine kt b13 (Xab ?_)
 iterate 5 refine kO hT hC ?_
 refine kC hC [] Try.call92 h (fun _ => Xfp) fun q23 h => ?_
 iterate 2 refine kO hT hC ?_
 exact Vc.nil kM
 exact kf b13 (Xae kM)
 refine Xac ?_
 iterate 3 refine kO hT hC ?_
 refine Vc.nil (Xah ?_)
 obtain rfl := kj h
 exact Xea (τ := ⟨[(6, .ptr 2000000 0), (7, .sv (.bool true))], [(16, some (.ints .i64 v15.1)), (17, some (.ints .i64 v15.2)), (2000000, some (.box [.own 16, .own 17, .sv (.int .i64 v21)]))]⟩) (kW hC [(16, 1133), (17, 1134), (2000000, 96)]) rfl ⟨rfl, rfl, trivial⟩
def Xj5 (r : Bool) : AV := .sv (.bool r)
def Xj4 (r : Bool) : Xa2 := []
theorem Xsh {p0 r} (h : Xgw p0 = some r) : AC Try.prog 93 [.agg [.sv (.ints .i64 p0.Above), .sv (.ints .i64 p0.Left), .sv (.int .i64 p0.Corner)]] [] (Xj5 r) (Xj4 r) := by
 refine Xaf hT Try.func93 rfl fun C hC => ?_
 unfold Xgw at h
 refine Xac ?_
 iterate 2 refine kO hT hC ?_
 refine Vc.nil (Xap (Xac ?_))
 iterate 7 refine kO hT hC ?_
 refine Vc.nil ?_
 refine kL [1,9,10,11] [16,144] [_,_,_,_] [_,_] ?_
 obtain ⟨o11, hl, h⟩ := Xa9 h
 refine Xhc (fun v4 => ([(11, .sv (.int .i64 v4))], [])) (fun v8 => ([(9, .any), (10, .any), (11, .any)], [(144, none)])) (fun r => Xmy C T Try.f93.results.toList (Xj5 r) (Xj4 r)) hl ?_ ?_ ?_ ?_
 apply Xg7 hC []
 exact co
 rfl
 decide
 rfl
 intro v4 s hs
 have h := hs
 unfold Xcy at h
 refine Xac ?_
 refine kO hT hC ?_
 refine Vc.nil (Xap ?_)
 refine kS h ?_ ?_ <;> intro b7 h
 refine kt b7 (Xae (Xad (Xap (Xal (Xac ?_)))))
 iterate 2 refine kQ hT hC h fun h => ?_
 refine kO hT hC ?_
 refine Vc.nil ?_
 refine kL [1,4,9,10,11] [16,144] [_,_,_,_,_] [_,_] ?_
 refine kA h (fun v9 => ([(22, .sv (.bool v9)), (4, .any)], [])) (fun v9 h => ?_) fun v9 h => ?_
 refine Xab ?_
 iterate 4 refine kO hT hC ?_
 refine kS h ?_ ?_ <;> intro b8 h
 refine kI hT hC b8 ?_
 refine kE hC b8 [] Try.call52 h (fun _ => Xed) fun q10 h => ?_
 refine kI hT hC b8 ?_
 refine kP hC true b8 ?_
 exact Vc.nil kM
 iterate 3 refine kF hC b8 ?_
 refine kP hC false b8 ?_
 exact Vc.nil kM
 refine kS h ?_ ?_ <;> intro b9 h
 refine kt b9 (Xac ?_)
 refine kO hT hC ?_
 refine Vc.nil (Xah (Xid (Xau ?_)))
 obtain rfl := kj h
 refine Xqt (Xqs ?_)
 exact Xea (Xhs.refl _) rfl trivial
 refine kf b9 (Xae (Xam (Xad (Xab ?_))))
 iterate 2 refine kO hT hC ?_
 exact Vc.nil kG
 exact kf b7 (Xan (Xav kb))
 intro v8 e
 subst e
 refine Xad (Xac ?_)
 iterate 2 refine kO hT hC ?_
 refine kC hC [] Try.call53 h (fun _ => Xaj) fun q12 h => ?_
 refine kO hT hC ?_
 exact Vc.nil (Xah kR)
 intro r' σ' e hE
 subst e
 obtain rfl := kj h
 refine Xau ?_
 exact hE
def Xu5 (r : Int) : AV := .sv (.int .i64 r)
def Xu4 (r : Int) : Xa2 := []
theorem Xnt {p0 r} (h : Xfd p0 = some r) : AC Try.prog 101 [.sv (.ints .i64 p0)] [] (Xu5 r) (Xu4 r) := by
 refine Xaf hT Try.func101 rfl fun C hC => ?_
 unfold Xfd at h
 refine Xac ?_
 refine kO hT hC ?_
 refine kN ?_
 refine kO hT hC ?_
 refine Vc.nil (Xap (Xac ?_))
 iterate 3 refine kO hT hC ?_
 refine Vc.nil ?_
 refine kL [3,6,7,8] [] [_,_,_,_] [] ?_
 refine kX h (fun v2 => ([(3, .sv (.int .i64 v2.1)), (8, .sv (.int .i64 v2.2))], [])) (fun v4 => ([(3, .sv (.int .i64 v4)), (6, .any), (7, .any), (8, .any)], [])) (kW hC []) (fun v2 s h => ?_) fun v4 h => ?_
 unfold Xjt at h
 refine Xac ?_
 refine kO hT hC ?_
 refine Vc.nil (Xap ?_)
 refine kS h ?_ ?_ <;> intro b3 h
 refine kt b3 (Xae (Xad (Xap (Xal (Xac ?_)))))
 refine kQ hT hC h fun h => ?_
 iterate 2 refine kO hT hC ?_
 refine Vc.nil (Xab ?_)
 iterate 4 refine kO hT hC ?_
 refine Vc.nil (Xam (Xad (Xab ?_)))
 iterate 2 refine kO hT hC ?_
 exact Vc.nil kG
 exact kf b3 (Xan (Xav ku))
 refine Xad (Xac ?_)
 iterate 2 refine kO hT hC ?_
 exact Vc.nil (Xah kR)
def Xsy (r : (List Int)) : AV := .sv (.ints .i64 r)
def Xsx (r : (List Int)) : Xa2 := []
theorem Xls {p0 r} (h : Xgd p0 = some r) : AC Try.prog 102 [.sv (.ints .i64 p0)] [] (Xsy r) (Xsx r) := by
 refine Xaf hT Try.func102 rfl fun C hC => ?_
 unfold Xgd at h
 refine Xac ?_
 refine kO hT hC ?_
 refine Vc.nil (Xap (Xac ?_))
 iterate 3 refine kO hT hC ?_
 refine Vc.nil ?_
 refine kS h ?_ ?_ <;> intro b1 h
 refine kt b1 (Xac ?_)
 iterate 2 refine kO hT hC ?_
 refine Vc.nil (Xah (Xau ?_))
 obtain rfl := kj h
 exact Xea (τ := ⟨[(2, .sv (.ints .i64 ([128, 128, 128, 128, 128, 128, 128, 128])))], []⟩) (kW hC []) rfl trivial
 refine kf b1 (Xae (Xad (Xac ?_)))
 iterate 2 refine kO hT hC ?_
 exact Vc.nil (Xah kR)
def Xqa (r : (List Int)) : AV := .own 16
def Xp9 (r : (List Int)) : Xa2 := [(16, .ints .i64 r)]
theorem Xsi {p0 p1 r} (h : Xfb p0 p1 = some r) : AC Try.prog 58 [.sv (.int .i64 p0), .agg [.sv (.ints .i64 p1.Above), .sv (.ints .i64 p1.Left), .sv (.int .i64 p1.Corner)]] [] (Xqa r) (Xp9 r) := by
 refine Xaf hT Try.func58 rfl fun C hC => ?_
 unfold Xfb at h
 refine Xac ?_
 iterate 2 refine kO hT hC ?_
 refine kN ?_
 iterate 2 refine kO hT hC ?_
 refine Vc.nil (Xap ?_)
 refine kL [0,3,5] [48,208] [_,_,_] [_,_] ?_
 refine kA h (fun v1 => ([(21, .sv (.bool v1))], [])) (fun v1 h => ?_) fun v1 h => ?_
 refine Xab ?_
 refine kO hT hC ?_
 refine kC hC [] Try.call93 h (fun _ => Xsh) fun q2 h => ?_
 iterate 2 refine kO hT hC ?_
 refine kS h ?_ ?_ <;> intro b1 h
 refine kI hT hC (kn b1) ?_
 refine kE hC (kn b1) [] Try.call53 h (fun _ => Xaj) fun q3 h => ?_
 refine kI hT hC (kn b1) ?_
 refine kP hC false (kn b1) ?_
 exact Vc.nil kM
 iterate 3 refine kF hC (kn b1) ?_
 refine kP hC true (kn b1) ?_
 exact Vc.nil kM
 refine kS h ?_ ?_ <;> intro b2 h
 refine kt b2 (Xac ?_)
 iterate 2 refine kO hT hC ?_
 refine Vc.nil (Xah (Xau ?_))
 obtain rfl := kj h
 exact Xea (τ := ⟨[(4, .own 16)], [(16, some (.ints .i64 ([] : List Int)))]⟩) (kW hC [(16, 208)]) rfl ⟨rfl, trivial⟩
 refine kf b2 (Xae (Xad (Xac ?_)))
 refine kO hT hC ?_
 refine Vc.nil ?_
 refine kL [0,3,5,6] [48,208] [_,_,_,_] [_,_] ?_
 refine kA h (fun v4 => ([(6, .sv (.int .i64 v4))], [])) (fun v4 h => ?_) fun v4 h => ?_
 refine Xac ?_
 iterate 8 refine kO hT hC ?_
 refine kN ?_
 iterate 2 refine kO hT hC ?_
 refine Vc.nil ?_
 refine kS h ?_ ?_ <;> intro b3 h
 refine kt b3 ?_
 refine Xdt hm ?_
 iterate 2 refine kO hT hC ?_
 refine kC hC [] Try.call101 h (fun _ => Xnt) fun q5 h => ?_
 iterate 2 refine kO hT hC ?_
 refine kC hC [] Try.call101 h (fun _ => Xnt) fun q6 h => ?_
 iterate 2 refine kO hT hC ?_
 refine kQ hT hC h fun h => ?_
 iterate 2 refine kO hT hC ?_
 refine kQ hT hC h fun h => ?_
 refine kO hT hC ?_
 exact kD kM
 exact kf b3 (Xae kM)
 refine Xjd hm ?_
 iterate 2 refine kO hT hC ?_
 refine kC hC [] Try.call102 h (fun _ => Xls) fun q7 h => ?_
 iterate 2 refine kO hT hC ?_
 refine kC hC [] Try.call102 h (fun _ => Xls) fun q8 h => ?_
 iterate 5 refine kO hT hC ?_
 refine kD ?_
 refine kL [0,5,6,8,9,10] [208] [_,_,_,_,_,_] [_] ?_
 refine kA h (fun v9 => ([(10, .sv (.int .i64 v9))], [])) (fun v9 h => ?_) fun v9 h => ?_
 refine Xac ?_
 iterate 2 refine kO hT hC ?_
 refine Vc.nil ?_
 refine kS h ?_ ?_ <;> intro b4 h
 refine kt b4 (Xab ?_)
 refine kO hT hC ?_
 exact Vc.nil kM
 exact kf b4 (Xae kM)
 refine Xap (Xac ?_)
 refine kO hT hC ?_
 refine Vc.nil ?_
 refine kL [0,5,6,8,9,10,54] [208] [_,_,_,_,_,_,_] [_] ?_
 refine kX h (fun v22 => ([(54, .sv (.int .i64 v22.1))], [(208, some (.ints .i64 v22.2))])) (fun v35 => ([(0, .any), (6, .any), (8, .any), (9, .any), (10, .any), (54, .any)], [(208, some (.ints .i64 v35))])) (kW hC []) (fun v22 s h => ?_) fun v35 h => ?_
 unfold Xg9 at h
 refine Xac ?_
 refine kO hT hC ?_
 refine Vc.nil (Xap ?_)
 refine kS h ?_ ?_ <;> intro b31 h
 refine kt b31 (Xae (Xad (Xap (Xal (Xac ?_)))))
 iterate 2 refine kO hT hC ?_
 refine kN ?_
 refine kO hT hC ?_
 refine Vc.nil ?_
 refine kL [0,5,6,8,9,10,11,54,57] [208] [_,_,_,_,_,_,_,_,_] [_] ?_
 refine kX h (fun v39 => ([(57, .sv (.int .i64 v39.1))], [(208, some (.ints .i64 v39.2))])) (fun v43 => ([(11, .any), (57, .any)], [(208, some (.ints .i64 v43))])) (kW hC []) (fun v39 s h => ?_) fun v43 h => ?_
 unfold Xdi at h
 refine Xac ?_
 refine kO hT hC ?_
 refine Vc.nil (Xap ?_)
 refine kS h ?_ ?_ <;> intro b40 h
 refine kt b40 (Xae (Xad ?_))
 refine kL [0,5,6,8,9,10,11,54,57] [208] [_,_,_,_,_,_,_,_,_] [_] ?_
 refine kA h (fun v44 => ([(5, .own 1700)], [(1700, some (.ints .i64 v44)), (208, none)])) (fun v44 h => ?_) fun v44 h => ?_
 refine Xal (Xac ?_)
 iterate 2 refine kO hT hC ?_
 refine kN ?_
 refine kO hT hC ?_
 refine Vc.nil (Xal (Xac ?_))
 iterate 2 refine kO hT hC ?_
 refine Vc.nil ?_
 refine kS h ?_ ?_ <;> intro b41 h
 refine kt b41 (Xab ?_)
 iterate 3 refine kO hT hC ?_
 refine kT hT hC h fun h => ?_
 refine kO hT hC ?_
 refine Vc.nil ?_
 iterate 2 refine Xam ?_
 obtain rfl := kj h
 exact Xil (kW hC [(1700, 1296)])
 refine kf b41 (Xac ?_)
 iterate 2 refine kO hT hC ?_
 refine Vc.nil ?_
 refine kS h ?_ ?_ <;> intro b42 h
 refine kt b42 (Xab ?_)
 iterate 3 refine kO hT hC ?_
 refine kQ hT hC h fun h => ?_
 iterate 2 refine kO hT hC ?_
 refine kT hT hC h fun h => ?_
 refine kO hT hC ?_
 refine Vc.nil ?_
 iterate 2 refine Xam ?_
 obtain rfl := kj h
 exact Xil (kW hC [(1700, 1440)])
 refine kf b42 (Xac ?_)
 iterate 2 refine kO hT hC ?_
 refine Vc.nil ?_
 refine kS h ?_ ?_ <;> intro b43 h
 refine kt b43 (Xab ?_)
 iterate 3 refine kO hT hC ?_
 refine kQ hT hC h fun h => ?_
 iterate 2 refine kO hT hC ?_
 refine kT hT hC h fun h => ?_
 refine kO hT hC ?_
 refine Vc.nil ?_
 iterate 2 refine Xam ?_
 obtain rfl := kj h
 exact Xil (kW hC [(1700, 1584)])
 refine kf b43 ?_
 refine Xdt hm ?_
 iterate 3 refine kO hT hC ?_
 refine kQ hT hC h fun h => ?_
 iterate 3 refine kO hT hC ?_
 refine kQ hT hC h fun h => ?_
 iterate 4 refine kO hT hC ?_
 refine kC hC [] Try.call103 h (fun _ => Xfk) fun q45 h => ?_
 refine kO hT hC ?_
 refine kT hT hC h fun h => ?_
 refine kO hT hC ?_
 refine kD ?_
 iterate 2 refine Xam ?_
 obtain rfl := kj h
 exact Xil (kW hC [(1700, 1200)])
 refine Xab ?_
 iterate 2 refine kO hT hC ?_
 refine Vc.nil ?_
 obtain rfl := kj h
 exact Yce (kW hC [(208, 1700)])
 exact kf b40 (Xan (Xav ku))
 refine Xam (Xad (Xab ?_))
 iterate 2 refine kO hT hC ?_
 exact Vc.nil kG
 exact kf b31 (Xan (Xav ku))
 refine Xad (Xac ?_)
 iterate 2 refine kO hT hC ?_
 refine Vc.nil (Xah ?_)
 obtain rfl := kj h
 exact Xea (τ := ⟨[(4, .own 16)], [(16, some (.ints .i64 v35))]⟩) (kW hC [(16, 208)]) rfl ⟨rfl, trivial⟩
def Xns (r : (List Int)) : AV := .own 16
def Xnr (r : (List Int)) : Xa2 := [(16, .ints .i64 r)]
theorem Xo1 {p0 r} (h : Xer p0 = some r) : AC Try.prog 136 [.sv (.int .i64 p0)] [] (Xns r) (Xnr r) := by
 refine Xaf hT Try.func136 rfl fun C hC => ?_
 unfold Xer at h
 refine Xac ?_
 refine kO hT hC ?_
 refine kN ?_
 iterate 2 refine kO hT hC ?_
 refine Vc.nil (Xap (Xac ?_))
 refine kO hT hC ?_
 refine Vc.nil ?_
 refine kL [0,3,4] [128] [_,_,_] [_] ?_
 refine kX h (fun v16 => ([(4, .sv (.int .i64 v16.1))], [(128, some (.ints .i64 v16.2))])) (fun v32 => ([(0, .any), (4, .any)], [(128, some (.ints .i64 v32))])) (kW hC []) (fun v16 s h => ?_) fun v32 h => ?_
 unfold Xds at h
 refine Xap (Xac ?_)
 iterate 5 refine kO hT hC ?_
 refine Vc.nil ?_
 refine kS h ?_ ?_ <;> intro b27 h
 refine kt b27 (Xae (Xad (Xap (Xal (Xac ?_)))))
 refine kO hT hC ?_
 refine Vc.nil ?_
 refine kL [0,3,4,5] [128] [_,_,_,_] [_] ?_
 refine kX h (fun v37 => ([(5, .sv (.int .i64 v37.1))], [(128, some (.ints .i64 v37.2))])) (fun v42 => ([(5, .any)], [(128, some (.ints .i64 v42))])) (kW hC []) (fun v37 s h => ?_) fun v42 h => ?_
 unfold Xfu at h
 refine Xap (Xac ?_)
 iterate 3 refine kO hT hC ?_
 refine Vc.nil ?_
 refine kS h ?_ ?_ <;> intro b36 h
 refine kt b36 (Xae (Xad ?_))
 refine kL [0,3,4,5] [128] [_,_,_,_] [_] ?_
 refine kA h (fun v43 => ([], [(128, some (.ints .i64 v43))])) (fun v43 h => ?_) fun v43 h => ?_
 refine Xal (Xac ?_)
 iterate 2 refine kO hT hC ?_
 refine Vc.nil ?_
 refine kL [0,3,4,5,6] [128] [_,_,_,_,_] [_] ?_
 refine kA h (fun v44 => ([(6, .sv (.int .i64 v44))], [])) (fun v44 h => ?_) fun v44 h => ?_
 refine Xac ?_
 refine kO hT hC ?_
 refine kQ hT hC h fun h => ?_
 refine kO hT hC ?_
 refine Vc.nil ?_
 refine kS h ?_ ?_ <;> intro b37 h
 refine kt b37 (Xab ?_)
 iterate 4 refine kO hT hC ?_
 exact Vc.nil kM
 exact kf b37 (Xae kM)
 refine Xac ?_
 iterate 4 refine kO hT hC ?_
 refine Vc.nil ?_
 refine kL [0,3,4,5,6,7] [128] [_,_,_,_,_,_] [_] ?_
 refine kA h (fun v45 => ([(38, .sv (.bool v45))], [])) (fun v45 h => ?_) fun v45 h => ?_
 refine Xab ?_
 iterate 4 refine kO hT hC ?_
 refine kS h ?_ ?_ <;> intro b38 h
 iterate 3 refine kI hT hC b38 ?_
 refine kP hC true b38 ?_
 exact Vc.nil kM
 iterate 3 refine kF hC b38 ?_
 refine kP hC false b38 ?_
 exact Vc.nil kM
 refine kS h ?_ ?_ <;> intro b39 h
 refine kt b39 (Xab ?_)
 iterate 7 refine kO hT hC ?_
 refine kT hT hC h fun h => ?_
 refine kO hT hC ?_
 refine Vc.nil (Xam ?_)
 obtain rfl := kj h
 exact Xil (kW hC [(128, 736)])
 exact kf b39 (Xae (Xam kM))
 refine Xab ?_
 iterate 3 refine kO hT hC ?_
 exact Vc.nil kG
 exact kf b36 (Xan (Xav ku))
 refine Xam (Xad (Xab ?_))
 iterate 3 refine kO hT hC ?_
 exact Vc.nil kG
 exact kf b27 (Xan (Xav ku))
 refine Xad (Xac ?_)
 iterate 2 refine kO hT hC ?_
 refine Vc.nil (Xah ?_)
 obtain rfl := kj h
 exact Xea (τ := ⟨[(2, .own 16)], [(16, some (.ints .i64 v32))]⟩) (kW hC [(16, 128)]) rfl ⟨rfl, trivial⟩
def Xsp (r : Int) : AV := .sv (.int .i64 r)
def Xso (r : Int) : Xa2 := []
theorem Xln {p0 p1 r} (h : Xf8 p0 p1 = some r) : AC Try.prog 166 [.sv (.int .i64 p0), .sv (.int .i64 p1)] [] (Xsp r) (Xso r) := by
 refine Xaf hT Try.func166 rfl fun C hC => ?_
 unfold Xf8 at h
 refine Xac ?_
 refine kO hT hC ?_
 refine Vc.nil (Xap ?_)
 refine kL [0,1] [] [_,_] [] ?_
 refine kA h (fun v1 => ([(13, .sv (.bool v1))], [])) (fun v1 h => ?_) fun v1 h => ?_
 refine Xab ?_
 refine kO hT hC ?_
 refine kC hC [] Try.call53 h (fun _ => Xaj) fun q2 h => ?_
 iterate 2 refine kO hT hC ?_
 refine kS h ?_ ?_ <;> intro b1 h
 refine kI hT hC (kn b1) ?_
 refine kE hC (kn b1) [] Try.call53 h (fun _ => Xaj) fun q3 h => ?_
 refine kI hT hC (kn b1) ?_
 refine kP hC false (kn b1) ?_
 exact Vc.nil kM
 iterate 3 refine kF hC (kn b1) ?_
 refine kP hC true (kn b1) ?_
 exact Vc.nil kM
 refine kS h ?_ ?_ <;> intro b2 h
 refine kt b2 (Xac ?_)
 refine kO hT hC ?_
 exact Vc.nil (Xah (Xau kR))
 refine kf b2 (Xae (Xad (Xac ?_)))
 iterate 4 refine kO hT hC ?_
 refine Vc.nil (Xap (Xac ?_))
 iterate 3 refine kO hT hC ?_
 refine kQ hT hC h fun h => ?_
 iterate 3 refine kO hT hC ?_
 refine kQ hT hC h fun h => ?_
 iterate 2 refine kO hT hC ?_
 refine kQ hT hC h fun h => ?_
 refine kO hT hC ?_
 refine Vc.nil ?_
 refine kS h ?_ ?_ <;> intro b3 h
 refine kt b3 (Xac ?_)
 refine kO hT hC ?_
 exact Vc.nil (Xah (Xau kR))
 refine kf b3 (Xae (Xad (Xac ?_)))
 refine kO hT hC ?_
 exact Vc.nil (Xah kR)
def Xxe (r : (List Int)) : AV := .own 16
def Xxd (r : (List Int)) : Xa2 := [(16, .ints .i64 r)]
theorem Xzb {p0 r} (h : Xks p0 = some r) : AC Try.prog 137 [.sv (.ints .i64 p0)] [] (Xxe r) (Xxd r) := by
 refine Xaf hT Try.func137 rfl fun C hC => ?_
 unfold Xks at h
 refine Xac ?_
 refine kO hT hC ?_
 refine kN ?_
 obtain ⟨hq, h⟩ := Xaw h
 refine Xz6 hT hC rfl rfl rfl rfl ⟨hq.1, hq.2.1, hq.2.2, by decide⟩ ?_
 refine kO hT hC ?_
 refine Vc.nil (Xap (Xac ?_))
 refine kO hT hC ?_
 refine Vc.nil ?_
 refine kL [0,3,12] [176] [_,_,_] [_] ?_
 refine kX h (fun v31 => ([(12, .sv (.int .i64 v31.1))], [(176, some (.ints .i64 v31.2))])) (fun v62 => ([(0, .any), (12, .any)], [(176, some (.ints .i64 v62))])) (kW hC []) (fun v31 s h => ?_) fun v62 h => ?_
 unfold Xju at h
 refine Xac ?_
 refine kO hT hC ?_
 refine Vc.nil (Xap ?_)
 refine kS h ?_ ?_ <;> intro b27 h
 refine kt b27 (Xae (Xad (Xap (Xal (Xac ?_)))))
 iterate 2 refine kO hT hC ?_
 refine kN ?_
 refine kO hT hC ?_
 refine Vc.nil ?_
 refine kL [0,3,4,12,15] [176] [_,_,_,_,_] [_] ?_
 refine kX h (fun v72 => ([(15, .sv (.int .i64 v72.1))], [(176, some (.ints .i64 v72.2))])) (fun v82 => ([(4, .any), (15, .any)], [(176, some (.ints .i64 v82))])) (kW hC []) (fun v72 s h => ?_) fun v82 h => ?_
 unfold Xjv at h
 refine Xac ?_
 refine kO hT hC ?_
 refine Vc.nil (Xap ?_)
 refine kS h ?_ ?_ <;> intro b36 h
 refine kt b36 (Xae (Xad (Xap (Xal (Xac ?_)))))
 iterate 2 refine kO hT hC ?_
 refine kN ?_
 refine kO hT hC ?_
 refine Vc.nil ?_
 refine kL [0,3,4,5,12,15,18] [176] [_,_,_,_,_,_,_] [_] ?_
 refine kX h (fun v85 => ([(18, .sv (.int .i64 v85.1))], [(176, some (.ints .i64 v85.2))])) (fun v88 => ([(5, .any), (18, .any)], [(176, some (.ints .i64 v88))])) (kW hC []) (fun v85 s h => ?_) fun v88 h => ?_
 unfold Xfv at h
 refine Xac ?_
 refine kO hT hC ?_
 refine Vc.nil (Xap ?_)
 refine kS h ?_ ?_ <;> intro b39 h
 refine kt b39 (Xae (Xad (Xap (Xal (Xac ?_)))))
 iterate 2 refine kO hT hC ?_
 refine Vc.nil ?_
 refine Xdt hm ?_
 iterate 10 refine kO hT hC ?_
 iterate 2 refine kQ hT hC h fun h => ?_
 iterate 2 refine kO hT hC ?_
 refine kC hC [] Try.call166 h (fun _ => Xln) fun q89 h => ?_
 iterate 5 refine kO hT hC ?_
 refine kQ hT hC h fun h => ?_
 iterate 3 refine kO hT hC ?_
 iterate 2 refine kQ hT hC h fun h => ?_
 refine kD (Xam (Xad (Xab ?_)))
 iterate 2 refine kO hT hC ?_
 exact Vc.nil kG
 exact kf b39 (Xan (Xav ku))
 refine Xam (Xad (Xab ?_))
 iterate 2 refine kO hT hC ?_
 exact Vc.nil kG
 exact kf b36 (Xan (Xav ku))
 refine Xam (Xad (Xab ?_))
 iterate 2 refine kO hT hC ?_
 exact Vc.nil kG
 exact kf b27 (Xan (Xav ku))
 refine Xad (Xac ?_)
 obtain ⟨hq, h⟩ := Xaw h
 refine Xz6 hT hC rfl rfl rfl rfl ⟨hq.1, hq.2.1, hq.2.2, by decide⟩ ?_
 refine kO hT hC ?_
 refine Vc.nil (Xap (Xac ?_))
 refine kO hT hC ?_
 refine Vc.nil ?_
 refine kL [3,7,50] [176,784] [_,_,_] [_,_] ?_
 refine kX h (fun v123 => ([(50, .sv (.int .i64 v123.1))], [(784, some (.ints .i64 v123.2))])) (fun v154 => ([(3, .any), (50, .any)], [(784, some (.ints .i64 v154)), (176, none)])) (kW hC []) (fun v123 s h => ?_) fun v154 h => ?_
 unfold Xiu at h
 refine Xac ?_
 refine kO hT hC ?_
 refine Vc.nil (Xap ?_)
 refine kS h ?_ ?_ <;> intro b66 h
 refine kt b66 (Xae (Xad (Xap (Xal (Xac ?_)))))
 iterate 2 refine kO hT hC ?_
 refine kN ?_
 refine kO hT hC ?_
 refine Vc.nil ?_
 refine kL [3,7,8,50,53] [176,784] [_,_,_,_,_] [_,_] ?_
 refine kX h (fun v164 => ([(53, .sv (.int .i64 v164.1))], [(784, some (.ints .i64 v164.2))])) (fun v174 => ([(8, .any), (53, .any)], [(784, some (.ints .i64 v174))])) (kW hC []) (fun v164 s h => ?_) fun v174 h => ?_
 unfold Xiv at h
 refine Xac ?_
 refine kO hT hC ?_
 refine Vc.nil (Xap ?_)
 refine kS h ?_ ?_ <;> intro b75 h
 refine kt b75 (Xae (Xad (Xap (Xal (Xac ?_)))))
 iterate 2 refine kO hT hC ?_
 refine kN ?_
 refine kO hT hC ?_
 refine Vc.nil ?_
 refine kL [3,7,8,9,50,53,56] [176,784] [_,_,_,_,_,_,_] [_,_] ?_
 refine kX h (fun v177 => ([(56, .sv (.int .i64 v177.1))], [(784, some (.ints .i64 v177.2))])) (fun v180 => ([(9, .any), (56, .any)], [(784, some (.ints .i64 v180))])) (kW hC []) (fun v177 s h => ?_) fun v180 h => ?_
 unfold Xes at h
 refine Xac ?_
 refine kO hT hC ?_
 refine Vc.nil (Xap ?_)
 refine kS h ?_ ?_ <;> intro b78 h
 refine kt b78 (Xae (Xad (Xap (Xal (Xac ?_)))))
 iterate 2 refine kO hT hC ?_
 refine Vc.nil ?_
 refine Xdt hm ?_
 iterate 10 refine kO hT hC ?_
 iterate 2 refine kQ hT hC h fun h => ?_
 iterate 2 refine kO hT hC ?_
 refine kC hC [] Try.call166 h (fun _ => Xln) fun q181 h => ?_
 iterate 5 refine kO hT hC ?_
 iterate 2 refine kQ hT hC h fun h => ?_
 iterate 2 refine kO hT hC ?_
 iterate 2 refine kQ hT hC h fun h => ?_
 refine kD (Xam (Xad (Xab ?_)))
 iterate 2 refine kO hT hC ?_
 exact Vc.nil kG
 exact kf b78 (Xan (Xav ku))
 refine Xam (Xad (Xab ?_))
 iterate 2 refine kO hT hC ?_
 exact Vc.nil kG
 exact kf b75 (Xan (Xav ku))
 refine Xam (Xad (Xab ?_))
 iterate 2 refine kO hT hC ?_
 exact Vc.nil kG
 exact kf b66 (Xan (Xav ku))
 refine Xad (Xac ?_)
 iterate 2 refine kO hT hC ?_
 refine Vc.nil (Xah ?_)
 obtain rfl := kj h
 exact Xea (τ := ⟨[(2, .own 16)], [(16, some (.ints .i64 v154))]⟩) (kW hC [(16, 784)]) rfl ⟨rfl, trivial⟩
def Xsr (r : Int) : AV := .sv (.int .i64 r)
def Xsq (r : Int) : Xa2 := []
theorem Xu0 {p0 r} (h : Xf9 p0 = some r) : AC Try.prog 31 [.sv (.int .i64 p0)] [] (Xsr r) (Xsq r) := by
 refine Xaf hT Try.func31 rfl fun C hC => ?_
 unfold Xf9 at h
 refine Xac ?_
 refine kO hT hC ?_
 refine Vc.nil (Xap (Xac ?_))
 refine kO hT hC ?_
 refine kC hC [] Try.call53 h (fun _ => Xaj) fun q1 h => ?_
 refine kO hT hC ?_
 refine Vc.nil ?_
 refine kS h ?_ ?_ <;> intro b1 h
 refine kt b1 (Xac ?_)
 refine kO hT hC ?_
 exact Vc.nil (Xah (Xau kR))
 refine kf b1 (Xae (Xad (Xac ?_)))
 iterate 2 refine kO hT hC ?_
 iterate 3 refine kQ hT hC h fun h => ?_
 refine kO hT hC ?_
 iterate 2 refine kQ hT hC h fun h => ?_
 refine kO hT hC ?_
 exact Vc.nil (Xah kR)
def Xqk (r : (List Int)) : AV := .own 16
def Xqj (r : (List Int)) : Xa2 := [(16, .ints .i64 r)]
theorem Xsz {p0 r} (h : Xgz p0 = some r) : AC Try.prog 98 [.sv (.int .i64 p0)] [] (Xqk r) (Xqj r) := by
 refine Xaf hT Try.func98 rfl fun C hC => ?_
 unfold Xgz at h
 refine Xac ?_
 refine kO hT hC ?_
 refine kN ?_
 iterate 2 refine kO hT hC ?_
 refine Vc.nil (Xap (Xac ?_))
 refine kO hT hC ?_
 refine Vc.nil ?_
 refine kL [0,3,7] [96] [_,_,_] [_] ?_
 refine kX h (fun v7 => ([(7, .sv (.int .i64 v7.1))], [(96, some (.ints .i64 v7.2))])) (fun v14 => ([(0, .any), (7, .any)], [(96, some (.ints .i64 v14))])) (kW hC []) (fun v7 s h => ?_) fun v14 h => ?_
 unfold Xe2 at h
 refine Xac ?_
 refine kO hT hC ?_
 refine Vc.nil (Xap ?_)
 refine kS h ?_ ?_ <;> intro b9 h
 refine kt b9 (Xae (Xad (Xap (Xal (Xac ?_)))))
 iterate 2 refine kO hT hC ?_
 refine kN ?_
 refine kO hT hC ?_
 refine Vc.nil ?_
 refine kL [0,3,4,7,10] [96] [_,_,_,_,_] [_] ?_
 refine kX h (fun v16 => ([(10, .sv (.int .i64 v16.1))], [(96, some (.ints .i64 v16.2))])) (fun v18 => ([(4, .any), (10, .any)], [(96, some (.ints .i64 v18))])) (kW hC []) (fun v16 s h => ?_) fun v18 h => ?_
 unfold Xha at h
 refine Xac ?_
 refine kO hT hC ?_
 refine Vc.nil (Xap ?_)
 refine kS h ?_ ?_ <;> intro b12 h
 refine kt b12 (Xae (Xad (Xap (Xal (Xac ?_)))))
 iterate 2 refine kO hT hC ?_
 refine Vc.nil (Xab ?_)
 iterate 3 refine kO hT hC ?_
 refine kQ hT hC h fun h => ?_
 iterate 6 refine kO hT hC ?_
 refine kQ hT hC h fun h => ?_
 iterate 3 refine kO hT hC ?_
 refine kT hT hC h fun h => ?_
 refine kO hT hC ?_
 refine Vc.nil (Xam (Xad (Xab ?_)))
 iterate 2 refine kO hT hC ?_
 refine Vc.nil ?_
 obtain rfl := kj h
 exact Yce (kW hC [(96, 432)])
 exact kf b12 (Xan (Xav ku))
 refine Xam (Xad (Xab ?_))
 iterate 2 refine kO hT hC ?_
 exact Vc.nil kG
 exact kf b9 (Xan (Xav ku))
 refine Xad (Xac ?_)
 iterate 2 refine kO hT hC ?_
 refine Vc.nil (Xah ?_)
 obtain rfl := kj h
 exact Xea (τ := ⟨[(2, .own 16)], [(16, some (.ints .i64 v14))]⟩) (kW hC [(16, 96)]) rfl ⟨rfl, trivial⟩
def Xo0 (r : (List Int)) : AV := .own 16
def Xoz (r : (List Int)) : Xa2 := [(16, .ints .i64 r)]
theorem Xqh {p0 r} (h : Xft p0 = some r) : AC Try.prog 167 [.sv (.ints .i64 p0)] [] (Xo0 r) (Xoz r) := by
 refine Xaf hT Try.func167 rfl fun C hC => ?_
 unfold Xft at h
 refine Xac ?_
 refine kO hT hC ?_
 refine kN ?_
 iterate 2 refine kO hT hC ?_
 refine kT hT hC h fun h => ?_
 refine kO hT hC ?_
 refine Vc.nil (Xah ?_)
 obtain rfl := kj h
 exact Xea (τ := ⟨[(2, .own 16)], [(16, some (.ints .i64 (([] : List Int) ++ p0)))]⟩) (kW hC [(16, 80)]) rfl ⟨rfl, trivial⟩
def Xsm (r : Int) : AV := .sv (.int .i64 r)
def Xsl (r : Int) : Xa2 := []
theorem Xux {p0 r} (h : Xmg p0 = some r) : AC Try.prog 168 [.sv (.int .i64 p0)] [] (Xsm r) (Xsl r) := by
 refine Xaf hT Try.func168 rfl fun C hC => ?_
 unfold Xmg at h
 refine Xac ?_
 refine kO hT hC ?_
 refine Vc.nil (Xap (Xac ?_))
 refine kO hT hC ?_
 refine kC hC [] Try.call53 h (fun _ => Xaj) fun q1 h => ?_
 refine kO hT hC ?_
 refine Vc.nil ?_
 refine kS h ?_ ?_ <;> intro b1 h
 refine kt b1 (Xac ?_)
 refine kO hT hC ?_
 exact Vc.nil (Xah (Xau kR))
 refine kf b1 (Xae (Xad (Xac ?_)))
 refine kO hT hC ?_
 iterate 2 refine kQ hT hC h fun h => ?_
 refine kO hT hC ?_
 iterate 2 refine kQ hT hC h fun h => ?_
 iterate 2 refine kO hT hC ?_
 refine Vc.nil (Xap (Xal ?_))
 refine kL [3,4] [] [_,_] [] ?_
 refine kA h (fun v2 => ([(14, .sv (.bool v2))], [])) (fun v2 h => ?_) fun v2 h => ?_
 refine Xab ?_
 iterate 3 refine kO hT hC ?_
 refine kS h ?_ ?_ <;> intro b2 h
 iterate 2 refine kI hT hC b2 ?_
 refine kP hC true b2 ?_
 refine kO hT hC ?_
 exact Vc.nil kM
 iterate 2 refine kF hC b2 ?_
 refine kP hC false b2 ?_
 refine kO hT hC ?_
 exact Vc.nil kM
 refine kS h ?_ ?_ <;> intro b3 h
 refine kt b3 (Xac ?_)
 refine kO hT hC ?_
 exact Vc.nil (Xah (Xid (Xau kR)))
 refine kf b3 ?_
 refine kL [3,4] [] [_,_] [] ?_
 refine kA h (fun v3 => ([(21, .sv (.bool v3)), (3, .any), (4, .any)], [])) (fun v3 h => ?_) fun v3 h => ?_
 refine Xab ?_
 iterate 3 refine kO hT hC ?_
 refine kS h ?_ ?_ <;> intro b4 h
 iterate 2 refine kI hT hC b4 ?_
 refine kP hC true b4 ?_
 refine kO hT hC ?_
 exact Vc.nil kM
 iterate 2 refine kF hC b4 ?_
 refine kP hC false b4 ?_
 refine kO hT hC ?_
 exact Vc.nil kM
 refine kS h ?_ ?_ <;> intro b5 h
 refine kt b5 (Xac ?_)
 refine kO hT hC ?_
 exact Vc.nil (Xah (Xid (Xau kR)))
 refine kf b5 (Xae (Xam (Xad (Xac ?_))))
 refine kO hT hC ?_
 exact Vc.nil (Xah kR)
def Xnd (r : (List Int)) : AV := .own 16
def Xnc (r : (List Int)) : Xa2 := [(16, .ints .i64 r)]
theorem Xi2 {p0 p1 p2 r} (h : Xdn p0 p1 p2 = some r) : AC Try.prog 60 [.agg [.sv (.int .i64 p0.Wide), .sv (.int .i64 p0.High), .sv (.str p0.Dots)], .sv (.int .i64 p1), .sv (.int .i64 p2)] [] (Xnd r) (Xnc r) := by
 refine Xaf hT Try.func60 rfl fun C hC => ?_
 unfold Xdn at h
 refine Xac ?_
 iterate 2 refine kO hT hC ?_
 refine kN ?_
 obtain ⟨hq, h⟩ := Xaw h
 refine Xz6 hT hC rfl rfl rfl rfl ⟨hq.1, hq.2.1, hq.2.2, by decide⟩ ?_
 refine kO hT hC ?_
 refine Vc.nil (Xap (Xac ?_))
 refine kO hT hC ?_
 refine Vc.nil ?_
 refine kL [1,2,3,7,11] [48,160] [_,_,_,_,_] [_,_] ?_
 refine kX h (fun v10 => ([(11, .sv (.int .i64 v10.1))], [(160, some (.ints .i64 v10.2))])) (fun v20 => ([(1, .any), (2, .any), (3, .any), (11, .any)], [(160, some (.ints .i64 v20)), (48, none)])) (kW hC []) (fun v10 s h => ?_) fun v20 h => ?_
 unfold Xch at h
 refine Xac ?_
 refine kO hT hC ?_
 refine Vc.nil (Xap ?_)
 refine kS h ?_ ?_ <;> intro b9 h
 refine kt b9 (Xae (Xad (Xap (Xal (Xac ?_)))))
 iterate 2 refine kO hT hC ?_
 refine kN ?_
 refine kO hT hC ?_
 refine Vc.nil ?_
 refine kL [1,2,3,7,8,11,14] [48,160] [_,_,_,_,_,_,_] [_,_] ?_
 refine kX h (fun v23 => ([(14, .sv (.int .i64 v23.1))], [(160, some (.ints .i64 v23.2))])) (fun v26 => ([(8, .any), (14, .any)], [(160, some (.ints .i64 v26))])) (kW hC []) (fun v23 s h => ?_) fun v26 h => ?_
 unfold Xci at h
 refine Xac ?_
 refine kO hT hC ?_
 refine Vc.nil (Xap ?_)
 refine kS h ?_ ?_ <;> intro b12 h
 refine kt b12 (Xae (Xad (Xap (Xal (Xac ?_)))))
 iterate 2 refine kO hT hC ?_
 refine Vc.nil (Xab ?_)
 iterate 8 refine kO hT hC ?_
 refine kC hC [] Try.call92 h (fun _ => Xfp) fun q27 h => ?_
 refine kO hT hC ?_
 refine kT hT hC h fun h => ?_
 refine kO hT hC ?_
 refine Vc.nil (Xam (Xad (Xab ?_)))
 iterate 2 refine kO hT hC ?_
 refine Vc.nil ?_
 obtain rfl := kj h
 exact Yce (kW hC [(160, 432)])
 exact kf b12 (Xan (Xav ku))
 refine Xam (Xad (Xab ?_))
 iterate 2 refine kO hT hC ?_
 exact Vc.nil kG
 exact kf b9 (Xan (Xav ku))
 refine Xad (Xac ?_)
 iterate 2 refine kO hT hC ?_
 refine Vc.nil (Xah ?_)
 obtain rfl := kj h
 exact Xea (τ := ⟨[(6, .own 16)], [(16, some (.ints .i64 v20))]⟩) (kW hC [(16, 160)]) rfl ⟨rfl, trivial⟩
def Xnf (r : Bool) : AV := .sv (.bool r)
def Xne (r : Bool) : Xa2 := []
theorem Xi3 {p0 p1 r} (h : Xcm p0 p1 = some r) : AC Try.prog 75 [.agg [.sv (.int .i64 p0.Wide), .sv (.int .i64 p0.High), .sv (.str p0.Dots)], .agg [.sv (.int .i64 p1.Left), .sv (.int .i64 p1.Top), .sv (.int .i64 p1.Wide), .sv (.int .i64 p1.High)]] [] (Xnf r) (Xne r) := by
 refine Xaf hT Try.func75 rfl fun C hC => ?_
 unfold Xcm at h
 refine Xac ?_
 iterate 3 refine kO hT hC ?_
 refine Vc.nil ?_
 refine kL [2,3,4] [32,48] [_,_,_] [_,_] ?_
 refine kA h (fun v1 => ([(4, .sv (.bool v1)), (2, .any), (3, .any)], [(32, none), (48, none)])) (fun v1 h => ?_) fun v1 h => ?_
 refine Xab ?_
 iterate 4 refine kO hT hC ?_
 refine kC hC [] Try.call53 h (fun _ => Xaj) fun q2 h => ?_
 refine kO hT hC ?_
 refine kS h ?_ ?_ <;> intro b1 h
 iterate 4 refine kI hT hC b1 ?_
 refine kE hC b1 [] Try.call53 h (fun _ => Xaj) fun q3 h => ?_
 refine kP hC true b1 ?_
 refine kO hT hC ?_
 refine kS h ?_ ?_ <;> intro b2 h
 iterate 7 refine kI hT hC b2 ?_
 refine kE hC b2 [] Try.call53 h (fun _ => Xaj) fun q4 h => ?_
 refine kP hC true b2 ?_
 refine kO hT hC ?_
 refine kS h ?_ ?_ <;> intro b3 h
 iterate 7 refine kI hT hC b3 ?_
 refine kE hC b3 [] Try.call53 h (fun _ => Xaj) fun q5 h => ?_
 refine kP hC true b3 ?_
 refine kO hT hC ?_
 exact Vc.nil kM
 iterate 8 refine kF hC b3 ?_
 refine kP hC false b3 ?_
 refine kO hT hC ?_
 exact Vc.nil kM
 iterate 8 refine kF hC b2 ?_
 refine kP hC false b2 ?_
 refine kO hT hC ?_
 iterate 8 refine kF hC rfl ?_
 iterate 2 refine kO hT hC ?_
 exact Vc.nil kM
 iterate 5 refine kF hC b1 ?_
 refine kP hC false b1 ?_
 refine kO hT hC ?_
 iterate 8 refine kF hC rfl ?_
 iterate 2 refine kO hT hC ?_
 iterate 8 refine kF hC rfl ?_
 iterate 2 refine kO hT hC ?_
 exact Vc.nil kM
 exact Xah kR
def Xnn (r : Bool) : AV := .sv (.bool r)
def Xnm (r : Bool) : Xa2 := []
theorem Xgb {p0 r} (h : Xco p0 = some r) : AC Try.prog 65 [.sv (.ints .i64 p0)] [] (Xnn r) (Xnm r) := by
 refine Xaf hT Try.func65 rfl fun C hC => ?_
 unfold Xco at h
 refine Xac ?_
 refine kO hT hC ?_
 refine kN ?_
 refine kO hT hC ?_
 refine kC hC [] Try.call52 h (fun _ => Xed) fun q1 h => ?_
 refine kO hT hC ?_
 exact Vc.nil (Xah kR)
def Xoy (r : Bool) : AV := .sv (.bool r)
def Xox (r : Bool) : Xa2 := []
theorem Xqf {p0 r} (h : Xfq p0 = some r) : AC Try.prog 15 [.agg [.sv (.int .i64 p0.Kind), .sv (.int .i64 p0.Mode), .sv (.int .i64 p0.Dx), .sv (.int .i64 p0.Dy), .sv (.ints .i64 p0.Levels)]] [] (Xoy r) (Xox r) := by
 refine Xaf hT Try.func15 rfl fun C hC => ?_
 unfold Xfq at h
 refine Xac ?_
 iterate 2 refine kO hT hC ?_
 refine Vc.nil (Xap (Xac ?_))
 iterate 2 refine kO hT hC ?_
 refine Vc.nil (Xal (Xac ?_))
 iterate 2 refine kO hT hC ?_
 refine Vc.nil ?_
 refine kS h ?_ ?_ <;> intro b1 h
 refine kt b1 ?_
 refine kL [1,2] [16] [_,_] [_] ?_
 refine kA h (fun v1 => ([(2, .sv (.bool v1)), (1, .any)], [(16, none)])) (fun v1 h => ?_) fun v1 h => ?_
 refine Xab ?_
 iterate 4 refine kO hT hC ?_
 refine kS h ?_ ?_ <;> intro b2 h
 iterate 3 refine kI hT hC b2 ?_
 refine kP hC true b2 ?_
 refine kO hT hC ?_
 refine kS h ?_ ?_ <;> intro b3 h
 iterate 3 refine kI hT hC b3 ?_
 refine kP hC true b3 ?_
 refine kO hT hC ?_
 refine kS h ?_ ?_ <;> intro b4 h
 iterate 4 refine kI hT hC b4 ?_
 refine kP hC true b4 ?_
 refine kO hT hC ?_
 exact Vc.nil kM
 iterate 4 refine kF hC b4 ?_
 refine kP hC false b4 ?_
 refine kO hT hC ?_
 exact Vc.nil kM
 iterate 3 refine kF hC b3 ?_
 refine kP hC false b3 ?_
 refine kO hT hC ?_
 iterate 4 refine kF hC rfl ?_
 iterate 2 refine kO hT hC ?_
 exact Vc.nil kM
 iterate 3 refine kF hC b2 ?_
 refine kP hC false b2 ?_
 refine kO hT hC ?_
 iterate 3 refine kF hC rfl ?_
 iterate 2 refine kO hT hC ?_
 iterate 4 refine kF hC rfl ?_
 iterate 2 refine kO hT hC ?_
 exact Vc.nil kM
 exact Xah (Xid (Xau kR))
 refine kf b1 (Xac ?_)
 iterate 2 refine kO hT hC ?_
 refine Vc.nil ?_
 refine kS h ?_ ?_ <;> intro b5 h
 refine kt b5 ?_
 refine kL [1,2] [16] [_,_] [_] ?_
 refine kA h (fun v2 => ([(2, .sv (.bool v2)), (1, .any)], [(16, none)])) (fun v2 h => ?_) fun v2 h => ?_
 refine Xab ?_
 iterate 4 refine kO hT hC ?_
 refine kS h ?_ ?_ <;> intro b6 h
 iterate 2 refine kI hT hC b6 ?_
 refine kE hC b6 [] Try.call53 h (fun _ => Xaj) fun q3 h => ?_
 refine kP hC true b6 ?_
 refine kO hT hC ?_
 refine kS h ?_ ?_ <;> intro b7 h
 iterate 2 refine kI hT hC b7 ?_
 refine kE hC b7 [] Try.call53 h (fun _ => Xaj) fun q4 h => ?_
 refine kP hC true b7 ?_
 refine kO hT hC ?_
 refine kS h ?_ ?_ <;> intro b8 h
 iterate 2 refine kI hT hC b8 ?_
 refine kE hC b8 [] Try.call65 h (fun _ => Xgb) fun q5 h => ?_
 refine kP hC true b8 ?_
 refine kO hT hC ?_
 exact Vc.nil kM
 iterate 3 refine kF hC b8 ?_
 refine kP hC false b8 ?_
 refine kO hT hC ?_
 exact Vc.nil kM
 iterate 3 refine kF hC b7 ?_
 refine kP hC false b7 ?_
 refine kO hT hC ?_
 iterate 3 refine kF hC rfl ?_
 iterate 2 refine kO hT hC ?_
 exact Vc.nil kM
 iterate 3 refine kF hC b6 ?_
 refine kP hC false b6 ?_
 refine kO hT hC ?_
 iterate 3 refine kF hC rfl ?_
 iterate 2 refine kO hT hC ?_
 iterate 3 refine kF hC rfl ?_
 iterate 2 refine kO hT hC ?_
 exact Vc.nil kM
 exact Xah (Xid (Xau kR))
 refine kf b5 (Xac ?_)
 iterate 2 refine kO hT hC ?_
 refine Vc.nil ?_
 refine kS h ?_ ?_ <;> intro b9 h
 refine kt b9 ?_
 refine kL [1,2] [16] [_,_] [_] ?_
 refine kA h (fun v6 => ([(2, .sv (.bool v6)), (1, .any)], [(16, none)])) (fun v6 h => ?_) fun v6 h => ?_
 refine Xab ?_
 iterate 2 refine kO hT hC ?_
 refine kC hC [] Try.call53 h (fun _ => Xaj) fun q7 h => ?_
 refine kO hT hC ?_
 refine kS h ?_ ?_ <;> intro b10 h
 iterate 3 refine kI hT hC b10 ?_
 refine kP hC true b10 ?_
 refine kO hT hC ?_
 refine kS h ?_ ?_ <;> intro b11 h
 iterate 3 refine kI hT hC b11 ?_
 refine kP hC true b11 ?_
 refine kO hT hC ?_
 refine kS h ?_ ?_ <;> intro b12 h
 iterate 2 refine kI hT hC b12 ?_
 refine kE hC b12 [] Try.call65 h (fun _ => Xgb) fun q8 h => ?_
 refine kP hC true b12 ?_
 refine kO hT hC ?_
 exact Vc.nil kM
 iterate 3 refine kF hC b12 ?_
 refine kP hC false b12 ?_
 refine kO hT hC ?_
 exact Vc.nil kM
 iterate 3 refine kF hC b11 ?_
 refine kP hC false b11 ?_
 refine kO hT hC ?_
 iterate 3 refine kF hC rfl ?_
 iterate 2 refine kO hT hC ?_
 exact Vc.nil kM
 iterate 3 refine kF hC b10 ?_
 refine kP hC false b10 ?_
 refine kO hT hC ?_
 iterate 3 refine kF hC rfl ?_
 iterate 2 refine kO hT hC ?_
 iterate 3 refine kF hC rfl ?_
 iterate 2 refine kO hT hC ?_
 exact Vc.nil kM
 exact Xah (Xid (Xau kR))
 refine kf b9 (Xae (Xam (Xad (Xac ?_))))
 refine kO hT hC ?_
 exact Vc.nil (Xah kR)
def Xmm (r : Bool) : AV := .sv (.bool r)
def Xml (r : Bool) : Xa2 := []
theorem Xnj {p0 p1 r} (h : Xdv p0 p1 = some r) : AC Try.prog 62 [.agg [.sv (.int .i64 p0.Kind), .sv (.int .i64 p0.Mode), .sv (.int .i64 p0.Dx), .sv (.int .i64 p0.Dy), .sv (.ints .i64 p0.Levels)], .agg [.sv (.bool p1.Key), .sv (.int .i64 p1.Qp), .sv (.bool p1.Large), .sv (.bool p1.Exact)]] [] (Xmm r) (Xml r) := by
 refine Xaf hT Try.func62 rfl fun C hC => ?_
 unfold Xdv at h
 refine Xac ?_
 iterate 3 refine kO hT hC ?_
 refine Vc.nil ?_
 refine kL [2,3,4] [32,48] [_,_,_] [_,_] ?_
 refine kA h (fun v1 => ([(4, .sv (.bool v1)), (2, .any), (3, .any)], [(32, none), (48, none)])) (fun v1 h => ?_) fun v1 h => ?_
 refine Xab ?_
 iterate 4 refine kO hT hC ?_
 refine kS h ?_ ?_ <;> intro b1 h
 iterate 3 refine kI hT hC (kn b1) ?_
 refine kP hC false (kn b1) ?_
 refine kO hT hC ?_
 exact Vc.nil kM
 iterate 3 refine kF hC (kn b1) ?_
 refine kP hC true (kn b1) ?_
 refine kO hT hC ?_
 exact Vc.nil kM
 exact Xah kR
def Xnl (r : ((List Int) × Bool)) : AV := .tup [.own 16, .sv (.bool r.2)]
def Xnk (r : ((List Int) × Bool)) : Xa2 := [(16, .ints .i64 r.1)]
theorem Xga {p0 p1 r} (h : Xcn p0 p1 = some r) : AC Try.prog 106 [.sv (.int .i64 p0), .sv (.ints .i64 p1)] [] (Xnl r) (Xnk r) := by
 refine Xaf hT Try.func106 rfl fun C hC => ?_
 unfold Xcn at h
 refine Xac ?_
 iterate 2 refine kO hT hC ?_
 refine Vc.nil (Xap ?_)
 refine kL [0,1] [] [_,_] [] ?_
 refine kA h (fun v1 => ([(22, .sv (.bool v1))], [])) (fun v1 h => ?_) fun v1 h => ?_
 refine Xab ?_
 iterate 3 refine kO hT hC ?_
 refine kS h ?_ ?_ <;> intro b1 h
 iterate 2 refine kI hT hC b1 ?_
 refine kP hC true b1 ?_
 refine kO hT hC ?_
 refine kS h ?_ ?_ <;> intro b2 h
 iterate 6 refine kF hC b2 ?_
 refine kP hC true b2 ?_
 exact Vc.nil kM
 iterate 6 refine kI hT hC b2 ?_
 refine kP hC false b2 ?_
 exact Vc.nil kM
 iterate 2 refine kF hC b1 ?_
 refine kP hC false b1 ?_
 refine kO hT hC ?_
 iterate 6 refine kI hT hC rfl ?_
 refine kO hT hC ?_
 exact Vc.nil kM
 refine kS h ?_ ?_ <;> intro b3 h
 refine kt b3 (Xac ?_)
 iterate 3 refine kO hT hC ?_
 refine Vc.nil (Xah (Xau ?_))
 obtain rfl := kj h
 exact Xea (τ := ⟨[(4, .own 16), (5, .sv (.bool false))], [(16, some (.ints .i64 ([] : List Int)))]⟩) (kW hC [(16, 368)]) rfl ⟨rfl, trivial⟩
 refine kf b3 (Xae (Xad (Xac ?_)))
 iterate 2 refine kO hT hC ?_
 obtain ⟨hq, h⟩ := Xaw h
 refine Xz6 hT hC rfl rfl rfl rfl ⟨hq.1, hq.2.1, hq.2.2, by decide⟩ ?_
 refine kO hT hC ?_
 refine Vc.nil (Xap (Xac ?_))
 refine kO hT hC ?_
 refine kC hC [(16, 448)] Try.call136 h (fun _ => Xo1) fun q2 h => ?_
 iterate 2 refine kO hT hC ?_
 refine Vc.nil ?_
 refine kL [1,6,28,29,30] [416,448] [_,_,_,_,_] [_,_] ?_
 refine kX h (fun v4 => ([(30, .sv (.int .i64 v4.1))], [(416, some (.ints .i64 v4.2))])) (fun v6 => ([(1, .any), (28, .any), (29, .any), (30, .any)], [(416, some (.ints .i64 v6)), (448, none)])) (kW hC []) (fun v4 s h => ?_) fun v6 h => ?_
 unfold Xec at h
 refine Xac ?_
 refine kO hT hC ?_
 refine Vc.nil (Xap ?_)
 refine kS h ?_ ?_ <;> intro b6 h
 refine kt b6 (Xae (Xad (Xap (Xal (Xac ?_)))))
 refine kO hT hC ?_
 iterate 2 refine kQ hT hC h fun h => ?_
 iterate 2 refine kO hT hC ?_
 refine Vc.nil (Xab ?_)
 iterate 4 refine kO hT hC ?_
 refine kQ hT hC h fun h => ?_
 refine kO hT hC ?_
 iterate 2 refine kQ hT hC h fun h => ?_
 refine Vc.nil (Xam (Xad (Xab ?_)))
 iterate 2 refine kO hT hC ?_
 exact Vc.nil kG
 exact kf b6 (Xan (Xav ku))
 refine Xad (Xac ?_)
 iterate 3 refine kO hT hC ?_
 refine Vc.nil (Xah ?_)
 obtain rfl := kj h
 exact Xea (τ := ⟨[(4, .own 16), (5, .sv (.bool true))], [(16, some (.ints .i64 v6))]⟩) (kW hC [(16, 416)]) rfl ⟨rfl, trivial⟩
def Xna (r : Int) : AV := .sv (.int .i64 r)
def Xm9 (r : Int) : Xa2 := []
theorem Xov {p0 p1 r} (h : Xep p0 p1 = some r) : AC Try.prog 107 [.sv (.int .i64 p0), .sv (.int .i64 p1)] [] (Xna r) (Xm9 r) := by
 refine Xaf hT Try.func107 rfl fun C hC => ?_
 unfold Xep at h
 refine Xac ?_
 refine kO hT hC ?_
 refine Vc.nil (Xap (Xac ?_))
 refine kO hT hC ?_
 refine kC hC [] Try.call53 h (fun _ => Xaj) fun q1 h => ?_
 refine kO hT hC ?_
 refine Vc.nil ?_
 refine kS h ?_ ?_ <;> intro b1 h
 refine kt b1 (Xac ?_)
 refine kO hT hC ?_
 exact Vc.nil (Xah (Xau kR))
 refine kf b1 (Xae (Xad (Xac ?_)))
 iterate 2 refine kO hT hC ?_
 refine kC hC [] Try.call31 h (fun _ => Xu0) fun q2 h => ?_
 iterate 2 refine kO hT hC ?_
 exact Vc.nil (Xah kR)
def Xu3 (r : Int) : AV := .sv (.int .i64 r)
def Xu2 (r : Int) : Xa2 := []
theorem Xjr {p0 p1 r} (h : Xhw p0 p1 = some r) : AC Try.prog 145 [.sv (.int .i64 p0), .sv (.int .i64 p1)] [] (Xu3 r) (Xu2 r) := by
 refine Xaf hT Try.func145 rfl fun C hC => ?_
 unfold Xhw at h
 refine Xac ?_
 refine kO hT hC ?_
 refine kN ?_
 iterate 2 refine kO hT hC ?_
 refine kQ hT hC h fun h => ?_
 refine kO hT hC ?_
 refine Vc.nil ?_
 refine kL [0,1,5] [] [_,_,_] [] ?_
 refine kA h (fun v1 => ([(5, .sv (.int .i64 v1)), (0, .any), (1, .any)], [])) (fun v1 h => ?_) fun v1 h => ?_
 refine Xac ?_
 iterate 2 refine kO hT hC ?_
 refine kQ hT hC h fun h => ?_
 refine kO hT hC ?_
 refine Vc.nil ?_
 refine kS h ?_ ?_ <;> intro b1 h
 refine kt b1 (Xab ?_)
 iterate 3 refine kO hT hC ?_
 exact Vc.nil kM
 exact kf b1 (Xae kM)
 refine Xac ?_
 iterate 2 refine kO hT hC ?_
 exact Vc.nil (Xah kR)
def Xqm (r : ((List Int) × (List Int))) : AV := .own 0
def Xql (r : ((List Int) × (List Int))) : Xa2 := [(0, .ints .i64 r.2)]
theorem Xkr {p0 r} (h : Xfc p0 = some r) : AC Try.prog 142 [.own 0] [(0, .ints .i64 p0)] (Xqm r) (Xql r) := by
 refine Xaf hT Try.func142 rfl fun C hC => ?_
 unfold Xfc at h
 refine Xac ?_
 refine kO hT hC ?_
 refine Vc.nil (Xap (Xac ?_))
 iterate 3 refine kO hT hC ?_
 refine Vc.nil ?_
 refine kL [0,5,6,7] [0] [_,_,_,_] [_] ?_
 refine kX h (fun v3 => ([(7, .sv (.int .i64 v3.1))], [(0, some (.ints .i64 v3.2))])) (fun v6 => ([(5, .any), (6, .any), (7, .any)], [(0, some (.ints .i64 v6))])) (kW hC []) (fun v3 s h => ?_) fun v6 h => ?_
 unfold Xh0 at h
 refine Xac ?_
 refine kO hT hC ?_
 refine Vc.nil (Xap ?_)
 refine kS h ?_ ?_ <;> intro b3 h
 refine kt b3 (Xae (Xad (Xap (Xal (Xac ?_)))))
 refine kO hT hC ?_
 iterate 2 refine kQ hT hC h fun h => ?_
 iterate 2 refine kO hT hC ?_
 refine Vc.nil (Xab ?_)
 iterate 4 refine kO hT hC ?_
 refine kC hC [] Try.call145 h (fun _ => Xjr) fun q7 h => ?_
 iterate 2 refine kQ hT hC h fun h => ?_
 refine Vc.nil (Xam (Xad (Xab ?_)))
 iterate 2 refine kO hT hC ?_
 exact Vc.nil kG
 exact kf b3 (Xan (Xav ku))
 refine Xad (Xac ?_)
 iterate 2 refine kO hT hC ?_
 refine Vc.nil (Xah ?_)
 obtain rfl := kj h
 exact Xea (Xhs.refl _) rfl ⟨rfl, trivial⟩
def Xm7 (r : (List Int)) : AV := .own 16
def Xm6 (r : (List Int)) : Xa2 := [(16, .ints .i64 r)]
theorem Xos {p0 r} (h : Xeo p0 = some r) : AC Try.prog 108 [.sv (.ints .i64 p0)] [] (Xm7 r) (Xm6 r) := by
 refine Xaf hT Try.func108 rfl fun C hC => ?_
 unfold Xeo at h
 refine Xac ?_
 refine kO hT hC ?_
 refine Vc.nil (Xap (Xac ?_))
 refine kO hT hC ?_
 refine kC hC [] Try.call52 h (fun _ => Xed) fun q1 h => ?_
 refine kO hT hC ?_
 refine Vc.nil ?_
 refine kS h ?_ ?_ <;> intro b1 h
 refine kt b1 (Xac ?_)
 iterate 2 refine kO hT hC ?_
 refine Vc.nil (Xah (Xau ?_))
 obtain rfl := kj h
 exact Xea (τ := ⟨[(2, .own 16)], [(16, some (.ints .i64 ([] : List Int)))]⟩) (kW hC [(16, 96)]) rfl ⟨rfl, trivial⟩
 refine kf b1 (Xae (Xad (Xac ?_)))
 refine kO hT hC ?_
 refine kC hC [(16, 128)] Try.call137 h (fun _ => Xzb) fun q2 h => ?_
 refine kC hC [(0, 128)] Try.call142 h (fun _ => Xkr) fun q3 h => ?_
 refine kO hT hC ?_
 refine Vc.nil (Xah ?_)
 obtain rfl := kj h
 exact Xea (τ := ⟨[(2, .own 16)], [(16, some (.ints .i64 q3.2))]⟩) (kW hC [(16, 128)]) rfl ⟨rfl, trivial⟩
def Xqe (r : Int) : AV := .sv (.int .i64 r)
def Xqd (r : Int) : Xa2 := []
theorem Xsn {p0 p1 r} (h : Xgy p0 p1 = some r) : AC Try.prog 143 [.sv (.int .i64 p0), .sv (.int .i64 p1)] [] (Xqe r) (Xqd r) := by
 refine Xaf hT Try.func143 rfl fun C hC => ?_
 unfold Xgy at h
 refine Xac ?_
 refine kO hT hC ?_
 refine Vc.nil (Xap ?_)
 refine kL [0,1] [] [_,_] [] ?_
 refine kA h (fun v1 => ([(13, .sv (.bool v1))], [])) (fun v1 h => ?_) fun v1 h => ?_
 refine Xab ?_
 refine kO hT hC ?_
 refine kC hC [] Try.call53 h (fun _ => Xaj) fun q2 h => ?_
 iterate 2 refine kO hT hC ?_
 refine kS h ?_ ?_ <;> intro b1 h
 refine kI hT hC (kn b1) ?_
 refine kE hC (kn b1) [] Try.call53 h (fun _ => Xaj) fun q3 h => ?_
 refine kI hT hC (kn b1) ?_
 refine kP hC false (kn b1) ?_
 exact Vc.nil kM
 iterate 3 refine kF hC (kn b1) ?_
 refine kP hC true (kn b1) ?_
 exact Vc.nil kM
 refine kS h ?_ ?_ <;> intro b2 h
 refine kt b2 (Xac ?_)
 refine kO hT hC ?_
 exact Vc.nil (Xah (Xau kR))
 refine kf b2 (Xae (Xad (Xac ?_)))
 iterate 9 refine kO hT hC ?_
 refine Vc.nil ?_
 refine Xjd hm ?_
 refine kO hT hC ?_
 refine kQ hT hC h fun h => ?_
 refine kO hT hC ?_
 refine kC hC [] Try.call168 h (fun _ => Xux) fun q4 h => ?_
 iterate 2 refine kQ hT hC h fun h => ?_
 obtain ⟨hq, h⟩ := Xaw h
 refine Yim hT hC rfl rfl rfl rfl rfl rfl hq ?_
 refine kO hT hC ?_
 iterate 2 refine kQ hT hC h fun h => ?_
 refine kO hT hC ?_
 exact kD (Xah kR)
def Xnh (r : Int) : AV := .sv (.int .i64 r)
def Xng (r : Int) : Xa2 := []
theorem Xow {p0 p1 p2 r} (h : Xeq p0 p1 p2 = some r) : AC Try.prog 109 [.sv (.int .i64 p0), .sv (.int .i64 p1), .sv (.int .i64 p2)] [] (Xnh r) (Xng r) := by
 refine Xaf hT Try.func109 rfl fun C hC => ?_
 unfold Xeq at h
 refine Xac ?_
 refine kO hT hC ?_
 refine Vc.nil (Xap (Xac ?_))
 refine kO hT hC ?_
 refine kC hC [] Try.call53 h (fun _ => Xaj) fun q1 h => ?_
 refine kO hT hC ?_
 refine Vc.nil ?_
 refine kS h ?_ ?_ <;> intro b1 h
 refine kt b1 (Xac ?_)
 refine kO hT hC ?_
 exact Vc.nil (Xah (Xau kR))
 refine kf b1 (Xae (Xad (Xac ?_)))
 iterate 3 refine kO hT hC ?_
 refine kC hC [] Try.call143 h (fun _ => Xsn) fun q2 h => ?_
 iterate 2 refine kO hT hC ?_
 exact Vc.nil (Xah kR)
def Xmf (r : (Int × Int × Int × Int)) : AV := .agg [.sv (.int .i64 r.1), .sv (.int .i64 r.2.1), .sv (.int .i64 r.2.2.1), .sv (.int .i64 r.2.2.2)]
def Xme (r : (Int × Int × Int × Int)) : Xa2 := []
theorem Xig {p0 p1 p2 p3 r} (h : Xb9 p0 p1 p2 p3 = some r) : AC Try.prog 144 [.sv (.int .i64 p0), .sv (.int .i64 p1), .sv (.int .i64 p2), .sv (.int .i64 p3)] [] (Xmf r) (Xme r) := by
 refine Xaf hT Try.func144 rfl fun C hC => ?_
 unfold Xb9 at h
 refine Xac ?_
 refine kO hT hC ?_
 refine kN ?_
 iterate 7 refine kO hT hC ?_
 refine kC hC [] Try.call145 h (fun _ => Xjr) fun q1 h => ?_
 iterate 4 refine kO hT hC ?_
 refine kC hC [] Try.call145 h (fun _ => Xjr) fun q2 h => ?_
 iterate 5 refine kO hT hC ?_
 refine kN ?_
 iterate 14 refine kO hT hC ?_
 exact Vc.nil (Xah kR)
def Xgf (r : (List Int)) : AV := .own 16
def Xge (r : (List Int)) : Xa2 := [(16, .ints .i64 r)]
theorem Xg0 {p0 r} (h : Xbi p0 = some r) : AC Try.prog 139 [.sv (.ints .i64 p0), .fn 144 []] [] (Xgf r) (Xge r) := by
 refine Xaf hT Try.func139 rfl fun C hC => ?_
 unfold Xbi at h
 refine Xac ?_
 refine kO hT hC ?_
 refine kN ?_
 refine kO hT hC ?_
 refine kC hC [(16, 208)] Try.call167 h (fun _ => Xqh) fun q1 h => ?_
 refine kO hT hC ?_
 refine Vc.nil (Xap (Xac ?_))
 refine kO hT hC ?_
 refine Vc.nil ?_
 refine kL [1,5,6] [208] [_,_,_] [_] ?_
 refine kX h (fun v4 => ([(6, .sv (.int .i64 v4.1))], [(208, some (.ints .i64 v4.2))])) (fun v7 => ([(6, .any)], [(208, some (.ints .i64 v7))])) (kW hC []) (fun v4 s h => ?_) fun v7 h => ?_
 unfold Xda at h
 refine Xap (Xac ?_)
 iterate 2 refine kO hT hC ?_
 refine Vc.nil ?_
 refine kS h ?_ ?_ <;> intro b3 h
 refine kt b3 (Xae (Xad (Xap (Xal ?_))))
 refine Xjd hm ?_
 iterate 3 refine kO hT hC ?_
 iterate 2 refine kQ hT hC h fun h => ?_
 iterate 3 refine kO hT hC ?_
 iterate 2 refine kQ hT hC h fun h => ?_
 iterate 3 refine kO hT hC ?_
 iterate 2 refine kQ hT hC h fun h => ?_
 iterate 3 refine kO hT hC ?_
 iterate 2 refine kQ hT hC h fun h => ?_
 refine kC hC [] Try.call144 h (fun _ => Xig) fun q8 h => ?_
 iterate 2 refine kO hT hC ?_
 refine kD ?_
 refine Xdt hm ?_
 iterate 4 refine kO hT hC ?_
 refine kQ hT hC h fun h => ?_
 refine Yij hT hC rfl rfl rfl rfl rfl rfl rfl rfl rfl ?_
 obtain ⟨hq, h⟩ := Xaw h
 refine Yh5 hT hC rfl rfl rfl rfl rfl rfl rfl rfl rfl ⟨⟨trivial, hq.1⟩, hq.2⟩ ?_
 refine kD (Xam (Xad (Xab ?_)))
 iterate 3 refine kO hT hC ?_
 exact Vc.nil kG
 exact kf b3 (Xan (Xav ku))
 refine Xad (Xap (Xac ?_))
 refine kO hT hC ?_
 refine Vc.nil ?_
 refine kL [1,5,46] [208] [_,_,_] [_] ?_
 refine kX h (fun v17 => ([(46, .sv (.int .i64 v17.1))], [(208, some (.ints .i64 v17.2))])) (fun v25 => ([(1, .any), (46, .any)], [(208, some (.ints .i64 v25))])) (kW hC []) (fun v17 s h => ?_) fun v25 h => ?_
 unfold Xcz at h
 refine Xac ?_
 refine kO hT hC ?_
 refine Vc.nil (Xap ?_)
 refine kS h ?_ ?_ <;> intro b12 h
 refine kt b12 (Xae (Xad (Xap (Xal (Xac ?_)))))
 iterate 2 refine kO hT hC ?_
 refine Vc.nil ?_
 refine Xjd hm ?_
 iterate 3 refine kO hT hC ?_
 iterate 2 refine kQ hT hC h fun h => ?_
 iterate 3 refine kO hT hC ?_
 iterate 2 refine kQ hT hC h fun h => ?_
 iterate 3 refine kO hT hC ?_
 iterate 2 refine kQ hT hC h fun h => ?_
 iterate 3 refine kO hT hC ?_
 iterate 2 refine kQ hT hC h fun h => ?_
 refine kC hC [] Try.call144 h (fun _ => Xig) fun q26 h => ?_
 iterate 2 refine kO hT hC ?_
 refine kD (Xac ?_)
 iterate 2 refine kO hT hC ?_
 refine Vc.nil ?_
 refine kL [1,5,8,46,70,71] [208] [_,_,_,_,_,_] [_] ?_
 refine kX h (fun v28 => ([(71, .sv (.int .i64 v28.1))], [(208, some (.ints .i64 v28.2))])) (fun v30 => ([(8, .any), (70, .any), (71, .any)], [(208, some (.ints .i64 v30))])) (kW hC []) (fun v28 s h => ?_) fun v30 h => ?_
 unfold Xc0 at h
 refine Xac ?_
 refine kO hT hC ?_
 refine Vc.nil (Xap ?_)
 refine kS h ?_ ?_ <;> intro b15 h
 refine kt b15 (Xae (Xad (Xap (Xal (Xac ?_)))))
 refine kO hT hC ?_
 obtain ⟨hq, h⟩ := Xaw h
 refine Yik hT hC rfl rfl rfl rfl rfl rfl rfl hq ?_
 iterate 2 refine kO hT hC ?_
 refine Vc.nil (Xab ?_)
 iterate 6 refine kO hT hC ?_
 iterate 2 refine kQ hT hC h fun h => ?_
 refine Vc.nil (Xam (Xad (Xab ?_)))
 iterate 2 refine kO hT hC ?_
 exact Vc.nil kG
 exact kf b15 (Xan (Xav ku))
 refine Xam (Xad (Xab ?_))
 iterate 2 refine kO hT hC ?_
 exact Vc.nil kG
 exact kf b12 (Xan (Xav ku))
 refine Xad (Xac ?_)
 iterate 2 refine kO hT hC ?_
 refine Vc.nil (Xah ?_)
 obtain rfl := kj h
 exact Xea (τ := ⟨[(4, .own 16)], [(16, some (.ints .i64 v25))]⟩) (kW hC [(16, 208)]) rfl ⟨rfl, trivial⟩
def Xou (r : (List Int)) : AV := .own 16
def Xot (r : (List Int)) : Xa2 := [(16, .ints .i64 r)]
theorem Xp8 {p0 r} (h : Xfn p0 = some r) : AC Try.prog 110 [.sv (.ints .i64 p0)] [] (Xou r) (Xot r) := by
 refine Xaf hT Try.func110 rfl fun C hC => ?_
 unfold Xfn at h
 refine Xac ?_
 refine kO hT hC ?_
 refine Vc.nil (Xap (Xac ?_))
 refine kO hT hC ?_
 refine kC hC [] Try.call52 h (fun _ => Xed) fun q1 h => ?_
 refine kO hT hC ?_
 refine Vc.nil ?_
 refine kS h ?_ ?_ <;> intro b1 h
 refine kt b1 (Xac ?_)
 iterate 2 refine kO hT hC ?_
 refine Vc.nil (Xah (Xau ?_))
 obtain rfl := kj h
 exact Xea (τ := ⟨[(2, .own 16)], [(16, some (.ints .i64 ([] : List Int)))]⟩) (kW hC [(16, 96)]) rfl ⟨rfl, trivial⟩
 refine kf b1 (Xae (Xad (Xac ?_)))
 refine kO hT hC ?_
 refine kC hC [(16, 128)] Try.call139 h (fun _ => Xg0) fun q2 h => ?_
 refine kC hC [(0, 128)] Try.call142 h (fun _ => Xkr) fun q3 h => ?_
 refine kO hT hC ?_
 refine Vc.nil (Xah ?_)
 obtain rfl := kj h
 exact Xea (τ := ⟨[(2, .own 16)], [(16, some (.ints .i64 q3.2))]⟩) (kW hC [(16, 128)]) rfl ⟨rfl, trivial⟩
def Xmi (r : ((List Int) × Bool)) : AV := .tup [.own 16, .sv (.bool r.2)]
def Xmh (r : ((List Int) × Bool)) : Xa2 := [(16, .ints .i64 r.1)]
theorem Xnb {p0 p1 r} (h : Xdu p0 p1 = some r) : AC Try.prog 63 [.sv (.ints .i64 p0), .agg [.sv (.bool p1.Key), .sv (.int .i64 p1.Qp), .sv (.bool p1.Large), .sv (.bool p1.Exact)]] [] (Xmi r) (Xmh r) := by
 refine Xaf hT Try.func63 rfl fun C hC => ?_
 unfold Xdu at h
 refine Xac ?_
 iterate 3 refine kO hT hC ?_
 refine Vc.nil (Xap ?_)
 refine kL [0,3] [48] [_,_] [_] ?_
 refine kA h (fun v1 => ([(26, .sv (.bool v1))], [])) (fun v1 h => ?_) fun v1 h => ?_
 refine Xab ?_
 refine kO hT hC ?_
 refine kC hC [] Try.call65 h (fun _ => Xgb) fun q2 h => ?_
 iterate 2 refine kO hT hC ?_
 refine kS h ?_ ?_ <;> intro b1 h
 refine kI hT hC (kn b1) ?_
 refine kE hC (kn b1) [] Try.call27 h (fun _ => Xit) fun q3 h => ?_
 refine kI hT hC (kn b1) ?_
 refine kP hC false (kn b1) ?_
 exact Vc.nil kM
 iterate 3 refine kF hC (kn b1) ?_
 refine kP hC true (kn b1) ?_
 exact Vc.nil kM
 refine kS h ?_ ?_ <;> intro b2 h
 refine kt b2 (Xac ?_)
 iterate 3 refine kO hT hC ?_
 refine Vc.nil (Xah (Xau ?_))
 obtain rfl := kj h
 exact Xea (τ := ⟨[(4, .own 16), (5, .sv (.bool false))], [(16, some (.ints .i64 ([] : List Int)))]⟩) (kW hC [(16, 432)]) rfl ⟨rfl, trivial⟩
 refine kf b2 (Xae (Xad (Xap (Xac ?_))))
 iterate 2 refine kO hT hC ?_
 refine Vc.nil ?_
 refine kS h ?_ ?_ <;> intro b3 h
 refine kt b3 (Xac ?_)
 refine kO hT hC ?_
 refine kC hC [(16, 496)] Try.call106 h (fun _ => Xga) fun q4 h => ?_
 iterate 4 refine kO hT hC ?_
 refine Vc.nil (Xah (Xau ?_))
 obtain rfl := kj h
 exact Xea (τ := ⟨[(4, .own 16), (5, .sv (.bool q4.2))], [(16, some (.ints .i64 q4.1))]⟩) (kW hC [(16, 496)]) rfl ⟨rfl, trivial⟩
 refine kf b3 (Xae (Xad (Xap (Xac ?_))))
 iterate 2 refine kO hT hC ?_
 refine Vc.nil ?_
 refine kS h ?_ ?_ <;> intro b4 h
 refine kt b4 (Xac ?_)
 refine kO hT hC ?_
 refine kC hC [(16, 608)] Try.call106 h (fun _ => Xga) fun q5 h => ?_
 iterate 5 refine kO hT hC ?_
 refine Vc.nil (Xap (Xac ?_))
 iterate 3 refine kO hT hC ?_
 refine Vc.nil ?_
 refine kL [3,6,41,42,43] [48,608] [_,_,_,_,_] [_,_] ?_
 refine kX h (fun v8 => ([(43, .sv (.int .i64 v8.1))], [(608, some (.ints .i64 v8.2))])) (fun v11 => ([(3, .any), (41, .any), (42, .any), (43, .any)], [(608, some (.ints .i64 v11)), (48, none)])) (kW hC []) (fun v8 s h => ?_) fun v11 h => ?_
 unfold Xcg at h
 refine Xac ?_
 refine kO hT hC ?_
 refine Vc.nil (Xap ?_)
 refine kS h ?_ ?_ <;> intro b7 h
 refine kt b7 (Xae (Xad (Xap (Xal (Xac ?_)))))
 refine kO hT hC ?_
 iterate 2 refine kQ hT hC h fun h => ?_
 iterate 2 refine kO hT hC ?_
 refine Vc.nil (Xab ?_)
 iterate 5 refine kO hT hC ?_
 refine kC hC [] Try.call107 h (fun _ => Xov) fun q12 h => ?_
 iterate 2 refine kQ hT hC h fun h => ?_
 refine Vc.nil (Xam (Xad (Xab ?_)))
 iterate 2 refine kO hT hC ?_
 exact Vc.nil kG
 exact kf b7 (Xan (Xav ku))
 refine Xad (Xac ?_)
 refine kO hT hC ?_
 refine kC hC [(16, 912)] Try.call108 h (fun _ => Xos) fun q14 h => ?_
 iterate 2 refine kO hT hC ?_
 refine Vc.nil (Xah (Xau ?_))
 obtain rfl := kj h
 exact Xea (τ := ⟨[(4, .own 16), (5, .sv (.bool true))], [(16, some (.ints .i64 q14))]⟩) (kW hC [(16, 912)]) rfl ⟨rfl, trivial⟩
 refine kf b4 (Xae (Xad (Xac ?_)))
 obtain ⟨hq, h⟩ := Xaw h
 refine Xz6 hT hC rfl rfl rfl rfl ⟨hq.1, hq.2.1, hq.2.2, by decide⟩ ?_
 refine kO hT hC ?_
 refine Vc.nil (Xap (Xac ?_))
 refine kO hT hC ?_
 refine Vc.nil ?_
 refine kL [0,3,10,59] [48,928] [_,_,_,_] [_,_] ?_
 refine kX h (fun v32 => ([(59, .sv (.int .i64 v32.1))], [(928, some (.ints .i64 v32.2))])) (fun v50 => ([(0, .any), (3, .any), (59, .any)], [(928, some (.ints .i64 v50)), (48, none)])) (kW hC []) (fun v32 s h => ?_) fun v50 h => ?_
 unfold Xe7 at h
 refine Xac ?_
 refine kO hT hC ?_
 refine Vc.nil (Xap ?_)
 refine kS h ?_ ?_ <;> intro b22 h
 refine kt b22 (Xae (Xad (Xap (Xal (Xac ?_)))))
 iterate 2 refine kO hT hC ?_
 refine kN ?_
 iterate 6 refine kO hT hC ?_
 refine kQ hT hC h fun h => ?_
 refine kC hC [(16, 1120)] Try.call106 h (fun _ => Xga) fun q51 h => ?_
 iterate 5 refine kO hT hC ?_
 refine Vc.nil (Xap (Xac ?_))
 iterate 3 refine kO hT hC ?_
 refine Vc.nil ?_
 refine kL [0,3,10,11,12,59,73,74,75] [48,928,1120] [_,_,_,_,_,_,_,_,_] [_,_,_] ?_
 refine kX h (fun v54 => ([(75, .sv (.int .i64 v54.1))], [(1120, some (.ints .i64 v54.2))])) (fun v57 => ([(73, .any), (74, .any), (75, .any)], [(1120, some (.ints .i64 v57))])) (kW hC []) (fun v54 s h => ?_) fun v57 h => ?_
 unfold Xca at h
 refine Xac ?_
 refine kO hT hC ?_
 refine Vc.nil (Xap ?_)
 refine kS h ?_ ?_ <;> intro b25 h
 refine kt b25 (Xae (Xad (Xap (Xal (Xac ?_)))))
 refine kO hT hC ?_
 iterate 2 refine kQ hT hC h fun h => ?_
 iterate 2 refine kO hT hC ?_
 refine Vc.nil (Xab ?_)
 iterate 6 refine kO hT hC ?_
 refine kC hC [] Try.call109 h (fun _ => Xow) fun q58 h => ?_
 iterate 2 refine kQ hT hC h fun h => ?_
 refine Vc.nil (Xam (Xad (Xab ?_)))
 iterate 2 refine kO hT hC ?_
 exact Vc.nil kG
 exact kf b25 (Xan (Xav ku))
 refine Xad (Xac ?_)
 refine kO hT hC ?_
 refine kC hC [(16, 1440)] Try.call110 h (fun _ => Xp8) fun q60 h => ?_
 refine kO hT hC ?_
 refine kN ?_
 refine kO hT hC ?_
 refine kC hC [(16, 1472)] Try.call98 h (fun _ => Xsz) fun q61 h => ?_
 iterate 2 refine kO hT hC ?_
 refine Vc.nil ?_
 refine kL [0,3,10,16,59,92,93,94] [48,928,1440,1472] [_,_,_,_,_,_,_,_] [_,_,_,_] ?_
 refine kX h (fun v63 => ([(94, .sv (.int .i64 v63.1))], [(928, some (.ints .i64 v63.2))])) (fun v65 => ([(16, .any), (92, .any), (93, .any), (94, .any)], [(928, some (.ints .i64 v65)), (1440, none), (1472, none)])) (kW hC []) (fun v63 s h => ?_) fun v65 h => ?_
 unfold Xdf at h
 refine Xac ?_
 refine kO hT hC ?_
 refine Vc.nil (Xap ?_)
 refine kS h ?_ ?_ <;> intro b28 h
 refine kt b28 (Xae (Xad (Xap (Xal (Xac ?_)))))
 refine kO hT hC ?_
 iterate 2 refine kQ hT hC h fun h => ?_
 iterate 2 refine kO hT hC ?_
 refine Vc.nil (Xab ?_)
 iterate 4 refine kO hT hC ?_
 iterate 4 refine kQ hT hC h fun h => ?_
 refine Vc.nil (Xam (Xad (Xab ?_)))
 iterate 2 refine kO hT hC ?_
 exact Vc.nil kG
 exact kf b28 (Xan (Xav ku))
 refine Xam (Xad (Xab ?_))
 iterate 2 refine kO hT hC ?_
 exact Vc.nil kG
 exact kf b22 (Xan (Xav ku))
 refine Xad (Xac ?_)
 iterate 3 refine kO hT hC ?_
 refine Vc.nil (Xah ?_)
 obtain rfl := kj h
 exact Xea (τ := ⟨[(4, .own 16), (5, .sv (.bool true))], [(16, some (.ints .i64 v50))]⟩) (kW hC [(16, 928)]) rfl ⟨rfl, trivial⟩
def Xsk (r : (List Int)) : AV := .own 16
def Xsj (r : (List Int)) : Xa2 := [(16, .ints .i64 r)]
theorem Xlm {p0 p1 r} (h : Xf7 p0 p1 = some r) : AC Try.prog 64 [.sv (.ints .i64 p0), .sv (.ints .i64 p1)] [] (Xsk r) (Xsj r) := by
 refine Xaf hT Try.func64 rfl fun C hC => ?_
 unfold Xf7 at h
 refine Xac ?_
 refine kO hT hC ?_
 refine kN ?_
 iterate 2 refine kO hT hC ?_
 refine Vc.nil (Xap ?_)
 refine kL [0,1,5] [128] [_,_,_] [_] ?_
 refine kA h (fun v1 => ([(16, .sv (.bool v1))], [])) (fun v1 h => ?_) fun v1 h => ?_
 refine Xab ?_
 refine kO hT hC ?_
 refine kC hC [] Try.call52 h (fun _ => Xed) fun q2 h => ?_
 iterate 2 refine kO hT hC ?_
 refine kS h ?_ ?_ <;> intro b1 h
 refine kI hT hC (kn b1) ?_
 refine kE hC (kn b1) [] Try.call52 h (fun _ => Xed) fun q3 h => ?_
 refine kI hT hC (kn b1) ?_
 refine kP hC false (kn b1) ?_
 exact Vc.nil kM
 iterate 3 refine kF hC (kn b1) ?_
 refine kP hC true (kn b1) ?_
 exact Vc.nil kM
 refine kS h ?_ ?_ <;> intro b2 h
 refine kt b2 (Xac ?_)
 iterate 2 refine kO hT hC ?_
 refine Vc.nil (Xah (Xau ?_))
 obtain rfl := kj h
 exact Xea (τ := ⟨[(4, .own 16)], [(16, some (.ints .i64 ([] : List Int)))]⟩) (kW hC [(16, 128)]) rfl ⟨rfl, trivial⟩
 refine kf b2 (Xae (Xad (Xap (Xac ?_))))
 iterate 3 refine kO hT hC ?_
 refine Vc.nil ?_
 refine kL [1,5,18,19,20] [128] [_,_,_,_,_] [_] ?_
 refine kX h (fun v6 => ([(20, .sv (.int .i64 v6.1))], [(128, some (.ints .i64 v6.2))])) (fun v9 => ([(1, .any), (18, .any), (19, .any), (20, .any)], [(128, some (.ints .i64 v9))])) (kW hC []) (fun v6 s h => ?_) fun v9 h => ?_
 unfold Xgq at h
 refine Xac ?_
 refine kO hT hC ?_
 refine Vc.nil (Xap ?_)
 refine kS h ?_ ?_ <;> intro b5 h
 refine kt b5 (Xae (Xad (Xap (Xal (Xac ?_)))))
 refine kO hT hC ?_
 refine kQ hT hC h fun h => ?_
 iterate 3 refine kO hT hC ?_
 refine Vc.nil (Xab ?_)
 iterate 4 refine kO hT hC ?_
 refine kQ hT hC h fun h => ?_
 iterate 2 refine kO hT hC ?_
 refine kC hC [] Try.call103 h (fun _ => Xfk) fun q10 h => ?_
 refine kO hT hC ?_
 refine kT hT hC h fun h => ?_
 refine kO hT hC ?_
 refine Vc.nil (Xam (Xad (Xab ?_)))
 iterate 2 refine kO hT hC ?_
 refine Vc.nil ?_
 obtain rfl := kj h
 exact Yce (kW hC [(128, 544)])
 exact kf b5 (Xan (Xav ku))
 refine Xad (Xac ?_)
 iterate 2 refine kO hT hC ?_
 refine Vc.nil (Xah ?_)
 obtain rfl := kj h
 exact Xea (τ := ⟨[(4, .own 16)], [(16, some (.ints .i64 v9))]⟩) (kW hC [(16, 128)]) rfl ⟨rfl, trivial⟩
def Xmk (r : ((List Int) × Bool)) : AV := .tup [.own 16, .sv (.bool r.2)]
def Xmj (r : ((List Int) × Bool)) : Xa2 := [(16, .ints .i64 r.1)]
theorem Xni {p0 p1 p2 p3 p4 p5 p6 p7 r} (h : Xby p0 p1 p2 p3 p4 p5 p6 p7 = some r) : AC Try.prog 14 [.agg [.sv (.int .i64 p0.Wide), .sv (.int .i64 p0.High), .sv (.str p0.Dots)], .agg [.sv (.int .i64 p1.Wide), .sv (.int .i64 p1.High), .sv (.str p1.Dots)], .sv (.int .i64 p2), .sv (.int .i64 p3), .agg [.sv (.bool p4.Key), .sv (.int .i64 p4.Qp), .sv (.bool p4.Large), .sv (.bool p4.Exact)], .sv (.int .i64 p5), .sv (.int .i64 p6), .agg [.sv (.int .i64 p7.Kind), .sv (.int .i64 p7.Mode), .sv (.int .i64 p7.Dx), .sv (.int .i64 p7.Dy), .sv (.ints .i64 p7.Levels)]] [] (Xmk r) (Xmj r) := by
 refine Xaf hT Try.func14 rfl fun C hC => ?_
 unfold Xby at h
 refine Xac ?_
 iterate 6 refine kO hT hC ?_
 refine Vc.nil (Xap ?_)
 refine kL [2,3,5,6,8,9,12,15] [128,144,192,240] [_,_,_,_,_,_,_,_] [_,_,_,_] ?_
 refine kA h (fun v1 => ([(67, .sv (.bool v1))], [])) (fun v1 h => ?_) fun v1 h => ?_
 refine Xab ?_
 refine kO hT hC ?_
 refine kC hC [] Try.call50 h (fun _ => Xfo) fun q2 h => ?_
 iterate 2 refine kO hT hC ?_
 refine kS h ?_ ?_ <;> intro b1 h
 iterate 3 refine kI hT hC (kn b1) ?_
 refine kE hC (kn b1) [] Try.call51 h (fun _ => Xhh) fun q3 h => ?_
 refine kI hT hC (kn b1) ?_
 refine kP hC false (kn b1) ?_
 refine kO hT hC ?_
 refine kS h ?_ ?_ <;> intro b2 h
 refine kI hT hC (kn b2) ?_
 refine kE hC (kn b2) [] Try.call53 h (fun _ => Xaj) fun q4 h => ?_
 refine kI hT hC (kn b2) ?_
 refine kP hC false (kn b2) ?_
 refine kO hT hC ?_
 refine kS h ?_ ?_ <;> intro b3 h
 refine kI hT hC (kn b3) ?_
 refine kE hC (kn b3) [] Try.call53 h (fun _ => Xaj) fun q5 h => ?_
 refine kI hT hC (kn b3) ?_
 refine kP hC false (kn b3) ?_
 refine kO hT hC ?_
 refine kS h ?_ ?_ <;> intro b4 h
 refine kI hT hC (kn b4) ?_
 refine kE hC (kn b4) [] Try.call15 h (fun _ => Xqf) fun q6 h => ?_
 refine kI hT hC (kn b4) ?_
 refine kP hC false (kn b4) ?_
 refine kO hT hC ?_
 refine kS h ?_ ?_ <;> intro b5 h
 refine kI hT hC (kn b5) ?_
 refine kE hC (kn b5) [] Try.call27 h (fun _ => Xit) fun q7 h => ?_
 refine kI hT hC (kn b5) ?_
 refine kP hC false (kn b5) ?_
 refine kO hT hC ?_
 refine kS h ?_ ?_ <;> intro b6 h
 iterate 2 refine kI hT hC (kn b6) ?_
 refine kE hC (kn b6) [] Try.call62 h (fun _ => Xnj) fun q8 h => ?_
 refine kI hT hC (kn b6) ?_
 refine kP hC false (kn b6) ?_
 refine kO hT hC ?_
 refine kS h ?_ ?_ <;> intro b7 h
 iterate 4 refine kI hT hC (kn b7) ?_
 refine kS h ?_ ?_ <;> intro b8 h
 refine kI hT hC b8 ?_
 refine kE hC b8 [] Try.call50 h (fun _ => Xfo) fun q9 h => ?_
 refine kI hT hC b8 ?_
 refine Xe1 hC rfl rfl rfl rfl (kn b7) rfl rfl (b := true) b8 rfl rfl rfl trivial ?_
 refine kP hC false (kn b7) ?_
 exact Vc.nil kM
 iterate 3 refine kF hC b8 ?_
 refine Xe1 hC rfl rfl rfl rfl (kn b7) rfl rfl (b := false) b8 rfl rfl rfl trivial ?_
 refine kP hC false (kn b7) ?_
 exact Vc.nil kM
 iterate 4 refine kF hC (kn b7) ?_
 iterate 3 refine Xla hC rfl rfl rfl rfl rfl rfl ?_
 refine kF hC (kn b7) ?_
 refine kP hC true (kn b7) ?_
 exact Vc.nil kM
 iterate 4 refine kF hC (kn b6) ?_
 refine kP hC true (kn b6) ?_
 refine kO hT hC ?_
 iterate 4 refine kF hC rfl ?_
 iterate 3 refine Xla hC rfl rfl rfl rfl rfl rfl ?_
 refine kF hC rfl ?_
 refine kO hT hC ?_
 exact Vc.nil kM
 iterate 3 refine kF hC (kn b5) ?_
 refine kP hC true (kn b5) ?_
 refine kO hT hC ?_
 iterate 4 refine kF hC rfl ?_
 iterate 2 refine kO hT hC ?_
 iterate 4 refine kF hC rfl ?_
 iterate 3 refine Xla hC rfl rfl rfl rfl rfl rfl ?_
 refine kF hC rfl ?_
 refine kO hT hC ?_
 exact Vc.nil kM
 iterate 3 refine kF hC (kn b4) ?_
 refine kP hC true (kn b4) ?_
 refine kO hT hC ?_
 iterate 3 refine kF hC rfl ?_
 iterate 2 refine kO hT hC ?_
 iterate 4 refine kF hC rfl ?_
 iterate 2 refine kO hT hC ?_
 iterate 4 refine kF hC rfl ?_
 iterate 3 refine Xla hC rfl rfl rfl rfl rfl rfl ?_
 refine kF hC rfl ?_
 refine kO hT hC ?_
 exact Vc.nil kM
 iterate 3 refine kF hC (kn b3) ?_
 refine kP hC true (kn b3) ?_
 refine kO hT hC ?_
 iterate 3 refine kF hC rfl ?_
 iterate 2 refine kO hT hC ?_
 iterate 3 refine kF hC rfl ?_
 iterate 2 refine kO hT hC ?_
 iterate 4 refine kF hC rfl ?_
 iterate 2 refine kO hT hC ?_
 iterate 4 refine kF hC rfl ?_
 iterate 3 refine Xla hC rfl rfl rfl rfl rfl rfl ?_
 refine kF hC rfl ?_
 refine kO hT hC ?_
 exact Vc.nil kM
 iterate 3 refine kF hC (kn b2) ?_
 refine kP hC true (kn b2) ?_
 refine kO hT hC ?_
 iterate 3 refine kF hC rfl ?_
 iterate 2 refine kO hT hC ?_
 iterate 3 refine kF hC rfl ?_
 iterate 2 refine kO hT hC ?_
 iterate 3 refine kF hC rfl ?_
 iterate 2 refine kO hT hC ?_
 iterate 4 refine kF hC rfl ?_
 iterate 2 refine kO hT hC ?_
 iterate 4 refine kF hC rfl ?_
 iterate 3 refine Xla hC rfl rfl rfl rfl rfl rfl ?_
 refine kF hC rfl ?_
 refine kO hT hC ?_
 exact Vc.nil kM
 iterate 5 refine kF hC (kn b1) ?_
 refine kP hC true (kn b1) ?_
 refine kO hT hC ?_
 iterate 3 refine kF hC rfl ?_
 iterate 2 refine kO hT hC ?_
 iterate 3 refine kF hC rfl ?_
 iterate 2 refine kO hT hC ?_
 iterate 3 refine kF hC rfl ?_
 iterate 2 refine kO hT hC ?_
 iterate 3 refine kF hC rfl ?_
 iterate 2 refine kO hT hC ?_
 iterate 4 refine kF hC rfl ?_
 iterate 2 refine kO hT hC ?_
 iterate 4 refine kF hC rfl ?_
 iterate 3 refine Xla hC rfl rfl rfl rfl rfl rfl ?_
 refine kF hC rfl ?_
 refine kO hT hC ?_
 exact Vc.nil kM
 refine kS h ?_ ?_ <;> intro b9 h
 refine kt b9 (Xac ?_)
 iterate 3 refine kO hT hC ?_
 refine Vc.nil (Xah (Xau ?_))
 obtain rfl := kj h
 exact Xea (τ := ⟨[(16, .own 16), (17, .sv (.bool false))], [(16, some (.ints .i64 ([] : List Int)))]⟩) (kW hC [(16, 1088)]) rfl ⟨rfl, trivial⟩
 refine kf b9 (Xae (Xad (Xap (Xac ?_))))
 iterate 3 refine kO hT hC ?_
 refine Vc.nil ?_
 refine kS h ?_ ?_ <;> intro b10 h
 refine kt b10 (Xac ?_)
 iterate 7 refine kO hT hC ?_
 refine kC hC [(16, 1264)] Try.call60 h (fun _ => Xi2) fun q10 h => ?_
 iterate 2 refine kO hT hC ?_
 refine Vc.nil (Xah (Xau ?_))
 obtain rfl := kj h
 exact Xea (τ := ⟨[(16, .own 16), (17, .sv (.bool true))], [(16, some (.ints .i64 q10))]⟩) (kW hC [(16, 1264)]) rfl ⟨rfl, trivial⟩
 refine kf b10 (Xae (Xad (Xac ?_)))
 iterate 3 refine kO hT hC ?_
 refine kC hC [(16, 1344)] Try.call63 h (fun _ => Xnb) fun q11 h => ?_
 iterate 5 refine kO hT hC ?_
 refine Vc.nil (Xap (Xac ?_))
 iterate 3 refine kO hT hC ?_
 refine Vc.nil ?_
 refine kS h ?_ ?_ <;> intro b11 h
 refine kt b11 (Xac ?_)
 iterate 13 refine kO hT hC ?_
 refine kC hC [(16, 1648)] Try.call60 h (fun _ => Xi2) fun q12 h => ?_
 refine kO hT hC ?_
 refine kC hC [(16, 1680)] Try.call64 h (fun _ => Xlm) fun q13 h => ?_
 iterate 2 refine kO hT hC ?_
 refine Vc.nil (Xah (Xau ?_))
 obtain rfl := kj h
 exact Xea (τ := ⟨[(16, .own 16), (17, .sv (.bool true))], [(16, some (.ints .i64 q13))]⟩) (kW hC [(16, 1680)]) rfl ⟨rfl, trivial⟩
 refine kf b11 (Xae (Xad (Xac ?_)))
 iterate 3 refine kO hT hC ?_
 refine kC hC [(16, 1760), (17, 1761)] Try.call54 h (fun _ => Xsg) fun q14 h => ?_
 iterate 6 refine kO hT hC ?_
 refine kN ?_
 iterate 3 refine kO hT hC ?_
 refine kC hC [(16, 1856)] Try.call58 h (fun _ => Xsi) fun q15 h => ?_
 refine kO hT hC ?_
 refine kC hC [(16, 1888)] Try.call64 h (fun _ => Xlm) fun q16 h => ?_
 iterate 2 refine kO hT hC ?_
 refine Vc.nil (Xah ?_)
 obtain rfl := kj h
 exact Xea (τ := ⟨[(16, .own 16), (17, .sv (.bool true))], [(16, some (.ints .i64 q16))]⟩) (kW hC [(16, 1888)]) rfl ⟨rfl, trivial⟩
def Xsv (r : Bool) : AV := .sv (.bool r)
def Xsu (r : Bool) : Xa2 := []
theorem Xlq {p0 r} (h : Xgc p0 = some r) : AC Try.prog 66 [.sv (.int .i64 p0)] [] (Xsv r) (Xsu r) := by
 refine Xaf hT Try.func66 rfl fun C hC => ?_
 unfold Xgc at h
 refine Xac ?_
 refine kO hT hC ?_
 refine Vc.nil ?_
 refine kL [0,2] [] [_,_] [] ?_
 refine kA h (fun v1 => ([(2, .sv (.bool v1)), (0, .any)], [])) (fun v1 h => ?_) fun v1 h => ?_
 refine Xab ?_
 refine kO hT hC ?_
 refine kQ hT hC h fun h => ?_
 iterate 2 refine kO hT hC ?_
 refine kS h ?_ ?_ <;> intro b1 h
 refine kI hT hC b1 ?_
 refine kE hC b1 [] Try.call53 h (fun _ => Xaj) fun q2 h => ?_
 refine kP hC true b1 ?_
 refine kO hT hC ?_
 exact Vc.nil kM
 iterate 2 refine kF hC b1 ?_
 refine kP hC false b1 ?_
 refine kO hT hC ?_
 exact Vc.nil kM
 exact Xah kR
def Xw8 (r : Pic) : AV := .agg [.sv (.int .i64 r.Wide), .sv (.int .i64 r.High), .sv (.str r.Dots)]
def Xw7 (r : Pic) : Xa2 := []
theorem Xy6 {p0 p1 r} (h : Xko p0 p1 = some r) : AC Try.prog 25 [.sv (.int .i64 p0), .sv (.int .i64 p1)] [] (Xw8 r) (Xw7 r) := by
 refine Xaf hT Try.func25 rfl fun C hC => ?_
 unfold Xko at h
 refine Xac ?_
 refine kO hT hC ?_
 refine Vc.nil (Xap ?_)
 refine kL [0,1,4] [64] [_,_,_] [_] ?_
 refine kA h (fun v1 => ([(14, .sv (.bool v1))], [])) (fun v1 h => ?_) fun v1 h => ?_
 refine Xab ?_
 refine kO hT hC ?_
 refine kC hC [] Try.call53 h (fun _ => Xaj) fun q2 h => ?_
 iterate 2 refine kO hT hC ?_
 refine kS h ?_ ?_ <;> intro b1 h
 refine kI hT hC (kn b1) ?_
 refine kE hC (kn b1) [] Try.call53 h (fun _ => Xaj) fun q3 h => ?_
 refine kI hT hC (kn b1) ?_
 refine kP hC false (kn b1) ?_
 exact Vc.nil kM
 iterate 3 refine kF hC (kn b1) ?_
 refine kP hC true (kn b1) ?_
 exact Vc.nil kM
 refine kS h ?_ ?_ <;> intro b2 h
 refine kt b2 (Xac ?_)
 iterate 2 refine kO hT hC ?_
 exact Vc.nil (Xah (Xau kR))
 refine kf b2 (Xae (Xad (Xac ?_)))
 iterate 3 refine kO hT hC ?_
 obtain ⟨hq, h⟩ := Xaw h
 refine Xz6 hT hC rfl rfl rfl rfl ⟨hq.1, hq.2.1, hq.2.2, by decide⟩ ?_
 refine kO hT hC ?_
 refine Vc.nil (Xap (Xac ?_))
 iterate 3 refine kO hT hC ?_
 refine Vc.nil ?_
 refine kL [0,1,4,5,21,22] [64,304] [_,_,_,_,_,_] [_,_] ?_
 refine kX h (fun v5 => ([(22, .sv (.int .i64 v5.1))], [(304, some (.ints .u8 v5.2))])) (fun v7 => ([(21, .any), (22, .any)], [(304, some (.ints .u8 v7))])) (kW hC []) (fun v5 s h => ?_) fun v7 h => ?_
 unfold Xgx at h
 refine Xac ?_
 refine kO hT hC ?_
 refine Vc.nil (Xap ?_)
 refine kS h ?_ ?_ <;> intro b5 h
 refine kt b5 (Xae (Xad (Xap (Xal (Xac ?_)))))
 iterate 2 refine kO hT hC ?_
 refine Vc.nil (Xab ?_)
 iterate 2 refine kO hT hC ?_
 iterate 2 refine kQ hT hC h fun h => ?_
 refine Vc.nil (Xam (Xad (Xab ?_)))
 iterate 2 refine kO hT hC ?_
 exact Vc.nil kG
 exact kf b5 (Xan (Xav ku))
 refine Xad (Xac ?_)
 iterate 6 refine kO hT hC ?_
 exact Vc.nil (Xah kR)
def Xxa (r : (List Int)) : AV := .own 16
def Xw9 (r : (List Int)) : Xa2 := [(16, .ints .u8 r)]
theorem Xy8 {p0 r} (h : Xnp p0 = some r) : AC Try.prog 111 [.agg [.sv (.int .i64 p0.Wide), .sv (.int .i64 p0.High), .sv (.str p0.Dots)]] [] (Xxa r) (Xw9 r) := by
 refine Xaf hT Try.func111 rfl fun C hC => ?_
 unfold Xnp at h
 refine Xac ?_
 iterate 2 refine kO hT hC ?_
 refine kN ?_
 iterate 2 refine kO hT hC ?_
 refine kQ hT hC h fun h => ?_
 refine kO hT hC ?_
 refine Vc.nil (Xah ?_)
 obtain rfl := kj h
 exact Xea (τ := ⟨[(2, .own 16)], [(16, some (.ints .u8 (Xdj p0.Dots)))]⟩) (kW hC [(16, 80)]) rfl ⟨rfl, trivial⟩
def Xza (r : Pic) : AV := .agg [.sv (.int .i64 r.Wide), .sv (.int .i64 r.High), .sv (.str r.Dots)]
def Xy9 (r : Pic) : Xa2 := []
theorem Yag {p0 p1 p2 p3 r} (h : Xlc p0 p1 p2 p3 = some r) : AC Try.prog 67 [.agg [.sv (.int .i64 p0.Wide), .sv (.int .i64 p0.High), .sv (.str p0.Dots)], .sv (.int .i64 p1), .sv (.int .i64 p2), .sv (.ints .i64 p3)] [] (Xza r) (Xy9 r) := by
 refine Xaf hT Try.func67 rfl fun C hC => ?_
 unfold Xlc at h
 refine Xac ?_
 iterate 2 refine kO hT hC ?_
 refine kN ?_
 refine kO hT hC ?_
 refine kC hC [(16, 208)] Try.call111 h (fun _ => Xy8) fun q1 h => ?_
 refine kO hT hC ?_
 refine Vc.nil (Xap (Xac ?_))
 iterate 3 refine kO hT hC ?_
 refine Vc.nil ?_
 refine kL [1,2,4,8,9,14,15,16] [64,128,208] [_,_,_,_,_,_,_,_] [_,_,_] ?_
 refine kX h (fun v3 => ([(16, .sv (.int .i64 v3.1))], [(208, some (.ints .u8 v3.2))])) (fun v5 => ([(1, .any), (2, .any), (14, .any), (15, .any), (16, .any)], [(208, some (.ints .u8 v5))])) (kW hC []) (fun v3 s h => ?_) fun v5 h => ?_
 unfold Xjs at h
 refine Xac ?_
 refine kO hT hC ?_
 refine Vc.nil (Xap ?_)
 refine kS h ?_ ?_ <;> intro b3 h
 refine kt b3 (Xae (Xad (Xap (Xal (Xac ?_)))))
 refine kO hT hC ?_
 refine kQ hT hC h fun h => ?_
 iterate 3 refine kO hT hC ?_
 refine Vc.nil (Xab ?_)
 iterate 3 refine kO hT hC ?_
 refine kQ hT hC h fun h => ?_
 iterate 7 refine kO hT hC ?_
 refine kQ hT hC h fun h => ?_
 iterate 3 refine kO hT hC ?_
 iterate 2 refine kQ hT hC h fun h => ?_
 refine Vc.nil (Xam (Xad (Xab ?_)))
 iterate 2 refine kO hT hC ?_
 exact Vc.nil kG
 exact kf b3 (Xan (Xav ku))
 refine Xad (Xac ?_)
 iterate 4 refine kO hT hC ?_
 refine kN ?_
 iterate 2 refine kO hT hC ?_
 exact Vc.nil (Xah kR)
def Xuw (r : (Pic × Bool)) : AV := .tup [.agg [.sv (.int .i64 r.1.Wide), .sv (.int .i64 r.1.High), .sv (.str r.1.Dots)], .sv (.bool r.2)]
def Xuv (r : (Pic × Bool)) : Xa2 := []
theorem Xw5 {p0 p1 r} (h : Xhv p0 p1 = some r) : AC Try.prog 24 [.agg [.sv (.int .i64 p0.Wide), .sv (.int .i64 p0.High), .sv (.str p0.Dots)], .agg [.sv (.int .i64 p1.Left), .sv (.int .i64 p1.Top), .sv (.int .i64 p1.Wide), .sv (.int .i64 p1.High)]] [] (Xuw r) (Xuv r) := by
 refine Xaf hT Try.func24 rfl fun C hC => ?_
 unfold Xhv at h
 refine Xac ?_
 iterate 4 refine kO hT hC ?_
 refine Vc.nil (Xap ?_)
 refine kL [2,3,4] [32,48,64] [_,_,_] [_,_,_] ?_
 refine kA h (fun v1 => ([(16, .sv (.bool v1))], [])) (fun v1 h => ?_) fun v1 h => ?_
 refine Xab ?_
 refine kO hT hC ?_
 refine kC hC [] Try.call50 h (fun _ => Xfo) fun q2 h => ?_
 iterate 2 refine kO hT hC ?_
 refine kS h ?_ ?_ <;> intro b1 h
 iterate 2 refine kI hT hC (kn b1) ?_
 refine kE hC (kn b1) [] Try.call75 h (fun _ => Xi3) fun q3 h => ?_
 refine kI hT hC (kn b1) ?_
 refine kP hC false (kn b1) ?_
 exact Vc.nil kM
 iterate 4 refine kF hC (kn b1) ?_
 refine kP hC true (kn b1) ?_
 exact Vc.nil kM
 refine kS h ?_ ?_ <;> intro b2 h
 refine kt b2 (Xac ?_)
 iterate 3 refine kO hT hC ?_
 exact Vc.nil (Xah (Xau kR))
 refine kf b2 (Xae (Xad (Xac ?_)))
 iterate 5 refine kO hT hC ?_
 obtain ⟨hq, h⟩ := Xaw h
 refine Xz6 hT hC rfl rfl rfl rfl ⟨hq.1, hq.2.1, hq.2.2, by decide⟩ ?_
 refine kO hT hC ?_
 refine Vc.nil (Xap (Xac ?_))
 iterate 3 refine kO hT hC ?_
 refine Vc.nil ?_
 refine kL [2,3,4,6,7] [32,48,64,368] [_,_,_,_,_] [_,_,_,_] ?_
 refine kX h (fun v5 => ([(7, .sv (.int .i64 v5.1))], [(368, some (.ints .u8 v5.2))])) (fun v7 => ([(2, .any), (7, .any)], [(368, some (.ints .u8 v7)), (32, none)])) (kW hC []) (fun v5 s h => ?_) fun v7 h => ?_
 unfold Xjq at h
 refine Xap (Xac ?_)
 iterate 7 refine kO hT hC ?_
 refine Vc.nil ?_
 refine kS h ?_ ?_ <;> intro b5 h
 refine kt b5 (Xae (Xad (Xap (Xal (Xab ?_)))))
 iterate 20 refine kO hT hC ?_
 refine kQ hT hC h fun h => ?_
 refine kT hT hC h fun h => ?_
 refine kO hT hC ?_
 refine Vc.nil (Xam (Xad (Xab ?_)))
 iterate 3 refine kO hT hC ?_
 refine Vc.nil ?_
 obtain rfl := kj h
 exact Yce (kW hC [(368, 896)])
 exact kf b5 (Xan (Xav ku))
 refine Xad (Xac ?_)
 iterate 9 refine kO hT hC ?_
 exact Vc.nil (Xah kR)
def Xi5 (r : (Pic × Bool)) : AV := .tup [.agg [.sv (.int .i64 r.1.Wide), .sv (.int .i64 r.1.High), .sv (.str r.1.Dots)], .sv (.bool r.2)]
def Xi4 (r : (Pic × Bool)) : Xa2 := []
theorem Xqg {p0 p1 p2 p3 p4 r} (h : Xfr p0 p1 p2 p3 p4 = some r) : AC Try.prog 30 [.agg [.sv (.int .i64 p0.Wide), .sv (.int .i64 p0.High), .sv (.str p0.Dots)], .agg [.sv (.int .i64 p1.Left), .sv (.int .i64 p1.Top), .sv (.int .i64 p1.Wide), .sv (.int .i64 p1.High)], .agg [.sv (.bool p2.Key), .sv (.int .i64 p2.Qp), .sv (.bool p2.Large), .sv (.bool p2.Exact)], .sv (.bool p3), .sv (Xce.sv p4)] [] (Xi5 r) (Xi4 r) := by
 refine Xaf hT Try.func30 rfl fun C hC => ?_
 unfold Xfr at h
 refine Xac ?_
 iterate 5 refine kO hT hC ?_
 refine Vc.nil (Xap ?_)
 refine kL [3,4,5,6,7,10] [80,96,112,160] [_,_,_,_,_,_] [_,_,_,_] ?_
 refine kA h (fun v1 => ([(59, .sv (.bool v1))], [])) (fun v1 h => ?_) fun v1 h => ?_
 refine Xab ?_
 iterate 2 refine kO hT hC ?_
 refine kC hC [] Try.call66 h (fun _ => Xlq) fun q2 h => ?_
 iterate 2 refine kO hT hC ?_
 refine kS h ?_ ?_ <;> intro b1 h
 iterate 2 refine kI hT hC (kn b1) ?_
 refine kE hC (kn b1) [] Try.call66 h (fun _ => Xlq) fun q3 h => ?_
 refine kI hT hC (kn b1) ?_
 refine kP hC false (kn b1) ?_
 refine kO hT hC ?_
 refine kS h ?_ ?_ <;> intro b2 h
 iterate 2 refine kI hT hC (kn b2) ?_
 refine kE hC (kn b2) [] Try.call53 h (fun _ => Xaj) fun q4 h => ?_
 refine kI hT hC (kn b2) ?_
 refine kP hC false (kn b2) ?_
 refine kO hT hC ?_
 refine kS h ?_ ?_ <;> intro b3 h
 iterate 2 refine kI hT hC (kn b3) ?_
 refine kE hC (kn b3) [] Try.call53 h (fun _ => Xaj) fun q5 h => ?_
 refine kI hT hC (kn b3) ?_
 refine kP hC false (kn b3) ?_
 refine kO hT hC ?_
 refine kS h ?_ ?_ <;> intro b4 h
 refine kI hT hC (kn b4) ?_
 refine kE hC (kn b4) [] Try.call27 h (fun _ => Xit) fun q6 h => ?_
 refine kI hT hC (kn b4) ?_
 refine kP hC false (kn b4) ?_
 refine kO hT hC ?_
 refine kS h ?_ ?_ <;> intro b5 h
 iterate 4 refine kI hT hC (kn b5) ?_
 refine kJ hT hC (kn b5) h fun h => ?_
 iterate 2 refine kI hT hC (kn b5) ?_
 refine kJ hT hC (kn b5) h fun h => ?_
 iterate 2 refine kI hT hC (kn b5) ?_
 refine kP hC false (kn b5) ?_
 exact Vc.nil kM
 iterate 10 refine kF hC (kn b5) ?_
 refine kP hC true (kn b5) ?_
 exact Vc.nil kM
 iterate 3 refine kF hC (kn b4) ?_
 refine kP hC true (kn b4) ?_
 refine kO hT hC ?_
 iterate 10 refine kF hC rfl ?_
 refine kO hT hC ?_
 exact Vc.nil kM
 iterate 4 refine kF hC (kn b3) ?_
 refine kP hC true (kn b3) ?_
 refine kO hT hC ?_
 iterate 3 refine kF hC rfl ?_
 iterate 2 refine kO hT hC ?_
 iterate 10 refine kF hC rfl ?_
 refine kO hT hC ?_
 exact Vc.nil kM
 iterate 4 refine kF hC (kn b2) ?_
 refine kP hC true (kn b2) ?_
 refine kO hT hC ?_
 iterate 4 refine kF hC rfl ?_
 iterate 2 refine kO hT hC ?_
 iterate 3 refine kF hC rfl ?_
 iterate 2 refine kO hT hC ?_
 iterate 10 refine kF hC rfl ?_
 refine kO hT hC ?_
 exact Vc.nil kM
 iterate 4 refine kF hC (kn b1) ?_
 refine kP hC true (kn b1) ?_
 refine kO hT hC ?_
 iterate 4 refine kF hC rfl ?_
 iterate 2 refine kO hT hC ?_
 iterate 4 refine kF hC rfl ?_
 iterate 2 refine kO hT hC ?_
 iterate 3 refine kF hC rfl ?_
 iterate 2 refine kO hT hC ?_
 iterate 10 refine kF hC rfl ?_
 refine kO hT hC ?_
 exact Vc.nil kM
 refine kS h ?_ ?_ <;> intro b6 h
 refine kt b6 (Xac ?_)
 iterate 3 refine kO hT hC ?_
 exact Vc.nil (Xah (Xau kR))
 refine kf b6 (Xae (Xad (Xap ?_)))
 refine kL [3,4,5,6,7,10] [80,96,112,160] [_,_,_,_,_,_] [_,_,_,_] ?_
 refine kA h (fun v7 => ([(74, .sv (.bool v7))], [])) (fun v7 h => ?_) fun v7 h => ?_
 refine Xab ?_
 iterate 4 refine kO hT hC ?_
 refine kS h ?_ ?_ <;> intro b7 h
 iterate 4 refine kF hC (kn b7) ?_
 iterate 4 refine Xla hC rfl rfl rfl rfl rfl rfl ?_
 refine kF hC (kn b7) ?_
 refine kP hC false (kn b7) ?_
 exact Vc.nil kM
 refine kI hT hC (kn b7) ?_
 refine kE hC (kn b7) [] Try.call50 h (fun _ => Xfo) fun q8 h => ?_
 iterate 2 refine kI hT hC (kn b7) ?_
 refine kS h ?_ ?_ <;> intro b8 h
 iterate 2 refine kI hT hC (kn b8) ?_
 refine kE hC (kn b8) [] Try.call75 h (fun _ => Xi3) fun q9 h => ?_
 refine kI hT hC (kn b8) ?_
 refine Xe1 hC rfl rfl rfl rfl (kn b7) rfl rfl (b := false) (kn b8) rfl rfl rfl trivial ?_
 refine kP hC true (kn b7) ?_
 exact Vc.nil kM
 iterate 4 refine kF hC (kn b8) ?_
 refine Xe1 hC rfl rfl rfl rfl (kn b7) rfl rfl (b := true) (kn b8) rfl rfl rfl trivial ?_
 refine kP hC true (kn b7) ?_
 exact Vc.nil kM
 refine kS h ?_ ?_ <;> intro b9 h
 refine kt b9 (Xac ?_)
 iterate 3 refine kO hT hC ?_
 exact Vc.nil (Xah (Xau kR))
 refine kf b9 (Xae (Xad ?_))
 refine Xjd hm ?_
 iterate 6 refine kO hT hC ?_
 refine kD ?_
 refine kL [3,4,5,6,7,10,12,13] [80,96,112,160] [_,_,_,_,_,_,_,_] [_,_,_,_] ?_
 refine kA h (fun v10 => ([(12, .sv (.int .i64 v10.1)), (13, .sv (.int .i64 v10.2.1)), (3, .any)], [(80, some (.box [.sv (.int .i64 v10.2.2.1), .sv (.int .i64 v10.2.2.2.1), .sv (.str v10.2.2.2.2)]))])) (fun v10 h => ?_) fun v10 h => ?_
 refine Xac ?_
 refine kO hT hC ?_
 refine Vc.nil ?_
 refine kS h ?_ ?_ <;> intro b10 h
 refine kt b10 (Xac ?_)
 iterate 2 refine kO hT hC ?_
 refine kN ?_
 iterate 3 refine kO hT hC ?_
 refine Vc.nil ?_
 refine kS h ?_ ?_ <;> intro b11 h
 refine kt b11 (Xab ?_)
 iterate 2 refine kO hT hC ?_
 refine kC hC [] Try.call24 h (fun _ => Xw5) fun q11 h => ?_
 iterate 4 refine kO hT hC ?_
 exact Vc.nil kM
 exact kf b11 (Xae kM)
 exact kf b10 (Xae kM)
 refine Xac ?_
 iterate 4 refine kO hT hC ?_
 refine kC hC [] Try.call25 h (fun _ => Xy6) fun q12 h => ?_
 iterate 2 refine kO hT hC ?_
 refine Vc.nil (Xap (Xac ?_))
 iterate 3 refine kO hT hC ?_
 refine Vc.nil ?_
 refine kL [5,6,7,10,12,13,14,95,96,97] [80,96,112,160,224] [_,_,_,_,_,_,_,_,_,_] [_,_,_,_,_] ?_
 obtain ⟨o23, hl, h⟩ := Xa9 h
 refine Xhc (fun v16 => ([(97, .sv (.int .i64 v16.1))], [(224, some (.box [.sv (.int .i64 v16.2.1), .sv (.int .i64 v16.2.2.1), .sv (.str v16.2.2.2)]))])) (fun v20 => ([(5, .any), (6, .any), (7, .any), (12, .any), (13, .any), (95, .any), (96, .any), (97, .any)], [(224, some (.box [.sv (.int .i64 v20.1), .sv (.int .i64 v20.2.1), .sv (.str v20.2.2)])), (80, none), (96, none), (112, none)])) (fun r => Xmy C T Try.f30.results.toList (Xi5 r) (Xi4 r)) hl ?_ ?_ ?_ ?_
 try dsimp only
 apply Xg7 hC []
 exact co
 rfl
 decide
 rfl
 intro v16 s hs
 have h := hs
 unfold Xa3 at h
 refine Xac ?_
 refine kO hT hC ?_
 refine Vc.nil (Xap ?_)
 refine kS h ?_ ?_ <;> intro b16 h
 refine kt b16 (Xae (Xad (Xap (Xal (Xac ?_)))))
 refine kO hT hC ?_
 refine kQ hT hC h fun h => ?_
 iterate 4 refine kO hT hC ?_
 refine Vc.nil ?_
 refine Xjd hm ?_
 iterate 3 refine kO hT hC ?_
 iterate 2 refine kQ hT hC h fun h => ?_
 iterate 4 refine kO hT hC ?_
 iterate 2 refine kQ hT hC h fun h => ?_
 iterate 3 refine kO hT hC ?_
 refine kD (Xac ?_)
 iterate 8 refine kO hT hC ?_
 refine kC hC [(16, 1968)] Try.call14 h (fun _ => Xni) fun q21 h => ?_
 iterate 5 refine kO hT hC ?_
 refine Vc.nil (Xap (Xac ?_))
 iterate 2 refine kO hT hC ?_
 refine Vc.nil ?_
 refine kS h ?_ ?_ <;> intro b17 h
 refine kt b17 (Xac ?_)
 iterate 3 refine kO hT hC ?_
 refine Vc.nil (Xah (Xau (Xid (Xau ?_))))
 obtain rfl := kj h
 refine Xqt (Xqs ?_)
 exact Xea (Xhs.refl _) rfl trivial
 refine kf b17 (Xae (Xad (Xab ?_)))
 iterate 4 refine kO hT hC ?_
 refine kC hC [] Try.call67 h (fun _ => Yag) fun q22 h => ?_
 refine kO hT hC ?_
 refine Vc.nil (Xam (Xad (Xab ?_)))
 iterate 2 refine kO hT hC ?_
 exact Vc.nil kG
 exact kf b16 (Xan (Xav kb))
 intro v20 e
 subst e
 refine Xad (Xac ?_)
 iterate 3 refine kO hT hC ?_
 exact Vc.nil (Xah kR)
 intro r' σ' e hE
 subst e
 obtain rfl := kj h
 refine Xau ?_
 exact hE
def Xvc (r : Int) : AV := .sv (.int .i64 r)
def Xvb (r : Int) : Xa2 := []
theorem Xxl {p0 p1 r} (h : Xjb p0 p1 = some r) : AC Try.prog 32 [.agg [.sv (.int .i64 p0.Wide), .sv (.int .i64 p0.High), .sv (.str p0.Dots)], .sv (.int .i64 p1)] [] (Xvc r) (Xvb r) := by
 refine Xaf hT Try.func32 rfl fun C hC => ?_
 unfold Xjb at h
 refine Xac ?_
 iterate 2 refine kO hT hC ?_
 refine kN ?_
 iterate 6 refine kO hT hC ?_
 refine Vc.nil (Xap (Xac ?_))
 iterate 2 refine kO hT hC ?_
 refine Vc.nil ?_
 refine kS h ?_ ?_ <;> intro b1 h
 refine kt b1 (Xac ?_)
 refine kO hT hC ?_
 exact Vc.nil (Xah (Xau kR))
 refine kf b1 (Xae (Xad (Xac ?_)))
 iterate 2 refine kO hT hC ?_
 exact Vc.nil (Xah kR)
def Xs5 (r : Int) : AV := .sv (.int .i64 r)
def Xs4 (r : Int) : Xa2 := []
theorem Xu9 {p0 p1 r} (h : Xh2 p0 p1 = some r) : AC Try.prog 123 [.sv (.ints .i64 p0), .sv (.int .i64 p1)] [] (Xs5 r) (Xs4 r) := by
 refine Xaf hT Try.func123 rfl fun C hC => ?_
 unfold Xh2 at h
 refine Xac ?_
 refine kO hT hC ?_
 refine kN ?_
 iterate 5 refine kO hT hC ?_
 refine Vc.nil (Xap (Xac ?_))
 iterate 2 refine kO hT hC ?_
 refine Vc.nil ?_
 refine kS h ?_ ?_ <;> intro b1 h
 refine kt b1 (Xac ?_)
 refine kO hT hC ?_
 exact Vc.nil (Xah (Xau kR))
 refine kf b1 (Xae (Xad (Xac ?_)))
 iterate 2 refine kO hT hC ?_
 exact Vc.nil (Xah kR)
def Xpa (r : Int) : AV := .sv (.int .i64 r)
def Xo9 (r : Int) : Xa2 := []
theorem Xqp {p0 p1 r} (h : Xhm p0 p1 = some r) : AC Try.prog 79 [.agg [.sv (.int .i64 p0.Kind), .sv (.int .i64 p0.Mode), .sv (.int .i64 p0.Dx), .sv (.int .i64 p0.Dy), .sv (.ints .i64 p0.Levels)], .sv (.int .i64 p1)] [] (Xpa r) (Xo9 r) := by
 refine Xaf hT Try.func79 rfl fun C hC => ?_
 unfold Xhm at h
 refine Xac ?_
 iterate 2 refine kO hT hC ?_
 refine kN ?_
 iterate 3 refine kO hT hC ?_
 refine kC hC [] Try.call123 h (fun _ => Xu9) fun q1 h => ?_
 refine kO hT hC ?_
 refine Vc.nil (Xap (Xac ?_))
 iterate 2 refine kO hT hC ?_
 refine Vc.nil ?_
 refine kS h ?_ ?_ <;> intro b1 h
 refine kt b1 (Xac ?_)
 refine kO hT hC ?_
 exact Vc.nil (Xah (Xau kR))
 refine kf b1 (Xae (Xad (Xac ?_)))
 iterate 2 refine kO hT hC ?_
 exact Vc.nil (Xah kR)
def Xik (r : Int) : AV := .sv (.int .i64 r)
def Xij (r : Int) : Xa2 := []
theorem Xo7 {p0 p1 r} (h : Xev p0 p1 = some r) : AC Try.prog 33 [.sv (Xce.sv p0), .sv (.int .i64 p1)] [] (Xik r) (Xij r) := by
 refine Xaf hT Try.func33 rfl fun C hC => ?_
 unfold Xev at h
 refine Xac ?_
 refine kO hT hC ?_
 refine kN ?_
 iterate 5 refine kO hT hC ?_
 refine Vc.nil (Xap (Xac ?_))
 iterate 2 refine kO hT hC ?_
 refine Vc.nil ?_
 refine kS h ?_ ?_ <;> intro b1 h
 refine kt b1 (Xac ?_)
 refine kO hT hC ?_
 exact Vc.nil (Xah (Xau kR))
 refine kf b1 (Xae (Xad (Xap (Xac ?_))))
 refine kO hT hC ?_
 refine Vc.nil ?_
 refine kL [0,1,5] [] [_,_,_] [] ?_
 obtain ⟨o8, hl, h⟩ := Xa9 h
 refine Xhc (fun v3 => ([(1, .sv (.int .i64 v3.1)), (5, .sv (.int .i64 v3.2))], [])) (fun v6 => ([(1, .sv (.int .i64 v6)), (0, .any), (5, .any)], [])) (fun r => Xmy C T Try.f33.results.toList (Xik r) (Xij r)) hl ?_ ?_ ?_ ?_
 try dsimp only
 apply Xg7 hC []
 exact co
 rfl
 decide
 rfl
 intro v3 s hs
 have h := hs
 unfold Xc2 at h
 refine Xap (Xac ?_)
 iterate 4 refine kO hT hC ?_
 refine Vc.nil ?_
 refine kS h ?_ ?_ <;> intro b6 h
 refine kt b6 (Xae (Xad (Xap (Xal (Xac ?_)))))
 iterate 2 refine kO hT hC ?_
 refine kQ hT hC h fun h => ?_
 iterate 2 refine kO hT hC ?_
 refine kC hC [] Try.call79 h (fun _ => Xqp) fun q7 h => ?_
 refine kO hT hC ?_
 refine kN ?_
 iterate 2 refine kO hT hC ?_
 refine Vc.nil ?_
 refine kS h ?_ ?_ <;> intro b7 h
 refine kt b7 (Xac ?_)
 refine kO hT hC ?_
 refine Vc.nil (Xah (Xid (Xau ?_)))
 obtain rfl := kj h
 refine Xqt (Xqs ?_)
 exact Xea (Xhs.refl _) rfl trivial
 refine kf b7 (Xae (Xam (Xad (Xab ?_))))
 iterate 3 refine kO hT hC ?_
 exact Vc.nil kG
 exact kf b6 (Xan (Xav kb))
 intro v6 e
 subst e
 refine Xad (Xac ?_)
 iterate 2 refine kO hT hC ?_
 exact Vc.nil (Xah kR)
 intro r' σ' e hE
 subst e
 obtain rfl := kj h
 refine Xau ?_
 exact hE
def Xvg (r : Pic) : AV := .agg [.sv (.int .i64 r.Wide), .sv (.int .i64 r.High), .sv (.str r.Dots)]
def Xvf (r : Pic) : Xa2 := []
theorem Xnw {p0 r} (h : Xjc p0 = some r) : AC Try.prog 35 [.agg [.sv (.int .i64 p0.Wide), .sv (.int .i64 p0.High), .sv (.str p0.Dots)]] [] (Xvg r) (Xvf r) := by
 refine Xaf hT Try.func35 rfl fun C hC => ?_
 unfold Xjc at h
 refine Xac ?_
 iterate 2 refine kO hT hC ?_
 refine kN ?_
 refine kO hT hC ?_
 refine kN ?_
 iterate 4 refine kO hT hC ?_
 refine kN ?_
 iterate 4 refine kO hT hC ?_
 refine kN ?_
 iterate 4 refine kO hT hC ?_
 refine kN ?_
 iterate 2 refine kO hT hC ?_
 exact Vc.nil (Xah kR)
def Xtb (r : Rect) : AV := .agg [.sv (.int .i64 r.Left), .sv (.int .i64 r.Top), .sv (.int .i64 r.Wide), .sv (.int .i64 r.High)]
def Xta (r : Rect) : Xa2 := []
theorem Xlu {p0 r} (h : Xh5 p0 = some r) : AC Try.prog 36 [.agg [.sv (.int .i64 p0.Left), .sv (.int .i64 p0.Top), .sv (.int .i64 p0.Wide), .sv (.int .i64 p0.High)]] [] (Xtb r) (Xta r) := by
 refine Xaf hT Try.func36 rfl fun C hC => ?_
 unfold Xh5 at h
 refine Xac ?_
 iterate 2 refine kO hT hC ?_
 refine kN ?_
 refine kO hT hC ?_
 refine kN ?_
 iterate 4 refine kO hT hC ?_
 refine kN ?_
 iterate 4 refine kO hT hC ?_
 refine kN ?_
 iterate 4 refine kO hT hC ?_
 refine kN ?_
 iterate 4 refine kO hT hC ?_
 refine kN ?_
 iterate 2 refine kO hT hC ?_
 exact Vc.nil (Xah kR)
def Xs7 (r : Cond) : AV := .agg [.sv (.bool r.Key), .sv (.int .i64 r.Qp), .sv (.bool r.Large), .sv (.bool r.Exact)]
def Xs6 (r : Cond) : Xa2 := []
theorem Xlt {p0 r} (h : Xh3 p0 = some r) : AC Try.prog 37 [.agg [.sv (.bool p0.Key), .sv (.int .i64 p0.Qp), .sv (.bool p0.Large), .sv (.bool p0.Exact)]] [] (Xs7 r) (Xs6 r) := by
 refine Xaf hT Try.func37 rfl fun C hC => ?_
 unfold Xh3 at h
 refine Xac ?_
 iterate 2 refine kO hT hC ?_
 refine kN ?_
 refine kO hT hC ?_
 refine kN ?_
 iterate 4 refine kO hT hC ?_
 refine kN ?_
 iterate 4 refine kO hT hC ?_
 refine kN ?_
 iterate 4 refine kO hT hC ?_
 refine kN ?_
 iterate 4 refine kO hT hC ?_
 refine kN ?_
 iterate 2 refine kO hT hC ?_
 exact Vc.nil (Xah kR)
def Xs9 (r : (List Int)) : AV := .own 16
def Xs8 (r : (List Int)) : Xa2 := [(16, .ints .i64 r)]
theorem Xvd {p0 r} (h : Xh4 p0 = some r) : AC Try.prog 132 [.sv (.ints .i64 p0)] [] (Xs9 r) (Xs8 r) := by
 refine Xaf hT Try.func132 rfl fun C hC => ?_
 unfold Xh4 at h
 refine Xac ?_
 refine kO hT hC ?_
 refine kN ?_
 iterate 2 refine kO hT hC ?_
 obtain ⟨hq, h⟩ := Xaw h
 refine Xz6 hT hC rfl rfl rfl rfl ⟨hq.1, hq.2.1, hq.2.2, by decide⟩ ?_
 refine kO hT hC ?_
 refine Vc.nil (Xap (Xac ?_))
 refine kO hT hC ?_
 refine Vc.nil ?_
 refine kL [0,3,4] [112] [_,_,_] [_] ?_
 refine kX h (fun v2 => ([(4, .sv (.int .i64 v2.1))], [(112, some (.ints .i64 v2.2))])) (fun v4 => ([(0, .any), (4, .any)], [(112, some (.ints .i64 v4))])) (kW hC []) (fun v2 s h => ?_) fun v4 h => ?_
 unfold Xew at h
 refine Xap (Xac ?_)
 iterate 4 refine kO hT hC ?_
 refine Vc.nil ?_
 refine kS h ?_ ?_ <;> intro b3 h
 refine kt b3 (Xae (Xad (Xap (Xal (Xab ?_)))))
 iterate 4 refine kO hT hC ?_
 refine kQ hT hC h fun h => ?_
 refine kO hT hC ?_
 iterate 2 refine kQ hT hC h fun h => ?_
 refine Vc.nil (Xam (Xad (Xab ?_)))
 iterate 3 refine kO hT hC ?_
 exact Vc.nil kG
 exact kf b3 (Xan (Xav ku))
 refine Xad (Xac ?_)
 iterate 2 refine kO hT hC ?_
 refine Vc.nil (Xah ?_)
 obtain rfl := kj h
 exact Xea (τ := ⟨[(2, .own 16)], [(16, some (.ints .i64 v4))]⟩) (kW hC [(16, 112)]) rfl ⟨rfl, trivial⟩
def Xpd (r : Square) : AV := .agg [.sv (.int .i64 r.Kind), .sv (.int .i64 r.Mode), .sv (.int .i64 r.Dx), .sv (.int .i64 r.Dy), .own 16]
def Xpc (r : Square) : Xa2 := [(16, .ints .i64 r.Levels)]
theorem Xqq {p0 r} (h : Xhn p0 = some r) : AC Try.prog 87 [.agg [.sv (.int .i64 p0.Kind), .sv (.int .i64 p0.Mode), .sv (.int .i64 p0.Dx), .sv (.int .i64 p0.Dy), .sv (.ints .i64 p0.Levels)]] [] (Xpd r) (Xpc r) := by
 refine Xaf hT Try.func87 rfl fun C hC => ?_
 unfold Xhn at h
 refine Xac ?_
 iterate 2 refine kO hT hC ?_
 refine kN ?_
 refine kO hT hC ?_
 refine kN ?_
 iterate 4 refine kO hT hC ?_
 refine kN ?_
 iterate 4 refine kO hT hC ?_
 refine kN ?_
 iterate 4 refine kO hT hC ?_
 refine kN ?_
 iterate 4 refine kO hT hC ?_
 refine kN ?_
 iterate 2 refine kO hT hC ?_
 refine kC hC [(16, 288)] Try.call132 h (fun _ => Xvd) fun q1 h => ?_
 iterate 2 refine kO hT hC ?_
 refine kN ?_
 iterate 2 refine kO hT hC ?_
 refine Vc.nil (Xah ?_)
 obtain rfl := kj h
 exact Xea (τ := ⟨[(2, .ptr 2000000 0)], [(16, some (.ints .i64 q1)), (2000000, some (.box [.sv (.int .i64 p0.Kind), .sv (.int .i64 p0.Mode), .sv (.int .i64 p0.Dx), .sv (.int .i64 p0.Dy), .own 16]))]⟩) (kW hC [(16, 288), (2000000, 32)]) rfl ⟨rfl, trivial⟩
def Xny (r : (List Square)) : AV := .own 16
def Xnx (r : (List Square)) : Xa2 := [(16, .row Xce r)]
theorem Xgg {p0 r} (h : Xcq p0 = some r) : AC Try.prog 38 [.sv (Xce.sv p0)] [] (Xny r) (Xnx r) := by
 refine Xaf hT Try.func38 rfl fun C hC => ?_
 unfold Xcq at h
 refine Xac ?_
 refine kO hT hC ?_
 refine kN ?_
 iterate 2 refine kO hT hC ?_
 obtain ⟨hq, h⟩ := Xaw h
 refine Xz6 hT hC rfl rfl rfl rfl ⟨hq.1, hq.2.1, hq.2.2, by decide⟩ ?_
 refine kO hT hC ?_
 refine Vc.nil (Xap (Xac ?_))
 refine kO hT hC ?_
 refine Vc.nil ?_
 refine kL [0,3,4] [112] [_,_,_] [_] ?_
 refine kX h (fun v4 => ([(4, .sv (.int .i64 v4.1))], [(112, some (.row Xce v4.2))])) (fun v8 => ([(0, .any), (4, .any)], [(112, some (.row Xce v8))])) (kW hC []) (fun v4 s h => ?_) fun v8 h => ?_
 unfold Xc3 at h
 refine Xap (Xac ?_)
 iterate 4 refine kO hT hC ?_
 refine Vc.nil ?_
 refine kS h ?_ ?_ <;> intro b3 h
 refine kt b3 (Xae (Xad (Xap (Xal (Xab ?_)))))
 iterate 4 refine kO hT hC ?_
 refine kQ hT hC h fun h => ?_
 refine kO hT hC ?_
 refine kC hC [(16, 320)] Try.call87 h (fun _ => Xqq) fun q9 h => ?_
 refine kQ hT hC h fun h => ?_
 obtain ⟨hq, h⟩ := Xaw h
 obtain ⟨s10, hs, h⟩ := Xa9 h
 injection hs with hs
 refine Xz6 hT hC rfl rfl rfl rfl hq ?_
 rw [hs]
 refine Vc.nil (Xam (Xad (Xab ?_)))
 iterate 3 refine kO hT hC ?_
 exact Vc.nil kG
 exact kf b3 (Xan (Xav ku))
 refine Xad (Xac ?_)
 iterate 2 refine kO hT hC ?_
 refine Vc.nil (Xah ?_)
 obtain rfl := kj h
 exact Xea (τ := ⟨[(2, .own 16)], [(16, some (.row Xce v8))]⟩) (kW hC [(16, 112)]) rfl ⟨rfl, trivial⟩
def Xrn (r : Bool) : AV := .sv (.bool r)
def Xrm (r : Bool) : Xa2 := []
theorem Xk7 {p0 r} (h : Xfi p0 = some r) : AC Try.prog 80 [.sv (.int .i64 p0)] [] (Xrn r) (Xrm r) := by
 refine Xaf hT Try.func80 rfl fun C hC => ?_
 unfold Xfi at h
 refine Xac ?_
 refine kO hT hC ?_
 refine Vc.nil ?_
 refine kL [0,2] [] [_,_] [] ?_
 refine kA h (fun v1 => ([(2, .sv (.bool v1)), (0, .any)], [])) (fun v1 h => ?_) fun v1 h => ?_
 refine Xab ?_
 refine kO hT hC ?_
 refine kQ hT hC h fun h => ?_
 iterate 2 refine kO hT hC ?_
 refine kS h ?_ ?_ <;> intro b1 h
 refine kI hT hC b1 ?_
 refine kE hC b1 [] Try.call48 h (fun _ => Xak) fun q2 h => ?_
 refine kP hC true b1 ?_
 refine kO hT hC ?_
 exact Vc.nil kM
 iterate 2 refine kF hC b1 ?_
 refine kP hC false b1 ?_
 refine kO hT hC ?_
 exact Vc.nil kM
 exact Xah kR
def Xtv (r : Bool) : AV := .sv (.bool r)
def Xtu (r : Bool) : Xa2 := []
theorem Xiz {p0 r} (h : Xe8 p0 = some r) : AC Try.prog 124 [.agg [.sv (.bool p0.Key), .sv (.int .i64 p0.Qp), .sv (.bool p0.Large), .sv (.bool p0.Exact)]] [] (Xtv r) (Xtu r) := by
 refine Xaf hT Try.func124 rfl fun C hC => ?_
 unfold Xe8 at h
 refine Xac ?_
 iterate 2 refine kO hT hC ?_
 refine Vc.nil ?_
 refine kL [1,2] [16] [_,_] [_] ?_
 refine kA h (fun v1 => ([(2, .sv (.bool v1)), (1, .any)], [(16, none)])) (fun v1 h => ?_) fun v1 h => ?_
 refine Xab ?_
 iterate 2 refine kO hT hC ?_
 refine kC hC [] Try.call48 h (fun _ => Xak) fun q2 h => ?_
 refine kO hT hC ?_
 refine kS h ?_ ?_ <;> intro b1 h
 iterate 3 refine kI hT hC b1 ?_
 refine kS h ?_ ?_ <;> intro b2 h
 iterate 2 refine kI hT hC b2 ?_
 refine Xe1 hC rfl rfl rfl rfl b1 rfl rfl (b := true) b2 rfl rfl rfl trivial ?_
 refine kI hT hC b1 ?_
 refine kP hC true b1 ?_
 refine kO hT hC ?_
 exact Vc.nil kM
 iterate 2 refine kF hC b2 ?_
 refine Xe1 hC rfl rfl rfl rfl b1 rfl rfl (b := false) b2 rfl rfl rfl trivial ?_
 refine kI hT hC b1 ?_
 refine kP hC true b1 ?_
 refine kO hT hC ?_
 exact Vc.nil kM
 iterate 3 refine kF hC b1 ?_
 iterate 2 refine Xla hC rfl rfl rfl rfl rfl rfl ?_
 iterate 2 refine kF hC b1 ?_
 refine kP hC false b1 ?_
 refine kO hT hC ?_
 exact Vc.nil kM
 exact Xah kR
def Xk1 (r : Bool) : AV := .sv (.bool r)
def Xk0 (r : Bool) : Xa2 := []
theorem Xdo {p0 p1 p2 r} (h : Xb2 p0 p1 p2 = some r) : AC Try.prog 156 [.sv (.ints .i64 p0), .sv (.int .i64 p1), .sv (.int .i64 p2)] [] (Xk1 r) (Xk0 r) := by
 refine Xaf hT Try.func156 rfl fun C hC => ?_
 unfold Xb2 at h
 refine Xac ?_
 refine kO hT hC ?_
 refine Vc.nil (Xap (Xac ?_))
 iterate 4 refine kO hT hC ?_
 refine Vc.nil ?_
 refine kS h ?_ ?_ <;> intro b1 h
 refine kt b1 (Xac ?_)
 refine kO hT hC ?_
 exact Vc.nil (Xah (Xau kR))
 refine kf b1 (Xae (Xad (Xap (Xac ?_))))
 refine kO hT hC ?_
 refine Vc.nil ?_
 refine kL [0,1,2,7] [] [_,_,_,_] [] ?_
 obtain ⟨o8, hl, h⟩ := Xa9 h
 refine Xhc (fun v3 => ([(7, .sv (.int .i64 v3))], [])) (fun v6 => ([(0, .any), (1, .any), (2, .any), (7, .any)], [])) (fun r => Xmy C T Try.f156.results.toList (Xk1 r) (Xk0 r)) hl ?_ ?_ ?_ ?_
 apply Xg7 hC []
 exact co
 rfl
 decide
 rfl
 intro v3 s hs
 have h := hs
 unfold Xb4 at h
 refine Xap (Xac ?_)
 iterate 3 refine kO hT hC ?_
 refine Vc.nil ?_
 refine kS h ?_ ?_ <;> intro b6 h
 refine kt b6 (Xae (Xad (Xap (Xal (Xac ?_)))))
 iterate 2 refine kO hT hC ?_
 refine kQ hT hC h fun h => ?_
 iterate 4 refine kO hT hC ?_
 refine kC hC [] Try.call48 h (fun _ => Xak) fun q7 h => ?_
 refine kO hT hC ?_
 refine Vc.nil ?_
 refine kS h ?_ ?_ <;> intro b7 h
 refine kt b7 (Xac ?_)
 refine kO hT hC ?_
 refine Vc.nil (Xah (Xid (Xau ?_)))
 obtain rfl := kj h
 refine Xqt (Xqs ?_)
 exact Xea (Xhs.refl _) rfl trivial
 refine kf b7 (Xae (Xam (Xad (Xab ?_))))
 iterate 3 refine kO hT hC ?_
 exact Vc.nil kG
 exact kf b6 (Xan (Xav kb))
 intro v6 e
 subst e
 refine Xad (Xac ?_)
 refine kO hT hC ?_
 exact Vc.nil (Xah kR)
 intro r' σ' e hE
 subst e
 obtain rfl := kj h
 refine Xau ?_
 exact hE
def Xpp (r : Bool) : AV := .sv (.bool r)
def Xpo (r : Bool) : Xa2 := []
theorem Xj9 {p0 r} (h : Xei p0 = some r) : AC Try.prog 125 [.agg [.sv (.int .i64 p0.Kind), .sv (.int .i64 p0.Mode), .sv (.int .i64 p0.Dx), .sv (.int .i64 p0.Dy), .sv (.ints .i64 p0.Levels)]] [] (Xpp r) (Xpo r) := by
 refine Xaf hT Try.func125 rfl fun C hC => ?_
 unfold Xei at h
 refine Xac ?_
 iterate 2 refine kO hT hC ?_
 refine Vc.nil (Xap (Xac ?_))
 iterate 2 refine kO hT hC ?_
 refine Vc.nil (Xal (Xac ?_))
 iterate 2 refine kO hT hC ?_
 refine Vc.nil ?_
 refine kS h ?_ ?_ <;> intro b1 h
 refine kt b1 ?_
 refine kL [1,2] [16] [_,_] [_] ?_
 refine kA h (fun v1 => ([(2, .sv (.bool v1)), (1, .any)], [(16, none)])) (fun v1 h => ?_) fun v1 h => ?_
 refine Xab ?_
 iterate 4 refine kO hT hC ?_
 refine kS h ?_ ?_ <;> intro b2 h
 iterate 3 refine kI hT hC b2 ?_
 refine kP hC true b2 ?_
 refine kO hT hC ?_
 refine kS h ?_ ?_ <;> intro b3 h
 iterate 3 refine kI hT hC b3 ?_
 refine kP hC true b3 ?_
 refine kO hT hC ?_
 refine kS h ?_ ?_ <;> intro b4 h
 iterate 4 refine kI hT hC b4 ?_
 refine kP hC true b4 ?_
 refine kO hT hC ?_
 exact Vc.nil kM
 iterate 4 refine kF hC b4 ?_
 refine kP hC false b4 ?_
 refine kO hT hC ?_
 exact Vc.nil kM
 iterate 3 refine kF hC b3 ?_
 refine kP hC false b3 ?_
 refine kO hT hC ?_
 iterate 4 refine kF hC rfl ?_
 iterate 2 refine kO hT hC ?_
 exact Vc.nil kM
 iterate 3 refine kF hC b2 ?_
 refine kP hC false b2 ?_
 refine kO hT hC ?_
 iterate 3 refine kF hC rfl ?_
 iterate 2 refine kO hT hC ?_
 iterate 4 refine kF hC rfl ?_
 iterate 2 refine kO hT hC ?_
 exact Vc.nil kM
 exact Xah (Xid (Xau kR))
 refine kf b1 (Xac ?_)
 iterate 2 refine kO hT hC ?_
 refine Vc.nil ?_
 refine kS h ?_ ?_ <;> intro b5 h
 refine kt b5 ?_
 refine kL [1,2] [16] [_,_] [_] ?_
 refine kA h (fun v2 => ([(2, .sv (.bool v2)), (1, .any)], [(16, none)])) (fun v2 h => ?_) fun v2 h => ?_
 refine Xab ?_
 iterate 4 refine kO hT hC ?_
 refine kS h ?_ ?_ <;> intro b6 h
 iterate 2 refine kI hT hC b6 ?_
 refine kE hC b6 [] Try.call48 h (fun _ => Xak) fun q3 h => ?_
 refine kP hC true b6 ?_
 refine kO hT hC ?_
 refine kS h ?_ ?_ <;> intro b7 h
 iterate 2 refine kI hT hC b7 ?_
 refine kE hC b7 [] Try.call48 h (fun _ => Xak) fun q4 h => ?_
 refine kP hC true b7 ?_
 refine kO hT hC ?_
 refine kS h ?_ ?_ <;> intro b8 h
 iterate 2 refine kI hT hC b8 ?_
 refine kE hC b8 [] Try.call156 h (fun _ => Xdo) fun q5 h => ?_
 refine kP hC true b8 ?_
 refine kO hT hC ?_
 exact Vc.nil kM
 iterate 3 refine kF hC b8 ?_
 refine kP hC false b8 ?_
 refine kO hT hC ?_
 exact Vc.nil kM
 iterate 3 refine kF hC b7 ?_
 refine kP hC false b7 ?_
 refine kO hT hC ?_
 iterate 3 refine kF hC rfl ?_
 iterate 2 refine kO hT hC ?_
 exact Vc.nil kM
 iterate 3 refine kF hC b6 ?_
 refine kP hC false b6 ?_
 refine kO hT hC ?_
 iterate 3 refine kF hC rfl ?_
 iterate 2 refine kO hT hC ?_
 iterate 3 refine kF hC rfl ?_
 iterate 2 refine kO hT hC ?_
 exact Vc.nil kM
 exact Xah (Xid (Xau kR))
 refine kf b5 (Xac ?_)
 iterate 2 refine kO hT hC ?_
 refine Vc.nil ?_
 refine kS h ?_ ?_ <;> intro b9 h
 refine kt b9 ?_
 refine kL [1,2] [16] [_,_] [_] ?_
 refine kA h (fun v6 => ([(2, .sv (.bool v6)), (1, .any)], [(16, none)])) (fun v6 h => ?_) fun v6 h => ?_
 refine Xab ?_
 iterate 2 refine kO hT hC ?_
 refine kC hC [] Try.call48 h (fun _ => Xak) fun q7 h => ?_
 refine kO hT hC ?_
 refine kS h ?_ ?_ <;> intro b10 h
 iterate 3 refine kI hT hC b10 ?_
 refine kP hC true b10 ?_
 refine kO hT hC ?_
 refine kS h ?_ ?_ <;> intro b11 h
 iterate 3 refine kI hT hC b11 ?_
 refine kP hC true b11 ?_
 refine kO hT hC ?_
 refine kS h ?_ ?_ <;> intro b12 h
 iterate 2 refine kI hT hC b12 ?_
 refine kE hC b12 [] Try.call156 h (fun _ => Xdo) fun q8 h => ?_
 refine kP hC true b12 ?_
 refine kO hT hC ?_
 exact Vc.nil kM
 iterate 3 refine kF hC b12 ?_
 refine kP hC false b12 ?_
 refine kO hT hC ?_
 exact Vc.nil kM
 iterate 3 refine kF hC b11 ?_
 refine kP hC false b11 ?_
 refine kO hT hC ?_
 iterate 3 refine kF hC rfl ?_
 iterate 2 refine kO hT hC ?_
 exact Vc.nil kM
 iterate 3 refine kF hC b10 ?_
 refine kP hC false b10 ?_
 refine kO hT hC ?_
 iterate 3 refine kF hC rfl ?_
 iterate 2 refine kO hT hC ?_
 iterate 3 refine kF hC rfl ?_
 iterate 2 refine kO hT hC ?_
 exact Vc.nil kM
 exact Xah (Xid (Xau kR))
 refine kf b9 (Xae (Xam (Xad (Xac ?_))))
 refine kO hT hC ?_
 exact Vc.nil (Xah kR)
def Xl6 (r : Bool) : AV := .sv (.bool r)
def Xl5 (r : Bool) : Xa2 := []
theorem Xx8 {p0 p1 r} (h : Xjk p0 p1 = some r) : AC Try.prog 81 [.sv (Xce.sv p0), .agg [.sv (.bool p1.Key), .sv (.int .i64 p1.Qp), .sv (.bool p1.Large), .sv (.bool p1.Exact)]] [] (Xl6 r) (Xl5 r) := by
 refine Xaf hT Try.func81 rfl fun C hC => ?_
 unfold Xjk at h
 refine Xac ?_
 iterate 2 refine kO hT hC ?_
 refine Vc.nil (Xap ?_)
 refine kL [0,3] [48] [_,_] [_] ?_
 refine kA h (fun v1 => ([(14, .sv (.bool v1))], [])) (fun v1 h => ?_) fun v1 h => ?_
 refine Xab ?_
 refine kO hT hC ?_
 refine kC hC [] Try.call124 h (fun _ => Xiz) fun q2 h => ?_
 iterate 2 refine kO hT hC ?_
 refine kS h ?_ ?_ <;> intro b1 h
 iterate 2 refine kI hT hC (kn b1) ?_
 refine kE hC (kn b1) [] Try.call48 h (fun _ => Xak) fun q3 h => ?_
 refine kI hT hC (kn b1) ?_
 refine kP hC false (kn b1) ?_
 exact Vc.nil kM
 iterate 4 refine kF hC (kn b1) ?_
 refine kP hC true (kn b1) ?_
 exact Vc.nil kM
 refine kS h ?_ ?_ <;> intro b2 h
 refine kt b2 (Xac ?_)
 refine kO hT hC ?_
 exact Vc.nil (Xah (Xau kR))
 refine kf b2 (Xae (Xad (Xap (Xac ?_))))
 refine kO hT hC ?_
 refine Vc.nil ?_
 refine kL [0,3,5] [48] [_,_,_] [_] ?_
 obtain ⟨o14, hl, h⟩ := Xa9 h
 refine Xhc (fun v7 => ([(5, .sv (.int .i64 v7))], [])) (fun v11 => ([(0, .any), (3, .any), (5, .any)], [(48, none)])) (fun r => Xmy C T Try.f81.results.toList (Xl6 r) (Xl5 r)) hl ?_ ?_ ?_ ?_
 apply Xg7 hC []
 exact co
 rfl
 decide
 rfl
 intro v7 s hs
 have h := hs
 unfold Xdh at h
 refine Xap (Xac ?_)
 iterate 4 refine kO hT hC ?_
 refine Vc.nil ?_
 refine kS h ?_ ?_ <;> intro b11 h
 refine kt b11 (Xae (Xad (Xap (Xal ?_))))
 refine kL [0,3,5] [48] [_,_,_] [_] ?_
 refine kA h (fun v12 => ([(38, .sv (.bool v12))], [])) (fun v12 h => ?_) fun v12 h => ?_
 refine Xab ?_
 iterate 2 refine kO hT hC ?_
 refine kQ hT hC h fun h => ?_
 refine kO hT hC ?_
 refine kC hC [] Try.call125 h (fun _ => Xj9) fun q13 h => ?_
 iterate 2 refine kO hT hC ?_
 refine kS h ?_ ?_ <;> intro b12 h
 iterate 3 refine kI hT hC (kn b12) ?_
 refine kS h ?_ ?_ <;> intro b13 h
 iterate 2 refine kI hT hC b13 ?_
 refine kJ hT hC b13 h fun h => ?_
 iterate 3 refine kI hT hC b13 ?_
 refine Xe1 hC rfl rfl rfl rfl (kn b12) rfl rfl (b := true) b13 rfl rfl rfl trivial ?_
 refine kP hC false (kn b12) ?_
 exact Vc.nil kM
 iterate 6 refine kF hC b13 ?_
 refine Xe1 hC rfl rfl rfl rfl (kn b12) rfl rfl (b := false) b13 rfl rfl rfl trivial ?_
 refine kP hC false (kn b12) ?_
 exact Vc.nil kM
 iterate 3 refine kF hC (kn b12) ?_
 iterate 6 refine Xla hC rfl rfl rfl rfl rfl rfl ?_
 refine kF hC (kn b12) ?_
 refine kP hC true (kn b12) ?_
 exact Vc.nil kM
 refine kS h ?_ ?_ <;> intro b14 h
 refine kt b14 (Xac ?_)
 refine kO hT hC ?_
 refine Vc.nil (Xah (Xid (Xau ?_)))
 obtain rfl := kj h
 refine Xqt (Xqs ?_)
 exact Xea (Xhs.refl _) rfl trivial
 refine kf b14 (Xae (Xam (Xad (Xab ?_))))
 iterate 3 refine kO hT hC ?_
 exact Vc.nil kG
 exact kf b11 (Xan (Xav kb))
 intro v11 e
 subst e
 refine Xad (Xac ?_)
 refine kO hT hC ?_
 exact Vc.nil (Xah kR)
 intro r' σ' e hE
 subst e
 obtain rfl := kj h
 refine Xau ?_
 exact hE
def Xog (r : Bool) : AV := .sv (.bool r)
def Xof (r : Bool) : Xa2 := []
theorem Xgl {p0 p1 p2 p3 p4 r} (h : Xbh p0 p1 p2 p3 p4 = some r) : AC Try.prog 82 [.agg [.sv (.int .i64 p0.Wide), .sv (.int .i64 p0.High), .sv (.str p0.Dots)], .sv (.int .i64 p1), .sv (.int .i64 p2), .sv (.int .i64 p3), .sv (.int .i64 p4)] [] (Xog r) (Xof r) := by
 refine Xaf hT Try.func82 rfl fun C hC => ?_
 unfold Xbh at h
 refine Xac ?_
 iterate 2 refine kO hT hC ?_
 refine Vc.nil ?_
 refine kL [1,2,3,4,5,10] [80] [_,_,_,_,_,_] [_] ?_
 refine kA h (fun v1 => ([(10, .sv (.bool v1)), (1, .any), (2, .any), (3, .any), (4, .any), (5, .any)], [(80, none)])) (fun v1 h => ?_) fun v1 h => ?_
 refine Xab ?_
 refine kO hT hC ?_
 refine kC hC [] Try.call47 h (fun _ => Xhq) fun q2 h => ?_
 refine kO hT hC ?_
 refine kS h ?_ ?_ <;> intro b1 h
 iterate 3 refine kI hT hC b1 ?_
 refine kE hC b1 [] Try.call48 h (fun _ => Xak) fun q3 h => ?_
 refine kP hC true b1 ?_
 refine kO hT hC ?_
 refine kS h ?_ ?_ <;> intro b2 h
 iterate 3 refine kI hT hC b2 ?_
 refine kE hC b2 [] Try.call48 h (fun _ => Xak) fun q4 h => ?_
 refine kP hC true b2 ?_
 refine kO hT hC ?_
 refine kS h ?_ ?_ <;> intro b3 h
 iterate 5 refine kI hT hC b3 ?_
 refine kE hC b3 [] Try.call48 h (fun _ => Xak) fun q5 h => ?_
 refine kP hC true b3 ?_
 refine kO hT hC ?_
 refine kS h ?_ ?_ <;> intro b4 h
 iterate 5 refine kI hT hC b4 ?_
 refine kE hC b4 [] Try.call48 h (fun _ => Xak) fun q6 h => ?_
 refine kP hC true b4 ?_
 refine kO hT hC ?_
 exact Vc.nil kM
 iterate 6 refine kF hC b4 ?_
 refine kP hC false b4 ?_
 refine kO hT hC ?_
 exact Vc.nil kM
 iterate 6 refine kF hC b3 ?_
 refine kP hC false b3 ?_
 refine kO hT hC ?_
 iterate 6 refine kF hC rfl ?_
 iterate 2 refine kO hT hC ?_
 exact Vc.nil kM
 iterate 4 refine kF hC b2 ?_
 refine kP hC false b2 ?_
 refine kO hT hC ?_
 iterate 6 refine kF hC rfl ?_
 iterate 2 refine kO hT hC ?_
 iterate 6 refine kF hC rfl ?_
 iterate 2 refine kO hT hC ?_
 exact Vc.nil kM
 iterate 4 refine kF hC b1 ?_
 refine kP hC false b1 ?_
 refine kO hT hC ?_
 iterate 4 refine kF hC rfl ?_
 iterate 2 refine kO hT hC ?_
 iterate 6 refine kF hC rfl ?_
 iterate 2 refine kO hT hC ?_
 iterate 6 refine kF hC rfl ?_
 iterate 2 refine kO hT hC ?_
 exact Vc.nil kM
 exact Xah kR
def Xvm (r : (Pic × Bool)) : AV := .tup [.agg [.sv (.int .i64 r.1.Wide), .sv (.int .i64 r.1.High), .sv (.str r.1.Dots)], .sv (.bool r.2)]
def Xvl (r : (Pic × Bool)) : Xa2 := []
theorem Xx4 {p0 p1 r} (h : Xhx p0 p1 = some r) : AC Try.prog 83 [.agg [.sv (.int .i64 p0.Wide), .sv (.int .i64 p0.High), .sv (.str p0.Dots)], .agg [.sv (.int .i64 p1.Left), .sv (.int .i64 p1.Top), .sv (.int .i64 p1.Wide), .sv (.int .i64 p1.High)]] [] (Xvm r) (Xvl r) := by
 refine Xaf hT Try.func83 rfl fun C hC => ?_
 unfold Xhx at h
 refine Xac ?_
 iterate 4 refine kO hT hC ?_
 refine Vc.nil (Xap (Xac ?_))
 iterate 9 refine kO hT hC ?_
 refine kC hC [] Try.call82 h (fun _ => Xgl) fun q1 h => ?_
 refine kO hT hC ?_
 refine Vc.nil ?_
 refine kS h ?_ ?_ <;> intro b1 h
 refine kt b1 (Xac ?_)
 iterate 3 refine kO hT hC ?_
 exact Vc.nil (Xah (Xau kR))
 refine kf b1 (Xae (Xad (Xac ?_)))
 iterate 2 refine kO hT hC ?_
 refine Vc.nil (Xap (Xac ?_))
 iterate 3 refine kO hT hC ?_
 refine Vc.nil ?_
 refine kL [2,3,4,6,7] [32,48,64,320] [_,_,_,_,_] [_,_,_,_] ?_
 refine kX h (fun v3 => ([(7, .sv (.int .i64 v3.1))], [(320, some (.ints .u8 v3.2))])) (fun v5 => ([(2, .any), (7, .any)], [(320, some (.ints .u8 v5)), (32, none)])) (kW hC []) (fun v3 s h => ?_) fun v5 h => ?_
 unfold Xeh at h
 refine Xap (Xac ?_)
 iterate 7 refine kO hT hC ?_
 refine Vc.nil ?_
 refine kS h ?_ ?_ <;> intro b4 h
 refine kt b4 (Xae (Xad (Xap (Xal (Xab ?_)))))
 iterate 20 refine kO hT hC ?_
 refine kQ hT hC h fun h => ?_
 refine kT hT hC h fun h => ?_
 refine kO hT hC ?_
 refine Vc.nil (Xam (Xad (Xab ?_)))
 iterate 3 refine kO hT hC ?_
 refine Vc.nil ?_
 obtain rfl := kj h
 exact Yce (kW hC [(320, 848)])
 exact kf b4 (Xan (Xav ku))
 refine Xad (Xac ?_)
 iterate 9 refine kO hT hC ?_
 exact Vc.nil (Xah kR)
def Xra (r : ByteArray) : AV := .sv (.str r)
def Xq9 (r : ByteArray) : Xa2 := []
theorem Xub {p0 p1 r} (h : Xg5 p0 p1 = some r) : AC Try.prog 126 [.sv (.int .i64 p0), .sv (.int .u8 p1)] [] (Xra r) (Xq9 r) := by
 refine Xaf hT Try.func126 rfl fun C hC => ?_
 unfold Xg5 at h
 refine Xac ?_
 refine kO hT hC ?_
 refine kN ?_
 refine kO hT hC ?_
 obtain ⟨hq, h⟩ := Xaw h
 refine Xz6 hT hC rfl rfl rfl rfl ⟨hq.1, hq.2.1, hq.2.2, by decide⟩ ?_
 refine kO hT hC ?_
 refine Vc.nil (Xap (Xac ?_))
 refine kO hT hC ?_
 refine Vc.nil ?_
 refine kL [0,1,5,6] [128] [_,_,_,_] [_] ?_
 refine kX h (fun v2 => ([(6, .sv (.int .i64 v2.1))], [(128, some (.ints .u8 v2.2))])) (fun v4 => ([(0, .any), (1, .any), (6, .any)], [(128, some (.ints .u8 v4))])) (kW hC []) (fun v2 s h => ?_) fun v4 h => ?_
 unfold Xd5 at h
 refine Xap (Xac ?_)
 iterate 3 refine kO hT hC ?_
 refine Vc.nil ?_
 refine kS h ?_ ?_ <;> intro b3 h
 refine kt b3 (Xae (Xad (Xap (Xal (Xab ?_)))))
 iterate 3 refine kO hT hC ?_
 iterate 2 refine kQ hT hC h fun h => ?_
 refine Vc.nil (Xam (Xad (Xab ?_)))
 iterate 3 refine kO hT hC ?_
 exact Vc.nil kG
 exact kf b3 (Xan (Xav ku))
 refine Xad (Xac ?_)
 iterate 3 refine kO hT hC ?_
 exact Vc.nil (Xah kR)
def Xx7 (r : Pic) : AV := .agg [.sv (.int .i64 r.Wide), .sv (.int .i64 r.High), .sv (.str r.Dots)]
def Xx6 (r : Pic) : Xa2 := []
theorem Xzz {p0 p1 r} (h : Xkz p0 p1 = some r) : AC Try.prog 84 [.sv (.int .i64 p0), .sv (.int .i64 p1)] [] (Xx7 r) (Xx6 r) := by
 refine Xaf hT Try.func84 rfl fun C hC => ?_
 unfold Xkz at h
 refine Xac ?_
 refine kO hT hC ?_
 refine Vc.nil (Xap ?_)
 refine kL [0,1,4] [64] [_,_,_] [_] ?_
 refine kA h (fun v1 => ([(12, .sv (.bool v1))], [])) (fun v1 h => ?_) fun v1 h => ?_
 refine Xab ?_
 refine kO hT hC ?_
 refine kC hC [] Try.call48 h (fun _ => Xak) fun q2 h => ?_
 iterate 2 refine kO hT hC ?_
 refine kS h ?_ ?_ <;> intro b1 h
 refine kI hT hC (kn b1) ?_
 refine kE hC (kn b1) [] Try.call48 h (fun _ => Xak) fun q3 h => ?_
 refine kI hT hC (kn b1) ?_
 refine kP hC false (kn b1) ?_
 exact Vc.nil kM
 iterate 3 refine kF hC (kn b1) ?_
 refine kP hC true (kn b1) ?_
 exact Vc.nil kM
 refine kS h ?_ ?_ <;> intro b2 h
 refine kt b2 (Xac ?_)
 iterate 2 refine kO hT hC ?_
 exact Vc.nil (Xah (Xau kR))
 refine kf b2 (Xae (Xad (Xac ?_)))
 iterate 5 refine kO hT hC ?_
 refine kC hC [] Try.call126 h (fun _ => Xub) fun q4 h => ?_
 iterate 2 refine kO hT hC ?_
 exact Vc.nil (Xah kR)
def Xrl (r : Bool) : AV := .sv (.bool r)
def Xrk (r : Bool) : Xa2 := []
theorem Xk5 {p0 p1 p2 r} (h : Xfg p0 p1 p2 = some r) : AC Try.prog 127 [.agg [.sv (.int .i64 p0.Wide), .sv (.int .i64 p0.High), .sv (.str p0.Dots)], .sv (.int .i64 p1), .sv (.int .i64 p2)] [] (Xrl r) (Xrk r) := by
 refine Xaf hT Try.func127 rfl fun C hC => ?_
 unfold Xfg at h
 refine Xac ?_
 iterate 2 refine kO hT hC ?_
 refine Vc.nil ?_
 refine kL [1,2,3,6] [48] [_,_,_,_] [_] ?_
 refine kA h (fun v1 => ([(6, .sv (.bool v1)), (1, .any), (2, .any), (3, .any)], [(48, none)])) (fun v1 h => ?_) fun v1 h => ?_
 refine Xab ?_
 refine kO hT hC ?_
 refine kQ hT hC h fun h => ?_
 iterate 2 refine kO hT hC ?_
 refine kS h ?_ ?_ <;> intro b1 h
 refine kI hT hC b1 ?_
 refine kJ hT hC b1 h fun h => ?_
 refine kI hT hC b1 ?_
 refine kP hC true b1 ?_
 refine kO hT hC ?_
 refine kS h ?_ ?_ <;> intro b2 h
 iterate 3 refine kI hT hC b2 ?_
 refine kE hC b2 [] Try.call82 h (fun _ => Xgl) fun q2 h => ?_
 refine kP hC true b2 ?_
 refine kO hT hC ?_
 exact Vc.nil kM
 iterate 4 refine kF hC b2 ?_
 refine kP hC false b2 ?_
 refine kO hT hC ?_
 exact Vc.nil kM
 iterate 3 refine kF hC b1 ?_
 refine kP hC false b1 ?_
 refine kO hT hC ?_
 iterate 4 refine kF hC rfl ?_
 iterate 2 refine kO hT hC ?_
 exact Vc.nil kM
 exact Xah kR
def Xq0 (r : (Xf6 × Bool)) : AV := .tup [.agg [.own 16, .own 17, .sv (.int .i64 r.1.Corner)], .sv (.bool r.2)]
def Xqz (r : (Xf6 × Bool)) : Xa2 := [(16, .ints .i64 r.1.Above), (17, .ints .i64 r.1.Left)]
theorem Xtw {p0 p1 p2 r} (h : Xd0 p0 p1 p2 = some r) : AC Try.prog 128 [.agg [.sv (.int .i64 p0.Wide), .sv (.int .i64 p0.High), .sv (.str p0.Dots)], .sv (.int .i64 p1), .sv (.int .i64 p2)] [] (Xq0 r) (Xqz r) := by
 refine Xaf hT Try.func128 rfl fun C hC => ?_
 unfold Xd0 at h
 refine Xac ?_
 iterate 3 refine kO hT hC ?_
 refine Vc.nil (Xap (Xac ?_))
 iterate 3 refine kO hT hC ?_
 refine kC hC [] Try.call127 h (fun _ => Xk5) fun q1 h => ?_
 refine kO hT hC ?_
 refine Vc.nil ?_
 refine kS h ?_ ?_ <;> intro b1 h
 refine kt b1 (Xac ?_)
 iterate 3 refine kO hT hC ?_
 refine Vc.nil (Xah (Xau ?_))
 obtain rfl := kj h
 refine Xea (τ := ⟨[(6, .ptr 2000000 0), (7, .sv (.bool false))], [(16, some (.ints .i64 [])), (17, some (.ints .i64 [])), (2000000, some (.box [.own 16, .own 17, .sv (.int .i64 0)]))]⟩) ?_ rfl ⟨rfl, rfl, trivial⟩
 refine Xp3 hC 96 0 1025 (.ints .i64 []) rfl rfl rfl rfl rfl trivial ?_
 refine Xp3 hC 96 1 1026 (.ints .i64 []) rfl rfl rfl rfl rfl trivial ?_
 apply Xg7 hC [(16, 1025), (17, 1026), (2000000, 96)]
 exact co
 rfl
 decide
 rfl
 refine kf b1 (Xae (Xad (Xac ?_)))
 iterate 3 refine kO hT hC ?_
 refine Vc.nil (Xap (Xac ?_))
 refine kO hT hC ?_
 refine Vc.nil ?_
 refine kL [1,2,3,6,8,9] [48,96,128] [_,_,_,_,_,_] [_,_,_] ?_
 obtain ⟨v13, hl, h⟩ := Xa9 h
 refine Ydv (fun v7 => ([(9, .sv (.int .i64 v7.1))], [(128, some (.box [.own 1049, .own 1050, .sv (.int .i64 (-1))])), (1049, some (.ints .i64 v7.2.1)), (1050, some (.ints .i64 v7.2.2))])) (fun v13 => ([(9, .any)], [(128, some (.box [.own 1053, .own 1054, .sv (.int .i64 (-1))])), (1053, some (.ints .i64 v13.1)), (1054, some (.ints .i64 v13.2))])) hl ?_ ?_ ?_
 refine Xp3 hC 128 0 1055 (.ints .i64 []) rfl rfl rfl rfl rfl trivial ?_
 refine Xp3 hC 128 1 1056 (.ints .i64 []) rfl rfl rfl rfl rfl trivial ?_
 try dsimp only
 apply Xg7 hC [(1049, 1055), (1050, 1056)]
 exact co
 rfl
 decide
 rfl
 intro v7 s hs
 have h := hs
 unfold Xcb at h
 refine Xap (Xac ?_)
 iterate 2 refine kO hT hC ?_
 refine Vc.nil ?_
 refine kS h ?_ ?_ <;> intro b8 h
 refine kt b8 (Xae (Xad ?_))
 refine kL [1,2,3,6,8,9] [48,96,128,1049,1050] [_,_,_,_,_,_] [_,_,_,_,_] ?_
 refine kA h (fun v14 => ([], [(1049, some (.ints .i64 v14.1)), (1050, some (.ints .i64 v14.2))])) (fun v14 h => ?_) fun v14 h => ?_
 refine Xal ?_
 refine kL [1,2,3,6,8,9] [48,96,128,1049,1050] [_,_,_,_,_,_] [_,_,_,_,_] ?_
 refine kA h (fun v15 => ([], [(1049, some (.ints .i64 v15))])) (fun v15 h => ?_) fun v15 h => ?_
 refine Xac ?_
 iterate 2 refine kO hT hC ?_
 refine Vc.nil ?_
 refine kS h ?_ ?_ <;> intro b9 h
 refine kt b9 ?_
 refine Xdt hm ?_
 iterate 8 refine kO hT hC ?_
 refine kC hC [] Try.call49 h (fun _ => Xhp) fun q16 h => ?_
 refine kO hT hC ?_
 refine kT hT hC h fun h => ?_
 iterate 2 refine kO hT hC ?_
 refine kD ?_
 obtain rfl := kj h
 exact Xil (kW hC [(1049, 528)])
 exact kf b9 (Xae kM)
 refine Xac ?_
 iterate 2 refine kO hT hC ?_
 refine Vc.nil ?_
 refine kS h ?_ ?_ <;> intro b10 h
 refine kt b10 ?_
 refine Xdt hm ?_
 iterate 8 refine kO hT hC ?_
 refine kC hC [] Try.call49 h (fun _ => Xhp) fun q17 h => ?_
 refine kO hT hC ?_
 refine kT hT hC h fun h => ?_
 iterate 2 refine kO hT hC ?_
 refine kD (Xam ?_)
 obtain rfl := kj h
 exact Xil (kW hC [(1050, 752)])
 exact kf b10 (Xae (Xam kM))
 refine Xab ?_
 iterate 3 refine kO hT hC ?_
 exact Vc.nil kG
 refine kf b8 (Xan (Xav ?_))
 obtain rfl := kj h
 exact Ybq (Ygp (kW hC [(1053, 1049), (1054, 1050)]))
 refine Xad ?_
 refine kL [1,2,3,6,8] [48,96,128,1053,1054] [_,_,_,_,_] [_,_,_,_,_] ?_
 refine kA h (fun v19 => ([(1, .any), (2, .any), (3, .any)], [(128, some (.box [.own 1053, .own 1054, .sv (.int .i64 v19)])), (48, none)])) (fun v19 h => ?_) fun v19 h => ?_
 refine kL [1,2,3,6,8] [48,96,128,1053,1054] [_,_,_,_,_] [_,_,_,_,_] ?_
 refine kA h (fun v20 => ([(54, .sv (.bool v20))], [])) (fun v20 h => ?_) fun v20 h => ?_
 refine Xab ?_
 iterate 3 refine kO hT hC ?_
 refine kS h ?_ ?_ <;> intro b11 h
 iterate 2 refine kI hT hC b11 ?_
 refine kP hC true b11 ?_
 exact Vc.nil kM
 iterate 2 refine kF hC b11 ?_
 refine kP hC false b11 ?_
 exact Vc.nil kM
 refine kS h ?_ ?_ <;> intro b12 h
 refine kt b12 (Xab ?_)
 iterate 5 refine kO hT hC ?_
 refine kC hC [] Try.call49 h (fun _ => Xhp) fun q21 h => ?_
 iterate 2 refine kO hT hC ?_
 exact Vc.nil kM
 exact kf b12 (Xae kM)
 refine Xac ?_
 iterate 3 refine kO hT hC ?_
 refine Vc.nil (Xah ?_)
 obtain rfl := kj h
 exact Xea (τ := ⟨[(6, .ptr 2000000 0), (7, .sv (.bool true))], [(16, some (.ints .i64 v13.1)), (17, some (.ints .i64 v13.2)), (2000000, some (.box [.own 16, .own 17, .sv (.int .i64 v19)]))]⟩) (kW hC [(16, 1053), (17, 1054), (2000000, 96)]) rfl ⟨rfl, rfl, trivial⟩
def Xib (r : Int) : AV := .sv (.int .i64 r)
def Xia (r : Int) : Xa2 := []
theorem Xvs {p0 p1 r} (h : Xh8 p0 p1 = some r) : AC Try.prog 171 [.sv (.int .i64 p0), .sv (.int .i64 p1)] [] (Xib r) (Xia r) := by
 refine Xaf hT Try.func171 rfl fun C hC => ?_
 unfold Xh8 at h
 refine Xac ?_
 refine kO hT hC ?_
 refine Vc.nil (Xap ?_)
 refine kL [0,1] [] [_,_] [] ?_
 refine kA h (fun v1 => ([(25, .sv (.bool v1))], [])) (fun v1 h => ?_) fun v1 h => ?_
 refine Xab ?_
 iterate 3 refine kO hT hC ?_
 refine kS h ?_ ?_ <;> intro b1 h
 iterate 2 refine kI hT hC b1 ?_
 refine kP hC true b1 ?_
 refine kO hT hC ?_
 refine kS h ?_ ?_ <;> intro b2 h
 iterate 2 refine kF hC b2 ?_
 refine kP hC true b2 ?_
 refine kO hT hC ?_
 iterate 5 refine kF hC rfl ?_
 refine kO hT hC ?_
 exact Vc.nil kM
 iterate 2 refine kI hT hC b2 ?_
 refine kP hC false b2 ?_
 refine kO hT hC ?_
 refine kS h ?_ ?_ <;> intro b3 h
 iterate 5 refine kF hC b3 ?_
 refine kP hC true b3 ?_
 exact Vc.nil kM
 iterate 5 refine kI hT hC b3 ?_
 refine kP hC false b3 ?_
 exact Vc.nil kM
 iterate 2 refine kF hC b1 ?_
 refine kP hC false b1 ?_
 refine kO hT hC ?_
 iterate 2 refine kI hT hC rfl ?_
 iterate 2 refine kO hT hC ?_
 refine kS h ?_ ?_ <;> intro b4 h
 iterate 5 refine kF hC b4 ?_
 refine kP hC true b4 ?_
 exact Vc.nil kM
 iterate 5 refine kI hT hC b4 ?_
 refine kP hC false b4 ?_
 exact Vc.nil kM
 refine kS h ?_ ?_ <;> intro b5 h
 refine kt b5 (Xac ?_)
 refine kO hT hC ?_
 exact Vc.nil (Xah (Xau kR))
 refine kf b5 (Xae (Xad (Xac ?_)))
 refine kO hT hC ?_
 refine Vc.nil (Xap (Xac ?_))
 refine kO hT hC ?_
 refine Vc.nil ?_
 refine kL [0,1,5,6] [] [_,_,_,_] [] ?_
 obtain ⟨o48, hl, h⟩ := Xa9 h
 refine Xhc (fun v17 => ([(5, .sv (.int .i64 v17.1)), (6, .sv (.int .i64 v17.2))], [])) (fun v33 => ([(0, .any), (1, .any), (5, .any), (6, .any)], [])) (fun r => Xmy C T Try.f171.results.toList (Xib r) (Xia r)) hl ?_ ?_ ?_ ?_
 try dsimp only
 apply Xg7 hC []
 exact co
 rfl
 decide
 rfl
 intro v17 s hs
 have h := hs
 unfold Xf2 at h
 refine Xap (Xac ?_)
 iterate 5 refine kO hT hC ?_
 refine Vc.nil ?_
 refine kS h ?_ ?_ <;> intro b32 h
 refine kt b32 (Xae (Xad (Xap (Xal (Xac ?_)))))
 refine kO hT hC ?_
 refine Vc.nil ?_
 refine kL [0,1,5,6,7] [] [_,_,_,_,_] [] ?_
 obtain ⟨o47, hl, h⟩ := Xa9 h
 refine Xhc (fun v38 => ([(5, .sv (.int .i64 v38.1)), (7, .sv (.int .i64 v38.2))], [])) (fun v43 => ([(5, .sv (.int .i64 v43)), (7, .any)], [])) (fun r => Xmy C T Try.f171.results.toList (Xib r) (Xia r)) hl ?_ ?_ ?_ ?_
 try dsimp only
 apply Xg7 hC []
 exact co
 rfl
 decide
 rfl
 intro v38 s hs
 have h := hs
 unfold Xh9 at h
 refine Xap (Xac ?_)
 iterate 3 refine kO hT hC ?_
 refine Vc.nil ?_
 refine kS h ?_ ?_ <;> intro b41 h
 refine kt b41 (Xae (Xad ?_))
 refine kL [0,1,5,6,7] [] [_,_,_,_,_] [] ?_
 refine Yeq h (fun (v44 : Int) => ([(5, .sv (.int .i64 v44))], [])) (fun v44 h => ?_) (fun h => ?_)
 refine Xab ?_
 iterate 3 refine kO hT hC ?_
 exact Vc.nil kG
 refine Xal (Xac ?_)
 iterate 2 refine kO hT hC ?_
 refine Vc.nil ?_
 refine kL [0,1,5,6,7,8] [] [_,_,_,_,_,_] [] ?_
 refine kA h (fun v45 => ([(8, .sv (.int .i64 v45))], [])) (fun v45 h => ?_) fun v45 h => ?_
 refine Xac ?_
 refine kO hT hC ?_
 refine kQ hT hC h fun h => ?_
 refine kO hT hC ?_
 refine Vc.nil ?_
 refine kS h ?_ ?_ <;> intro b42 h
 refine kt b42 (Xab ?_)
 iterate 5 refine kO hT hC ?_
 exact Vc.nil kM
 exact kf b42 (Xae kM)
 refine Xap (Xac ?_)
 iterate 5 refine kO hT hC ?_
 refine kC hC [] Try.call48 h (fun _ => Xak) fun q46 h => ?_
 refine kO hT hC ?_
 refine Vc.nil ?_
 refine kS h ?_ ?_ <;> intro b43 h
 refine kt b43 (Xan (Xav (Ycz ?_)))
 exact Yf0 v38.1 h (kW hC [])
 refine kf b43 (Xae (Xad (Xap (Xac ?_))))
 iterate 3 refine kO hT hC ?_
 refine Vc.nil ?_
 refine kS h ?_ ?_ <;> intro b44 h
 refine kt b44 (Xac ?_)
 iterate 8 refine kO hT hC ?_
 refine Vc.nil (Xah (Xau (Xid (Yig ?_))))
 obtain rfl := kj h
 refine Xqt (Xqs ?_)
 exact Xea (Xhs.refl _) rfl trivial
 refine kf b44 (Xae (Xad (Xab ?_)))
 iterate 3 refine kO hT hC ?_
 refine Vc.nil (Xam ?_)
 exact Yf0 (Xaa .i64 (v38.1 + 1)) h (kW hC [])
 exact kf b41 (Xan (Xav kb))
 intro v43 e
 subst e
 refine Xam (Xad (Xab ?_))
 iterate 3 refine kO hT hC ?_
 exact Vc.nil kG
 intro r' σ' e hE
 subst e
 obtain rfl := kj h
 refine Xid (Xau (Xqt (Xqs ?_)))
 exact hE
 exact kf b32 (Xan (Xav kb))
 intro v33 e
 subst e
 refine Xad (Xac ?_)
 refine kO hT hC ?_
 exact Vc.nil (Xah kR)
 intro r' σ' e hE
 subst e
 obtain rfl := kj h
 refine Xau ?_
 exact hE
def Xoe (r : ((List Int) × Bool)) : AV := .tup [.own 16, .sv (.bool r.2)]
def Xod (r : ((List Int) × Bool)) : Xa2 := [(16, .ints .i64 r.1)]
theorem Xgk {p0 p1 r} (h : Xbs p0 p1 = some r) : AC Try.prog 157 [.sv (.int .i64 p0), .sv (.ints .i64 p1)] [] (Xoe r) (Xod r) := by
 refine Xaf hT Try.func157 rfl fun C hC => ?_
 unfold Xbs at h
 refine Xac ?_
 iterate 2 refine kO hT hC ?_
 refine Vc.nil (Xap ?_)
 refine kL [0,1] [] [_,_] [] ?_
 refine kA h (fun v1 => ([(21, .sv (.bool v1))], [])) (fun v1 h => ?_) fun v1 h => ?_
 refine Xab ?_
 iterate 3 refine kO hT hC ?_
 refine kS h ?_ ?_ <;> intro b1 h
 iterate 2 refine kI hT hC b1 ?_
 refine kP hC true b1 ?_
 refine kO hT hC ?_
 refine kS h ?_ ?_ <;> intro b2 h
 iterate 6 refine kF hC b2 ?_
 refine kP hC true b2 ?_
 exact Vc.nil kM
 iterate 6 refine kI hT hC b2 ?_
 refine kP hC false b2 ?_
 exact Vc.nil kM
 iterate 2 refine kF hC b1 ?_
 refine kP hC false b1 ?_
 refine kO hT hC ?_
 iterate 6 refine kI hT hC rfl ?_
 refine kO hT hC ?_
 exact Vc.nil kM
 refine kS h ?_ ?_ <;> intro b3 h
 refine kt b3 (Xac ?_)
 iterate 3 refine kO hT hC ?_
 refine Vc.nil (Xah (Xau ?_))
 obtain rfl := kj h
 exact Xea (τ := ⟨[(4, .own 16), (5, .sv (.bool false))], [(16, some (.ints .i64 ([] : List Int)))]⟩) (kW hC [(16, 352)]) rfl ⟨rfl, trivial⟩
 refine kf b3 (Xae (Xad (Xac ?_)))
 iterate 2 refine kO hT hC ?_
 obtain ⟨hq, h⟩ := Xaw h
 refine Xz6 hT hC rfl rfl rfl rfl ⟨hq.1, hq.2.1, hq.2.2, by decide⟩ ?_
 refine kO hT hC ?_
 refine Vc.nil (Xap (Xac ?_))
 refine kO hT hC ?_
 refine Vc.nil ?_
 refine kL [0,1,6,7] [400] [_,_,_,_] [_] ?_
 refine kX h (fun v4 => ([(7, .sv (.int .i64 v4.1))], [(400, some (.ints .i64 v4.2))])) (fun v7 => ([(0, .any), (1, .any), (7, .any)], [(400, some (.ints .i64 v7))])) (kW hC []) (fun v4 s h => ?_) fun v7 h => ?_
 unfold Xbd at h
 refine Xap (Xac ?_)
 iterate 5 refine kO hT hC ?_
 refine Vc.nil ?_
 refine kS h ?_ ?_ <;> intro b6 h
 refine kt b6 (Xae (Xad (Xap (Xal ?_))))
 refine Xdt hm ?_
 iterate 3 refine kO hT hC ?_
 refine kC hC [] Try.call171 h (fun _ => Xvs) fun q8 h => ?_
 iterate 2 refine kO hT hC ?_
 refine kQ hT hC h fun h => ?_
 refine kO hT hC ?_
 iterate 2 refine kQ hT hC h fun h => ?_
 refine kD (Xam (Xad (Xab ?_)))
 iterate 3 refine kO hT hC ?_
 exact Vc.nil kG
 exact kf b6 (Xan (Xav ku))
 refine Xad (Xac ?_)
 iterate 3 refine kO hT hC ?_
 refine Vc.nil (Xah ?_)
 obtain rfl := kj h
 exact Xea (τ := ⟨[(4, .own 16), (5, .sv (.bool true))], [(16, some (.ints .i64 v7))]⟩) (kW hC [(16, 400)]) rfl ⟨rfl, trivial⟩
def Xua (r : Int) : AV := .sv (.int .i64 r)
def Xt9 (r : Int) : Xa2 := []
theorem Xvt {p0 r} (h : Xd4 p0 = some r) : AC Try.prog 172 [.sv (.int .i64 p0)] [] (Xua r) (Xt9 r) := by
 refine Xaf hT Try.func172 rfl fun C hC => ?_
 unfold Xd4 at h
 refine Xac ?_
 refine kO hT hC ?_
 refine Vc.nil (Xap (Xac ?_))
 refine kO hT hC ?_
 refine kC hC [] Try.call48 h (fun _ => Xak) fun q1 h => ?_
 refine kO hT hC ?_
 refine Vc.nil ?_
 refine kS h ?_ ?_ <;> intro b1 h
 refine kt b1 (Xac ?_)
 refine kO hT hC ?_
 exact Vc.nil (Xah (Xau kR))
 refine kf b1 (Xae (Xad (Xac ?_)))
 refine kO hT hC ?_
 refine Vc.nil ?_
 refine kL [0,3] [] [_,_] [] ?_
 refine kA h (fun v2 => ([(3, .sv (.int .i64 v2))], [])) (fun v2 h => ?_) fun v2 h => ?_
 refine Xac ?_
 refine kO hT hC ?_
 refine kQ hT hC h fun h => ?_
 refine Vc.nil (Xal (Xac ?_))
 iterate 2 refine kO hT hC ?_
 refine Vc.nil ?_
 refine kS h ?_ ?_ <;> intro b2 h
 refine kt b2 (Xab ?_)
 refine kO hT hC ?_
 exact Vc.nil (Xam kM)
 refine kf b2 (Xac ?_)
 iterate 2 refine kO hT hC ?_
 refine Vc.nil ?_
 refine kS h ?_ ?_ <;> intro b3 h
 refine kt b3 (Xab ?_)
 refine kO hT hC ?_
 exact Vc.nil (Xam kM)
 refine kf b3 (Xac ?_)
 iterate 2 refine kO hT hC ?_
 refine Vc.nil ?_
 refine kS h ?_ ?_ <;> intro b4 h
 refine kt b4 (Xab ?_)
 refine kO hT hC ?_
 exact Vc.nil (Xam kM)
 refine kf b4 (Xac ?_)
 iterate 2 refine kO hT hC ?_
 refine Vc.nil ?_
 refine kS h ?_ ?_ <;> intro b5 h
 refine kt b5 (Xab ?_)
 refine kO hT hC ?_
 exact Vc.nil (Xam kM)
 refine kf b5 (Xac ?_)
 iterate 2 refine kO hT hC ?_
 refine Vc.nil ?_
 refine kS h ?_ ?_ <;> intro b6 h
 refine kt b6 (Xab ?_)
 refine kO hT hC ?_
 exact Vc.nil (Xam kM)
 exact kf b6 (Xae (Xam kM))
 refine Xap (Xac ?_)
 refine kO hT hC ?_
 refine Vc.nil ?_
 refine kL [0,3,4] [] [_,_,_] [] ?_
 refine kX h (fun v4 => ([(3, .sv (.int .i64 v4.1)), (4, .sv (.int .i64 v4.2))], [])) (fun v6 => ([(3, .sv (.int .i64 v6)), (0, .any), (4, .any)], [])) (kW hC []) (fun v4 s h => ?_) fun v6 h => ?_
 unfold Xe0 at h
 refine Xap (Xac ?_)
 iterate 2 refine kO hT hC ?_
 refine kQ hT hC h fun h => ?_
 refine kO hT hC ?_
 refine Vc.nil ?_
 refine kS h ?_ ?_ <;> intro b9 h
 refine kt b9 (Xae (Xad (Xap (Xal (Xab ?_)))))
 iterate 3 refine kO hT hC ?_
 refine Vc.nil (Xam (Xad (Xab ?_)))
 iterate 3 refine kO hT hC ?_
 exact Vc.nil kG
 exact kf b9 (Xan (Xav ku))
 refine Xad (Xac ?_)
 iterate 2 refine kO hT hC ?_
 exact Vc.nil (Xah kR)
def Xn9 (r : Int) : AV := .sv (.int .i64 r)
def Xn8 (r : Int) : Xa2 := []
theorem Xpm {p0 p1 r} (h : Xct p0 p1 = some r) : AC Try.prog 158 [.sv (.int .i64 p0), .sv (.int .i64 p1)] [] (Xn9 r) (Xn8 r) := by
 refine Xaf hT Try.func158 rfl fun C hC => ?_
 unfold Xct at h
 refine Xac ?_
 refine kO hT hC ?_
 refine Vc.nil (Xap (Xac ?_))
 refine kO hT hC ?_
 refine kC hC [] Try.call48 h (fun _ => Xak) fun q1 h => ?_
 refine kO hT hC ?_
 refine Vc.nil ?_
 refine kS h ?_ ?_ <;> intro b1 h
 refine kt b1 (Xac ?_)
 refine kO hT hC ?_
 exact Vc.nil (Xah (Xau kR))
 refine kf b1 (Xae (Xad (Xac ?_)))
 iterate 2 refine kO hT hC ?_
 refine kC hC [] Try.call172 h (fun _ => Xvt) fun q2 h => ?_
 iterate 2 refine kO hT hC ?_
 exact Vc.nil (Xah kR)
def Xt8 (r : Int) : AV := .sv (.int .i64 r)
def Xt7 (r : Int) : Xa2 := []
theorem Xl1 {p0 p1 r} (h : Xd3 p0 p1 = some r) : AC Try.prog 180 [.sv (.int .i64 p0), .sv (.int .i64 p1)] [] (Xt8 r) (Xt7 r) := by
 refine Xaf hT Try.func180 rfl fun C hC => ?_
 unfold Xd3 at h
 refine Xac ?_
 refine kO hT hC ?_
 refine Vc.nil (Xap ?_)
 refine kL [0,1] [] [_,_] [] ?_
 refine kA h (fun v1 => ([(14, .sv (.bool v1))], [])) (fun v1 h => ?_) fun v1 h => ?_
 refine Xab ?_
 refine kO hT hC ?_
 refine kC hC [] Try.call48 h (fun _ => Xak) fun q2 h => ?_
 iterate 2 refine kO hT hC ?_
 refine kS h ?_ ?_ <;> intro b1 h
 refine kI hT hC (kn b1) ?_
 refine kE hC (kn b1) [] Try.call48 h (fun _ => Xak) fun q3 h => ?_
 refine kI hT hC (kn b1) ?_
 refine kP hC false (kn b1) ?_
 exact Vc.nil kM
 iterate 3 refine kF hC (kn b1) ?_
 refine kP hC true (kn b1) ?_
 exact Vc.nil kM
 refine kS h ?_ ?_ <;> intro b2 h
 refine kt b2 (Xac ?_)
 refine kO hT hC ?_
 exact Vc.nil (Xah (Xau kR))
 refine kf b2 (Xae (Xad (Xac ?_)))
 refine kO hT hC ?_
 refine Vc.nil (Xap (Xac ?_))
 iterate 4 refine kO hT hC ?_
 refine Vc.nil ?_
 refine kL [5,6] [] [_,_] [] ?_
 refine kX h (fun v6 => ([(5, .sv (.int .i64 v6.1)), (6, .sv (.int .i64 v6.2))], [])) (fun v9 => ([(5, .sv (.int .i64 v9)), (6, .any)], [])) (kW hC []) (fun v6 s h => ?_) fun v9 h => ?_
 unfold Xez at h
 refine Xap (Xac ?_)
 iterate 2 refine kO hT hC ?_
 refine Vc.nil ?_
 refine kS h ?_ ?_ <;> intro b7 h
 refine kt b7 (Xae (Xad ?_))
 refine kL [5,6] [] [_,_] [] ?_
 refine kA h (fun v10 => ([(5, .sv (.int .i64 v10))], [])) (fun v10 h => ?_) fun v10 h => ?_
 refine Xal (Xac ?_)
 refine kO hT hC ?_
 refine kQ hT hC h fun h => ?_
 refine kO hT hC ?_
 refine Vc.nil ?_
 refine kS h ?_ ?_ <;> intro b8 h
 refine kt b8 (Xab ?_)
 iterate 3 refine kO hT hC ?_
 exact Vc.nil (Xam kM)
 exact kf b8 (Xae (Xam kM))
 refine Xab ?_
 refine kO hT hC ?_
 refine kQ hT hC h fun h => ?_
 refine kO hT hC ?_
 exact Vc.nil kG
 exact kf b7 (Xan (Xav ku))
 refine Xad (Xac ?_)
 iterate 2 refine kO hT hC ?_
 exact Vc.nil (Xah kR)
def Xue (r : Int) : AV := .sv (.int .i64 r)
def Xud (r : Int) : Xa2 := []
theorem Xvz {p0 p1 p2 r} (h : Xe9 p0 p1 p2 = some r) : AC Try.prog 179 [.sv (.ints .i64 p0), .sv (.int .i64 p1), .sv (.int .i64 p2)] [] (Xue r) (Xud r) := by
 refine Xaf hT Try.func179 rfl fun C hC => ?_
 unfold Xe9 at h
 refine Xac ?_
 refine kO hT hC ?_
 refine kN ?_
 refine kO hT hC ?_
 refine Vc.nil (Xap (Xac ?_))
 refine kO hT hC ?_
 refine Vc.nil ?_
 refine kL [0,1,2,7,8] [] [_,_,_,_,_] [] ?_
 refine kX h (fun v3 => ([(7, .sv (.int .i64 v3.1)), (8, .sv (.int .i64 v3.2))], [])) (fun v6 => ([(7, .sv (.int .i64 v6)), (0, .any), (1, .any), (2, .any), (8, .any)], [])) (kW hC []) (fun v3 s h => ?_) fun v6 h => ?_
 unfold Xb5 at h
 refine Xap (Xac ?_)
 iterate 2 refine kO hT hC ?_
 refine Vc.nil ?_
 refine kS h ?_ ?_ <;> intro b3 h
 refine kt b3 (Xae (Xad (Xap (Xal ?_))))
 refine Xdt hm ?_
 iterate 6 refine kO hT hC ?_
 refine kQ hT hC h fun h => ?_
 iterate 3 refine kO hT hC ?_
 refine kC hC [] Try.call180 h (fun _ => Xl1) fun q7 h => ?_
 iterate 3 refine kO hT hC ?_
 refine kD (Xam (Xad (Xab ?_)))
 iterate 3 refine kO hT hC ?_
 exact Vc.nil kG
 exact kf b3 (Xan (Xav ku))
 refine Xad (Xac ?_)
 iterate 2 refine kO hT hC ?_
 exact Vc.nil (Xah kR)
def Xri (r : (List Int)) : AV := .own 16
def Xrh (r : (List Int)) : Xa2 := [(16, .ints .i64 r)]
theorem Xuf {p0 r} (h : Xd6 p0 = some r) : AC Try.prog 173 [.sv (.ints .i64 p0)] [] (Xri r) (Xrh r) := by
 refine Xaf hT Try.func173 rfl fun C hC => ?_
 unfold Xd6 at h
 refine Xac ?_
 refine kO hT hC ?_
 refine kN ?_
 iterate 2 refine kO hT hC ?_
 refine Vc.nil (Xap (Xac ?_))
 refine kO hT hC ?_
 refine Vc.nil ?_
 refine kL [0,3,4] [176] [_,_,_] [_] ?_
 refine kX h (fun v10 => ([(4, .sv (.int .i64 v10.1))], [(176, some (.ints .i64 v10.2))])) (fun v20 => ([(0, .any), (4, .any)], [(176, some (.ints .i64 v20))])) (kW hC []) (fun v10 s h => ?_) fun v20 h => ?_
 unfold Xbn at h
 refine Xap (Xac ?_)
 iterate 2 refine kO hT hC ?_
 refine Vc.nil ?_
 refine kS h ?_ ?_ <;> intro b9 h
 refine kt b9 (Xae (Xad (Xap (Xal (Xac ?_)))))
 refine kO hT hC ?_
 refine Vc.nil ?_
 refine kL [0,3,4,5] [176] [_,_,_,_] [_] ?_
 refine kX h (fun v23 => ([(5, .sv (.int .i64 v23.1))], [(176, some (.ints .i64 v23.2))])) (fun v26 => ([(5, .any)], [(176, some (.ints .i64 v26))])) (kW hC []) (fun v23 s h => ?_) fun v26 h => ?_
 unfold Xbo at h
 refine Xap (Xac ?_)
 iterate 2 refine kO hT hC ?_
 refine Vc.nil ?_
 refine kS h ?_ ?_ <;> intro b12 h
 refine kt b12 (Xae (Xad (Xap (Xal (Xab ?_)))))
 iterate 4 refine kO hT hC ?_
 refine kC hC [] Try.call179 h (fun _ => Xvz) fun q27 h => ?_
 refine kO hT hC ?_
 refine kT hT hC h fun h => ?_
 refine kO hT hC ?_
 refine Vc.nil (Xam (Xad (Xab ?_)))
 iterate 3 refine kO hT hC ?_
 refine Vc.nil ?_
 obtain rfl := kj h
 exact Yce (kW hC [(176, 416)])
 exact kf b12 (Xan (Xav ku))
 refine Xam (Xad (Xab ?_))
 iterate 3 refine kO hT hC ?_
 exact Vc.nil kG
 exact kf b9 (Xan (Xav ku))
 refine Xad (Xac ?_)
 iterate 2 refine kO hT hC ?_
 refine Vc.nil (Xap (Xac ?_))
 refine kO hT hC ?_
 refine Vc.nil ?_
 refine kL [3,6,7] [176,432] [_,_,_] [_,_] ?_
 refine kX h (fun v60 => ([(7, .sv (.int .i64 v60.1))], [(432, some (.ints .i64 v60.2))])) (fun v91 => ([(3, .any), (7, .any)], [(432, some (.ints .i64 v91)), (176, none)])) (kW hC []) (fun v60 s h => ?_) fun v91 h => ?_
 unfold Xbe at h
 refine Xap (Xac ?_)
 iterate 2 refine kO hT hC ?_
 refine Vc.nil ?_
 refine kS h ?_ ?_ <;> intro b39 h
 refine kt b39 (Xae (Xad (Xap (Xal (Xac ?_)))))
 refine kO hT hC ?_
 refine Vc.nil ?_
 refine kL [3,6,7,8] [176,432] [_,_,_,_] [_,_] ?_
 refine kX h (fun v101 => ([(8, .sv (.int .i64 v101.1))], [(432, some (.ints .i64 v101.2))])) (fun v111 => ([(8, .any)], [(432, some (.ints .i64 v111))])) (kW hC []) (fun v101 s h => ?_) fun v111 h => ?_
 unfold Xbf at h
 refine Xap (Xac ?_)
 iterate 2 refine kO hT hC ?_
 refine Vc.nil ?_
 refine kS h ?_ ?_ <;> intro b48 h
 refine kt b48 (Xae (Xad (Xap (Xal (Xac ?_)))))
 refine kO hT hC ?_
 refine Vc.nil (Xap (Xac ?_))
 refine kO hT hC ?_
 refine Vc.nil ?_
 refine kL [3,6,7,8,9,10] [176,432] [_,_,_,_,_,_] [_,_] ?_
 refine kX h (fun v114 => ([(9, .sv (.int .i64 v114.1)), (10, .sv (.int .i64 v114.2))], [])) (fun v117 => ([(9, .sv (.int .i64 v117)), (10, .any)], [])) (kW hC []) (fun v114 s h => ?_) fun v117 h => ?_
 unfold Xbg at h
 refine Xap (Xac ?_)
 iterate 2 refine kO hT hC ?_
 refine Vc.nil ?_
 refine kS h ?_ ?_ <;> intro b51 h
 refine kt b51 (Xae (Xad (Xap (Xal ?_))))
 refine Xdt hm ?_
 iterate 3 refine kO hT hC ?_
 refine kC hC [] Try.call180 h (fun _ => Xl1) fun q118 h => ?_
 iterate 5 refine kO hT hC ?_
 iterate 2 refine kQ hT hC h fun h => ?_
 iterate 3 refine kO hT hC ?_
 refine kD (Xam (Xad (Xab ?_)))
 iterate 3 refine kO hT hC ?_
 exact Vc.nil kG
 exact kf b51 (Xan (Xav ku))
 refine Xad (Xab ?_)
 iterate 3 refine kO hT hC ?_
 refine kT hT hC h fun h => ?_
 refine kO hT hC ?_
 refine Vc.nil (Xam (Xad (Xab ?_)))
 iterate 3 refine kO hT hC ?_
 refine Vc.nil ?_
 obtain rfl := kj h
 exact Yce (kW hC [(432, 896)])
 exact kf b48 (Xan (Xav ku))
 refine Xam (Xad (Xab ?_))
 iterate 3 refine kO hT hC ?_
 exact Vc.nil kG
 exact kf b39 (Xan (Xav ku))
 refine Xad (Xac ?_)
 iterate 2 refine kO hT hC ?_
 refine Vc.nil (Xah ?_)
 obtain rfl := kj h
 exact Xea (τ := ⟨[(2, .own 16)], [(16, some (.ints .i64 v91))]⟩) (kW hC [(16, 432)]) rfl ⟨rfl, trivial⟩
def Xre (r : Int) : AV := .sv (.int .i64 r)
def Xrd (r : Int) : Xa2 := []
theorem Xf4 {p0 p1 r} (h : Xbm p0 p1 = some r) : AC Try.prog 174 [.sv (.int .i64 p0), .sv (.int .i64 p1)] [] (Xre r) (Xrd r) := by
 refine Xaf hT Try.func174 rfl fun C hC => ?_
 unfold Xbm at h
 refine Xac ?_
 refine kO hT hC ?_
 refine kN ?_
 iterate 2 refine kO hT hC ?_
 refine kQ hT hC h fun h => ?_
 refine kO hT hC ?_
 refine Vc.nil ?_
 refine kL [0,1,5] [] [_,_,_] [] ?_
 refine kA h (fun v1 => ([(5, .sv (.int .i64 v1)), (0, .any), (1, .any)], [])) (fun v1 h => ?_) fun v1 h => ?_
 refine Xac ?_
 iterate 2 refine kO hT hC ?_
 refine kQ hT hC h fun h => ?_
 refine kO hT hC ?_
 refine Vc.nil ?_
 refine kS h ?_ ?_ <;> intro b1 h
 refine kt b1 (Xab ?_)
 iterate 3 refine kO hT hC ?_
 exact Vc.nil kM
 exact kf b1 (Xae kM)
 refine Xac ?_
 iterate 2 refine kO hT hC ?_
 exact Vc.nil (Xah kR)
def Xn7 (r : (List Int)) : AV := .own 16
def Xn6 (r : (List Int)) : Xa2 := [(16, .ints .i64 r)]
theorem Xpi {p0 r} (h : Xcr p0 = some r) : AC Try.prog 159 [.sv (.ints .i64 p0)] [] (Xn7 r) (Xn6 r) := by
 refine Xaf hT Try.func159 rfl fun C hC => ?_
 unfold Xcr at h
 refine Xac ?_
 refine kO hT hC ?_
 refine Vc.nil (Xap (Xac ?_))
 refine kO hT hC ?_
 refine kC hC [] Try.call156 h (fun _ => Xdo) fun q1 h => ?_
 refine kO hT hC ?_
 refine Vc.nil ?_
 refine kS h ?_ ?_ <;> intro b1 h
 refine kt b1 (Xac ?_)
 iterate 2 refine kO hT hC ?_
 refine Vc.nil (Xah (Xau ?_))
 obtain rfl := kj h
 exact Xea (τ := ⟨[(2, .own 16)], [(16, some (.ints .i64 ([] : List Int)))]⟩) (kW hC [(16, 128)]) rfl ⟨rfl, trivial⟩
 refine kf b1 (Xae (Xad (Xac ?_)))
 refine kO hT hC ?_
 refine kC hC [(16, 160)] Try.call173 h (fun _ => Xuf) fun q2 h => ?_
 refine kO hT hC ?_
 refine Vc.nil (Xap (Xac ?_))
 refine kO hT hC ?_
 refine Vc.nil ?_
 refine kL [3,4] [160] [_,_] [_] ?_
 refine kX h (fun v5 => ([(4, .sv (.int .i64 v5.1))], [(160, some (.ints .i64 v5.2))])) (fun v8 => ([(4, .any)], [(160, some (.ints .i64 v8))])) (kW hC []) (fun v5 s h => ?_) fun v8 h => ?_
 unfold Xc6 at h
 refine Xap (Xac ?_)
 iterate 2 refine kO hT hC ?_
 refine Vc.nil ?_
 refine kS h ?_ ?_ <;> intro b4 h
 refine kt b4 (Xae (Xad (Xap (Xal (Xab ?_)))))
 iterate 4 refine kO hT hC ?_
 iterate 2 refine kQ hT hC h fun h => ?_
 refine kO hT hC ?_
 refine kC hC [] Try.call174 h (fun _ => Xf4) fun q9 h => ?_
 iterate 2 refine kQ hT hC h fun h => ?_
 refine Vc.nil (Xam (Xad (Xab ?_)))
 iterate 3 refine kO hT hC ?_
 exact Vc.nil kG
 exact kf b4 (Xan (Xav ku))
 refine Xad (Xac ?_)
 iterate 2 refine kO hT hC ?_
 refine Vc.nil (Xah ?_)
 obtain rfl := kj h
 exact Xea (τ := ⟨[(2, .own 16)], [(16, some (.ints .i64 v8))]⟩) (kW hC [(16, 160)]) rfl ⟨rfl, trivial⟩
def Xt4 (r : Int) : AV := .sv (.int .i64 r)
def Xt3 (r : Int) : Xa2 := []
theorem Xvp {p0 r} (h : Xgj p0 = some r) : AC Try.prog 181 [.sv (.int .i64 p0)] [] (Xt4 r) (Xt3 r) := by
 refine Xaf hT Try.func181 rfl fun C hC => ?_
 unfold Xgj at h
 refine Xac ?_
 refine kO hT hC ?_
 refine Vc.nil (Xap (Xac ?_))
 refine kO hT hC ?_
 refine kC hC [] Try.call48 h (fun _ => Xak) fun q1 h => ?_
 refine kO hT hC ?_
 refine Vc.nil ?_
 refine kS h ?_ ?_ <;> intro b1 h
 refine kt b1 (Xac ?_)
 refine kO hT hC ?_
 exact Vc.nil (Xah (Xau kR))
 refine kf b1 (Xae (Xad (Xac ?_)))
 refine kO hT hC ?_
 iterate 2 refine kQ hT hC h fun h => ?_
 refine kO hT hC ?_
 refine kN ?_
 refine kO hT hC ?_
 iterate 2 refine kQ hT hC h fun h => ?_
 refine kO hT hC ?_
 refine Vc.nil (Xap ?_)
 refine kL [3,4] [] [_,_] [] ?_
 refine kA h (fun v2 => ([(19, .sv (.bool v2))], [])) (fun v2 h => ?_) fun v2 h => ?_
 refine Xab ?_
 iterate 3 refine kO hT hC ?_
 refine kS h ?_ ?_ <;> intro b2 h
 iterate 2 refine kI hT hC b2 ?_
 refine kP hC true b2 ?_
 exact Vc.nil kM
 iterate 2 refine kF hC b2 ?_
 refine kP hC false b2 ?_
 exact Vc.nil kM
 refine kS h ?_ ?_ <;> intro b3 h
 refine kt b3 (Xac ?_)
 refine kO hT hC ?_
 exact Vc.nil (Xah (Xau kR))
 refine kf b3 (Xae (Xad (Xap ?_)))
 refine kL [3,4] [] [_,_] [] ?_
 refine kA h (fun v3 => ([(25, .sv (.bool v3)), (3, .any), (4, .any)], [])) (fun v3 h => ?_) fun v3 h => ?_
 refine Xab ?_
 iterate 3 refine kO hT hC ?_
 refine kS h ?_ ?_ <;> intro b4 h
 iterate 2 refine kI hT hC b4 ?_
 refine kP hC true b4 ?_
 exact Vc.nil kM
 iterate 2 refine kF hC b4 ?_
 refine kP hC false b4 ?_
 exact Vc.nil kM
 refine kS h ?_ ?_ <;> intro b5 h
 refine kt b5 (Xac ?_)
 refine kO hT hC ?_
 exact Vc.nil (Xah (Xau kR))
 refine kf b5 (Xae (Xad (Xac ?_)))
 refine kO hT hC ?_
 exact Vc.nil (Xah kR)
def Xrc (r : Int) : AV := .sv (.int .i64 r)
def Xrb (r : Int) : Xa2 := []
theorem Xc8 {p0 p1 p2 p3 r} (h : Xa6 p0 p1 p2 p3 = some r) : AC Try.prog 182 [.sv (.int .i64 p0), .sv (.int .i64 p1), .sv (.int .i64 p2), .sv (.int .i64 p3)] [] (Xrc r) (Xrb r) := by
 refine Xaf hT Try.func182 rfl fun C hC => ?_
 unfold Xa6 at h
 refine Xac ?_
 refine kO hT hC ?_
 refine Vc.nil (Xap (Xac ?_))
 refine kO hT hC ?_
 refine Vc.nil (Xal (Xac ?_))
 iterate 2 refine kO hT hC ?_
 refine Vc.nil ?_
 refine kS h ?_ ?_ <;> intro b1 h
 refine kt b1 (Xac ?_)
 iterate 2 refine kO hT hC ?_
 exact Vc.nil (Xah (Xid (Xau kR)))
 refine kf b1 (Xac ?_)
 iterate 2 refine kO hT hC ?_
 refine Vc.nil ?_
 refine kS h ?_ ?_ <;> intro b2 h
 refine kt b2 (Xac ?_)
 iterate 2 refine kO hT hC ?_
 exact Vc.nil (Xah (Xid (Xau kR)))
 refine kf b2 (Xae (Xam (Xad (Xac ?_))))
 iterate 2 refine kO hT hC ?_
 exact Vc.nil (Xah kR)
def Xq7 (r : Int) : AV := .sv (.int .i64 r)
def Xq6 (r : Int) : Xa2 := []
theorem Xt5 {p0 p1 r} (h : Xd2 p0 p1 = some r) : AC Try.prog 175 [.sv (.int .i64 p0), .sv (.int .i64 p1)] [] (Xq7 r) (Xq6 r) := by
 refine Xaf hT Try.func175 rfl fun C hC => ?_
 unfold Xd2 at h
 refine Xac ?_
 refine kO hT hC ?_
 refine kN ?_
 refine kO hT hC ?_
 refine kC hC [] Try.call181 h (fun _ => Xvp) fun q1 h => ?_
 refine kO hT hC ?_
 refine Vc.nil (Xap ?_)
 refine kL [0,5] [] [_,_] [] ?_
 refine kA h (fun v2 => ([(16, .sv (.bool v2))], [])) (fun v2 h => ?_) fun v2 h => ?_
 refine Xab ?_
 refine kO hT hC ?_
 refine kC hC [] Try.call48 h (fun _ => Xak) fun q3 h => ?_
 iterate 2 refine kO hT hC ?_
 refine kS h ?_ ?_ <;> intro b1 h
 iterate 2 refine kI hT hC (kn b1) ?_
 refine kP hC false (kn b1) ?_
 exact Vc.nil kM
 iterate 2 refine kF hC (kn b1) ?_
 refine kP hC true (kn b1) ?_
 exact Vc.nil kM
 refine kS h ?_ ?_ <;> intro b2 h
 refine kt b2 (Xac ?_)
 refine kO hT hC ?_
 exact Vc.nil (Xah (Xau kR))
 refine kf b2 (Xae (Xad (Xac ?_)))
 refine kO hT hC ?_
 refine Vc.nil ?_
 refine kL [0,5,6] [] [_,_,_] [] ?_
 refine kA h (fun v4 => ([(6, .sv (.int .i64 v4)), (5, .any)], [])) (fun v4 h => ?_) fun v4 h => ?_
 refine Xac ?_
 refine kO hT hC ?_
 refine kQ hT hC h fun h => ?_
 refine Vc.nil (Xal (Xac ?_))
 iterate 2 refine kO hT hC ?_
 refine Vc.nil ?_
 refine kS h ?_ ?_ <;> intro b3 h
 refine kt b3 (Xab ?_)
 refine kO hT hC ?_
 refine kC hC [] Try.call182 h (fun _ => Xc8) fun q5 h => ?_
 refine kO hT hC ?_
 exact Vc.nil (Xam kM)
 refine kf b3 (Xac ?_)
 iterate 2 refine kO hT hC ?_
 refine Vc.nil ?_
 refine kS h ?_ ?_ <;> intro b4 h
 refine kt b4 (Xab ?_)
 refine kO hT hC ?_
 refine kC hC [] Try.call182 h (fun _ => Xc8) fun q6 h => ?_
 refine kO hT hC ?_
 exact Vc.nil (Xam kM)
 refine kf b4 (Xac ?_)
 iterate 2 refine kO hT hC ?_
 refine Vc.nil ?_
 refine kS h ?_ ?_ <;> intro b5 h
 refine kt b5 (Xab ?_)
 refine kO hT hC ?_
 refine kC hC [] Try.call182 h (fun _ => Xc8) fun q7 h => ?_
 refine kO hT hC ?_
 exact Vc.nil (Xam kM)
 refine kf b5 (Xac ?_)
 iterate 2 refine kO hT hC ?_
 refine Vc.nil ?_
 refine kS h ?_ ?_ <;> intro b6 h
 refine kt b6 (Xab ?_)
 refine kO hT hC ?_
 refine kC hC [] Try.call182 h (fun _ => Xc8) fun q8 h => ?_
 refine kO hT hC ?_
 exact Vc.nil (Xam kM)
 refine kf b6 (Xac ?_)
 iterate 2 refine kO hT hC ?_
 refine Vc.nil ?_
 refine kS h ?_ ?_ <;> intro b7 h
 refine kt b7 (Xab ?_)
 refine kO hT hC ?_
 refine kC hC [] Try.call182 h (fun _ => Xc8) fun q9 h => ?_
 refine kO hT hC ?_
 exact Vc.nil (Xam kM)
 refine kf b7 (Xac ?_)
 iterate 2 refine kO hT hC ?_
 refine Vc.nil ?_
 refine kS h ?_ ?_ <;> intro b8 h
 refine kt b8 (Xab ?_)
 refine kO hT hC ?_
 refine kC hC [] Try.call182 h (fun _ => Xc8) fun q10 h => ?_
 refine kO hT hC ?_
 exact Vc.nil (Xam kM)
 exact kf b8 (Xae (Xam kM))
 refine Xap (Xac ?_)
 refine kO hT hC ?_
 refine Vc.nil ?_
 refine kL [0,6,7] [] [_,_,_] [] ?_
 refine kX h (fun v12 => ([(6, .sv (.int .i64 v12.1)), (7, .sv (.int .i64 v12.2))], [])) (fun v14 => ([(6, .sv (.int .i64 v14)), (0, .any), (7, .any)], [])) (kW hC []) (fun v12 s h => ?_) fun v14 h => ?_
 unfold Xcc at h
 refine Xap (Xac ?_)
 iterate 2 refine kO hT hC ?_
 refine kQ hT hC h fun h => ?_
 refine kO hT hC ?_
 refine Vc.nil ?_
 refine kS h ?_ ?_ <;> intro b11 h
 refine kt b11 (Xae (Xad (Xap (Xal (Xab ?_)))))
 iterate 3 refine kO hT hC ?_
 refine Vc.nil (Xam (Xad (Xab ?_)))
 iterate 3 refine kO hT hC ?_
 exact Vc.nil kG
 exact kf b11 (Xan (Xav ku))
 refine Xad (Xac ?_)
 iterate 2 refine kO hT hC ?_
 exact Vc.nil (Xah kR)
def Xob (r : Int) : AV := .sv (.int .i64 r)
def Xoa (r : Int) : Xa2 := []
theorem Xpn {p0 p1 p2 r} (h : Xcu p0 p1 p2 = some r) : AC Try.prog 160 [.sv (.int .i64 p0), .sv (.int .i64 p1), .sv (.int .i64 p2)] [] (Xob r) (Xoa r) := by
 refine Xaf hT Try.func160 rfl fun C hC => ?_
 unfold Xcu at h
 refine Xac ?_
 refine kO hT hC ?_
 refine Vc.nil (Xap (Xac ?_))
 refine kO hT hC ?_
 refine kC hC [] Try.call48 h (fun _ => Xak) fun q1 h => ?_
 refine kO hT hC ?_
 refine Vc.nil ?_
 refine kS h ?_ ?_ <;> intro b1 h
 refine kt b1 (Xac ?_)
 refine kO hT hC ?_
 exact Vc.nil (Xah (Xau kR))
 refine kf b1 (Xae (Xad (Xac ?_)))
 iterate 3 refine kO hT hC ?_
 refine kC hC [] Try.call175 h (fun _ => Xt5) fun q2 h => ?_
 iterate 2 refine kO hT hC ?_
 exact Vc.nil (Xah kR)
def Xpt (r : (List Int)) : AV := .own 16
def Xps (r : (List Int)) : Xa2 := [(16, .ints .i64 r)]
theorem Xkb {p0 r} (h : Xcl p0 = some r) : AC Try.prog 177 [.sv (.ints .i64 p0)] [] (Xpt r) (Xps r) := by
 refine Xaf hT Try.func177 rfl fun C hC => ?_
 unfold Xcl at h
 refine Xac ?_
 refine kO hT hC ?_
 refine kN ?_
 iterate 2 refine kO hT hC ?_
 refine Vc.nil (Xap (Xac ?_))
 refine kO hT hC ?_
 refine Vc.nil ?_
 refine kL [0,3,4] [208] [_,_,_] [_] ?_
 refine kX h (fun v4 => ([(4, .sv (.int .i64 v4.1))], [(208, some (.ints .i64 v4.2))])) (fun v8 => ([(0, .any), (4, .any)], [(208, some (.ints .i64 v8))])) (kW hC []) (fun v4 s h => ?_) fun v8 h => ?_
 unfold Xbl at h
 refine Xap (Xac ?_)
 iterate 2 refine kO hT hC ?_
 refine Vc.nil ?_
 refine kS h ?_ ?_ <;> intro b3 h
 refine kt b3 (Xae (Xad (Xap (Xal (Xac ?_)))))
 iterate 3 refine kO hT hC ?_
 refine kQ hT hC h fun h => ?_
 iterate 2 refine kO hT hC ?_
 refine kN ?_
 iterate 4 refine kO hT hC ?_
 refine kQ hT hC h fun h => ?_
 iterate 2 refine kO hT hC ?_
 refine kN ?_
 iterate 4 refine kO hT hC ?_
 refine kQ hT hC h fun h => ?_
 iterate 2 refine kO hT hC ?_
 refine kN ?_
 iterate 4 refine kO hT hC ?_
 refine kQ hT hC h fun h => ?_
 iterate 2 refine kO hT hC ?_
 refine kN ?_
 iterate 4 refine kO hT hC ?_
 refine kN ?_
 iterate 4 refine kO hT hC ?_
 refine kN ?_
 refine kO hT hC ?_
 refine kC hC [] Try.call174 h (fun _ => Xf4) fun q9 h => ?_
 iterate 3 refine kO hT hC ?_
 refine kN ?_
 iterate 2 refine kO hT hC ?_
 refine kC hC [] Try.call174 h (fun _ => Xf4) fun q10 h => ?_
 iterate 2 refine kO hT hC ?_
 refine Vc.nil (Xab ?_)
 iterate 14 refine kO hT hC ?_
 refine kT hT hC h fun h => ?_
 refine kO hT hC ?_
 refine Vc.nil (Xam (Xad (Xab ?_)))
 iterate 3 refine kO hT hC ?_
 refine Vc.nil ?_
 obtain rfl := kj h
 exact Yce (kW hC [(208, 1104)])
 exact kf b3 (Xan (Xav ku))
 refine Xad (Xac ?_)
 iterate 2 refine kO hT hC ?_
 refine Vc.nil (Xah ?_)
 obtain rfl := kj h
 exact Xea (τ := ⟨[(2, .own 16)], [(16, some (.ints .i64 v8))]⟩) (kW hC [(16, 208)]) rfl ⟨rfl, trivial⟩
def Xrg (r : (List Int)) : AV := .own 16
def Xrf (r : (List Int)) : Xa2 := [(16, .ints .i64 r)]
theorem Xk2 {p0 r} (h : Xdd p0 = some r) : AC Try.prog 176 [.sv (.ints .i64 p0)] [] (Xrg r) (Xrf r) := by
 refine Xaf hT Try.func176 rfl fun C hC => ?_
 unfold Xdd at h
 refine Xac ?_
 refine kO hT hC ?_
 refine kN ?_
 obtain ⟨hq, h⟩ := Xaw h
 refine Xz6 hT hC rfl rfl rfl rfl ⟨hq.1, hq.2.1, hq.2.2, by decide⟩ ?_
 refine kO hT hC ?_
 refine Vc.nil (Xap (Xac ?_))
 refine kO hT hC ?_
 refine Vc.nil ?_
 refine kL [0,3,4] [80] [_,_,_] [_] ?_
 refine kX h (fun v2 => ([(4, .sv (.int .i64 v2.1))], [(80, some (.ints .i64 v2.2))])) (fun v4 => ([(0, .any), (4, .any)], [(80, some (.ints .i64 v4))])) (kW hC []) (fun v2 s h => ?_) fun v4 h => ?_
 unfold Xb1 at h
 refine Xap (Xac ?_)
 iterate 2 refine kO hT hC ?_
 refine Vc.nil ?_
 refine kS h ?_ ?_ <;> intro b3 h
 refine kt b3 (Xae (Xad (Xap (Xal (Xab ?_)))))
 iterate 2 refine kO hT hC ?_
 refine kQ hT hC h fun h => ?_
 iterate 2 refine kO hT hC ?_
 refine kQ hT hC h fun h => ?_
 iterate 3 refine kO hT hC ?_
 refine kQ hT hC h fun h => ?_
 refine kO hT hC ?_
 iterate 2 refine kQ hT hC h fun h => ?_
 refine Vc.nil (Xam (Xad (Xab ?_)))
 iterate 3 refine kO hT hC ?_
 exact Vc.nil kG
 exact kf b3 (Xan (Xav ku))
 refine Xad (Xac ?_)
 iterate 2 refine kO hT hC ?_
 refine Vc.nil (Xah ?_)
 obtain rfl := kj h
 exact Xea (τ := ⟨[(2, .own 16)], [(16, some (.ints .i64 v4))]⟩) (kW hC [(16, 80)]) rfl ⟨rfl, trivial⟩
def Xpl (r : (List Int)) : AV := .own 16
def Xpk (r : (List Int)) : Xa2 := [(16, .ints .i64 r)]
theorem Xq3 {p0 r} (h : Xdg p0 = some r) : AC Try.prog 161 [.sv (.ints .i64 p0)] [] (Xpl r) (Xpk r) := by
 refine Xaf hT Try.func161 rfl fun C hC => ?_
 unfold Xdg at h
 refine Xac ?_
 refine kO hT hC ?_
 refine Vc.nil (Xap (Xac ?_))
 refine kO hT hC ?_
 refine kC hC [] Try.call156 h (fun _ => Xdo) fun q1 h => ?_
 refine kO hT hC ?_
 refine Vc.nil ?_
 refine kS h ?_ ?_ <;> intro b1 h
 refine kt b1 (Xac ?_)
 iterate 2 refine kO hT hC ?_
 refine Vc.nil (Xah (Xau ?_))
 obtain rfl := kj h
 exact Xea (τ := ⟨[(2, .own 16)], [(16, some (.ints .i64 ([] : List Int)))]⟩) (kW hC [(16, 128)]) rfl ⟨rfl, trivial⟩
 refine kf b1 (Xae (Xad (Xac ?_)))
 refine kO hT hC ?_
 refine kC hC [(16, 160)] Try.call177 h (fun _ => Xkb) fun q2 h => ?_
 refine kC hC [(16, 176)] Try.call176 h (fun _ => Xk2) fun q3 h => ?_
 refine kC hC [(16, 192)] Try.call177 h (fun _ => Xkb) fun q4 h => ?_
 refine kC hC [(16, 208)] Try.call176 h (fun _ => Xk2) fun q5 h => ?_
 refine kO hT hC ?_
 refine Vc.nil (Xap (Xac ?_))
 refine kO hT hC ?_
 refine Vc.nil ?_
 refine kL [3,4] [208] [_,_] [_] ?_
 refine kX h (fun v8 => ([(4, .sv (.int .i64 v8.1))], [(208, some (.ints .i64 v8.2))])) (fun v11 => ([(4, .any)], [(208, some (.ints .i64 v11))])) (kW hC []) (fun v8 s h => ?_) fun v11 h => ?_
 unfold Xdk at h
 refine Xap (Xac ?_)
 iterate 2 refine kO hT hC ?_
 refine Vc.nil ?_
 refine kS h ?_ ?_ <;> intro b4 h
 refine kt b4 (Xae (Xad (Xap (Xal (Xab ?_)))))
 iterate 4 refine kO hT hC ?_
 iterate 2 refine kQ hT hC h fun h => ?_
 refine kO hT hC ?_
 refine kC hC [] Try.call174 h (fun _ => Xf4) fun q12 h => ?_
 iterate 2 refine kQ hT hC h fun h => ?_
 refine Vc.nil (Xam (Xad (Xab ?_)))
 iterate 3 refine kO hT hC ?_
 exact Vc.nil kG
 exact kf b4 (Xan (Xav ku))
 refine Xad (Xac ?_)
 iterate 2 refine kO hT hC ?_
 refine Vc.nil (Xah ?_)
 obtain rfl := kj h
 exact Xea (τ := ⟨[(2, .own 16)], [(16, some (.ints .i64 v11))]⟩) (kW hC [(16, 208)]) rfl ⟨rfl, trivial⟩
end
end Go.Proofs.Ytlebkepfhdjnmac.A
