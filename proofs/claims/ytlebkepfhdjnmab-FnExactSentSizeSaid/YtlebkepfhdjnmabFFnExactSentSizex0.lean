/- Contracts of the functions that the law FnExactSentSize reaches, part 0: each comes to what its pure function tells. Written by a program of this session. Conditions: as each statement tells. -/
import Derived.Test.YtlebkepfhdjnmabBFnExactSentSize
namespace Go.Proofs.Ytlebkepfhdjnmab.A
open Go Go.Proofs Go.Proofs.YtlebkepfhdjnmabAL Go.RowKit
set_option linter.unusedVariables false
set_option linter.unusedSimpArgs false
set_option maxRecDepth 100000
set_option maxHeartbeats 8000000
noncomputable section
def Xld (r : Bool) : AV := .sv (.bool r)
def Xlc (r : Bool) : Xau := []
theorem Xbg {p0 p1 p2 r} (h : Xba p0 p1 p2 = some r) : AC Try.prog 48 [.sv (.int .i64 p0), .sv (.int .i64 p1), .sv (.int .i64 p2)] [] (Xld r) (Xlc r) := by
 refine Xab hT Try.func48 rfl fun C hC => ?_
 unfold Xba at h
 refine Xaa ?_
 refine kO hT hC ?_
 refine Vc.nil ?_
 refine kL [0,1,2,6] [] [_,_,_,_] [] ?_
 refine kA h (fun v1 => ([(6, .sv (.bool v1)), (0, .any), (1, .any), (2, .any)], [])) (fun v1 h => ?_) fun v1 h => ?_
 refine Xac ?_
 iterate 4 refine kO hT hC ?_
 refine kS h ?_ ?_ <;> intro b1 h
 iterate 3 refine kI hT hC b1 ?_
 refine kP hC true b1 ?_
 refine kO hT hC ?_
 exact Vc.nil kM
 iterate 3 refine kF hC b1 ?_
 refine kP hC false b1 ?_
 refine kO hT hC ?_
 exact Vc.nil kM
 exact Xad kR
def Xjg (r : Bool) : AV := .sv (.bool r)
def Xjf (r : Bool) : Xau := []
theorem Xax {p0 p1 p2 r} (h : Xat p0 p1 p2 = some r) : AC Try.prog 52 [.sv (.int .i64 p0), .sv (.int .i64 p1), .sv (.int .i64 p2)] [] (Xjg r) (Xjf r) := by
 refine Xab hT Try.func52 rfl fun C hC => ?_
 unfold Xat at h
 refine Xaa ?_
 refine kO hT hC ?_
 refine Vc.nil ?_
 refine kL [0,1,2,6] [] [_,_,_,_] [] ?_
 refine kA h (fun v1 => ([(6, .sv (.bool v1)), (0, .any), (1, .any), (2, .any)], [])) (fun v1 h => ?_) fun v1 h => ?_
 refine Xac ?_
 iterate 4 refine kO hT hC ?_
 refine kS h ?_ ?_ <;> intro b1 h
 iterate 3 refine kI hT hC b1 ?_
 refine kP hC true b1 ?_
 refine kO hT hC ?_
 exact Vc.nil kM
 iterate 3 refine kF hC b1 ?_
 refine kP hC false b1 ?_
 refine kO hT hC ?_
 exact Vc.nil kM
 exact Xad kR
def Xfo (r : Bool) : AV := .sv (.bool r)
def Xfn (r : Bool) : Xau := []
theorem Xme {p0 p1 p2 p3 r} (h : Xed p0 p1 p2 p3 = some r) : AC Try.prog 51 [.sv (.ints .i64 p0), .sv (.int .i64 p1), .sv (.int .i64 p2), .sv (.int .i64 p3)] [] (Xfo r) (Xfn r) := by
 refine Xab hT Try.func51 rfl fun C hC => ?_
 unfold Xed at h
 refine Xaa ?_
 refine kO hT hC ?_
 refine Vc.nil (Xbd (Xaa ?_))
 iterate 3 refine kO hT hC ?_
 refine Vc.nil ?_
 refine kL [0,1,2,3,11,12,13] [] [_,_,_,_,_,_,_] [] ?_
 obtain ⟨o8, hl, h⟩ := Xb4 h
 refine Xf8 (fun v3 => ([(13, .sv (.int .i64 v3))], [])) (fun v6 => ([(2, .any), (3, .any), (11, .any), (12, .any), (13, .any)], [])) (fun r => Xl2 C T Try.f51.results.toList (Xfo r) (Xfn r)) hl ?_ ?_ ?_ ?_
 apply Xh6 hC []
 exact co
 rfl
 decide
 rfl
 intro v3 s hs
 have h := hs
 unfold Xce at h
 refine Xaa ?_
 refine kO hT hC ?_
 refine Vc.nil (Xbd ?_)
 refine kS h ?_ ?_ <;> intro b5 h
 refine kt b5 (Xaf (Xae (Xbd (Xaz (Xaa ?_)))))
 refine kQ hT hC h fun h => ?_
 iterate 2 refine kO hT hC ?_
 refine kN ?_
 iterate 3 refine kO hT hC ?_
 refine kC hC [] Try.call52 h (fun _ => Xax) fun q7 h => ?_
 refine kO hT hC ?_
 refine Vc.nil ?_
 refine kS h ?_ ?_ <;> intro b6 h
 refine kt b6 (Xaa ?_)
 refine kO hT hC ?_
 refine Vc.nil (Xad (Xe3 (Xaw ?_)))
 obtain rfl := kj h
 refine Xor (Xop ?_)
 exact Xo9 (Xe2.refl _) rfl trivial
 refine kf b6 (Xaf (Xbe (Xae (Xac ?_))))
 iterate 2 refine kO hT hC ?_
 exact Vc.nil kG
 exact kf b5 (Xa4 (Xb9 kb))
 intro v6 e
 subst e
 refine Xae (Xaa ?_)
 iterate 5 refine kO hT hC ?_
 exact Vc.nil (Xad kR)
 intro r' σ' e hE
 subst e
 obtain rfl := kj h
 refine Xaw ?_
 exact hE
def Xjc (r : (Int × Bool)) : AV := .tup [.sv (.int .i64 r.1), .sv (.bool r.2)]
def Xjb (r : (Int × Bool)) : Xau := []
theorem Xfl {p0 r} (h : Xcr p0 = some r) : AC Try.prog 98 [.sv (.int .i64 p0)] [] (Xjc r) (Xjb r) := by
 refine Xab hT Try.func98 rfl fun C hC => ?_
 unfold Xcr at h
 refine Xaa ?_
 iterate 2 refine kO hT hC ?_
 refine Vc.nil (Xbd (Xaz (Xaa ?_)))
 refine kO hT hC ?_
 refine kC hC [] Try.call52 h (fun _ => Xax) fun q1 h => ?_
 iterate 2 refine kO hT hC ?_
 refine Vc.nil ?_
 refine kS h ?_ ?_ <;> intro b1 h
 refine kt b1 (Xaa ?_)
 iterate 2 refine kO hT hC ?_
 exact Vc.nil (Xad (Xe3 (Xaw kR)))
 refine kf b1 (Xaa ?_)
 iterate 3 refine kO hT hC ?_
 refine Vc.nil ?_
 refine kS h ?_ ?_ <;> intro b2 h
 refine kt b2 (Xaa ?_)
 iterate 5 refine kO hT hC ?_
 exact Vc.nil (Xad (Xe3 (Xaw kR)))
 refine kf b2 (Xaf (Xbe (Xae (Xaa ?_))))
 iterate 4 refine kO hT hC ?_
 exact Vc.nil (Xad kR)
def Xgl (r : Int) : AV := .sv (.int .i64 r)
def Xgk (r : Int) : Xau := []
theorem Xhf {p0 r} (h : Xc3 p0 = some r) : AC Try.prog 156 [.sv (.int .i64 p0)] [] (Xgl r) (Xgk r) := by
 refine Xab hT Try.func156 rfl fun C hC => ?_
 unfold Xc3 at h
 refine Xaa ?_
 refine kO hT hC ?_
 refine kN ?_
 refine kO hT hC ?_
 refine Vc.nil (Xbd ?_)
 refine kL [0,3] [] [_,_] [] ?_
 refine kX h (fun v2 => ([(0, .sv (.int .i64 v2.1)), (3, .sv (.int .i64 v2.2))], [])) (fun v4 => ([(3, .sv (.int .i64 v4)), (0, .any)], [])) (kW hC []) (fun v2 s h => ?_) fun v4 h => ?_
 unfold Xam at h
 refine Xbd (Xaa ?_)
 iterate 2 refine kO hT hC ?_
 refine Vc.nil ?_
 refine kS h ?_ ?_ <;> intro b3 h
 refine kt b3 (Xaf (Xae (Xbd (Xaz (Xac ?_)))))
 iterate 3 refine kO hT hC ?_
 refine Vc.nil (Xbe (Xae (Xac ?_)))
 refine kO hT hC ?_
 refine kQ hT hC h fun h => ?_
 refine kO hT hC ?_
 exact Vc.nil kG
 exact kf b3 (Xa4 (Xb9 ku))
 refine Xae (Xaa ?_)
 iterate 2 refine kO hT hC ?_
 exact Vc.nil (Xad kR)
def Xkz (r : ByteArray) : AV := .sv (.str r)
def Xky (r : ByteArray) : Xau := []
theorem Xmi {p0 p1 r} (h : Xei p0 p1 = some r) : AC Try.prog 132 [.sv (.int .i64 p0), .sv (.int .i64 p1)] [] (Xkz r) (Xky r) := by
 refine Xab hT Try.func132 rfl fun C hC => ?_
 unfold Xei at h
 refine Xaa ?_
 refine kO hT hC ?_
 refine kN ?_
 refine kO hT hC ?_
 obtain ⟨hq, h⟩ := Xcj h
 refine Xs2 hT hC rfl rfl rfl rfl ⟨hq.1, hq.2.1, hq.2.2, by decide⟩ ?_
 refine kO hT hC ?_
 refine Vc.nil (Xbd (Xaa ?_))
 iterate 3 refine kO hT hC ?_
 refine Vc.nil ?_
 refine kL [0,5,6] [128] [_,_,_] [_] ?_
 refine kX h (fun v2 => ([(0, .sv (.int .i64 v2.1)), (6, .sv (.int .i64 v2.2.1))], [(128, some (.ints .u8 v2.2.2))])) (fun v4 => ([(0, .any), (6, .any)], [(128, some (.ints .u8 v4))])) (kW hC []) (fun v2 s h => ?_) fun v4 h => ?_
 unfold Xcf at h
 refine Xbd (Xaa ?_)
 iterate 2 refine kO hT hC ?_
 refine Vc.nil ?_
 refine kS h ?_ ?_ <;> intro b3 h
 refine kt b3 (Xaf (Xae (Xbd (Xaz (Xaa ?_)))))
 iterate 6 refine kO hT hC ?_
 iterate 2 refine kQ hT hC h fun h => ?_
 refine Vc.nil (Xac ?_)
 refine kO hT hC ?_
 refine kQ hT hC h fun h => ?_
 refine kO hT hC ?_
 refine Vc.nil (Xbe (Xae (Xac ?_)))
 iterate 3 refine kO hT hC ?_
 exact Vc.nil kG
 exact kf b3 (Xa4 (Xb9 ku))
 refine Xae (Xaa ?_)
 iterate 3 refine kO hT hC ?_
 exact Vc.nil (Xad kR)
def Xoi (r : ByteArray) : AV := .sv (.str r)
def Xoh (r : ByteArray) : Xau := []
theorem Xdp {p0 r} (h : Xdu p0 = some r) : AC Try.prog 131 [.sv (.int .i64 p0)] [] (Xoi r) (Xoh r) := by
 refine Xab hT Try.func131 rfl fun C hC => ?_
 unfold Xdu at h
 refine Xaa ?_
 refine kO hT hC ?_
 refine kN ?_
 iterate 4 refine kO hT hC ?_
 refine kC hC [] Try.call156 h (fun _ => Xhf) fun q1 h => ?_
 iterate 2 refine kO hT hC ?_
 refine kC hC [] Try.call132 h (fun _ => Xmi) fun q2 h => ?_
 refine kO hT hC ?_
 exact Vc.nil (Xad kR)
def Xkx (r : (ByteArray × Bool)) : AV := .tup [.sv (.str r.1), .sv (.bool r.2)]
def Xkw (r : (ByteArray × Bool)) : Xau := []
theorem Xmd {p0 r} (h : Xfb p0 = some r) : AC Try.prog 99 [.sv (.int .i64 p0)] [] (Xkx r) (Xkw r) := by
 refine Xab hT Try.func99 rfl fun C hC => ?_
 unfold Xfb at h
 refine Xaa ?_
 iterate 2 refine kO hT hC ?_
 refine Vc.nil (Xbd (Xaa ?_))
 refine kO hT hC ?_
 refine kC hC [] Try.call52 h (fun _ => Xax) fun q1 h => ?_
 refine kO hT hC ?_
 refine Vc.nil ?_
 refine kS h ?_ ?_ <;> intro b1 h
 refine kt b1 (Xaa ?_)
 iterate 2 refine kO hT hC ?_
 exact Vc.nil (Xad (Xaw kR))
 refine kf b1 (Xaf (Xae (Xaa ?_)))
 refine kO hT hC ?_
 refine kC hC [] Try.call131 h (fun _ => Xdp) fun q2 h => ?_
 iterate 2 refine kO hT hC ?_
 exact Vc.nil (Xad kR)
def Xkv (r : (ByteArray × Bool)) : AV := .tup [.sv (.str r.1), .sv (.bool r.2)]
def Xku (r : (ByteArray × Bool)) : Xau := []
theorem Xgd {p0 r} (h : Xdo p0 = some r) : AC Try.prog 57 [.sv (.int .i64 p0)] [] (Xkv r) (Xku r) := by
 refine Xab hT Try.func57 rfl fun C hC => ?_
 unfold Xdo at h
 refine Xaa ?_
 iterate 2 refine kO hT hC ?_
 refine kN ?_
 refine kO hT hC ?_
 refine kC hC [] Try.call98 h (fun _ => Xfl) fun q1 h => ?_
 iterate 5 refine kO hT hC ?_
 refine Vc.nil (Xbd (Xaa ?_))
 iterate 2 refine kO hT hC ?_
 refine Vc.nil ?_
 refine kS h ?_ ?_ <;> intro b1 h
 refine kt b1 (Xaa ?_)
 iterate 2 refine kO hT hC ?_
 exact Vc.nil (Xad (Xaw kR))
 refine kf b1 (Xaf (Xae (Xaa ?_)))
 refine kO hT hC ?_
 refine kC hC [] Try.call99 h (fun _ => Xmd) fun q2 h => ?_
 iterate 4 refine kO hT hC ?_
 exact Vc.nil (Xad kR)
def Xji (r : Int) : AV := .sv (.int .i64 r)
def Xjh (r : Int) : Xau := []
theorem Xk1 {p0 p1 r} (h : Xdw p0 p1 = some r) : AC Try.prog 106 [.sv (.ints .i64 p0), .sv (.int .i64 p1)] [] (Xji r) (Xjh r) := by
 refine Xab hT Try.func106 rfl fun C hC => ?_
 unfold Xdw at h
 refine Xaa ?_
 refine kO hT hC ?_
 refine kN ?_
 iterate 5 refine kO hT hC ?_
 refine Vc.nil (Xbd (Xaa ?_))
 iterate 2 refine kO hT hC ?_
 refine Vc.nil ?_
 refine kS h ?_ ?_ <;> intro b1 h
 refine kt b1 (Xaa ?_)
 refine kO hT hC ?_
 exact Vc.nil (Xad (Xaw kR))
 refine kf b1 (Xaf (Xae (Xaa ?_)))
 iterate 2 refine kO hT hC ?_
 exact Vc.nil (Xad kR)
def Xhm (r : Int) : AV := .sv (.int .i64 r)
def Xhl (r : Int) : Xau := []
theorem Xic {p0 p1 r} (h : Xdj p0 p1 = some r) : AC Try.prog 68 [.agg [.sv (.int .i64 p0.Kind), .sv (.int .i64 p0.Mode), .sv (.int .i64 p0.Dx), .sv (.int .i64 p0.Dy), .sv (.ints .i64 p0.Levels)], .sv (.int .i64 p1)] [] (Xhm r) (Xhl r) := by
 refine Xab hT Try.func68 rfl fun C hC => ?_
 unfold Xdj at h
 refine Xaa ?_
 iterate 2 refine kO hT hC ?_
 refine kN ?_
 iterate 3 refine kO hT hC ?_
 refine kC hC [] Try.call106 h (fun _ => Xk1) fun q1 h => ?_
 refine kO hT hC ?_
 refine Vc.nil (Xbd (Xaa ?_))
 iterate 2 refine kO hT hC ?_
 refine Vc.nil ?_
 refine kS h ?_ ?_ <;> intro b1 h
 refine kt b1 (Xaa ?_)
 refine kO hT hC ?_
 exact Vc.nil (Xad (Xaw kR))
 refine kf b1 (Xaf (Xae (Xaa ?_)))
 iterate 2 refine kO hT hC ?_
 exact Vc.nil (Xad kR)
def Xd8 (r : Int) : AV := .sv (.int .i64 r)
def Xd7 (r : Int) : Xau := []
theorem Xhj {p0 p1 r} (h : Xb0 p0 p1 = some r) : AC Try.prog 25 [.sv (Xas.sv p0), .sv (.int .i64 p1)] [] (Xd8 r) (Xd7 r) := by
 refine Xab hT Try.func25 rfl fun C hC => ?_
 unfold Xb0 at h
 refine Xaa ?_
 refine kO hT hC ?_
 refine kN ?_
 iterate 5 refine kO hT hC ?_
 refine Vc.nil (Xbd (Xaa ?_))
 iterate 2 refine kO hT hC ?_
 refine Vc.nil ?_
 refine kS h ?_ ?_ <;> intro b1 h
 refine kt b1 (Xaa ?_)
 refine kO hT hC ?_
 exact Vc.nil (Xad (Xaw kR))
 refine kf b1 (Xaf (Xae (Xbd (Xaa ?_))))
 refine kO hT hC ?_
 refine Vc.nil ?_
 refine kL [0,1,5] [] [_,_,_] [] ?_
 obtain ⟨o8, hl, h⟩ := Xb4 h
 refine Xf8 (fun v3 => ([(1, .sv (.int .i64 v3.1)), (5, .sv (.int .i64 v3.2))], [])) (fun v6 => ([(1, .sv (.int .i64 v6)), (0, .any), (5, .any)], [])) (fun r => Xl2 C T Try.f25.results.toList (Xd8 r) (Xd7 r)) hl ?_ ?_ ?_ ?_
 try dsimp only
 apply Xh6 hC []
 exact co
 rfl
 decide
 rfl
 intro v3 s hs
 have h := hs
 unfold Xa7 at h
 refine Xbd (Xaa ?_)
 iterate 4 refine kO hT hC ?_
 refine Vc.nil ?_
 refine kS h ?_ ?_ <;> intro b6 h
 refine kt b6 (Xaf (Xae (Xbd (Xaz (Xaa ?_)))))
 iterate 2 refine kO hT hC ?_
 refine kQ hT hC h fun h => ?_
 iterate 2 refine kO hT hC ?_
 refine kC hC [] Try.call68 h (fun _ => Xic) fun q7 h => ?_
 refine kO hT hC ?_
 refine kN ?_
 iterate 2 refine kO hT hC ?_
 refine Vc.nil ?_
 refine kS h ?_ ?_ <;> intro b7 h
 refine kt b7 (Xaa ?_)
 refine kO hT hC ?_
 refine Vc.nil (Xad (Xe3 (Xaw ?_)))
 obtain rfl := kj h
 refine Xor (Xop ?_)
 exact Xo9 (Xe2.refl _) rfl trivial
 refine kf b7 (Xaf (Xbe (Xae (Xac ?_))))
 iterate 3 refine kO hT hC ?_
 exact Vc.nil kG
 exact kf b6 (Xa4 (Xb9 kb))
 intro v6 e
 subst e
 refine Xae (Xaa ?_)
 iterate 2 refine kO hT hC ?_
 exact Vc.nil (Xad kR)
 intro r' σ' e hE
 subst e
 obtain rfl := kj h
 refine Xaw ?_
 exact hE
def Xjm (r : (List Int)) : AV := .own 16
def Xjl (r : (List Int)) : Xau := [(16, .ints .i64 r)]
theorem Xk3 {p0 r} (h : Xdy p0 = some r) : AC Try.prog 109 [.sv (.ints .i64 p0)] [] (Xjm r) (Xjl r) := by
 refine Xab hT Try.func109 rfl fun C hC => ?_
 unfold Xdy at h
 refine Xaa ?_
 refine kO hT hC ?_
 refine kN ?_
 iterate 2 refine kO hT hC ?_
 obtain ⟨hq, h⟩ := Xcj h
 refine Xs2 hT hC rfl rfl rfl rfl ⟨hq.1, hq.2.1, hq.2.2, by decide⟩ ?_
 refine kO hT hC ?_
 refine Vc.nil (Xbd (Xaa ?_))
 refine kO hT hC ?_
 refine Vc.nil ?_
 refine kL [0,3,4] [112] [_,_,_] [_] ?_
 refine kX h (fun v2 => ([(4, .sv (.int .i64 v2.1))], [(112, some (.ints .i64 v2.2))])) (fun v4 => ([(0, .any), (4, .any)], [(112, some (.ints .i64 v4))])) (kW hC []) (fun v2 s h => ?_) fun v4 h => ?_
 unfold Xb1 at h
 refine Xbd (Xaa ?_)
 iterate 4 refine kO hT hC ?_
 refine Vc.nil ?_
 refine kS h ?_ ?_ <;> intro b3 h
 refine kt b3 (Xaf (Xae (Xbd (Xaz (Xac ?_)))))
 iterate 4 refine kO hT hC ?_
 refine kQ hT hC h fun h => ?_
 refine kO hT hC ?_
 iterate 2 refine kQ hT hC h fun h => ?_
 refine Vc.nil (Xbe (Xae (Xac ?_)))
 iterate 3 refine kO hT hC ?_
 exact Vc.nil kG
 exact kf b3 (Xa4 (Xb9 ku))
 refine Xae (Xaa ?_)
 iterate 2 refine kO hT hC ?_
 refine Vc.nil (Xad ?_)
 obtain rfl := kj h
 exact Xo9 (τ := ⟨[(2, .own 16)], [(16, some (.ints .i64 v4))]⟩) (kW hC [(16, 112)]) rfl ⟨rfl, trivial⟩
def Xhp (r : Square) : AV := .agg [.sv (.int .i64 r.Kind), .sv (.int .i64 r.Mode), .sv (.int .i64 r.Dx), .sv (.int .i64 r.Dy), .own 16]
def Xho (r : Square) : Xau := [(16, .ints .i64 r.Levels)]
theorem Xid {p0 r} (h : Xdk p0 = some r) : AC Try.prog 70 [.agg [.sv (.int .i64 p0.Kind), .sv (.int .i64 p0.Mode), .sv (.int .i64 p0.Dx), .sv (.int .i64 p0.Dy), .sv (.ints .i64 p0.Levels)]] [] (Xhp r) (Xho r) := by
 refine Xab hT Try.func70 rfl fun C hC => ?_
 unfold Xdk at h
 refine Xaa ?_
 iterate 2 refine kO hT hC ?_
 refine kN ?_
 refine kO hT hC ?_
 refine kN ?_
 iterate 4 refine kO hT hC ?_
 refine kN ?_
 iterate 4 refine kO hT hC ?_
 refine kN ?_
 iterate 4 refine kO hT hC ?_
 refine kN ?_
 iterate 4 refine kO hT hC ?_
 refine kN ?_
 iterate 2 refine kO hT hC ?_
 refine kC hC [(16, 288)] Try.call109 h (fun _ => Xk3) fun q1 h => ?_
 iterate 2 refine kO hT hC ?_
 refine kN ?_
 iterate 2 refine kO hT hC ?_
 refine Vc.nil (Xad ?_)
 obtain rfl := kj h
 exact Xo9 (τ := ⟨[(2, .ptr 2000000 0)], [(16, some (.ints .i64 q1)), (2000000, some (.box [.sv (.int .i64 p0.Kind), .sv (.int .i64 p0.Mode), .sv (.int .i64 p0.Dx), .sv (.int .i64 p0.Dy), .own 16]))]⟩) (kW hC [(16, 288), (2000000, 32)]) rfl ⟨rfl, trivial⟩
def Xgq (r : (List Square)) : AV := .own 16
def Xgp (r : (List Square)) : Xau := [(16, .row Xas r)]
theorem Xcs {p0 r} (h : Xa2 p0 = some r) : AC Try.prog 27 [.sv (Xas.sv p0)] [] (Xgq r) (Xgp r) := by
 refine Xab hT Try.func27 rfl fun C hC => ?_
 unfold Xa2 at h
 refine Xaa ?_
 refine kO hT hC ?_
 refine kN ?_
 iterate 2 refine kO hT hC ?_
 obtain ⟨hq, h⟩ := Xcj h
 refine Xs2 hT hC rfl rfl rfl rfl ⟨hq.1, hq.2.1, hq.2.2, by decide⟩ ?_
 refine kO hT hC ?_
 refine Vc.nil (Xbd (Xaa ?_))
 refine kO hT hC ?_
 refine Vc.nil ?_
 refine kL [0,3,4] [112] [_,_,_] [_] ?_
 refine kX h (fun v4 => ([(4, .sv (.int .i64 v4.1))], [(112, some (.row Xas v4.2))])) (fun v8 => ([(0, .any), (4, .any)], [(112, some (.row Xas v8))])) (kW hC []) (fun v4 s h => ?_) fun v8 h => ?_
 unfold Xa8 at h
 refine Xbd (Xaa ?_)
 iterate 4 refine kO hT hC ?_
 refine Vc.nil ?_
 refine kS h ?_ ?_ <;> intro b3 h
 refine kt b3 (Xaf (Xae (Xbd (Xaz (Xac ?_)))))
 iterate 4 refine kO hT hC ?_
 refine kQ hT hC h fun h => ?_
 refine kO hT hC ?_
 refine kC hC [(16, 320)] Try.call70 h (fun _ => Xid) fun q9 h => ?_
 refine kQ hT hC h fun h => ?_
 obtain ⟨hq, h⟩ := Xcj h
 obtain ⟨s10, hs, h⟩ := Xb4 h
 injection hs with hs
 refine Xs2 hT hC rfl rfl rfl rfl hq ?_
 rw [hs]
 refine Vc.nil (Xbe (Xae (Xac ?_)))
 iterate 3 refine kO hT hC ?_
 exact Vc.nil kG
 exact kf b3 (Xa4 (Xb9 ku))
 refine Xae (Xaa ?_)
 iterate 2 refine kO hT hC ?_
 refine Vc.nil (Xad ?_)
 obtain rfl := kj h
 exact Xo9 (τ := ⟨[(2, .own 16)], [(16, some (.row Xas v8))]⟩) (kW hC [(16, 112)]) rfl ⟨rfl, trivial⟩
def Xjk (r : Cond) : AV := .agg [.sv (.bool r.Key), .sv (.int .i64 r.Qp), .sv (.bool r.Large), .sv (.bool r.Exact)]
def Xjj (r : Cond) : Xau := []
theorem Xfp {p0 r} (h : Xdx p0 = some r) : AC Try.prog 28 [.agg [.sv (.bool p0.Key), .sv (.int .i64 p0.Qp), .sv (.bool p0.Large), .sv (.bool p0.Exact)]] [] (Xjk r) (Xjj r) := by
 refine Xab hT Try.func28 rfl fun C hC => ?_
 unfold Xdx at h
 refine Xaa ?_
 iterate 2 refine kO hT hC ?_
 refine kN ?_
 refine kO hT hC ?_
 refine kN ?_
 iterate 4 refine kO hT hC ?_
 refine kN ?_
 iterate 4 refine kO hT hC ?_
 refine kN ?_
 iterate 4 refine kO hT hC ?_
 refine kN ?_
 iterate 4 refine kO hT hC ?_
 refine kN ?_
 iterate 2 refine kO hT hC ?_
 exact Vc.nil (Xad kR)
def Xj5 (r : Bool) : AV := .sv (.bool r)
def Xj4 (r : Bool) : Xau := []
theorem Xk8 {p0 r} (h : Xd0 p0 = some r) : AC Try.prog 141 [.agg [.sv (.bool p0.Key), .sv (.int .i64 p0.Qp), .sv (.bool p0.Large), .sv (.bool p0.Exact)]] [] (Xj5 r) (Xj4 r) := by
 refine Xab hT Try.func141 rfl fun C hC => ?_
 unfold Xd0 at h
 refine Xaa ?_
 iterate 2 refine kO hT hC ?_
 refine Vc.nil ?_
 refine kL [1,2] [16] [_,_] [_] ?_
 refine kA h (fun v1 => ([(2, .sv (.bool v1)), (1, .any)], [(16, none)])) (fun v1 h => ?_) fun v1 h => ?_
 refine Xac ?_
 iterate 2 refine kO hT hC ?_
 refine kC hC [] Try.call48 h (fun _ => Xbg) fun q2 h => ?_
 refine kO hT hC ?_
 refine kS h ?_ ?_ <;> intro b1 h
 iterate 3 refine kI hT hC b1 ?_
 refine kS h ?_ ?_ <;> intro b2 h
 iterate 2 refine kI hT hC b2 ?_
 refine Xeo hC rfl rfl rfl rfl b1 rfl rfl (b := true) b2 rfl rfl rfl trivial ?_
 refine kI hT hC b1 ?_
 refine kP hC true b1 ?_
 refine kO hT hC ?_
 exact Vc.nil kM
 iterate 2 refine kF hC b2 ?_
 refine Xeo hC rfl rfl rfl rfl b1 rfl rfl (b := false) b2 rfl rfl rfl trivial ?_
 refine kI hT hC b1 ?_
 refine kP hC true b1 ?_
 refine kO hT hC ?_
 exact Vc.nil kM
 iterate 3 refine kF hC b1 ?_
 iterate 2 refine Xro hC rfl rfl rfl rfl rfl rfl ?_
 iterate 2 refine kF hC b1 ?_
 refine kP hC false b1 ?_
 refine kO hT hC ?_
 exact Vc.nil kM
 exact Xad kR
def Xe9 (r : Bool) : AV := .sv (.bool r)
def Xe8 (r : Bool) : Xau := []
theorem Xfr {p0 p1 p2 r} (h : Xcz p0 p1 p2 = some r) : AC Try.prog 159 [.sv (.ints .i64 p0), .sv (.int .i64 p1), .sv (.int .i64 p2)] [] (Xe9 r) (Xe8 r) := by
 refine Xab hT Try.func159 rfl fun C hC => ?_
 unfold Xcz at h
 refine Xaa ?_
 refine kO hT hC ?_
 refine Vc.nil (Xbd (Xaa ?_))
 iterate 4 refine kO hT hC ?_
 refine Vc.nil ?_
 refine kS h ?_ ?_ <;> intro b1 h
 refine kt b1 (Xaa ?_)
 refine kO hT hC ?_
 exact Vc.nil (Xad (Xaw kR))
 refine kf b1 (Xaf (Xae (Xbd (Xaa ?_))))
 refine kO hT hC ?_
 refine Vc.nil ?_
 refine kL [0,1,2,7] [] [_,_,_,_] [] ?_
 obtain ⟨o8, hl, h⟩ := Xb4 h
 refine Xf8 (fun v3 => ([(7, .sv (.int .i64 v3))], [])) (fun v6 => ([(0, .any), (1, .any), (2, .any), (7, .any)], [])) (fun r => Xl2 C T Try.f159.results.toList (Xe9 r) (Xe8 r)) hl ?_ ?_ ?_ ?_
 apply Xh6 hC []
 exact co
 rfl
 decide
 rfl
 intro v3 s hs
 have h := hs
 unfold Xb2 at h
 refine Xbd (Xaa ?_)
 iterate 3 refine kO hT hC ?_
 refine Vc.nil ?_
 refine kS h ?_ ?_ <;> intro b6 h
 refine kt b6 (Xaf (Xae (Xbd (Xaz (Xaa ?_)))))
 iterate 2 refine kO hT hC ?_
 refine kQ hT hC h fun h => ?_
 iterate 4 refine kO hT hC ?_
 refine kC hC [] Try.call48 h (fun _ => Xbg) fun q7 h => ?_
 refine kO hT hC ?_
 refine Vc.nil ?_
 refine kS h ?_ ?_ <;> intro b7 h
 refine kt b7 (Xaa ?_)
 refine kO hT hC ?_
 refine Vc.nil (Xad (Xe3 (Xaw ?_)))
 obtain rfl := kj h
 refine Xor (Xop ?_)
 exact Xo9 (Xe2.refl _) rfl trivial
 refine kf b7 (Xaf (Xbe (Xae (Xac ?_))))
 iterate 3 refine kO hT hC ?_
 exact Vc.nil kG
 exact kf b6 (Xa4 (Xb9 kb))
 intro v6 e
 subst e
 refine Xae (Xaa ?_)
 refine kO hT hC ?_
 exact Vc.nil (Xad kR)
 intro r' σ' e hE
 subst e
 obtain rfl := kj h
 refine Xaw ?_
 exact hE
def Xhw (r : Bool) : AV := .sv (.bool r)
def Xhv (r : Bool) : Xau := []
theorem Xih {p0 r} (h : Xcl p0 = some r) : AC Try.prog 142 [.agg [.sv (.int .i64 p0.Kind), .sv (.int .i64 p0.Mode), .sv (.int .i64 p0.Dx), .sv (.int .i64 p0.Dy), .sv (.ints .i64 p0.Levels)]] [] (Xhw r) (Xhv r) := by
 refine Xab hT Try.func142 rfl fun C hC => ?_
 unfold Xcl at h
 refine Xaa ?_
 iterate 2 refine kO hT hC ?_
 refine Vc.nil (Xbd (Xaa ?_))
 iterate 2 refine kO hT hC ?_
 refine Vc.nil (Xaz (Xaa ?_))
 iterate 2 refine kO hT hC ?_
 refine Vc.nil ?_
 refine kS h ?_ ?_ <;> intro b1 h
 refine kt b1 ?_
 refine kL [1,2] [16] [_,_] [_] ?_
 refine kA h (fun v1 => ([(2, .sv (.bool v1)), (1, .any)], [(16, none)])) (fun v1 h => ?_) fun v1 h => ?_
 refine Xac ?_
 iterate 4 refine kO hT hC ?_
 refine kS h ?_ ?_ <;> intro b2 h
 iterate 3 refine kI hT hC b2 ?_
 refine kP hC true b2 ?_
 refine kO hT hC ?_
 refine kS h ?_ ?_ <;> intro b3 h
 iterate 3 refine kI hT hC b3 ?_
 refine kP hC true b3 ?_
 refine kO hT hC ?_
 refine kS h ?_ ?_ <;> intro b4 h
 iterate 4 refine kI hT hC b4 ?_
 refine kP hC true b4 ?_
 refine kO hT hC ?_
 exact Vc.nil kM
 iterate 4 refine kF hC b4 ?_
 refine kP hC false b4 ?_
 refine kO hT hC ?_
 exact Vc.nil kM
 iterate 3 refine kF hC b3 ?_
 refine kP hC false b3 ?_
 refine kO hT hC ?_
 iterate 4 refine kF hC rfl ?_
 iterate 2 refine kO hT hC ?_
 exact Vc.nil kM
 iterate 3 refine kF hC b2 ?_
 refine kP hC false b2 ?_
 refine kO hT hC ?_
 iterate 3 refine kF hC rfl ?_
 iterate 2 refine kO hT hC ?_
 iterate 4 refine kF hC rfl ?_
 iterate 2 refine kO hT hC ?_
 exact Vc.nil kM
 exact Xad (Xe3 (Xaw kR))
 refine kf b1 (Xaa ?_)
 iterate 2 refine kO hT hC ?_
 refine Vc.nil ?_
 refine kS h ?_ ?_ <;> intro b5 h
 refine kt b5 ?_
 refine kL [1,2] [16] [_,_] [_] ?_
 refine kA h (fun v2 => ([(2, .sv (.bool v2)), (1, .any)], [(16, none)])) (fun v2 h => ?_) fun v2 h => ?_
 refine Xac ?_
 iterate 4 refine kO hT hC ?_
 refine kS h ?_ ?_ <;> intro b6 h
 iterate 2 refine kI hT hC b6 ?_
 refine kE hC b6 [] Try.call48 h (fun _ => Xbg) fun q3 h => ?_
 refine kP hC true b6 ?_
 refine kO hT hC ?_
 refine kS h ?_ ?_ <;> intro b7 h
 iterate 2 refine kI hT hC b7 ?_
 refine kE hC b7 [] Try.call48 h (fun _ => Xbg) fun q4 h => ?_
 refine kP hC true b7 ?_
 refine kO hT hC ?_
 refine kS h ?_ ?_ <;> intro b8 h
 iterate 2 refine kI hT hC b8 ?_
 refine kE hC b8 [] Try.call159 h (fun _ => Xfr) fun q5 h => ?_
 refine kP hC true b8 ?_
 refine kO hT hC ?_
 exact Vc.nil kM
 iterate 3 refine kF hC b8 ?_
 refine kP hC false b8 ?_
 refine kO hT hC ?_
 exact Vc.nil kM
 iterate 3 refine kF hC b7 ?_
 refine kP hC false b7 ?_
 refine kO hT hC ?_
 iterate 3 refine kF hC rfl ?_
 iterate 2 refine kO hT hC ?_
 exact Vc.nil kM
 iterate 3 refine kF hC b6 ?_
 refine kP hC false b6 ?_
 refine kO hT hC ?_
 iterate 3 refine kF hC rfl ?_
 iterate 2 refine kO hT hC ?_
 iterate 3 refine kF hC rfl ?_
 iterate 2 refine kO hT hC ?_
 exact Vc.nil kM
 exact Xad (Xe3 (Xaw kR))
 refine kf b5 (Xaa ?_)
 iterate 2 refine kO hT hC ?_
 refine Vc.nil ?_
 refine kS h ?_ ?_ <;> intro b9 h
 refine kt b9 ?_
 refine kL [1,2] [16] [_,_] [_] ?_
 refine kA h (fun v6 => ([(2, .sv (.bool v6)), (1, .any)], [(16, none)])) (fun v6 h => ?_) fun v6 h => ?_
 refine Xac ?_
 iterate 2 refine kO hT hC ?_
 refine kC hC [] Try.call48 h (fun _ => Xbg) fun q7 h => ?_
 refine kO hT hC ?_
 refine kS h ?_ ?_ <;> intro b10 h
 iterate 3 refine kI hT hC b10 ?_
 refine kP hC true b10 ?_
 refine kO hT hC ?_
 refine kS h ?_ ?_ <;> intro b11 h
 iterate 3 refine kI hT hC b11 ?_
 refine kP hC true b11 ?_
 refine kO hT hC ?_
 refine kS h ?_ ?_ <;> intro b12 h
 iterate 2 refine kI hT hC b12 ?_
 refine kE hC b12 [] Try.call159 h (fun _ => Xfr) fun q8 h => ?_
 refine kP hC true b12 ?_
 refine kO hT hC ?_
 exact Vc.nil kM
 iterate 3 refine kF hC b12 ?_
 refine kP hC false b12 ?_
 refine kO hT hC ?_
 exact Vc.nil kM
 iterate 3 refine kF hC b11 ?_
 refine kP hC false b11 ?_
 refine kO hT hC ?_
 iterate 3 refine kF hC rfl ?_
 iterate 2 refine kO hT hC ?_
 exact Vc.nil kM
 iterate 3 refine kF hC b10 ?_
 refine kP hC false b10 ?_
 refine kO hT hC ?_
 iterate 3 refine kF hC rfl ?_
 iterate 2 refine kO hT hC ?_
 iterate 3 refine kF hC rfl ?_
 iterate 2 refine kO hT hC ?_
 exact Vc.nil kM
 exact Xad (Xe3 (Xaw kR))
 refine kf b9 (Xaf (Xbe (Xae (Xaa ?_))))
 refine kO hT hC ?_
 exact Vc.nil (Xad kR)
def Xfv (r : Bool) : AV := .sv (.bool r)
def Xfu (r : Bool) : Xau := []
theorem Xm3 {p0 p1 r} (h : Xfj p0 p1 = some r) : AC Try.prog 107 [.sv (Xas.sv p0), .agg [.sv (.bool p1.Key), .sv (.int .i64 p1.Qp), .sv (.bool p1.Large), .sv (.bool p1.Exact)]] [] (Xfv r) (Xfu r) := by
 refine Xab hT Try.func107 rfl fun C hC => ?_
 unfold Xfj at h
 refine Xaa ?_
 iterate 2 refine kO hT hC ?_
 refine Vc.nil (Xbd ?_)
 refine kL [0,3] [48] [_,_] [_] ?_
 refine kA h (fun v1 => ([(14, .sv (.bool v1))], [])) (fun v1 h => ?_) fun v1 h => ?_
 refine Xac ?_
 refine kO hT hC ?_
 refine kC hC [] Try.call141 h (fun _ => Xk8) fun q2 h => ?_
 iterate 2 refine kO hT hC ?_
 refine kS h ?_ ?_ <;> intro b1 h
 iterate 2 refine kI hT hC (kn b1) ?_
 refine kE hC (kn b1) [] Try.call48 h (fun _ => Xbg) fun q3 h => ?_
 refine kI hT hC (kn b1) ?_
 refine kP hC false (kn b1) ?_
 exact Vc.nil kM
 iterate 4 refine kF hC (kn b1) ?_
 refine kP hC true (kn b1) ?_
 exact Vc.nil kM
 refine kS h ?_ ?_ <;> intro b2 h
 refine kt b2 (Xaa ?_)
 refine kO hT hC ?_
 exact Vc.nil (Xad (Xaw kR))
 refine kf b2 (Xaf (Xae (Xbd (Xaa ?_))))
 refine kO hT hC ?_
 refine Vc.nil ?_
 refine kL [0,3,5] [48] [_,_,_] [_] ?_
 obtain ⟨o14, hl, h⟩ := Xb4 h
 refine Xf8 (fun v7 => ([(5, .sv (.int .i64 v7))], [])) (fun v11 => ([(0, .any), (3, .any), (5, .any)], [(48, none)])) (fun r => Xl2 C T Try.f107.results.toList (Xfv r) (Xfu r)) hl ?_ ?_ ?_ ?_
 apply Xh6 hC []
 exact co
 rfl
 decide
 rfl
 intro v7 s hs
 have h := hs
 unfold Xbu at h
 refine Xbd (Xaa ?_)
 iterate 4 refine kO hT hC ?_
 refine Vc.nil ?_
 refine kS h ?_ ?_ <;> intro b11 h
 refine kt b11 (Xaf (Xae (Xbd (Xaz ?_))))
 refine kL [0,3,5] [48] [_,_,_] [_] ?_
 refine kA h (fun v12 => ([(38, .sv (.bool v12))], [])) (fun v12 h => ?_) fun v12 h => ?_
 refine Xac ?_
 iterate 2 refine kO hT hC ?_
 refine kQ hT hC h fun h => ?_
 refine kO hT hC ?_
 refine kC hC [] Try.call142 h (fun _ => Xih) fun q13 h => ?_
 iterate 2 refine kO hT hC ?_
 refine kS h ?_ ?_ <;> intro b12 h
 iterate 3 refine kI hT hC (kn b12) ?_
 refine kS h ?_ ?_ <;> intro b13 h
 iterate 2 refine kI hT hC b13 ?_
 refine kJ hT hC b13 h fun h => ?_
 iterate 3 refine kI hT hC b13 ?_
 refine Xeo hC rfl rfl rfl rfl (kn b12) rfl rfl (b := true) b13 rfl rfl rfl trivial ?_
 refine kP hC false (kn b12) ?_
 exact Vc.nil kM
 iterate 6 refine kF hC b13 ?_
 refine Xeo hC rfl rfl rfl rfl (kn b12) rfl rfl (b := false) b13 rfl rfl rfl trivial ?_
 refine kP hC false (kn b12) ?_
 exact Vc.nil kM
 iterate 3 refine kF hC (kn b12) ?_
 iterate 6 refine Xro hC rfl rfl rfl rfl rfl rfl ?_
 refine kF hC (kn b12) ?_
 refine kP hC true (kn b12) ?_
 exact Vc.nil kM
 refine kS h ?_ ?_ <;> intro b14 h
 refine kt b14 (Xaa ?_)
 refine kO hT hC ?_
 refine Vc.nil (Xad (Xe3 (Xaw ?_)))
 obtain rfl := kj h
 refine Xor (Xop ?_)
 exact Xo9 (Xe2.refl _) rfl trivial
 refine kf b14 (Xaf (Xbe (Xae (Xac ?_))))
 iterate 3 refine kO hT hC ?_
 exact Vc.nil kG
 exact kf b11 (Xa4 (Xb9 kb))
 intro v11 e
 subst e
 refine Xae (Xaa ?_)
 refine kO hT hC ?_
 exact Vc.nil (Xad kR)
 intro r' σ' e hE
 subst e
 obtain rfl := kj h
 refine Xaw ?_
 exact hE
def Xim (r : ByteArray) : AV := .sv (.str r)
def Xil (r : ByteArray) : Xau := []
theorem Xka {p0 p1 r} (h : Xc9 p0 p1 = some r) : AC Try.prog 155 [.sv (.int .i64 p0), .sv (.int .u8 p1)] [] (Xim r) (Xil r) := by
 refine Xab hT Try.func155 rfl fun C hC => ?_
 unfold Xc9 at h
 refine Xaa ?_
 refine kO hT hC ?_
 refine kN ?_
 refine kO hT hC ?_
 obtain ⟨hq, h⟩ := Xcj h
 refine Xs2 hT hC rfl rfl rfl rfl ⟨hq.1, hq.2.1, hq.2.2, by decide⟩ ?_
 refine kO hT hC ?_
 refine Vc.nil (Xbd (Xaa ?_))
 refine kO hT hC ?_
 refine Vc.nil ?_
 refine kL [0,1,5,6] [128] [_,_,_,_] [_] ?_
 refine kX h (fun v2 => ([(6, .sv (.int .i64 v2.1))], [(128, some (.ints .u8 v2.2))])) (fun v4 => ([(0, .any), (1, .any), (6, .any)], [(128, some (.ints .u8 v4))])) (kW hC []) (fun v2 s h => ?_) fun v4 h => ?_
 unfold Xbq at h
 refine Xbd (Xaa ?_)
 iterate 3 refine kO hT hC ?_
 refine Vc.nil ?_
 refine kS h ?_ ?_ <;> intro b3 h
 refine kt b3 (Xaf (Xae (Xbd (Xaz (Xac ?_)))))
 iterate 3 refine kO hT hC ?_
 iterate 2 refine kQ hT hC h fun h => ?_
 refine Vc.nil (Xbe (Xae (Xac ?_)))
 iterate 3 refine kO hT hC ?_
 exact Vc.nil kG
 exact kf b3 (Xa4 (Xb9 ku))
 refine Xae (Xaa ?_)
 iterate 3 refine kO hT hC ?_
 exact Vc.nil (Xad kR)
def Xlh (r : ByteArray) : AV := .sv (.str r)
def Xlg (r : ByteArray) : Xau := []
theorem Xcn {p0 r} (h : Xbl p0 = some r) : AC Try.prog 127 [.sv (.int .i64 p0)] [] (Xlh r) (Xlg r) := by
 refine Xab hT Try.func127 rfl fun C hC => ?_
 unfold Xbl at h
 refine Xaa ?_
 refine kO hT hC ?_
 refine kN ?_
 iterate 3 refine kO hT hC ?_
 refine kN ?_
 refine kO hT hC ?_
 refine Vc.nil (Xbd ?_)
 refine kL [3,4] [] [_,_] [] ?_
 refine kX h (fun v2 => ([(3, .sv (.int .i64 v2.1)), (4, .sv (.str v2.2))], [])) (fun v4 => ([(4, .sv (.str v4)), (3, .any)], [])) (kW hC []) (fun v2 s h => ?_) fun v4 h => ?_
 unfold Xbt at h
 refine Xbd (Xaa ?_)
 iterate 2 refine kO hT hC ?_
 refine Vc.nil ?_
 refine kS h ?_ ?_ <;> intro b3 h
 refine kt b3 (Xaf (Xae (Xaz (Xaa ?_))))
 refine kO hT hC ?_
 refine kQ hT hC h fun h => ?_
 iterate 5 refine kO hT hC ?_
 refine kQ hT hC h fun h => ?_
 refine kO hT hC ?_
 refine Vc.nil (Xac ?_)
 refine kO hT hC ?_
 refine kQ hT hC h fun h => ?_
 refine kO hT hC ?_
 exact Vc.nil (Xbe kG)
 exact kf b3 (Xa4 (Xb9 ku))
 refine Xae (Xaa ?_)
 iterate 3 refine kO hT hC ?_
 refine kC hC [] Try.call155 h (fun _ => Xka) fun q6 h => ?_
 refine kO hT hC ?_
 refine kQ hT hC h fun h => ?_
 refine kO hT hC ?_
 exact Vc.nil (Xad kR)
def Xj7 (r : (Int × Bool)) : AV := .tup [.sv (.int .i64 r.1), .sv (.bool r.2)]
def Xj6 (r : (Int × Bool)) : Xau := []
theorem Xla {p0 r} (h : Xd1 p0 = some r) : AC Try.prog 165 [.sv (.int .i64 p0)] [] (Xj7 r) (Xj6 r) := by
 refine Xab hT Try.func165 rfl fun C hC => ?_
 unfold Xd1 at h
 refine Xaa ?_
 iterate 2 refine kO hT hC ?_
 refine Vc.nil (Xbd (Xaa ?_))
 refine kO hT hC ?_
 refine kC hC [] Try.call48 h (fun _ => Xbg) fun q1 h => ?_
 refine kO hT hC ?_
 refine Vc.nil ?_
 refine kS h ?_ ?_ <;> intro b1 h
 refine kt b1 (Xaa ?_)
 iterate 2 refine kO hT hC ?_
 exact Vc.nil (Xad (Xaw kR))
 refine kf b1 (Xaf (Xae (Xbd (Xaa ?_))))
 iterate 2 refine kO hT hC ?_
 refine Vc.nil ?_
 refine kS h ?_ ?_ <;> intro b2 h
 refine kt b2 (Xaa ?_)
 iterate 5 refine kO hT hC ?_
 exact Vc.nil (Xad (Xaw kR))
 refine kf b2 (Xaf (Xae (Xaa ?_)))
 iterate 4 refine kO hT hC ?_
 exact Vc.nil (Xad kR)
def Xlf (r : ByteArray) : AV := .sv (.str r)
def Xle (r : ByteArray) : Xau := []
theorem Xew {p0 r} (h : Xcy p0 = some r) : AC Try.prog 160 [.sv (.int .i64 p0)] [] (Xlf r) (Xle r) := by
 refine Xab hT Try.func160 rfl fun C hC => ?_
 unfold Xcy at h
 refine Xaa ?_
 refine kO hT hC ?_
 refine kN ?_
 refine kO hT hC ?_
 refine kC hC [] Try.call165 h (fun _ => Xla) fun q1 h => ?_
 iterate 5 refine kO hT hC ?_
 refine kN ?_
 refine kO hT hC ?_
 refine kC hC [] Try.call127 h (fun _ => Xcn) fun q2 h => ?_
 refine kO hT hC ?_
 exact Vc.nil (Xad kR)
def Xio (r : ByteArray) : AV := .sv (.str r)
def Xin (r : ByteArray) : Xau := []
theorem Xbr {p0 r} (h : Xa1 p0 = some r) : AC Try.prog 166 [.sv (.ints .i64 p0)] [] (Xio r) (Xin r) := by
 refine Xab hT Try.func166 rfl fun C hC => ?_
 unfold Xa1 at h
 refine Xaa ?_
 refine kO hT hC ?_
 refine kN ?_
 refine kO hT hC ?_
 refine kN ?_
 refine kO hT hC ?_
 refine kN ?_
 refine kO hT hC ?_
 refine Vc.nil (Xbd (Xaa ?_))
 refine kO hT hC ?_
 refine Vc.nil ?_
 refine kL [0,3,4,5,6] [] [_,_,_,_,_] [] ?_
 refine kX h (fun v5 => ([(3, .sv (.int .i64 v5.1)), (4, .sv (.int .i64 v5.2.1)), (5, .sv (.str v5.2.2.1)), (6, .sv (.int .i64 v5.2.2.2))], [])) (fun v10 => ([(3, .sv (.int .i64 v10.1)), (5, .sv (.str v10.2)), (0, .any), (4, .any), (6, .any)], [])) (kW hC []) (fun v5 s h => ?_) fun v10 h => ?_
 unfold Xbb at h
 refine Xbd (Xaa ?_)
 iterate 4 refine kO hT hC ?_
 refine Vc.nil ?_
 refine kS h ?_ ?_ <;> intro b5 h
 refine kt b5 (Xaf (Xae ?_))
 refine kL [0,3,4,5,6] [] [_,_,_,_,_] [] ?_
 refine kA h (fun v11 => ([(3, .sv (.int .i64 v11.1)), (4, .sv (.int .i64 v11.2.1)), (5, .sv (.str v11.2.2))], [])) (fun v11 h => ?_) fun v11 h => ?_
 refine Xaz (Xbd (Xaa ?_))
 iterate 2 refine kO hT hC ?_
 refine kQ hT hC h fun h => ?_
 iterate 2 refine kO hT hC ?_
 refine Vc.nil ?_
 refine kS h ?_ ?_ <;> intro b6 h
 refine kt b6 (Xaa ?_)
 iterate 3 refine kO hT hC ?_
 exact Vc.nil (Xa4 (Xb9 (Xo4 kM)))
 refine kf b6 (Xaf (Xae (Xaa ?_)))
 iterate 3 refine kO hT hC ?_
 refine Vc.nil ?_
 refine Xj0 hm ?_
 iterate 2 refine kO hT hC ?_
 refine kC hC [] Try.call127 h (fun _ => Xcn) fun q12 h => ?_
 refine kQ hT hC h fun h => ?_
 iterate 2 refine kO hT hC ?_
 refine kQ hT hC h fun h => ?_
 refine kO hT hC ?_
 refine kC hC [] Try.call160 h (fun _ => Xew) fun q13 h => ?_
 refine kQ hT hC h fun h => ?_
 refine kO hT hC ?_
 refine kD (Xac ?_)
 refine kO hT hC ?_
 exact Vc.nil (Xbe kM)
 refine Xac ?_
 iterate 3 refine kO hT hC ?_
 exact Vc.nil kG
 exact kf b5 (Xa4 (Xb9 ku))
 refine Xae (Xaa ?_)
 refine kO hT hC ?_
 refine kC hC [] Try.call127 h (fun _ => Xcn) fun q15 h => ?_
 refine kO hT hC ?_
 refine kQ hT hC h fun h => ?_
 refine kO hT hC ?_
 exact Vc.nil (Xad kR)
def Xkd (r : ByteArray) : AV := .sv (.str r)
def Xkc (r : ByteArray) : Xau := []
theorem Xfs {p0 p1 r} (h : Xc0 p0 p1 = some r) : AC Try.prog 161 [.sv (.ints .i64 p0), .agg [.sv (.bool p1.Key), .sv (.int .i64 p1.Qp), .sv (.bool p1.Large), .sv (.bool p1.Exact)]] [] (Xkd r) (Xkc r) := by
 refine Xab hT Try.func161 rfl fun C hC => ?_
 unfold Xc0 at h
 refine Xaa ?_
 iterate 2 refine kO hT hC ?_
 refine Vc.nil (Xbd ?_)
 refine kL [0,3] [48] [_,_] [_] ?_
 refine kA h (fun v1 => ([(10, .sv (.bool v1)), (3, .any)], [(48, none)])) (fun v1 h => ?_) fun v1 h => ?_
 refine Xac ?_
 iterate 3 refine kO hT hC ?_
 refine kS h ?_ ?_ <;> intro b1 h
 iterate 2 refine kF hC b1 ?_
 refine kP hC true b1 ?_
 exact Vc.nil kM
 iterate 2 refine kI hT hC b1 ?_
 refine kP hC false b1 ?_
 exact Vc.nil kM
 refine kS h ?_ ?_ <;> intro b2 h
 refine kt b2 (Xaa ?_)
 refine kO hT hC ?_
 refine kC hC [] Try.call166 h (fun _ => Xbr) fun q2 h => ?_
 refine kO hT hC ?_
 exact Vc.nil (Xad (Xaw kR))
 refine kf b2 (Xaf (Xae ?_))
 refine Xj0 hm ?_
 refine kO hT hC ?_
 refine kQ hT hC h fun h => ?_
 refine kC hC [] Try.call166 h (fun _ => Xbr) fun q3 h => ?_
 refine kO hT hC ?_
 refine kQ hT hC h fun h => ?_
 refine kC hC [] Try.call166 h (fun _ => Xbr) fun q4 h => ?_
 refine kQ hT hC h fun h => ?_
 refine kO hT hC ?_
 refine kQ hT hC h fun h => ?_
 refine kC hC [] Try.call166 h (fun _ => Xbr) fun q5 h => ?_
 refine kQ hT hC h fun h => ?_
 refine kO hT hC ?_
 refine kQ hT hC h fun h => ?_
 refine kC hC [] Try.call166 h (fun _ => Xbr) fun q6 h => ?_
 refine kQ hT hC h fun h => ?_
 refine kO hT hC ?_
 exact kD (Xad kR)
def Xkf (r : ByteArray) : AV := .sv (.str r)
def Xke (r : ByteArray) : Xau := []
theorem Xlj {p0 p1 r} (h : Xd2 p0 p1 = some r) : AC Try.prog 143 [.agg [.sv (.int .i64 p0.Kind), .sv (.int .i64 p0.Mode), .sv (.int .i64 p0.Dx), .sv (.int .i64 p0.Dy), .sv (.ints .i64 p0.Levels)], .agg [.sv (.bool p1.Key), .sv (.int .i64 p1.Qp), .sv (.bool p1.Large), .sv (.bool p1.Exact)]] [] (Xkf r) (Xke r) := by
 refine Xab hT Try.func143 rfl fun C hC => ?_
 unfold Xd2 at h
 refine Xaa ?_
 iterate 3 refine kO hT hC ?_
 refine kN ?_
 refine kO hT hC ?_
 refine Vc.nil ?_
 refine kL [2,3,5] [32,48] [_,_,_] [_,_] ?_
 refine kA h (fun v1 => ([(5, .sv (.str v1))], [])) (fun v1 h => ?_) fun v1 h => ?_
 refine Xaa ?_
 iterate 3 refine kO hT hC ?_
 refine Vc.nil ?_
 refine kS h ?_ ?_ <;> intro b1 h
 refine kt b1 (Xac ?_)
 iterate 2 refine kO hT hC ?_
 refine kC hC [] Try.call127 h (fun _ => Xcn) fun q2 h => ?_
 refine kO hT hC ?_
 exact Vc.nil kM
 exact kf b1 (Xaf kM)
 refine Xbd (Xaa ?_)
 iterate 2 refine kO hT hC ?_
 refine Vc.nil (Xaz (Xaa ?_))
 iterate 2 refine kO hT hC ?_
 refine Vc.nil ?_
 refine kS h ?_ ?_ <;> intro b2 h
 refine kt b2 ?_
 refine Xj0 hm ?_
 iterate 3 refine kO hT hC ?_
 refine kC hC [] Try.call160 h (fun _ => Xew) fun q3 h => ?_
 refine kQ hT hC h fun h => ?_
 iterate 2 refine kO hT hC ?_
 refine kC hC [] Try.call160 h (fun _ => Xew) fun q4 h => ?_
 refine kQ hT hC h fun h => ?_
 iterate 3 refine kO hT hC ?_
 refine kC hC [] Try.call161 h (fun _ => Xfs) fun q5 h => ?_
 refine kQ hT hC h fun h => ?_
 refine kO hT hC ?_
 exact kD (Xad (Xe3 (Xaw kR)))
 refine kf b2 (Xaa ?_)
 iterate 2 refine kO hT hC ?_
 refine Vc.nil ?_
 refine kS h ?_ ?_ <;> intro b3 h
 refine kt b3 ?_
 refine Xj0 hm ?_
 iterate 3 refine kO hT hC ?_
 refine kC hC [] Try.call127 h (fun _ => Xcn) fun q6 h => ?_
 refine kQ hT hC h fun h => ?_
 iterate 3 refine kO hT hC ?_
 refine kC hC [] Try.call161 h (fun _ => Xfs) fun q7 h => ?_
 refine kQ hT hC h fun h => ?_
 refine kO hT hC ?_
 exact kD (Xad (Xe3 (Xaw kR)))
 refine kf b3 (Xaf (Xbe (Xae (Xaa ?_))))
 iterate 2 refine kO hT hC ?_
 exact Vc.nil (Xad kR)
def Xkh (r : ByteArray) : AV := .sv (.str r)
def Xkg (r : ByteArray) : Xau := []
theorem Xll {p0 p1 r} (h : Xd3 p0 p1 = some r) : AC Try.prog 108 [.sv (Xas.sv p0), .agg [.sv (.bool p1.Key), .sv (.int .i64 p1.Qp), .sv (.bool p1.Large), .sv (.bool p1.Exact)]] [] (Xkh r) (Xkg r) := by
 refine Xab hT Try.func108 rfl fun C hC => ?_
 unfold Xd3 at h
 refine Xaa ?_
 iterate 2 refine kO hT hC ?_
 refine kN ?_
 iterate 2 refine kO hT hC ?_
 refine Vc.nil (Xbd (Xaa ?_))
 refine kO hT hC ?_
 refine Vc.nil ?_
 refine kL [0,3,5,6] [48,112] [_,_,_,_] [_,_] ?_
 refine kX h (fun v3 => ([(6, .sv (.int .i64 v3.1))], [(112, some (.ints .u8 v3.2))])) (fun v6 => ([(0, .any), (3, .any), (6, .any)], [(112, some (.ints .u8 v6)), (48, none)])) (kW hC []) (fun v3 s h => ?_) fun v6 h => ?_
 unfold Xb3 at h
 refine Xbd (Xaa ?_)
 iterate 4 refine kO hT hC ?_
 refine Vc.nil ?_
 refine kS h ?_ ?_ <;> intro b3 h
 refine kt b3 (Xaf (Xae (Xbd (Xaz ?_))))
 refine Xl6 hm ?_
 iterate 3 refine kO hT hC ?_
 refine kQ hT hC h fun h => ?_
 iterate 2 refine kO hT hC ?_
 refine kC hC [] Try.call143 h (fun _ => Xlj) fun q7 h => ?_
 refine kT hT hC h fun h => ?_
 refine kO hT hC ?_
 refine kD (Xbe (Xae (Xac ?_)))
 iterate 3 refine kO hT hC ?_
 refine Vc.nil ?_
 obtain rfl := kj h
 exact Xuj (kW hC [(112, 336)])
 exact kf b3 (Xa4 (Xb9 ku))
 refine Xae (Xaa ?_)
 iterate 3 refine kO hT hC ?_
 exact Vc.nil (Xad kR)
def Xik (r : (ByteArray × Bool)) : AV := .tup [.sv (.str r.1), .sv (.bool r.2)]
def Xij (r : (ByteArray × Bool)) : Xau := []
theorem Xj8 {p0 p1 r} (h : Xc8 p0 p1 = some r) : AC Try.prog 69 [.sv (Xas.sv p0), .agg [.sv (.bool p1.Key), .sv (.int .i64 p1.Qp), .sv (.bool p1.Large), .sv (.bool p1.Exact)]] [] (Xik r) (Xij r) := by
 refine Xab hT Try.func69 rfl fun C hC => ?_
 unfold Xc8 at h
 refine Xaa ?_
 iterate 3 refine kO hT hC ?_
 refine Vc.nil (Xbd (Xaa ?_))
 iterate 2 refine kO hT hC ?_
 refine kC hC [] Try.call107 h (fun _ => Xm3) fun q1 h => ?_
 refine kO hT hC ?_
 refine Vc.nil ?_
 refine kS h ?_ ?_ <;> intro b1 h
 refine kt b1 (Xaa ?_)
 iterate 2 refine kO hT hC ?_
 exact Vc.nil (Xad (Xaw kR))
 refine kf b1 (Xaf (Xae (Xaa ?_)))
 iterate 2 refine kO hT hC ?_
 refine kC hC [] Try.call108 h (fun _ => Xll) fun q2 h => ?_
 iterate 2 refine kO hT hC ?_
 exact Vc.nil (Xad kR)
def Xhu (r : Int) : AV := .sv (.int .i64 r)
def Xht (r : Int) : Xau := []
theorem Xig {p0 p1 r} (h : Xck p0 p1 = some r) : AC Try.prog 26 [.sv (Xas.sv p0), .agg [.sv (.bool p1.Key), .sv (.int .i64 p1.Qp), .sv (.bool p1.Large), .sv (.bool p1.Exact)]] [] (Xhu r) (Xht r) := by
 refine Xab hT Try.func26 rfl fun C hC => ?_
 unfold Xck at h
 refine Xaa ?_
 iterate 2 refine kO hT hC ?_
 refine kN ?_
 iterate 2 refine kO hT hC ?_
 refine kC hC [] Try.call69 h (fun _ => Xj8) fun q1 h => ?_
 iterate 5 refine kO hT hC ?_
 refine kN ?_
 iterate 3 refine kO hT hC ?_
 exact Vc.nil (Xad kR)
def Xgj (r : Bool) : AV := .sv (.bool r)
def Xgi (r : Bool) : Xau := []
theorem Xee {p0 r} (h : Xbi p0 = some r) : AC Try.prog 162 [.sv (.ints .i64 p0)] [] (Xgj r) (Xgi r) := by
 refine Xab hT Try.func162 rfl fun C hC => ?_
 unfold Xbi at h
 refine Xaa ?_
 refine kO hT hC ?_
 refine kN ?_
 refine kO hT hC ?_
 refine kC hC [] Try.call51 h (fun _ => Xme) fun q1 h => ?_
 refine kO hT hC ?_
 exact Vc.nil (Xad kR)
def Xhb (r : Bool) : AV := .sv (.bool r)
def Xha (r : Bool) : Xau := []
theorem Xh8 {p0 r} (h : Xcc p0 = some r) : AC Try.prog 144 [.agg [.sv (.int .i64 p0.Kind), .sv (.int .i64 p0.Mode), .sv (.int .i64 p0.Dx), .sv (.int .i64 p0.Dy), .sv (.ints .i64 p0.Levels)]] [] (Xhb r) (Xha r) := by
 refine Xab hT Try.func144 rfl fun C hC => ?_
 unfold Xcc at h
 refine Xaa ?_
 iterate 2 refine kO hT hC ?_
 refine Vc.nil (Xbd (Xaa ?_))
 iterate 2 refine kO hT hC ?_
 refine Vc.nil (Xaz (Xaa ?_))
 iterate 2 refine kO hT hC ?_
 refine Vc.nil ?_
 refine kS h ?_ ?_ <;> intro b1 h
 refine kt b1 ?_
 refine kL [1,2] [16] [_,_] [_] ?_
 refine kA h (fun v1 => ([(2, .sv (.bool v1)), (1, .any)], [(16, none)])) (fun v1 h => ?_) fun v1 h => ?_
 refine Xac ?_
 iterate 4 refine kO hT hC ?_
 refine kS h ?_ ?_ <;> intro b2 h
 iterate 3 refine kI hT hC b2 ?_
 refine kP hC true b2 ?_
 refine kO hT hC ?_
 refine kS h ?_ ?_ <;> intro b3 h
 iterate 3 refine kI hT hC b3 ?_
 refine kP hC true b3 ?_
 refine kO hT hC ?_
 refine kS h ?_ ?_ <;> intro b4 h
 iterate 4 refine kI hT hC b4 ?_
 refine kP hC true b4 ?_
 refine kO hT hC ?_
 exact Vc.nil kM
 iterate 4 refine kF hC b4 ?_
 refine kP hC false b4 ?_
 refine kO hT hC ?_
 exact Vc.nil kM
 iterate 3 refine kF hC b3 ?_
 refine kP hC false b3 ?_
 refine kO hT hC ?_
 iterate 4 refine kF hC rfl ?_
 iterate 2 refine kO hT hC ?_
 exact Vc.nil kM
 iterate 3 refine kF hC b2 ?_
 refine kP hC false b2 ?_
 refine kO hT hC ?_
 iterate 3 refine kF hC rfl ?_
 iterate 2 refine kO hT hC ?_
 iterate 4 refine kF hC rfl ?_
 iterate 2 refine kO hT hC ?_
 exact Vc.nil kM
 exact Xad (Xe3 (Xaw kR))
 refine kf b1 (Xaa ?_)
 iterate 2 refine kO hT hC ?_
 refine Vc.nil ?_
 refine kS h ?_ ?_ <;> intro b5 h
 refine kt b5 ?_
 refine kL [1,2] [16] [_,_] [_] ?_
 refine kA h (fun v2 => ([(2, .sv (.bool v2)), (1, .any)], [(16, none)])) (fun v2 h => ?_) fun v2 h => ?_
 refine Xac ?_
 iterate 4 refine kO hT hC ?_
 refine kS h ?_ ?_ <;> intro b6 h
 iterate 2 refine kI hT hC b6 ?_
 refine kE hC b6 [] Try.call52 h (fun _ => Xax) fun q3 h => ?_
 refine kP hC true b6 ?_
 refine kO hT hC ?_
 refine kS h ?_ ?_ <;> intro b7 h
 iterate 2 refine kI hT hC b7 ?_
 refine kE hC b7 [] Try.call52 h (fun _ => Xax) fun q4 h => ?_
 refine kP hC true b7 ?_
 refine kO hT hC ?_
 refine kS h ?_ ?_ <;> intro b8 h
 iterate 2 refine kI hT hC b8 ?_
 refine kE hC b8 [] Try.call162 h (fun _ => Xee) fun q5 h => ?_
 refine kP hC true b8 ?_
 refine kO hT hC ?_
 exact Vc.nil kM
 iterate 3 refine kF hC b8 ?_
 refine kP hC false b8 ?_
 refine kO hT hC ?_
 exact Vc.nil kM
 iterate 3 refine kF hC b7 ?_
 refine kP hC false b7 ?_
 refine kO hT hC ?_
 iterate 3 refine kF hC rfl ?_
 iterate 2 refine kO hT hC ?_
 exact Vc.nil kM
 iterate 3 refine kF hC b6 ?_
 refine kP hC false b6 ?_
 refine kO hT hC ?_
 iterate 3 refine kF hC rfl ?_
 iterate 2 refine kO hT hC ?_
 iterate 3 refine kF hC rfl ?_
 iterate 2 refine kO hT hC ?_
 exact Vc.nil kM
 exact Xad (Xe3 (Xaw kR))
 refine kf b5 (Xaa ?_)
 iterate 2 refine kO hT hC ?_
 refine Vc.nil ?_
 refine kS h ?_ ?_ <;> intro b9 h
 refine kt b9 ?_
 refine kL [1,2] [16] [_,_] [_] ?_
 refine kA h (fun v6 => ([(2, .sv (.bool v6)), (1, .any)], [(16, none)])) (fun v6 h => ?_) fun v6 h => ?_
 refine Xac ?_
 iterate 2 refine kO hT hC ?_
 refine kC hC [] Try.call52 h (fun _ => Xax) fun q7 h => ?_
 refine kO hT hC ?_
 refine kS h ?_ ?_ <;> intro b10 h
 iterate 3 refine kI hT hC b10 ?_
 refine kP hC true b10 ?_
 refine kO hT hC ?_
 refine kS h ?_ ?_ <;> intro b11 h
 iterate 3 refine kI hT hC b11 ?_
 refine kP hC true b11 ?_
 refine kO hT hC ?_
 refine kS h ?_ ?_ <;> intro b12 h
 iterate 2 refine kI hT hC b12 ?_
 refine kE hC b12 [] Try.call162 h (fun _ => Xee) fun q8 h => ?_
 refine kP hC true b12 ?_
 refine kO hT hC ?_
 exact Vc.nil kM
 iterate 3 refine kF hC b12 ?_
 refine kP hC false b12 ?_
 refine kO hT hC ?_
 exact Vc.nil kM
 iterate 3 refine kF hC b11 ?_
 refine kP hC false b11 ?_
 refine kO hT hC ?_
 iterate 3 refine kF hC rfl ?_
 iterate 2 refine kO hT hC ?_
 exact Vc.nil kM
 iterate 3 refine kF hC b10 ?_
 refine kP hC false b10 ?_
 refine kO hT hC ?_
 iterate 3 refine kF hC rfl ?_
 iterate 2 refine kO hT hC ?_
 iterate 3 refine kF hC rfl ?_
 iterate 2 refine kO hT hC ?_
 exact Vc.nil kM
 exact Xad (Xe3 (Xaw kR))
 refine kf b9 (Xaf (Xbe (Xae (Xaa ?_))))
 refine kO hT hC ?_
 exact Vc.nil (Xad kR)
def Xja (r : Bool) : AV := .sv (.bool r)
def Xi9 (r : Bool) : Xau := []
theorem Xks {p0 r} (h : Xdt p0 = some r) : AC Try.prog 145 [.agg [.sv (.bool p0.Key), .sv (.int .i64 p0.Qp), .sv (.bool p0.Large), .sv (.bool p0.Exact)]] [] (Xja r) (Xi9 r) := by
 refine Xab hT Try.func145 rfl fun C hC => ?_
 unfold Xdt at h
 refine Xaa ?_
 iterate 2 refine kO hT hC ?_
 refine Vc.nil ?_
 refine kL [1,2] [16] [_,_] [_] ?_
 refine kA h (fun v1 => ([(2, .sv (.bool v1)), (1, .any)], [(16, none)])) (fun v1 h => ?_) fun v1 h => ?_
 refine Xac ?_
 iterate 2 refine kO hT hC ?_
 refine kC hC [] Try.call52 h (fun _ => Xax) fun q2 h => ?_
 refine kO hT hC ?_
 refine kS h ?_ ?_ <;> intro b1 h
 iterate 3 refine kI hT hC b1 ?_
 refine kS h ?_ ?_ <;> intro b2 h
 iterate 2 refine kI hT hC b2 ?_
 refine Xeo hC rfl rfl rfl rfl b1 rfl rfl (b := true) b2 rfl rfl rfl trivial ?_
 refine kI hT hC b1 ?_
 refine kP hC true b1 ?_
 refine kO hT hC ?_
 exact Vc.nil kM
 iterate 2 refine kF hC b2 ?_
 refine Xeo hC rfl rfl rfl rfl b1 rfl rfl (b := false) b2 rfl rfl rfl trivial ?_
 refine kI hT hC b1 ?_
 refine kP hC true b1 ?_
 refine kO hT hC ?_
 exact Vc.nil kM
 iterate 3 refine kF hC b1 ?_
 iterate 2 refine Xro hC rfl rfl rfl rfl rfl rfl ?_
 iterate 2 refine kF hC b1 ?_
 refine kP hC false b1 ?_
 refine kO hT hC ?_
 exact Vc.nil kM
 exact Xad kR
def Xf2 (r : Bool) : AV := .sv (.bool r)
def Xf1 (r : Bool) : Xau := []
theorem Xgh {p0 p1 r} (h : Xcd p0 p1 = some r) : AC Try.prog 146 [.agg [.sv (.int .i64 p0.Kind), .sv (.int .i64 p0.Mode), .sv (.int .i64 p0.Dx), .sv (.int .i64 p0.Dy), .sv (.ints .i64 p0.Levels)], .agg [.sv (.bool p1.Key), .sv (.int .i64 p1.Qp), .sv (.bool p1.Large), .sv (.bool p1.Exact)]] [] (Xf2 r) (Xf1 r) := by
 refine Xab hT Try.func146 rfl fun C hC => ?_
 unfold Xcd at h
 refine Xaa ?_
 iterate 3 refine kO hT hC ?_
 refine Vc.nil ?_
 refine kL [2,3,4] [32,48] [_,_,_] [_,_] ?_
 refine kA h (fun v1 => ([(4, .sv (.bool v1)), (2, .any), (3, .any)], [(32, none), (48, none)])) (fun v1 h => ?_) fun v1 h => ?_
 refine Xac ?_
 iterate 4 refine kO hT hC ?_
 refine kS h ?_ ?_ <;> intro b1 h
 iterate 3 refine kI hT hC (kn b1) ?_
 refine kP hC false (kn b1) ?_
 refine kO hT hC ?_
 exact Vc.nil kM
 iterate 3 refine kF hC (kn b1) ?_
 refine kP hC true (kn b1) ?_
 refine kO hT hC ?_
 exact Vc.nil kM
 exact Xad kR
def Xmh (r : (List Int)) : AV := .own 16
def Xmg (r : (List Int)) : Xau := [(16, .ints .u8 r)]
theorem Xh0 {p0 r} (h : Xeh p0 = some r) : AC Try.prog 163 [.sv (.ints .i64 p0)] [] (Xmh r) (Xmg r) := by
 refine Xab hT Try.func163 rfl fun C hC => ?_
 unfold Xeh at h
 refine Xaa ?_
 refine kO hT hC ?_
 refine kN ?_
 iterate 2 refine kO hT hC ?_
 refine kN ?_
 refine kO hT hC ?_
 refine Vc.nil (Xbd (Xaa ?_))
 iterate 3 refine kO hT hC ?_
 refine Vc.nil ?_
 refine kL [0,3,4,13,14,15] [192] [_,_,_,_,_,_] [_] ?_
 refine kX h (fun v3 => ([(4, .sv (.int .i64 v3.1)), (15, .sv (.int .i64 v3.2))], [])) (fun v6 => ([(4, .sv (.int .i64 v6)), (13, .any), (14, .any), (15, .any)], [])) (kW hC []) (fun v3 s h => ?_) fun v6 h => ?_
 unfold Xb6 at h
 refine Xaa ?_
 refine kO hT hC ?_
 refine Vc.nil (Xbd ?_)
 refine kS h ?_ ?_ <;> intro b5 h
 refine kt b5 (Xaf (Xae ?_))
 refine kL [0,3,4,13,14,15] [192] [_,_,_,_,_,_] [_] ?_
 refine kA h (fun v7 => ([(4, .sv (.int .i64 v7))], [])) (fun v7 h => ?_) fun v7 h => ?_
 refine Xaz (Xaa ?_)
 refine kQ hT hC h fun h => ?_
 iterate 2 refine kO hT hC ?_
 refine kN ?_
 iterate 2 refine kO hT hC ?_
 refine Vc.nil ?_
 refine kS h ?_ ?_ <;> intro b6 h
 refine kt b6 (Xac ?_)
 iterate 3 refine kO hT hC ?_
 exact Vc.nil (Xbe kM)
 exact kf b6 (Xaf (Xbe kM))
 refine Xac ?_
 iterate 2 refine kO hT hC ?_
 exact Vc.nil kG
 exact kf b5 (Xa4 (Xb9 ku))
 refine Xae (Xaa ?_)
 iterate 2 refine kO hT hC ?_
 refine kC hC [] Try.call131 h (fun _ => Xdp) fun q9 h => ?_
 refine kT hT hC h fun h => ?_
 refine kO hT hC ?_
 refine kN ?_
 refine kO hT hC ?_
 refine Vc.nil (Xbd (Xaa ?_))
 iterate 3 refine kO hT hC ?_
 refine Vc.nil ?_
 refine kL [3,7,28,29,30] [432] [_,_,_,_,_] [_] ?_
 refine kX h (fun v15 => ([(7, .sv (.int .i64 v15.1)), (30, .sv (.int .i64 v15.2.1))], [(432, some (.ints .u8 v15.2.2))])) (fun v21 => ([(7, .any), (28, .any), (29, .any), (30, .any)], [(432, some (.ints .u8 v21))])) (kW hC []) (fun v15 s h => ?_) fun v21 h => ?_
 unfold Xb7 at h
 refine Xaa ?_
 refine kO hT hC ?_
 refine Vc.nil (Xbd ?_)
 refine kS h ?_ ?_ <;> intro b11 h
 refine kt b11 (Xaf (Xae ?_))
 refine kL [3,7,28,29,30] [432] [_,_,_,_,_] [_] ?_
 refine kA h (fun v22 => ([(7, .sv (.int .i64 v22.1))], [(432, some (.ints .u8 v22.2))])) (fun v22 h => ?_) fun v22 h => ?_
 refine Xaz (Xaa ?_)
 refine kQ hT hC h fun h => ?_
 iterate 2 refine kO hT hC ?_
 refine Vc.nil (Xbd (Xaa ?_))
 iterate 2 refine kO hT hC ?_
 refine Vc.nil ?_
 refine kS h ?_ ?_ <;> intro b12 h
 refine kt b12 (Xaa ?_)
 iterate 3 refine kO hT hC ?_
 exact Vc.nil (Xa4 (Xb9 (Xo4 kM)))
 refine kf b12 (Xaf (Xae (Xaa ?_)))
 refine kO hT hC ?_
 refine kC hC [] Try.call98 h (fun _ => Xfl) fun q23 h => ?_
 iterate 5 refine kO hT hC ?_
 refine kN ?_
 iterate 2 refine kO hT hC ?_
 refine kC hC [] Try.call131 h (fun _ => Xdp) fun q24 h => ?_
 refine kT hT hC h fun h => ?_
 refine kO hT hC ?_
 refine kC hC [] Try.call131 h (fun _ => Xdp) fun q25 h => ?_
 refine kT hT hC h fun h => ?_
 refine kO hT hC ?_
 refine Vc.nil (Xac ?_)
 refine kO hT hC ?_
 refine Vc.nil (Xbe ?_)
 obtain rfl := kj h
 exact Xnw (kW hC [(432, 784)])
 refine Xac ?_
 iterate 2 refine kO hT hC ?_
 exact Vc.nil kG
 exact kf b11 (Xa4 (Xb9 ku))
 refine Xae (Xaa ?_)
 iterate 2 refine kO hT hC ?_
 refine Vc.nil (Xad ?_)
 obtain rfl := kj h
 exact Xo9 (τ := ⟨[(2, .own 16)], [(16, some (.ints .u8 v21))]⟩) (kW hC [(16, 432)]) rfl ⟨rfl, trivial⟩
def Xgn (r : (List Int)) : AV := .own 16
def Xgm (r : (List Int)) : Xau := [(16, .ints .u8 r)]
theorem Xef {p0 p1 r} (h : Xbj p0 p1 = some r) : AC Try.prog 147 [.sv (.ints .i64 p0), .agg [.sv (.bool p1.Key), .sv (.int .i64 p1.Qp), .sv (.bool p1.Large), .sv (.bool p1.Exact)]] [] (Xgn r) (Xgm r) := by
 refine Xab hT Try.func147 rfl fun C hC => ?_
 unfold Xbj at h
 refine Xaa ?_
 iterate 2 refine kO hT hC ?_
 refine Vc.nil (Xbd ?_)
 refine kL [0,3] [48] [_,_] [_] ?_
 refine kA h (fun v1 => ([(12, .sv (.bool v1)), (3, .any)], [(48, none)])) (fun v1 h => ?_) fun v1 h => ?_
 refine Xac ?_
 iterate 3 refine kO hT hC ?_
 refine kS h ?_ ?_ <;> intro b1 h
 iterate 2 refine kF hC b1 ?_
 refine kP hC true b1 ?_
 exact Vc.nil kM
 iterate 2 refine kI hT hC b1 ?_
 refine kP hC false b1 ?_
 exact Vc.nil kM
 refine kS h ?_ ?_ <;> intro b2 h
 refine kt b2 (Xaa ?_)
 refine kO hT hC ?_
 refine kC hC [(16, 224)] Try.call163 h (fun _ => Xh0) fun q2 h => ?_
 refine kO hT hC ?_
 refine Vc.nil (Xad (Xaw ?_))
 obtain rfl := kj h
 exact Xo9 (τ := ⟨[(4, .own 16)], [(16, some (.ints .u8 q2))]⟩) (kW hC [(16, 224)]) rfl ⟨rfl, trivial⟩
 refine kf b2 (Xaf (Xae (Xaa ?_)))
 iterate 2 refine kO hT hC ?_
 refine Vc.nil (Xbd (Xaa ?_))
 refine kO hT hC ?_
 refine Vc.nil ?_
 refine kL [0,5,16] [240] [_,_,_] [_] ?_
 refine kX h (fun v5 => ([(16, .sv (.int .i64 v5.1))], [(240, some (.ints .u8 v5.2))])) (fun v8 => ([(0, .any), (16, .any)], [(240, some (.ints .u8 v8))])) (kW hC []) (fun v5 s h => ?_) fun v8 h => ?_
 unfold Xan at h
 refine Xaa ?_
 refine kO hT hC ?_
 refine Vc.nil (Xbd ?_)
 refine kS h ?_ ?_ <;> intro b5 h
 refine kt b5 (Xaf (Xae (Xbd (Xaz (Xaa ?_)))))
 iterate 2 refine kO hT hC ?_
 refine Vc.nil (Xac ?_)
 iterate 7 refine kO hT hC ?_
 refine kQ hT hC h fun h => ?_
 refine kC hC [(16, 432)] Try.call163 h (fun _ => Xh0) fun q9 h => ?_
 refine kT hT hC h fun h => ?_
 refine kO hT hC ?_
 refine Vc.nil (Xbe (Xae (Xac ?_)))
 iterate 2 refine kO hT hC ?_
 refine Vc.nil ?_
 obtain rfl := kj h
 exact Xuj (kW hC [(240, 448)])
 exact kf b5 (Xa4 (Xb9 ku))
 refine Xae (Xaa ?_)
 iterate 2 refine kO hT hC ?_
 refine Vc.nil (Xad ?_)
 obtain rfl := kj h
 exact Xo9 (τ := ⟨[(4, .own 16)], [(16, some (.ints .u8 v8))]⟩) (kW hC [(16, 240)]) rfl ⟨rfl, trivial⟩
def Xgg (r : (ByteArray × Bool)) : AV := .tup [.sv (.str r.1), .sv (.bool r.2)]
def Xgf (r : (ByteArray × Bool)) : Xau := []
theorem Xhc {p0 p1 r} (h : Xbx p0 p1 = some r) : AC Try.prog 110 [.agg [.sv (.int .i64 p0.Kind), .sv (.int .i64 p0.Mode), .sv (.int .i64 p0.Dx), .sv (.int .i64 p0.Dy), .sv (.ints .i64 p0.Levels)], .agg [.sv (.bool p1.Key), .sv (.int .i64 p1.Qp), .sv (.bool p1.Large), .sv (.bool p1.Exact)]] [] (Xgg r) (Xgf r) := by
 refine Xab hT Try.func110 rfl fun C hC => ?_
 unfold Xbx at h
 refine Xaa ?_
 iterate 4 refine kO hT hC ?_
 refine Vc.nil (Xbd ?_)
 refine kL [2,3] [32,48] [_,_] [_,_] ?_
 refine kA h (fun v1 => ([(24, .sv (.bool v1))], [])) (fun v1 h => ?_) fun v1 h => ?_
 refine Xac ?_
 refine kO hT hC ?_
 refine kC hC [] Try.call144 h (fun _ => Xh8) fun q2 h => ?_
 iterate 2 refine kO hT hC ?_
 refine kS h ?_ ?_ <;> intro b1 h
 refine kI hT hC (kn b1) ?_
 refine kE hC (kn b1) [] Try.call145 h (fun _ => Xks) fun q3 h => ?_
 refine kI hT hC (kn b1) ?_
 refine kP hC false (kn b1) ?_
 refine kO hT hC ?_
 refine kS h ?_ ?_ <;> intro b2 h
 iterate 2 refine kI hT hC (kn b2) ?_
 refine kE hC (kn b2) [] Try.call146 h (fun _ => Xgh) fun q4 h => ?_
 refine kI hT hC (kn b2) ?_
 refine kP hC false (kn b2) ?_
 exact Vc.nil kM
 iterate 4 refine kF hC (kn b2) ?_
 refine kP hC true (kn b2) ?_
 exact Vc.nil kM
 iterate 3 refine kF hC (kn b1) ?_
 refine kP hC true (kn b1) ?_
 refine kO hT hC ?_
 iterate 4 refine kF hC rfl ?_
 refine kO hT hC ?_
 exact Vc.nil kM
 refine kS h ?_ ?_ <;> intro b3 h
 refine kt b3 (Xaa ?_)
 iterate 2 refine kO hT hC ?_
 exact Vc.nil (Xad (Xaw kR))
 refine kf b3 (Xaf (Xae (Xaa ?_)))
 iterate 2 refine kO hT hC ?_
 refine Vc.nil ?_
 refine kL [2,3,6] [32,48,400] [_,_,_] [_,_,_] ?_
 refine kA h (fun v5 => ([], [(400, some (.ints .u8 v5))])) (fun v5 h => ?_) fun v5 h => ?_
 refine Xaa ?_
 iterate 3 refine kO hT hC ?_
 refine Vc.nil ?_
 refine kS h ?_ ?_ <;> intro b4 h
 refine kt b4 (Xac ?_)
 iterate 3 refine kO hT hC ?_
 refine kC hC [] Try.call131 h (fun _ => Xdp) fun q6 h => ?_
 refine kT hT hC h fun h => ?_
 refine kO hT hC ?_
 refine Vc.nil ?_
 obtain rfl := kj h
 exact Xnw (kW hC [(400, 528)])
 exact kf b4 (Xaf kM)
 refine kL [2,3,6] [32,48,400] [_,_,_] [_,_,_] ?_
 refine kA h (fun v7 => ([(2, .any), (3, .any)], [(400, some (.ints .u8 v7)), (32, none), (48, none)])) (fun v7 h => ?_) fun v7 h => ?_
 refine Xaa ?_
 iterate 2 refine kO hT hC ?_
 refine Vc.nil (Xaz (Xaa ?_))
 iterate 2 refine kO hT hC ?_
 refine Vc.nil ?_
 refine kS h ?_ ?_ <;> intro b5 h
 refine kt b5 (Xaa ?_)
 iterate 2 refine kO hT hC ?_
 refine kC hC [] Try.call57 h (fun _ => Xgd) fun q8 h => ?_
 iterate 5 refine kO hT hC ?_
 refine kN ?_
 iterate 2 refine kO hT hC ?_
 refine kC hC [] Try.call57 h (fun _ => Xgd) fun q9 h => ?_
 iterate 5 refine kO hT hC ?_
 refine Vc.nil ?_
 refine Xl6 hm ?_
 iterate 2 refine kO hT hC ?_
 refine kT hT hC h fun h => ?_
 refine kO hT hC ?_
 refine kT hT hC h fun h => ?_
 iterate 3 refine kO hT hC ?_
 refine kC hC [(16, 928)] Try.call147 h (fun _ => Xef) fun q10 h => ?_
 refine kT hT hC h fun h => ?_
 refine kO hT hC ?_
 refine kD (Xbe ?_)
 obtain rfl := kj h
 exact Xnw (kW hC [(400, 944)])
 refine kf b5 (Xaa ?_)
 iterate 2 refine kO hT hC ?_
 refine Vc.nil ?_
 refine kS h ?_ ?_ <;> intro b6 h
 refine kt b6 ?_
 refine Xl6 hm ?_
 iterate 3 refine kO hT hC ?_
 refine kC hC [] Try.call131 h (fun _ => Xdp) fun q11 h => ?_
 refine kT hT hC h fun h => ?_
 iterate 3 refine kO hT hC ?_
 refine kC hC [(16, 1120)] Try.call147 h (fun _ => Xef) fun q12 h => ?_
 refine kT hT hC h fun h => ?_
 refine kO hT hC ?_
 refine kD (Xbe ?_)
 obtain rfl := kj h
 exact Xnw (kW hC [(400, 1136)])
 exact kf b6 (Xaf (Xbe kM))
 refine Xaa ?_
 iterate 4 refine kO hT hC ?_
 exact Vc.nil (Xad kR)
def Xe0 (r : (ByteArray × Bool)) : AV := .tup [.sv (.str r.1), .sv (.bool r.2)]
def Xez (r : (ByteArray × Bool)) : Xau := []
theorem Xjd {p0 p1 r} (h : Xc6 p0 p1 = some r) : AC Try.prog 71 [.sv (Xas.sv p0), .agg [.sv (.bool p1.Key), .sv (.int .i64 p1.Qp), .sv (.bool p1.Large), .sv (.bool p1.Exact)]] [] (Xe0 r) (Xez r) := by
 refine Xab hT Try.func71 rfl fun C hC => ?_
 unfold Xc6 at h
 refine Xaa ?_
 iterate 3 refine kO hT hC ?_
 refine Vc.nil (Xbd (Xaa ?_))
 iterate 2 refine kO hT hC ?_
 refine kC hC [] Try.call52 h (fun _ => Xax) fun q1 h => ?_
 refine kO hT hC ?_
 refine Vc.nil ?_
 refine kS h ?_ ?_ <;> intro b1 h
 refine kt b1 (Xaa ?_)
 iterate 2 refine kO hT hC ?_
 exact Vc.nil (Xad (Xaw kR))
 refine kf b1 (Xaf (Xae (Xaa ?_)))
 iterate 2 refine kO hT hC ?_
 refine Vc.nil (Xbd (Xaa ?_))
 iterate 3 refine kO hT hC ?_
 refine Vc.nil ?_
 refine kL [3,6,16,17,18] [48,240] [_,_,_,_,_] [_,_] ?_
 obtain ⟨o9, hl, h⟩ := Xb4 h
 refine Xf8 (fun v4 => ([(18, .sv (.int .i64 v4.1))], [(240, some (.ints .u8 v4.2))])) (fun v7 => ([(3, .any), (16, .any), (17, .any), (18, .any)], [(240, some (.ints .u8 v7)), (48, none)])) (fun r => Xl2 C T Try.f71.results.toList (Xe0 r) (Xez r)) hl ?_ ?_ ?_ ?_
 try dsimp only
 apply Xh6 hC []
 exact co
 rfl
 decide
 rfl
 intro v4 s hs
 have h := hs
 unfold Xa5 at h
 refine Xaa ?_
 refine kO hT hC ?_
 refine Vc.nil (Xbd ?_)
 refine kS h ?_ ?_ <;> intro b6 h
 refine kt b6 (Xaf (Xae (Xbd (Xaz (Xaa ?_)))))
 refine kQ hT hC h fun h => ?_
 iterate 3 refine kO hT hC ?_
 refine kN ?_
 iterate 2 refine kO hT hC ?_
 refine kC hC [] Try.call110 h (fun _ => Xhc) fun q8 h => ?_
 iterate 5 refine kO hT hC ?_
 refine Vc.nil (Xbd (Xaa ?_))
 iterate 2 refine kO hT hC ?_
 refine Vc.nil ?_
 refine kS h ?_ ?_ <;> intro b7 h
 refine kt b7 (Xaa ?_)
 iterate 2 refine kO hT hC ?_
 refine Vc.nil (Xad (Xaw (Xe3 (Xaw ?_))))
 obtain rfl := kj h
 refine Xor (Xop ?_)
 exact Xo9 (Xe2.refl _) rfl trivial
 refine kf b7 (Xaf (Xae (Xac ?_)))
 iterate 2 refine kO hT hC ?_
 refine kT hT hC h fun h => ?_
 refine kO hT hC ?_
 refine Vc.nil (Xbe (Xae (Xac ?_)))
 iterate 2 refine kO hT hC ?_
 refine Vc.nil ?_
 obtain rfl := kj h
 exact Xuj (kW hC [(240, 512)])
 exact kf b6 (Xa4 (Xb9 kb))
 intro v7 e
 subst e
 refine Xae (Xaa ?_)
 iterate 4 refine kO hT hC ?_
 exact Vc.nil (Xad kR)
 intro r' σ' e hE
 subst e
 obtain rfl := kj h
 refine Xaw ?_
 exact hE
def Xg9 (r : Int) : AV := .sv (.int .i64 r)
def Xg8 (r : Int) : Xau := []
theorem Xh7 {p0 p1 r} (h : Xcb p0 p1 = some r) : AC Try.prog 29 [.sv (Xas.sv p0), .agg [.sv (.bool p1.Key), .sv (.int .i64 p1.Qp), .sv (.bool p1.Large), .sv (.bool p1.Exact)]] [] (Xg9 r) (Xg8 r) := by
 refine Xab hT Try.func29 rfl fun C hC => ?_
 unfold Xcb at h
 refine Xaa ?_
 iterate 2 refine kO hT hC ?_
 refine kN ?_
 iterate 2 refine kO hT hC ?_
 refine kC hC [] Try.call71 h (fun _ => Xjd) fun q1 h => ?_
 iterate 5 refine kO hT hC ?_
 refine kN ?_
 iterate 3 refine kO hT hC ?_
 exact Vc.nil (Xad kR)
def Xe6 (r : Bool) : AV := .sv (.bool r)
def Xe5 (r : Bool) : Xau := []
theorem Xk0 {p0 p1 r} (h : Xdv p0 p1 = some r) : AC Try.prog 111 [.sv (.ints .i64 p0), .sv (.ints .i64 p1)] [] (Xe6 r) (Xe5 r) := by
 refine Xab hT Try.func111 rfl fun C hC => ?_
 unfold Xdv at h
 refine Xaa ?_
 refine kO hT hC ?_
 refine Vc.nil (Xbd (Xaa ?_))
 iterate 5 refine kO hT hC ?_
 refine Vc.nil ?_
 refine kS h ?_ ?_ <;> intro b1 h
 refine kt b1 (Xaa ?_)
 refine kO hT hC ?_
 exact Vc.nil (Xad (Xaw kR))
 refine kf b1 (Xaf (Xae (Xbd (Xaa ?_))))
 refine kO hT hC ?_
 refine Vc.nil ?_
 refine kL [0,1,5] [] [_,_,_] [] ?_
 obtain ⟨o5, hl, h⟩ := Xb4 h
 refine Xf8 (fun v2 => ([(5, .sv (.int .i64 v2))], [])) (fun v4 => ([(0, .any), (1, .any), (5, .any)], [])) (fun r => Xl2 C T Try.f111.results.toList (Xe6 r) (Xe5 r)) hl ?_ ?_ ?_ ?_
 apply Xh6 hC []
 exact co
 rfl
 decide
 rfl
 intro v2 s hs
 have h := hs
 unfold Xby at h
 refine Xbd (Xaa ?_)
 iterate 4 refine kO hT hC ?_
 refine Vc.nil ?_
 refine kS h ?_ ?_ <;> intro b6 h
 refine kt b6 (Xaf (Xae (Xbd (Xaz ?_))))
 refine Xj0 hm ?_
 iterate 2 refine kO hT hC ?_
 refine kQ hT hC h fun h => ?_
 iterate 3 refine kO hT hC ?_
 refine kQ hT hC h fun h => ?_
 iterate 2 refine kO hT hC ?_
 refine kD ?_
 refine kS h ?_ ?_ <;> intro b7 h
 refine kt b7 (Xaa ?_)
 refine kO hT hC ?_
 refine Vc.nil (Xad (Xe3 (Xaw ?_)))
 obtain rfl := kj h
 refine Xor (Xop ?_)
 exact Xo9 (Xe2.refl _) rfl trivial
 refine kf b7 (Xaf (Xbe (Xae (Xac ?_))))
 iterate 3 refine kO hT hC ?_
 exact Vc.nil kG
 exact kf b6 (Xa4 (Xb9 kb))
 intro v4 e
 subst e
 refine Xae (Xaa ?_)
 refine kO hT hC ?_
 exact Vc.nil (Xad kR)
 intro r' σ' e hE
 subst e
 obtain rfl := kj h
 refine Xaw ?_
 exact hE
def Xhi (r : Bool) : AV := .sv (.bool r)
def Xhh (r : Bool) : Xau := []
theorem Xib {p0 p1 r} (h : Xdi p0 p1 = some r) : AC Try.prog 72 [.agg [.sv (.int .i64 p0.Kind), .sv (.int .i64 p0.Mode), .sv (.int .i64 p0.Dx), .sv (.int .i64 p0.Dy), .sv (.ints .i64 p0.Levels)], .agg [.sv (.int .i64 p1.Kind), .sv (.int .i64 p1.Mode), .sv (.int .i64 p1.Dx), .sv (.int .i64 p1.Dy), .sv (.ints .i64 p1.Levels)]] [] (Xhi r) (Xhh r) := by
 refine Xab hT Try.func72 rfl fun C hC => ?_
 unfold Xdi at h
 refine Xaa ?_
 iterate 3 refine kO hT hC ?_
 refine Vc.nil (Xbd (Xaa ?_))
 iterate 5 refine kO hT hC ?_
 refine Vc.nil ?_
 refine kS h ?_ ?_ <;> intro b1 h
 refine kt b1 (Xaa ?_)
 refine kO hT hC ?_
 exact Vc.nil (Xad (Xaw kR))
 refine kf b1 (Xaf (Xae (Xbd (Xaa ?_))))
 iterate 5 refine kO hT hC ?_
 refine Vc.nil ?_
 refine kS h ?_ ?_ <;> intro b2 h
 refine kt b2 (Xaa ?_)
 refine kO hT hC ?_
 exact Vc.nil (Xad (Xaw kR))
 refine kf b2 (Xaf (Xae (Xbd (Xaa ?_))))
 iterate 5 refine kO hT hC ?_
 refine Vc.nil ?_
 refine kS h ?_ ?_ <;> intro b3 h
 refine kt b3 (Xaa ?_)
 refine kO hT hC ?_
 exact Vc.nil (Xad (Xaw kR))
 refine kf b3 (Xaf (Xae (Xbd (Xaa ?_))))
 iterate 5 refine kO hT hC ?_
 refine Vc.nil ?_
 refine kS h ?_ ?_ <;> intro b4 h
 refine kt b4 (Xaa ?_)
 refine kO hT hC ?_
 exact Vc.nil (Xad (Xaw kR))
 refine kf b4 (Xaf (Xae (Xbd (Xaa ?_))))
 iterate 4 refine kO hT hC ?_
 refine kC hC [] Try.call111 h (fun _ => Xk0) fun q1 h => ?_
 refine kO hT hC ?_
 refine Vc.nil ?_
 refine kS h ?_ ?_ <;> intro b5 h
 refine kt b5 (Xaa ?_)
 refine kO hT hC ?_
 exact Vc.nil (Xad (Xaw kR))
 refine kf b5 (Xaf (Xae (Xaa ?_)))
 refine kO hT hC ?_
 exact Vc.nil (Xad kR)
def Xd6 (r : Bool) : AV := .sv (.bool r)
def Xd5 (r : Bool) : Xau := []
theorem Xhg {p0 p1 r} (h : Xbz p0 p1 = some r) : AC Try.prog 30 [.sv (Xas.sv p0), .sv (Xas.sv p1)] [] (Xd6 r) (Xd5 r) := by
 refine Xab hT Try.func30 rfl fun C hC => ?_
 unfold Xbz at h
 refine Xaa ?_
 refine kO hT hC ?_
 refine Vc.nil (Xbd (Xaa ?_))
 iterate 5 refine kO hT hC ?_
 refine Vc.nil ?_
 refine kS h ?_ ?_ <;> intro b1 h
 refine kt b1 (Xaa ?_)
 refine kO hT hC ?_
 exact Vc.nil (Xad (Xaw kR))
 refine kf b1 (Xaf (Xae (Xbd (Xaa ?_))))
 refine kO hT hC ?_
 refine Vc.nil ?_
 refine kL [0,1,5] [] [_,_,_] [] ?_
 obtain ⟨o8, hl, h⟩ := Xb4 h
 refine Xf8 (fun v3 => ([(5, .sv (.int .i64 v3))], [])) (fun v6 => ([(0, .any), (1, .any), (5, .any)], [])) (fun r => Xl2 C T Try.f30.results.toList (Xd6 r) (Xd5 r)) hl ?_ ?_ ?_ ?_
 apply Xh6 hC []
 exact co
 rfl
 decide
 rfl
 intro v3 s hs
 have h := hs
 unfold Xa6 at h
 refine Xbd (Xaa ?_)
 iterate 4 refine kO hT hC ?_
 refine Vc.nil ?_
 refine kS h ?_ ?_ <;> intro b6 h
 refine kt b6 (Xaf (Xae (Xbd (Xaz ?_))))
 refine Xj0 hm ?_
 iterate 2 refine kO hT hC ?_
 refine kQ hT hC h fun h => ?_
 iterate 3 refine kO hT hC ?_
 refine kQ hT hC h fun h => ?_
 refine kO hT hC ?_
 refine kC hC [] Try.call72 h (fun _ => Xib) fun q7 h => ?_
 refine kO hT hC ?_
 refine kD ?_
 refine kS h ?_ ?_ <;> intro b7 h
 refine kt b7 (Xaa ?_)
 refine kO hT hC ?_
 refine Vc.nil (Xad (Xe3 (Xaw ?_)))
 obtain rfl := kj h
 refine Xor (Xop ?_)
 exact Xo9 (Xe2.refl _) rfl trivial
 refine kf b7 (Xaf (Xbe (Xae (Xac ?_))))
 iterate 3 refine kO hT hC ?_
 exact Vc.nil kG
 exact kf b6 (Xa4 (Xb9 kb))
 intro v6 e
 subst e
 refine Xae (Xaa ?_)
 refine kO hT hC ?_
 exact Vc.nil (Xad kR)
 intro r' σ' e hE
 subst e
 obtain rfl := kj h
 refine Xaw ?_
 exact hE
def Xel (r : Bool) : AV := .sv (.bool r)
def Xek (r : Bool) : Xau := []
theorem Xer {p0 p1 r} (h : Xa3 p0 p1 = some r) : AC Try.prog 5 [.sv (Xas.sv p0), .agg [.sv (.bool p1.Key), .sv (.int .i64 p1.Qp), .sv (.bool p1.Large), .sv (.bool p1.Exact)]] [] (Xel r) (Xek r) := by
 refine Xab hT Try.func5 rfl fun C hC => ?_
 unfold Xa3 at h
 refine Xaa ?_
 iterate 2 refine kO hT hC ?_
 refine kN ?_
 refine kO hT hC ?_
 refine kN ?_
 iterate 2 refine kO hT hC ?_
 refine kC hC [] Try.call25 h (fun _ => Xhj) fun q1 h => ?_
 refine kO hT hC ?_
 refine Vc.nil (Xbd (Xaa ?_))
 iterate 2 refine kO hT hC ?_
 refine Vc.nil ?_
 refine kS h ?_ ?_ <;> intro b1 h
 refine kt b1 (Xaa ?_)
 refine kO hT hC ?_
 exact Vc.nil (Xad (Xaw kR))
 refine kf b1 (Xaf (Xae ?_))
 refine Xj0 hm ?_
 refine kO hT hC ?_
 refine kC hC [(16, 240)] Try.call27 h (fun _ => Xcs) fun q2 h => ?_
 refine kO hT hC ?_
 refine kC hC [] Try.call28 h (fun _ => Xfp) fun q3 h => ?_
 refine kC hC [] Try.call26 h (fun _ => Xig) fun q4 h => ?_
 refine kO hT hC ?_
 refine kD (Xaa ?_)
 refine kO hT hC ?_
 refine kC hC [(16, 320)] Try.call27 h (fun _ => Xcs) fun q5 h => ?_
 refine kO hT hC ?_
 refine kN ?_
 iterate 2 refine kO hT hC ?_
 refine kC hC [] Try.call28 h (fun _ => Xfp) fun q6 h => ?_
 refine kC hC [] Try.call29 h (fun _ => Xh7) fun q7 h => ?_
 refine kO hT hC ?_
 refine Vc.nil (Xbd (Xaa ?_))
 iterate 3 refine kO hT hC ?_
 refine Vc.nil ?_
 refine kS h ?_ ?_ <;> intro b2 h
 refine kt b2 (Xaa ?_)
 refine kO hT hC ?_
 exact Vc.nil (Xad (Xaw kR))
 refine kf b2 (Xaf (Xae (Xbd (Xaa ?_))))
 iterate 2 refine kO hT hC ?_
 refine kC hC [(16, 480)] Try.call27 h (fun _ => Xcs) fun q8 h => ?_
 refine kC hC [] Try.call30 h (fun _ => Xhg) fun q9 h => ?_
 refine kO hT hC ?_
 refine Vc.nil ?_
 refine kS h ?_ ?_ <;> intro b3 h
 refine kt b3 (Xaa ?_)
 refine kO hT hC ?_
 exact Vc.nil (Xad (Xaw kR))
 refine kf b3 (Xaf (Xae (Xaa ?_)))
 refine kO hT hC ?_
 exact Vc.nil (Xad kR)
end
end Go.Proofs.Ytlebkepfhdjnmab.A
