/- Contracts of the functions that the law FnStill reaches, part 1: each comes to what its pure function tells. Written by a program of this session. Conditions: as each statement tells. -/
import Derived.Test.YtlebkepfhdjnmacFFnStillx0
namespace Go.Proofs.Ytlebkepfhdjnmac.A
open Go Go.Proofs Go.Proofs.YtlebkepfhdjnmacAL Go.RowKit
set_option linter.unusedVariables false
set_option linter.unusedSimpArgs false
set_option maxRecDepth 100000
set_option maxHeartbeats 8000000
noncomputable section
def Xr0 (r : (List Int)) : AV := .own 16
def Xrz (r : (List Int)) : Xbd := [(16, .ints .u8 r)]
theorem Xl9 {p0 p1 r} (h : Xes p0 p1 = some r) : AC Try.prog 118 [.sv (.ints .i64 p0), .agg [.sv (.bool p1.Key), .sv (.int .i64 p1.Qp), .sv (.bool p1.Large), .sv (.bool p1.Exact)]] [] (Xr0 r) (Xrz r) := by
 refine Xae hT Try.func118 rfl fun C hC => ?_
 unfold Xes at h
 refine Xad ?_
 iterate 2 refine kO hT hC ?_
 refine Vc.nil (Xaw ?_)
 refine kL [0,3] [48] [_,_] [_] ?_
 refine kA h (fun v1 => ([(12, .sv (.bool v1)), (3, .any)], [(48, none)])) (fun v1 h => ?_) fun v1 h => ?_
 refine Xac ?_
 iterate 3 refine kO hT hC ?_
 refine kS h ?_ ?_ <;> intro b1 h
 iterate 2 refine kF hC b1 ?_
 refine kP hC true b1 ?_
 exact Vc.nil kM
 iterate 2 refine kI hT hC b1 ?_
 refine kP hC false b1 ?_
 exact Vc.nil kM
 refine kS h ?_ ?_ <;> intro b2 h
 refine kt b2 (Xad ?_)
 refine kO hT hC ?_
 refine kC hC [(16, 224)] Try.call152 h (fun _ => Xt9) fun q2 h => ?_
 refine kO hT hC ?_
 refine Vc.nil (Xaj (Xbk ?_))
 obtain rfl := kj h
 exact Xfn (τ := ⟨[(4, .own 16)], [(16, some (.ints .u8 q2))]⟩) (kW hC [(16, 224)]) rfl ⟨rfl, trivial⟩
 refine kf b2 (Xag (Xaf (Xad ?_)))
 iterate 2 refine kO hT hC ?_
 refine Vc.nil (Xaw (Xad ?_))
 refine kO hT hC ?_
 refine Vc.nil ?_
 refine kL [0,5,16] [240] [_,_,_] [_] ?_
 refine kX h (fun v5 => ([(16, .sv (.int .i64 v5.1))], [(240, some (.ints .u8 v5.2))])) (fun v8 => ([(0, .any), (16, .any)], [(240, some (.ints .u8 v8))])) (kW hC []) (fun v5 s h => ?_) fun v8 h => ?_
 unfold Xb1 at h
 refine Xad ?_
 refine kO hT hC ?_
 refine Vc.nil (Xaw ?_)
 refine kS h ?_ ?_ <;> intro b5 h
 refine kt b5 (Xag (Xaf (Xaw (Xap (Xad ?_)))))
 iterate 2 refine kO hT hC ?_
 refine Vc.nil (Xac ?_)
 iterate 7 refine kO hT hC ?_
 refine kQ hT hC h fun h => ?_
 refine kC hC [(16, 432)] Try.call152 h (fun _ => Xt9) fun q9 h => ?_
 refine kT hT hC h fun h => ?_
 refine kO hT hC ?_
 refine Vc.nil (Xas (Xaf (Xac ?_)))
 iterate 2 refine kO hT hC ?_
 refine Vc.nil ?_
 obtain rfl := kj h
 exact Ye0 (kW hC [(240, 448)])
 exact kf b5 (Xar (Xa1 ku))
 refine Xaf (Xad ?_)
 iterate 2 refine kO hT hC ?_
 refine Vc.nil (Xaj ?_)
 obtain rfl := kj h
 exact Xfn (τ := ⟨[(4, .own 16)], [(16, some (.ints .u8 v8))]⟩) (kW hC [(16, 240)]) rfl ⟨rfl, trivial⟩
def Xrq (r : (ByteArray × Bool)) : AV := .tup [.sv (.str r.1), .sv (.bool r.2)]
def Xrp (r : (ByteArray × Bool)) : Xbd := []
theorem Xtd {p0 p1 r} (h : Xgb p0 p1 = some r) : AC Try.prog 76 [.agg [.sv (.int .i64 p0.Kind), .sv (.int .i64 p0.Mode), .sv (.int .i64 p0.Dx), .sv (.int .i64 p0.Dy), .sv (.ints .i64 p0.Levels)], .agg [.sv (.bool p1.Key), .sv (.int .i64 p1.Qp), .sv (.bool p1.Large), .sv (.bool p1.Exact)]] [] (Xrq r) (Xrp r) := by
 refine Xae hT Try.func76 rfl fun C hC => ?_
 unfold Xgb at h
 refine Xad ?_
 iterate 4 refine kO hT hC ?_
 refine Vc.nil (Xaw ?_)
 refine kL [2,3] [32,48] [_,_] [_,_] ?_
 refine kA h (fun v1 => ([(24, .sv (.bool v1))], [])) (fun v1 h => ?_) fun v1 h => ?_
 refine Xac ?_
 refine kO hT hC ?_
 refine kC hC [] Try.call15 h (fun _ => Xnn) fun q2 h => ?_
 iterate 2 refine kO hT hC ?_
 refine kS h ?_ ?_ <;> intro b1 h
 refine kI hT hC (kn b1) ?_
 refine kE hC (kn b1) [] Try.call27 h (fun _ => Xeq) fun q3 h => ?_
 refine kI hT hC (kn b1) ?_
 refine kP hC false (kn b1) ?_
 refine kO hT hC ?_
 refine kS h ?_ ?_ <;> intro b2 h
 iterate 2 refine kI hT hC (kn b2) ?_
 refine kE hC (kn b2) [] Try.call62 h (fun _ => Xli) fun q4 h => ?_
 refine kI hT hC (kn b2) ?_
 refine kP hC false (kn b2) ?_
 exact Vc.nil kM
 iterate 4 refine kF hC (kn b2) ?_
 refine kP hC true (kn b2) ?_
 exact Vc.nil kM
 iterate 3 refine kF hC (kn b1) ?_
 refine kP hC true (kn b1) ?_
 refine kO hT hC ?_
 iterate 4 refine kF hC rfl ?_
 refine kO hT hC ?_
 exact Vc.nil kM
 refine kS h ?_ ?_ <;> intro b3 h
 refine kt b3 (Xad ?_)
 iterate 2 refine kO hT hC ?_
 exact Vc.nil (Xaj (Xbk kR))
 refine kf b3 (Xag (Xaf (Xad ?_)))
 iterate 2 refine kO hT hC ?_
 refine Vc.nil ?_
 refine kL [2,3,6] [32,48,400] [_,_,_] [_,_,_] ?_
 refine kA h (fun v5 => ([], [(400, some (.ints .u8 v5))])) (fun v5 h => ?_) fun v5 h => ?_
 refine Xad ?_
 iterate 3 refine kO hT hC ?_
 refine Vc.nil ?_
 refine kS h ?_ ?_ <;> intro b4 h
 refine kt b4 (Xac ?_)
 iterate 3 refine kO hT hC ?_
 refine kC hC [] Try.call116 h (fun _ => Xkk) fun q6 h => ?_
 refine kT hT hC h fun h => ?_
 refine kO hT hC ?_
 refine Vc.nil ?_
 obtain rfl := kj h
 exact Xkz (kW hC [(400, 528)])
 exact kf b4 (Xag kM)
 refine kL [2,3,6] [32,48,400] [_,_,_] [_,_,_] ?_
 refine kA h (fun v7 => ([(2, .any), (3, .any)], [(400, some (.ints .u8 v7)), (32, none), (48, none)])) (fun v7 h => ?_) fun v7 h => ?_
 refine Xad ?_
 iterate 2 refine kO hT hC ?_
 refine Vc.nil (Xap (Xad ?_))
 iterate 2 refine kO hT hC ?_
 refine Vc.nil ?_
 refine kS h ?_ ?_ <;> intro b5 h
 refine kt b5 (Xad ?_)
 iterate 2 refine kO hT hC ?_
 refine kC hC [] Try.call117 h (fun _ => Xm1) fun q8 h => ?_
 iterate 5 refine kO hT hC ?_
 refine kN ?_
 iterate 2 refine kO hT hC ?_
 refine kC hC [] Try.call117 h (fun _ => Xm1) fun q9 h => ?_
 iterate 5 refine kO hT hC ?_
 refine Vc.nil ?_
 refine Xj0 hm ?_
 iterate 2 refine kO hT hC ?_
 refine kT hT hC h fun h => ?_
 refine kO hT hC ?_
 refine kT hT hC h fun h => ?_
 iterate 3 refine kO hT hC ?_
 refine kC hC [(16, 928)] Try.call118 h (fun _ => Xl9) fun q10 h => ?_
 refine kT hT hC h fun h => ?_
 refine kO hT hC ?_
 refine kD (Xas ?_)
 obtain rfl := kj h
 exact Xkz (kW hC [(400, 944)])
 refine kf b5 (Xad ?_)
 iterate 2 refine kO hT hC ?_
 refine Vc.nil ?_
 refine kS h ?_ ?_ <;> intro b6 h
 refine kt b6 ?_
 refine Xj0 hm ?_
 iterate 3 refine kO hT hC ?_
 refine kC hC [] Try.call116 h (fun _ => Xkk) fun q11 h => ?_
 refine kT hT hC h fun h => ?_
 iterate 3 refine kO hT hC ?_
 refine kC hC [(16, 1120)] Try.call118 h (fun _ => Xl9) fun q12 h => ?_
 refine kT hT hC h fun h => ?_
 refine kO hT hC ?_
 refine kD (Xas ?_)
 obtain rfl := kj h
 exact Xkz (kW hC [(400, 1136)])
 exact kf b6 (Xag (Xas kM))
 refine Xad ?_
 iterate 4 refine kO hT hC ?_
 exact Vc.nil (Xaj kR)
def Xnq (r : (ByteArray × Bool)) : AV := .tup [.sv (.str r.1), .sv (.bool r.2)]
def Xnp (r : (ByteArray × Bool)) : Xbd := []
theorem Xxc {p0 p1 r} (h : Xjn p0 p1 = some r) : AC Try.prog 28 [.sv (Xed.sv p0), .agg [.sv (.bool p1.Key), .sv (.int .i64 p1.Qp), .sv (.bool p1.Large), .sv (.bool p1.Exact)]] [] (Xnq r) (Xnp r) := by
 refine Xae hT Try.func28 rfl fun C hC => ?_
 unfold Xjn at h
 refine Xad ?_
 iterate 3 refine kO hT hC ?_
 refine Vc.nil (Xaw (Xad ?_))
 iterate 2 refine kO hT hC ?_
 refine kC hC [] Try.call53 h (fun _ => Xai) fun q1 h => ?_
 refine kO hT hC ?_
 refine Vc.nil ?_
 refine kS h ?_ ?_ <;> intro b1 h
 refine kt b1 (Xad ?_)
 iterate 2 refine kO hT hC ?_
 exact Vc.nil (Xaj (Xbk kR))
 refine kf b1 (Xag (Xaf (Xad ?_)))
 iterate 2 refine kO hT hC ?_
 refine Vc.nil (Xaw (Xad ?_))
 iterate 3 refine kO hT hC ?_
 refine Vc.nil ?_
 refine kL [3,6,16,17,18] [48,240] [_,_,_,_,_] [_,_] ?_
 obtain ⟨o9, hl, h⟩ := Xbl h
 refine Xx7 (fun v4 => ([(18, .sv (.int .i64 v4.1))], [(240, some (.ints .u8 v4.2))])) (fun v7 => ([(3, .any), (16, .any), (17, .any), (18, .any)], [(240, some (.ints .u8 v7)), (48, none)])) (fun r => Yd4 C T Try.f28.results.toList (Xnq r) (Xnp r)) hl ?_ ?_ ?_ ?_
 try dsimp only
 apply Xlv hC []
 exact co
 rfl
 decide
 rfl
 intro v4 s hs
 have h := hs
 unfold Xd1 at h
 refine Xad ?_
 refine kO hT hC ?_
 refine Vc.nil (Xaw ?_)
 refine kS h ?_ ?_ <;> intro b6 h
 refine kt b6 (Xag (Xaf (Xaw (Xap (Xad ?_)))))
 refine kQ hT hC h fun h => ?_
 iterate 3 refine kO hT hC ?_
 refine kN ?_
 iterate 2 refine kO hT hC ?_
 refine kC hC [] Try.call76 h (fun _ => Xtd) fun q8 h => ?_
 iterate 5 refine kO hT hC ?_
 refine Vc.nil (Xaw (Xad ?_))
 iterate 2 refine kO hT hC ?_
 refine Vc.nil ?_
 refine kS h ?_ ?_ <;> intro b7 h
 refine kt b7 (Xad ?_)
 iterate 2 refine kO hT hC ?_
 refine Vc.nil (Xaj (Xbk (Xuk (Xbk ?_))))
 obtain rfl := kj h
 refine Yir (Yio ?_)
 exact Xfn (Xkf.refl _) rfl trivial
 refine kf b7 (Xag (Xaf (Xac ?_)))
 iterate 2 refine kO hT hC ?_
 refine kT hT hC h fun h => ?_
 refine kO hT hC ?_
 refine Vc.nil (Xas (Xaf (Xac ?_)))
 iterate 2 refine kO hT hC ?_
 refine Vc.nil ?_
 obtain rfl := kj h
 exact Ye0 (kW hC [(240, 512)])
 exact kf b6 (Xar (Xa1 kb))
 intro v7 e
 subst e
 refine Xaf (Xad ?_)
 iterate 4 refine kO hT hC ?_
 exact Vc.nil (Xaj kR)
 intro r' σ' e hE
 subst e
 obtain rfl := kj h
 refine Xbk ?_
 exact hE
def Xs8 (r : Int) : AV := .sv (.int .i64 r)
def Xs7 (r : Int) : Xbd := []
theorem Xu1 {p0 p1 r} (h : Xhh p0 p1 = some r) : AC Try.prog 18 [.sv (Xed.sv p0), .agg [.sv (.bool p1.Key), .sv (.int .i64 p1.Qp), .sv (.bool p1.Large), .sv (.bool p1.Exact)]] [] (Xs8 r) (Xs7 r) := by
 refine Xae hT Try.func18 rfl fun C hC => ?_
 unfold Xhh at h
 refine Xad ?_
 iterate 2 refine kO hT hC ?_
 refine kN ?_
 iterate 2 refine kO hT hC ?_
 refine kC hC [] Try.call28 h (fun _ => Xxc) fun q1 h => ?_
 iterate 5 refine kO hT hC ?_
 refine kN ?_
 iterate 3 refine kO hT hC ?_
 exact Vc.nil (Xaj kR)
def Xva (r : Bool) : AV := .sv (.bool r)
def Xu9 (r : Bool) : Xbd := []
theorem Xxp {p0 r} (h : Xll p0 = some r) : AC Try.prog 4 [.sv (.ints .u8 p0)] [] (Xva r) (Xu9 r) := by
 refine Xae hT Try.func4 rfl fun C hC => ?_
 unfold Xll at h
 refine Xad ?_
 refine kO hT hC ?_
 refine Vc.nil (Xaw (Xad ?_))
 refine kO hT hC ?_
 refine kC hC [] Try.call8 h (fun _ => Yer) fun q1 h => ?_
 refine Vc.nil ?_
 refine kS h ?_ ?_ <;> intro b1 h
 refine kt b1 (Xad ?_)
 refine kO hT hC ?_
 exact Vc.nil (Xaj (Xbk kR))
 refine kf b1 (Xag (Xaf (Xad ?_)))
 refine kO hT hC ?_
 refine kC hC [] Try.call9 h (fun _ => Xvi) fun q2 h => ?_
 iterate 7 refine kO hT hC ?_
 refine kN ?_
 refine kO hT hC ?_
 refine kC hC [] Try.call10 h (fun _ => Xvg) fun q3 h => ?_
 iterate 2 refine kO hT hC ?_
 refine kN ?_
 refine kO hT hC ?_
 refine kC hC [(16, 320)] Try.call11 h (fun _ => Xsi) fun q4 h => ?_
 refine kO hT hC ?_
 refine kN ?_
 iterate 2 refine kO hT hC ?_
 refine Vc.nil ?_
 refine Xhr hm ?_
 iterate 4 refine kO hT hC ?_
 iterate 3 refine kQ hT hC h fun h => ?_
 refine kC hC [(16, 480)] Try.call17 h (fun _ => Xxb) fun q5 h => ?_
 iterate 8 refine kO hT hC ?_
 refine kD ?_
 refine kL [2,3,5,7,8,9] [48,80,128,480] [_,_,_,_,_,_] [_,_,_,_] ?_
 refine kA h (fun v6 => ([(2, .sv (.bool v6)), (3, .any), (5, .any), (7, .any), (8, .any), (9, .any)], [(48, none), (80, none), (128, none), (480, none)])) (fun v6 h => ?_) fun v6 h => ?_
 refine Xac ?_
 iterate 2 refine kO hT hC ?_
 refine kS h ?_ ?_ <;> intro b2 h
 iterate 2 refine kI hT hC b2 ?_
 refine Ymi hC rfl rfl rfl rfl b2 rfl rfl rfl Yms rfl rfl ?_
 refine kP hC true b2 ?_
 refine kO hT hC ?_
 refine kS h ?_ ?_ <;> intro b3 h
 iterate 4 refine kI hT hC b3 ?_
 refine kJ hT hC b3 h fun h => ?_
 iterate 2 refine kI hT hC b3 ?_
 refine kJ hT hC b3 h fun h => ?_
 iterate 2 refine kI hT hC b3 ?_
 refine kP hC true b3 ?_
 refine kO hT hC ?_
 refine kS h ?_ ?_ <;> intro b4 h
 iterate 2 refine kI hT hC b4 ?_
 refine kE hC b4 [] Try.call18 h (fun _ => Xu1) fun q7 h => ?_
 iterate 3 refine kI hT hC b4 ?_
 refine kP hC true b4 ?_
 refine kO hT hC ?_
 exact Vc.nil kM
 iterate 6 refine kF hC b4 ?_
 refine kP hC false b4 ?_
 refine kO hT hC ?_
 exact Vc.nil kM
 iterate 10 refine kF hC b3 ?_
 refine kP hC false b3 ?_
 refine kO hT hC ?_
 iterate 6 refine kF hC rfl ?_
 iterate 2 refine kO hT hC ?_
 exact Vc.nil kM
 iterate 3 refine kF hC b2 ?_
 refine kP hC false b2 ?_
 refine kO hT hC ?_
 iterate 10 refine kF hC rfl ?_
 iterate 2 refine kO hT hC ?_
 iterate 6 refine kF hC rfl ?_
 iterate 2 refine kO hT hC ?_
 exact Vc.nil kM
 exact Xaj kR
end
end Go.Proofs.Ytlebkepfhdjnmac.A
