/- Contracts of the functions that the law FnSends reaches, part 1: each comes to what its pure function tells. Written by a program of this session. Conditions: as each statement tells. -/
import Derived.Test.YtlebkepfhdjnmacFFnSendsx0
namespace Go.Proofs.Ytlebkepfhdjnmac.A
open Go Go.Proofs Go.Proofs.YtlebkepfhdjnmacAL Go.RowKit
set_option linter.unusedVariables false
set_option linter.unusedSimpArgs false
set_option maxRecDepth 100000
set_option maxHeartbeats 8000000
noncomputable section
def Xug (r : (List Int)) : AV := .own 16
def Xuf (r : (List Int)) : Xbg := [(16, .ints .u8 r)]
theorem Xn0 {p0 p1 r} (h : Xfm p0 p1 = some r) : AC Try.prog 118 [.sv (.ints .i64 p0), .agg [.sv (.bool p1.Key), .sv (.int .i64 p1.Qp), .sv (.bool p1.Large), .sv (.bool p1.Exact)]] [] (Xug r) (Xuf r) := by
 refine Xaf hT Try.func118 rfl fun C hC => ?_
 unfold Xfm at h
 refine Xad ?_
 iterate 2 refine kO hT hC ?_
 refine Vc.nil (Xax ?_)
 refine kL [0,3] [48] [_,_] [_] ?_
 refine kA h (fun v1 => ([(12, .sv (.bool v1)), (3, .any)], [(48, none)])) (fun v1 h => ?_) fun v1 h => ?_
 refine Xac ?_
 iterate 3 refine kO hT hC ?_
 refine kS h ?_ ?_ <;> intro b1 h
 iterate 2 refine kF hC b1 ?_
 refine kP hC true b1 ?_
 exact Vc.nil kM
 iterate 2 refine kI hT hC b1 ?_
 refine kP hC false b1 ?_
 exact Vc.nil kM
 refine kS h ?_ ?_ <;> intro b2 h
 refine kt b2 (Xad ?_)
 refine kO hT hC ?_
 refine kC hC [(16, 224)] Try.call152 h (fun _ => Xwm) fun q2 h => ?_
 refine kO hT hC ?_
 refine Vc.nil (Xah (Xa5 ?_))
 obtain rfl := kj h
 exact Xel (τ := ⟨[(4, .own 16)], [(16, some (.ints .u8 q2))]⟩) (kW hC [(16, 224)]) rfl ⟨rfl, trivial⟩
 refine kf b2 (Xag (Xae (Xad ?_)))
 iterate 2 refine kO hT hC ?_
 refine Vc.nil (Xax (Xad ?_))
 refine kO hT hC ?_
 refine Vc.nil ?_
 refine kL [0,5,16] [240] [_,_,_] [_] ?_
 refine kX h (fun v5 => ([(16, .sv (.int .i64 v5.1))], [(240, some (.ints .u8 v5.2))])) (fun v8 => ([(0, .any), (16, .any)], [(240, some (.ints .u8 v8))])) (kW hC []) (fun v5 s h => ?_) fun v8 h => ?_
 unfold Xck at h
 refine Xad ?_
 refine kO hT hC ?_
 refine Vc.nil (Xax ?_)
 refine kS h ?_ ?_ <;> intro b5 h
 refine kt b5 (Xag (Xae (Xax (Xap (Xad ?_)))))
 iterate 2 refine kO hT hC ?_
 refine Vc.nil (Xac ?_)
 iterate 7 refine kO hT hC ?_
 refine kQ hT hC h fun h => ?_
 refine kC hC [(16, 432)] Try.call152 h (fun _ => Xwm) fun q9 h => ?_
 refine kT hT hC h fun h => ?_
 refine kO hT hC ?_
 refine Vc.nil (Xas (Xae (Xac ?_)))
 iterate 2 refine kO hT hC ?_
 refine Vc.nil ?_
 obtain rfl := kj h
 exact Yfr (kW hC [(240, 448)])
 exact kf b5 (Xar (Xa1 ku))
 refine Xae (Xad ?_)
 iterate 2 refine kO hT hC ?_
 refine Vc.nil (Xah ?_)
 obtain rfl := kj h
 exact Xel (τ := ⟨[(4, .own 16)], [(16, some (.ints .u8 v8))]⟩) (kW hC [(16, 240)]) rfl ⟨rfl, trivial⟩
def Xt5 (r : (ByteArray × Bool)) : AV := .tup [.sv (.str r.1), .sv (.bool r.2)]
def Xt4 (r : (ByteArray × Bool)) : Xbg := []
theorem Xvp {p0 p1 r} (h : Xha p0 p1 = some r) : AC Try.prog 76 [.agg [.sv (.int .i64 p0.Kind), .sv (.int .i64 p0.Mode), .sv (.int .i64 p0.Dx), .sv (.int .i64 p0.Dy), .sv (.ints .i64 p0.Levels)], .agg [.sv (.bool p1.Key), .sv (.int .i64 p1.Qp), .sv (.bool p1.Large), .sv (.bool p1.Exact)]] [] (Xt5 r) (Xt4 r) := by
 refine Xaf hT Try.func76 rfl fun C hC => ?_
 unfold Xha at h
 refine Xad ?_
 iterate 4 refine kO hT hC ?_
 refine Vc.nil (Xax ?_)
 refine kL [2,3] [32,48] [_,_] [_,_] ?_
 refine kA h (fun v1 => ([(24, .sv (.bool v1))], [])) (fun v1 h => ?_) fun v1 h => ?_
 refine Xac ?_
 refine kO hT hC ?_
 refine kC hC [] Try.call15 h (fun _ => Xlb) fun q2 h => ?_
 iterate 2 refine kO hT hC ?_
 refine kS h ?_ ?_ <;> intro b1 h
 refine kI hT hC (kn b1) ?_
 refine kE hC (kn b1) [] Try.call27 h (fun _ => Xde) fun q3 h => ?_
 refine kI hT hC (kn b1) ?_
 refine kP hC false (kn b1) ?_
 refine kO hT hC ?_
 refine kS h ?_ ?_ <;> intro b2 h
 iterate 2 refine kI hT hC (kn b2) ?_
 refine kE hC (kn b2) [] Try.call62 h (fun _ => Xm1) fun q4 h => ?_
 refine kI hT hC (kn b2) ?_
 refine kP hC false (kn b2) ?_
 exact Vc.nil kM
 iterate 4 refine kF hC (kn b2) ?_
 refine kP hC true (kn b2) ?_
 exact Vc.nil kM
 iterate 3 refine kF hC (kn b1) ?_
 refine kP hC true (kn b1) ?_
 refine kO hT hC ?_
 iterate 4 refine kF hC rfl ?_
 refine kO hT hC ?_
 exact Vc.nil kM
 refine kS h ?_ ?_ <;> intro b3 h
 refine kt b3 (Xad ?_)
 iterate 2 refine kO hT hC ?_
 exact Vc.nil (Xah (Xa5 kR))
 refine kf b3 (Xag (Xae (Xad ?_)))
 iterate 2 refine kO hT hC ?_
 refine Vc.nil ?_
 refine kL [2,3,6] [32,48,400] [_,_,_] [_,_,_] ?_
 refine kA h (fun v5 => ([], [(400, some (.ints .u8 v5))])) (fun v5 h => ?_) fun v5 h => ?_
 refine Xad ?_
 iterate 3 refine kO hT hC ?_
 refine Vc.nil ?_
 refine kS h ?_ ?_ <;> intro b4 h
 refine kt b4 (Xac ?_)
 iterate 3 refine kO hT hC ?_
 refine kC hC [] Try.call116 h (fun _ => Xly) fun q6 h => ?_
 refine kT hT hC h fun h => ?_
 refine kO hT hC ?_
 refine Vc.nil ?_
 obtain rfl := kj h
 exact Xhc (kW hC [(400, 528)])
 exact kf b4 (Xag kM)
 refine kL [2,3,6] [32,48,400] [_,_,_] [_,_,_] ?_
 refine kA h (fun v7 => ([(2, .any), (3, .any)], [(400, some (.ints .u8 v7)), (32, none), (48, none)])) (fun v7 h => ?_) fun v7 h => ?_
 refine Xad ?_
 iterate 2 refine kO hT hC ?_
 refine Vc.nil (Xap (Xad ?_))
 iterate 2 refine kO hT hC ?_
 refine Vc.nil ?_
 refine kS h ?_ ?_ <;> intro b5 h
 refine kt b5 (Xad ?_)
 iterate 2 refine kO hT hC ?_
 refine kC hC [] Try.call117 h (fun _ => Xow) fun q8 h => ?_
 iterate 5 refine kO hT hC ?_
 refine kN ?_
 iterate 2 refine kO hT hC ?_
 refine kC hC [] Try.call117 h (fun _ => Xow) fun q9 h => ?_
 iterate 5 refine kO hT hC ?_
 refine Vc.nil ?_
 refine Xhu hm ?_
 iterate 2 refine kO hT hC ?_
 refine kT hT hC h fun h => ?_
 refine kO hT hC ?_
 refine kT hT hC h fun h => ?_
 iterate 3 refine kO hT hC ?_
 refine kC hC [(16, 928)] Try.call118 h (fun _ => Xn0) fun q10 h => ?_
 refine kT hT hC h fun h => ?_
 refine kO hT hC ?_
 refine kD (Xas ?_)
 obtain rfl := kj h
 exact Xhc (kW hC [(400, 944)])
 refine kf b5 (Xad ?_)
 iterate 2 refine kO hT hC ?_
 refine Vc.nil ?_
 refine kS h ?_ ?_ <;> intro b6 h
 refine kt b6 ?_
 refine Xhu hm ?_
 iterate 3 refine kO hT hC ?_
 refine kC hC [] Try.call116 h (fun _ => Xly) fun q11 h => ?_
 refine kT hT hC h fun h => ?_
 iterate 3 refine kO hT hC ?_
 refine kC hC [(16, 1120)] Try.call118 h (fun _ => Xn0) fun q12 h => ?_
 refine kT hT hC h fun h => ?_
 refine kO hT hC ?_
 refine kD (Xas ?_)
 obtain rfl := kj h
 exact Xhc (kW hC [(400, 1136)])
 exact kf b6 (Xag (Xas kM))
 refine Xad ?_
 iterate 4 refine kO hT hC ?_
 exact Vc.nil (Xah kR)
def Xpq (r : (ByteArray × Bool)) : AV := .tup [.sv (.str r.1), .sv (.bool r.2)]
def Xpp (r : (ByteArray × Bool)) : Xbg := []
theorem Xzw {p0 p1 r} (h : Xh1 p0 p1 = some r) : AC Try.prog 28 [.sv (Xcx.sv p0), .agg [.sv (.bool p1.Key), .sv (.int .i64 p1.Qp), .sv (.bool p1.Large), .sv (.bool p1.Exact)]] [] (Xpq r) (Xpp r) := by
 refine Xaf hT Try.func28 rfl fun C hC => ?_
 unfold Xh1 at h
 refine Xad ?_
 iterate 3 refine kO hT hC ?_
 refine Vc.nil (Xax (Xad ?_))
 iterate 2 refine kO hT hC ?_
 refine kC hC [] Try.call53 h (fun _ => Xaj) fun q1 h => ?_
 refine kO hT hC ?_
 refine Vc.nil ?_
 refine kS h ?_ ?_ <;> intro b1 h
 refine kt b1 (Xad ?_)
 iterate 2 refine kO hT hC ?_
 exact Vc.nil (Xah (Xa5 kR))
 refine kf b1 (Xag (Xae (Xad ?_)))
 iterate 2 refine kO hT hC ?_
 refine Vc.nil (Xax (Xad ?_))
 iterate 3 refine kO hT hC ?_
 refine Vc.nil ?_
 refine kL [3,6,16,17,18] [48,240] [_,_,_,_,_] [_,_] ?_
 obtain ⟨o9, hl, h⟩ := Xbj h
 refine Xpb (fun v4 => ([(18, .sv (.int .i64 v4.1))], [(240, some (.ints .u8 v4.2))])) (fun v7 => ([(3, .any), (16, .any), (17, .any), (18, .any)], [(240, some (.ints .u8 v7)), (48, none)])) (fun r => Xyu C T Try.f28.results.toList (Xpq r) (Xpp r)) hl ?_ ?_ ?_ ?_
 try dsimp only
 apply Xhi hC []
 exact co
 rfl
 decide
 rfl
 intro v4 s hs
 have h := hs
 unfold Xeq at h
 refine Xad ?_
 refine kO hT hC ?_
 refine Vc.nil (Xax ?_)
 refine kS h ?_ ?_ <;> intro b6 h
 refine kt b6 (Xag (Xae (Xax (Xap (Xad ?_)))))
 refine kQ hT hC h fun h => ?_
 iterate 3 refine kO hT hC ?_
 refine kN ?_
 iterate 2 refine kO hT hC ?_
 refine kC hC [] Try.call76 h (fun _ => Xvp) fun q8 h => ?_
 iterate 5 refine kO hT hC ?_
 refine Vc.nil (Xax (Xad ?_))
 iterate 2 refine kO hT hC ?_
 refine Vc.nil ?_
 refine kS h ?_ ?_ <;> intro b7 h
 refine kt b7 (Xad ?_)
 iterate 2 refine kO hT hC ?_
 refine Vc.nil (Xah (Xa5 (Xp3 (Xa5 ?_))))
 obtain rfl := kj h
 refine Ye1 (Yex ?_)
 exact Xel (Xjg.refl _) rfl trivial
 refine kf b7 (Xag (Xae (Xac ?_)))
 iterate 2 refine kO hT hC ?_
 refine kT hT hC h fun h => ?_
 refine kO hT hC ?_
 refine Vc.nil (Xas (Xae (Xac ?_)))
 iterate 2 refine kO hT hC ?_
 refine Vc.nil ?_
 obtain rfl := kj h
 exact Yfr (kW hC [(240, 512)])
 exact kf b6 (Xar (Xa1 kb))
 intro v7 e
 subst e
 refine Xae (Xad ?_)
 iterate 4 refine kO hT hC ?_
 exact Vc.nil (Xah kR)
 intro r' σ' e hE
 subst e
 obtain rfl := kj h
 refine Xa5 ?_
 exact hE
def Xru (r : Bool) : AV := .sv (.bool r)
def Xrt (r : Bool) : Xbg := []
theorem Yd8 {p0 r} (h : Xnw p0 = some r) : AC Try.prog 119 [.sv (.str p0)] [] (Xru r) (Xrt r) := by
 refine Xaf hT Try.func119 rfl fun C hC => ?_
 unfold Xnw at h
 refine Xad ?_
 refine kO hT hC ?_
 refine Vc.nil (Xax (Xad ?_))
 iterate 3 refine kO hT hC ?_
 refine Vc.nil ?_
 refine kS h ?_ ?_ <;> intro b1 h
 refine kt b1 (Xad ?_)
 refine kO hT hC ?_
 exact Vc.nil (Xah (Xa5 kR))
 refine kf b1 (Xag (Xae (Xax (Xad ?_))))
 refine kO hT hC ?_
 refine Vc.nil ?_
 refine kL [0,3] [] [_,_] [] ?_
 obtain ⟨o8, hl, h⟩ := Xbj h
 refine Xpb (fun v3 => ([(3, .sv (.int .i64 v3))], [])) (fun v6 => ([(0, .any), (3, .any)], [])) (fun r => Xyu C T Try.f119.results.toList (Xru r) (Xrt r)) hl ?_ ?_ ?_ ?_
 apply Xhi hC []
 exact co
 rfl
 decide
 rfl
 intro v3 s hs
 have h := hs
 unfold Xik at h
 refine Xax (Xad ?_)
 iterate 4 refine kO hT hC ?_
 refine Vc.nil ?_
 refine kS h ?_ ?_ <;> intro b8 h
 refine kt b8 (Xag (Xae (Xax (Xap ?_))))
 refine kL [0,3] [] [_,_] [] ?_
 refine kA h (fun v7 => ([(22, .sv (.bool v7))], [])) (fun v7 h => ?_) fun v7 h => ?_
 refine Xac ?_
 iterate 2 refine kO hT hC ?_
 refine kQ hT hC h fun h => ?_
 iterate 2 refine kO hT hC ?_
 refine kS h ?_ ?_ <;> intro b9 h
 iterate 2 refine kI hT hC b9 ?_
 refine kJ hT hC b9 h fun h => ?_
 refine kI hT hC b9 ?_
 refine kP hC true b9 ?_
 exact Vc.nil kM
 iterate 4 refine kF hC b9 ?_
 refine kP hC false b9 ?_
 exact Vc.nil kM
 refine kS h ?_ ?_ <;> intro b10 h
 refine kt b10 (Xad ?_)
 refine kO hT hC ?_
 refine Vc.nil (Xah (Xp3 (Xa5 ?_)))
 obtain rfl := kj h
 refine Ye1 (Yex ?_)
 exact Xel (Xjg.refl _) rfl trivial
 refine kf b10 (Xag (Xas (Xae (Xac ?_))))
 iterate 3 refine kO hT hC ?_
 exact Vc.nil kG
 exact kf b8 (Xar (Xa1 kb))
 intro v6 e
 subst e
 refine Xae (Xad ?_)
 refine kO hT hC ?_
 exact Vc.nil (Xah kR)
 intro r' σ' e hE
 subst e
 obtain rfl := kj h
 refine Xa5 ?_
 exact hE
def Xz4 (r : Xms) : AV := .ptr 16 0
def Xz3 (r : Xms) : Xbg := [(16, .box [.sv (.str r.row_), .sv (.int .i64 r.at_), .sv (.bool r.bad_)])]
theorem Yb9 {p0 p1 r} (h : Xo0 p0 p1 = some r) : AC Try.prog 77 [.sv (.str p0), .sv (.int .i64 p1)] [] (Xz4 r) (Xz3 r) := by
 refine Xaf hT Try.func77 rfl fun C hC => ?_
 unfold Xo0 at h
 refine Xad ?_
 refine kO hT hC ?_
 refine Vc.nil ?_
 refine kL [0,1] [] [_,_] [] ?_
 refine kA h (fun v1 => ([(4, .ptr 321 0), (0, .any), (1, .any)], [(321, some (.box [.sv (.str p0), .sv (.int .i64 p1), .sv (.bool v1)]))])) (fun v1 h => ?_) fun v1 h => ?_
 refine Xac ?_
 iterate 3 refine kO hT hC ?_
 refine kC hC [] Try.call119 h (fun _ => Yd8) fun q2 h => ?_
 iterate 2 refine kO hT hC ?_
 refine kS h ?_ ?_ <;> intro b1 h
 iterate 3 refine kI hT hC (kn b1) ?_
 refine kE hC (kn b1) [] Try.call53 h (fun _ => Xaj) fun q3 h => ?_
 refine kI hT hC (kn b1) ?_
 refine kP hC false (kn b1) ?_
 iterate 3 refine kO hT hC ?_
 refine Vc.nil ?_
 obtain rfl := kj h
 exact Xhc (kW hC [(321, 288)])
 iterate 5 refine kF hC (kn b1) ?_
 refine kP hC true (kn b1) ?_
 iterate 3 refine kO hT hC ?_
 refine Vc.nil ?_
 obtain rfl := kj h
 exact Xhc (kW hC [(321, 288)])
 refine Xah ?_
 obtain rfl := kj h
 exact Xel (τ := ⟨[(4, .ptr 16 0)], [(16, some (.box [.sv (.str p0), .sv (.int .i64 p1), .sv (.bool v1)]))]⟩) (kW hC [(16, 321)]) rfl ⟨rfl, trivial⟩
def Xvx (r : (Int × Xms)) : AV := .sv (.int .i64 r.1)
def Xvw (r : (Int × Xms)) : Xbg := [(0, .box [.sv (.str r.2.row_), .sv (.int .i64 r.2.at_), .sv (.bool r.2.bad_)])]
theorem Xxo {p0 p1 r} (h : Xiq p0 p1 = some r) : AC Try.prog 153 [.ptr 0 0, .sv (.int .i64 p1)] [(0, .box [.sv (.str p0.row_), .sv (.int .i64 p0.at_), .sv (.bool p0.bad_)])] (Xvx r) (Xvw r) := by
 refine Xaf hT Try.func153 rfl fun C hC => ?_
 unfold Xiq at h
 refine Xad ?_
 refine kO hT hC ?_
 refine Vc.nil (Xax ?_)
 refine kL [0,1] [0] [_,_] [_] ?_
 refine kA h (fun v1 => ([(24, .sv (.bool v1))], [])) (fun v1 h => ?_) fun v1 h => ?_
 refine Xhu hm ?_
 iterate 5 refine kO hT hC ?_
 refine kS h ?_ ?_ <;> intro b1 h
 iterate 12 refine kF hC b1 ?_
 refine kP hC true b1 ?_
 exact kD kM
 iterate 12 refine kI hT hC b1 ?_
 refine kP hC false b1 ?_
 exact kD kM
 refine kS h ?_ ?_ <;> intro b2 h
 refine kt b2 (Xad ?_)
 iterate 4 refine kO hT hC ?_
 refine kN ?_
 refine kO hT hC ?_
 refine Vc.nil (Xah (Xa5 ?_))
 obtain rfl := kj h
 exact Xel (Xjg.refl _) rfl ⟨rfl, trivial⟩
 refine kf b2 (Xag (Xae (Xad ?_)))
 refine kO hT hC ?_
 refine Vc.nil (Xax (Xad ?_))
 refine kO hT hC ?_
 refine Vc.nil ?_
 refine kL [0,1,5,6] [0] [_,_,_,_] [_] ?_
 refine kX h (fun v3 => ([(5, .sv (.int .i64 v3.1)), (6, .sv (.int .i64 v3.2))], [])) (fun v5 => ([(5, .sv (.int .i64 v5)), (6, .any)], [])) (kW hC []) (fun v3 s h => ?_) fun v5 h => ?_
 unfold Xfj at h
 refine Xax (Xad ?_)
 iterate 3 refine kO hT hC ?_
 refine Vc.nil ?_
 refine kS h ?_ ?_ <;> intro b5 h
 refine kt b5 (Xag (Xae (Xax (Xap ?_))))
 refine Xhu hm ?_
 refine kO hT hC ?_
 refine kQ hT hC h fun h => ?_
 iterate 10 refine kO hT hC ?_
 refine kQ hT hC h fun h => ?_
 iterate 4 refine kO hT hC ?_
 refine kD (Xas (Xae (Xac ?_)))
 iterate 3 refine kO hT hC ?_
 exact Vc.nil kG
 exact kf b5 (Xar (Xa1 ku))
 refine Xae (Xad ?_)
 iterate 10 refine kO hT hC ?_
 refine kN ?_
 iterate 2 refine kO hT hC ?_
 refine Vc.nil (Xah ?_)
 obtain rfl := kj h
 exact Xel (Xjg.refl _) rfl ⟨rfl, trivial⟩
def Xxs (r : (Int × Xms)) : AV := .sv (.int .i64 r.1)
def Xxr (r : (Int × Xms)) : Xbg := [(0, .box [.sv (.str r.2.row_), .sv (.int .i64 r.2.at_), .sv (.bool r.2.bad_)])]
theorem Xf4 {p0 r} (h : Xcz p0 = some r) : AC Try.prog 120 [.ptr 0 0] [(0, .box [.sv (.str p0.row_), .sv (.int .i64 p0.at_), .sv (.bool p0.bad_)])] (Xxs r) (Xxr r) := by
 refine Xaf hT Try.func120 rfl fun C hC => ?_
 unfold Xcz at h
 refine Xad ?_
 refine kO hT hC ?_
 refine kN ?_
 refine kO hT hC ?_
 refine Vc.nil (Xax ?_)
 refine kL [0,3] [0] [_,_] [_] ?_
 refine kX h (fun v3 => ([(3, .sv (.int .i64 v3))], [])) (fun v6 => ([(3, .sv (.int .i64 v6))], [])) (kW hC []) (fun v3 s h => ?_) fun v6 h => ?_
 unfold Xf5 at h
 refine Xax ?_
 refine kL [0,3] [0] [_,_] [_] ?_
 refine kA h (fun v7 => ([(37, .sv (.bool v7))], [])) (fun v7 h => ?_) fun v7 h => ?_
 refine Xhu hm ?_
 iterate 6 refine kO hT hC ?_
 refine kS h ?_ ?_ <;> intro b7 h
 iterate 12 refine kF hC (kn b7) ?_
 refine kP hC false (kn b7) ?_
 refine kO hT hC ?_
 iterate 12 refine kF hC rfl ?_
 refine kO hT hC ?_
 exact kD kM
 iterate 12 refine kI hT hC (kn b7) ?_
 refine kP hC true (kn b7) ?_
 refine kO hT hC ?_
 refine kS h ?_ ?_ <;> intro b8 h
 iterate 10 refine kI hT hC b8 ?_
 refine kJ hT hC b8 h fun h => ?_
 refine kI hT hC b8 ?_
 refine kP hC true b8 ?_
 exact kD kM
 iterate 12 refine kF hC b8 ?_
 refine kP hC false b8 ?_
 exact kD kM
 refine kS h ?_ ?_ <;> intro b9 h
 refine kt b9 (Xag (Xae (Xap (Xac ?_))))
 iterate 3 refine kO hT hC ?_
 exact Vc.nil (Xas kG)
 exact kf b9 (Xar (Xa1 ku))
 refine Xae ?_
 refine kL [0,3] [0] [_,_] [_] ?_
 refine kA h (fun v9 => ([], [(0, some (.box [.sv (.str p0.row_), .sv (.int .i64 p0.at_), .sv (.bool v9)]))])) (fun v9 h => ?_) fun v9 h => ?_
 refine Xad ?_
 iterate 2 refine kO hT hC ?_
 refine Vc.nil ?_
 refine kS h ?_ ?_ <;> intro b10 h
 refine kt b10 (Xac ?_)
 iterate 4 refine kO hT hC ?_
 exact Vc.nil kM
 exact kf b10 (Xag kM)
 refine Xad ?_
 iterate 4 refine kO hT hC ?_
 refine kC hC [(0, 0)] Try.call153 h (fun _ => Xxo) fun q10 h => ?_
 iterate 2 refine kO hT hC ?_
 refine Vc.nil (Xax ?_)
 refine kL [0,4] [0] [_,_] [_] ?_
 refine kA h (fun v11 => ([(58, .sv (.bool v11))], [])) (fun v11 h => ?_) fun v11 h => ?_
 refine Xac ?_
 iterate 5 refine kO hT hC ?_
 refine kS h ?_ ?_ <;> intro b11 h
 iterate 2 refine kF hC b11 ?_
 refine kP hC true b11 ?_
 exact Vc.nil kM
 iterate 2 refine kI hT hC b11 ?_
 refine kP hC false b11 ?_
 exact Vc.nil kM
 refine kS h ?_ ?_ <;> intro b12 h
 refine kt b12 (Xad ?_)
 iterate 4 refine kO hT hC ?_
 refine kN ?_
 refine kO hT hC ?_
 refine Vc.nil (Xah (Xa5 ?_))
 obtain rfl := kj h
 exact Xel (Xjg.refl _) rfl ⟨rfl, trivial⟩
 refine kf b12 (Xag (Xae (Xad ?_)))
 iterate 2 refine kO hT hC ?_
 refine Vc.nil (Xah ?_)
 obtain rfl := kj h
 exact Xel (Xjg.refl _) rfl ⟨rfl, trivial⟩
def Xzm (r : (Int × Bool)) : AV := .tup [.sv (.int .i64 r.1), .sv (.bool r.2)]
def Xzl (r : (Int × Bool)) : Xbg := []
theorem Yby {p0 r} (h : Xl5 p0 = some r) : AC Try.prog 154 [.sv (.int .i64 p0)] [] (Xzm r) (Xzl r) := by
 refine Xaf hT Try.func154 rfl fun C hC => ?_
 unfold Xl5 at h
 refine Xad ?_
 iterate 2 refine kO hT hC ?_
 refine Vc.nil (Xax (Xap (Xad ?_)))
 refine kO hT hC ?_
 refine kC hC [] Try.call53 h (fun _ => Xaj) fun q1 h => ?_
 iterate 2 refine kO hT hC ?_
 refine Vc.nil ?_
 refine kS h ?_ ?_ <;> intro b1 h
 refine kt b1 (Xad ?_)
 iterate 2 refine kO hT hC ?_
 exact Vc.nil (Xah (Xp3 (Xa5 kR)))
 refine kf b1 (Xad ?_)
 refine kO hT hC ?_
 refine kQ hT hC h fun h => ?_
 iterate 2 refine kO hT hC ?_
 refine Vc.nil ?_
 refine kS h ?_ ?_ <;> intro b2 h
 refine kt b2 (Xad ?_)
 iterate 2 refine kO hT hC ?_
 refine kQ hT hC h fun h => ?_
 iterate 2 refine kO hT hC ?_
 exact Vc.nil (Xah (Xp3 (Xa5 kR)))
 refine kf b2 (Xag (Xas (Xae (Xad ?_))))
 iterate 2 refine kO hT hC ?_
 refine kQ hT hC h fun h => ?_
 iterate 2 refine kO hT hC ?_
 exact Vc.nil (Xah kR)
def Xxq (r : (Int × Xms)) : AV := .sv (.int .i64 r.1)
def Xxp (r : (Int × Xms)) : Xbg := [(0, .box [.sv (.str r.2.row_), .sv (.int .i64 r.2.at_), .sv (.bool r.2.bad_)])]
theorem Xma {p0 r} (h : Xd9 p0 = some r) : AC Try.prog 121 [.ptr 0 0] [(0, .box [.sv (.str p0.row_), .sv (.int .i64 p0.at_), .sv (.bool p0.bad_)])] (Xxq r) (Xxp r) := by
 refine Xaf hT Try.func121 rfl fun C hC => ?_
 unfold Xd9 at h
 refine Xad ?_
 refine kO hT hC ?_
 refine kN ?_
 refine kO hT hC ?_
 refine kC hC [(0, 0)] Try.call120 h (fun _ => Xf4) fun q1 h => ?_
 refine kC hC [] Try.call154 h (fun _ => Yby) fun q2 h => ?_
 iterate 5 refine kO hT hC ?_
 refine Vc.nil ?_
 refine kL [0,3,4] [0] [_,_,_] [_] ?_
 refine kA h (fun v3 => ([(0, .any), (4, .any)], [(0, some (.box [.sv (.str q1.2.row_), .sv (.int .i64 q1.2.at_), .sv (.bool v3)]))])) (fun v3 h => ?_) fun v3 h => ?_
 refine Xac ?_
 iterate 6 refine kO hT hC ?_
 refine kS h ?_ ?_ <;> intro b1 h
 iterate 2 refine kF hC b1 ?_
 refine kP hC true b1 ?_
 iterate 3 refine kO hT hC ?_
 exact Vc.nil kM
 iterate 2 refine kI hT hC b1 ?_
 refine kP hC false b1 ?_
 iterate 3 refine kO hT hC ?_
 exact Vc.nil kM
 refine Xad ?_
 iterate 2 refine kO hT hC ?_
 refine Vc.nil (Xah ?_)
 obtain rfl := kj h
 exact Xel (Xjg.refl _) rfl ⟨rfl, trivial⟩
def Xuk (r : ((List Int) × Xms)) : AV := .own 16
def Xuj (r : ((List Int) × Xms)) : Xbg := [(16, .ints .i64 r.1), (0, .box [.sv (.str r.2.row_), .sv (.int .i64 r.2.at_), .sv (.bool r.2.bad_)])]
theorem Xn5 {p0 p1 r} (h : Xfo p0 p1 = some r) : AC Try.prog 155 [.ptr 0 0, .sv (.int .i64 p1)] [(0, .box [.sv (.str p0.row_), .sv (.int .i64 p0.at_), .sv (.bool p0.bad_)])] (Xuk r) (Xuj r) := by
 refine Xaf hT Try.func155 rfl fun C hC => ?_
 unfold Xfo at h
 refine Xad ?_
 refine kO hT hC ?_
 refine kN ?_
 refine kO hT hC ?_
 obtain ⟨hq, h⟩ := Xaw h
 refine Yjv hT hC rfl rfl rfl rfl ⟨hq.1, hq.2.1, hq.2.2, by decide⟩ ?_
 refine kO hT hC ?_
 refine kN ?_
 refine kO hT hC ?_
 refine Vc.nil (Xax (Xad ?_))
 refine kO hT hC ?_
 refine kC hC [(0, 0)] Try.call120 h (fun _ => Xf4) fun q1 h => ?_
 refine kO hT hC ?_
 refine Vc.nil ?_
 refine kL [0,1,5,6,7] [0,160] [_,_,_,_,_] [_,_] ?_
 refine kX h (fun v8 => ([(6, .sv (.int .i64 v8.1)), (7, .sv (.int .i64 v8.2.1))], [(0, some (.box [.sv (.str v8.2.2.1), .sv (.int .i64 v8.2.2.2.1), .sv (.bool v8.2.2.2.2.1)])), (160, some (.ints .i64 v8.2.2.2.2.2))])) (fun v15 => ([(0, .any), (1, .any), (6, .any), (7, .any)], [(0, some (.box [.sv (.str v15.2.1), .sv (.int .i64 v15.2.2.1), .sv (.bool v15.2.2.2)])), (160, some (.ints .i64 v15.1))])) (kW hC []) (fun v8 s h => ?_) fun v15 h => ?_
 unfold Xer at h
 refine Xax ?_
 refine kL [0,1,5,6,7] [0,160] [_,_,_,_,_] [_,_] ?_
 refine kA h (fun v16 => ([(21, .sv (.bool v16))], [])) (fun v16 h => ?_) fun v16 h => ?_
 refine Xac ?_
 iterate 3 refine kO hT hC ?_
 refine kS h ?_ ?_ <;> intro b11 h
 iterate 5 refine kI hT hC b11 ?_
 refine kP hC true b11 ?_
 exact Vc.nil kM
 iterate 5 refine kF hC b11 ?_
 refine kP hC false b11 ?_
 exact Vc.nil kM
 refine kS h ?_ ?_ <;> intro b12 h
 refine kt b12 (Xag (Xae (Xax (Xap (Xad ?_)))))
 iterate 2 refine kO hT hC ?_
 refine kC hC [(0, 0)] Try.call120 h (fun _ => Xf4) fun q17 h => ?_
 iterate 2 refine kO hT hC ?_
 refine kN ?_
 refine kO hT hC ?_
 refine kC hC [(0, 0)] Try.call121 h (fun _ => Xma) fun q18 h => ?_
 refine kO hT hC ?_
 refine Vc.nil (Xax ?_)
 refine kL [0,1,5,6,7,8] [0,160] [_,_,_,_,_,_] [_,_] ?_
 refine kA h (fun v19 => ([(41, .sv (.bool v19))], [])) (fun v19 h => ?_) fun v19 h => ?_
 refine Xac ?_
 iterate 4 refine kO hT hC ?_
 refine kS h ?_ ?_ <;> intro b13 h
 iterate 2 refine kF hC b13 ?_
 refine kP hC true b13 ?_
 refine kO hT hC ?_
 iterate 3 refine kF hC rfl ?_
 refine kO hT hC ?_
 exact Vc.nil kM
 iterate 2 refine kI hT hC b13 ?_
 refine kP hC false b13 ?_
 refine kO hT hC ?_
 refine kS h ?_ ?_ <;> intro b14 h
 iterate 3 refine kF hC b14 ?_
 refine kP hC true b14 ?_
 exact Vc.nil kM
 refine kI hT hC b14 ?_
 refine kE hC b14 [] Try.call53 h (fun _ => Xaj) fun q20 h => ?_
 refine kI hT hC b14 ?_
 refine kP hC false b14 ?_
 exact Vc.nil kM
 refine kS h ?_ ?_ <;> intro b15 h
 refine kt b15 (Xad ?_)
 iterate 4 refine kO hT hC ?_
 refine Vc.nil (Xar (Xa1 ?_))
 refine Yo3 rfl ?_
 exact Xa1 ku
 refine kf b15 (Xag (Xae (Xad ?_)))
 iterate 3 refine kO hT hC ?_
 iterate 2 refine kQ hT hC h fun h => ?_
 refine Vc.nil (Xac ?_)
 iterate 3 refine kO hT hC ?_
 refine Vc.nil (Xas (Xae (Xac ?_)))
 iterate 3 refine kO hT hC ?_
 exact Vc.nil kG
 exact kf b12 (Xar (Xa1 ku))
 refine Xae (Xad ?_)
 iterate 2 refine kO hT hC ?_
 refine Vc.nil (Xah ?_)
 obtain rfl := kj h
 exact Xel (τ := ⟨[(4, .own 16)], [(16, some (.ints .i64 v15.1)), (0, some (.box [.sv (.str v15.2.1), .sv (.int .i64 v15.2.2.1), .sv (.bool v15.2.2.2)]))]⟩) (kW hC [(16, 160)]) rfl ⟨rfl, rfl, trivial⟩
def Xrg (r : ((List Int) × Xms)) : AV := .own 16
def Xrf (r : ((List Int) × Xms)) : Xbg := [(16, .ints .i64 r.1), (0, .box [.sv (.str r.2.row_), .sv (.int .i64 r.2.at_), .sv (.bool r.2.bad_)])]
theorem Xl9 {p0 p1 r} (h : Xce p0 p1 = some r) : AC Try.prog 122 [.ptr 0 0, .agg [.sv (.bool p1.Key), .sv (.int .i64 p1.Qp), .sv (.bool p1.Large), .sv (.bool p1.Exact)]] [(0, .box [.sv (.str p0.row_), .sv (.int .i64 p0.at_), .sv (.bool p0.bad_)])] (Xrg r) (Xrf r) := by
 refine Xaf hT Try.func122 rfl fun C hC => ?_
 unfold Xce at h
 refine Xad ?_
 iterate 2 refine kO hT hC ?_
 refine Vc.nil (Xax ?_)
 refine kL [0,3] [0,48] [_,_] [_,_] ?_
 refine kA h (fun v1 => ([(11, .sv (.bool v1)), (3, .any)], [(48, none)])) (fun v1 h => ?_) fun v1 h => ?_
 refine Xac ?_
 iterate 3 refine kO hT hC ?_
 refine kS h ?_ ?_ <;> intro b1 h
 iterate 2 refine kF hC b1 ?_
 refine kP hC true b1 ?_
 exact Vc.nil kM
 iterate 2 refine kI hT hC b1 ?_
 refine kP hC false b1 ?_
 exact Vc.nil kM
 refine kS h ?_ ?_ <;> intro b2 h
 refine kt b2 (Xad ?_)
 refine kO hT hC ?_
 refine kC hC [(16, 208), (0, 0)] Try.call155 h (fun _ => Xn5) fun q2 h => ?_
 refine kO hT hC ?_
 refine Vc.nil (Xah (Xa5 ?_))
 obtain rfl := kj h
 exact Xel (τ := ⟨[(4, .own 16)], [(16, some (.ints .i64 q2.1)), (0, some (.box [.sv (.str q2.2.row_), .sv (.int .i64 q2.2.at_), .sv (.bool q2.2.bad_)]))]⟩) (kW hC [(16, 208)]) rfl ⟨rfl, rfl, trivial⟩
 refine kf b2 (Xag (Xae (Xad ?_)))
 iterate 2 refine kO hT hC ?_
 refine Vc.nil (Xax (Xad ?_))
 refine kO hT hC ?_
 refine Vc.nil ?_
 refine kL [0,5,15] [0,224] [_,_,_] [_,_] ?_
 refine kX h (fun v5 => ([(15, .sv (.int .i64 v5.1))], [(0, some (.box [.sv (.str v5.2.1), .sv (.int .i64 v5.2.2.1), .sv (.bool v5.2.2.2.1)])), (224, some (.ints .i64 v5.2.2.2.2))])) (fun v8 => ([(0, .any), (15, .any)], [(0, some (.box [.sv (.str v8.2.1), .sv (.int .i64 v8.2.2.1), .sv (.bool v8.2.2.2)])), (224, some (.ints .i64 v8.1))])) (kW hC []) (fun v5 s h => ?_) fun v8 h => ?_
 unfold Xb1 at h
 refine Xad ?_
 refine kO hT hC ?_
 refine Vc.nil (Xax ?_)
 refine kS h ?_ ?_ <;> intro b5 h
 refine kt b5 (Xag (Xae (Xax (Xap (Xac ?_)))))
 iterate 2 refine kO hT hC ?_
 refine kC hC [(16, 304), (0, 0)] Try.call155 h (fun _ => Xn5) fun q9 h => ?_
 refine kT hT hC h fun h => ?_
 refine kO hT hC ?_
 refine Vc.nil (Xas (Xae (Xac ?_)))
 iterate 2 refine kO hT hC ?_
 refine Vc.nil ?_
 obtain rfl := kj h
 exact Yfr (kW hC [(224, 320)])
 exact kf b5 (Xar (Xa1 ku))
 refine Xae (Xad ?_)
 iterate 2 refine kO hT hC ?_
 refine Vc.nil (Xah ?_)
 obtain rfl := kj h
 exact Xel (τ := ⟨[(4, .own 16)], [(16, some (.ints .i64 v8.1)), (0, some (.box [.sv (.str v8.2.1), .sv (.int .i64 v8.2.2.1), .sv (.bool v8.2.2.2)]))]⟩) (kW hC [(16, 224)]) rfl ⟨rfl, rfl, trivial⟩
def Xri (r : (Xam × Xms)) : AV := .agg [.sv (.int .i64 r.1.Kind), .sv (.int .i64 r.1.Mode), .sv (.int .i64 r.1.Dx), .sv (.int .i64 r.1.Dy), .own 16]
def Xrh (r : (Xam × Xms)) : Xbg := [(16, .ints .i64 r.1.Levels), (0, .box [.sv (.str r.2.row_), .sv (.int .i64 r.2.at_), .sv (.bool r.2.bad_)])]
theorem Xsu {p0 p1 r} (h : Xfk p0 p1 = some r) : AC Try.prog 78 [.ptr 0 0, .agg [.sv (.bool p1.Key), .sv (.int .i64 p1.Qp), .sv (.bool p1.Large), .sv (.bool p1.Exact)]] [(0, .box [.sv (.str p0.row_), .sv (.int .i64 p0.at_), .sv (.bool p0.bad_)])] (Xri r) (Xrh r) := by
 refine Xaf hT Try.func78 rfl fun C hC => ?_
 unfold Xfk at h
 refine Xad ?_
 iterate 2 refine kO hT hC ?_
 refine kN ?_
 iterate 3 refine kO hT hC ?_
 refine Vc.nil ?_
 refine kL [0,3,4,5] [0,48,64,80] [_,_,_,_] [_,_,_,_] ?_
 refine kA h (fun v1 => ([], [(0, some (.box [.sv (.str v1.1), .sv (.int .i64 v1.2.1), .sv (.bool v1.2.2.1)])), (80, some (.box [.sv (.int .i64 v1.2.2.2), .sv (.int .i64 0), .sv (.int .i64 0), .sv (.int .i64 0), .sv .nil]))])) (fun v1 h => ?_) fun v1 h => ?_
 refine Xad ?_
 iterate 3 refine kO hT hC ?_
 refine Vc.nil ?_
 refine kS h ?_ ?_ <;> intro b1 h
 refine kt b1 (Xac ?_)
 refine kO hT hC ?_
 refine kC hC [(0, 0)] Try.call120 h (fun _ => Xf4) fun q2 h => ?_
 iterate 2 refine kO hT hC ?_
 exact Vc.nil kM
 exact kf b1 (Xag kM)
 refine kL [0,3,4,5] [0,48,64,80] [_,_,_,_] [_,_,_,_] ?_
 refine kA h (fun v3 => ([(3, .any)], [(0, some (.box [.sv (.str v3.1), .sv (.int .i64 v3.2.1), .sv (.bool v3.2.2.1)])), (80, some (.box [.sv (.int .i64 v1.2.2.2), .sv (.int .i64 v3.2.2.2.1), .sv (.int .i64 v3.2.2.2.2.1), .sv (.int .i64 v3.2.2.2.2.2.1), .own 913])), (913, some (.ints .i64 v3.2.2.2.2.2.2)), (48, none)])) (fun v3 h => ?_) fun v3 h => ?_
 refine Xap (Xad ?_)
 iterate 5 refine kO hT hC ?_
 refine Vc.nil ?_
 refine kS h ?_ ?_ <;> intro b2 h
 refine kt b2 (Xag (Xas ?_))
 obtain rfl := kj h
 refine Xhc ?_
 refine Xqw hC 80 4 914 (.ints .i64 []) rfl rfl rfl rfl rfl trivial ?_
 try dsimp only
 apply Xhi hC [(913, 914)]
 exact co
 rfl
 decide
 rfl
 refine kf b2 (Xad ?_)
 iterate 4 refine kO hT hC ?_
 refine Vc.nil ?_
 refine kS h ?_ ?_ <;> intro b3 h
 refine kt b3 (Xad ?_)
 refine kO hT hC ?_
 refine kC hC [(0, 0)] Try.call121 h (fun _ => Xma) fun q4 h => ?_
 iterate 2 refine kO hT hC ?_
 refine kN ?_
 refine kO hT hC ?_
 refine kC hC [(0, 0)] Try.call121 h (fun _ => Xma) fun q5 h => ?_
 iterate 2 refine kO hT hC ?_
 refine Vc.nil (Xac ?_)
 iterate 2 refine kO hT hC ?_
 refine kC hC [(16, 480), (0, 0)] Try.call122 h (fun _ => Xl9) fun q6 h => ?_
 iterate 2 refine kO hT hC ?_
 refine Vc.nil (Xas ?_)
 obtain rfl := kj h
 exact Xhc (kW hC [(913, 480)])
 refine kf b3 (Xad ?_)
 iterate 4 refine kO hT hC ?_
 refine Vc.nil ?_
 refine kS h ?_ ?_ <;> intro b4 h
 refine kt b4 (Xad ?_)
 refine kO hT hC ?_
 refine kC hC [(0, 0)] Try.call120 h (fun _ => Xf4) fun q7 h => ?_
 iterate 2 refine kO hT hC ?_
 refine Vc.nil (Xac ?_)
 iterate 2 refine kO hT hC ?_
 refine kC hC [(16, 656), (0, 0)] Try.call122 h (fun _ => Xl9) fun q8 h => ?_
 iterate 2 refine kO hT hC ?_
 refine Vc.nil (Xas ?_)
 obtain rfl := kj h
 exact Xhc (kW hC [(913, 656)])
 refine kf b4 (Xag (Xas ?_))
 obtain rfl := kj h
 refine Xhc ?_
 refine Xqw hC 80 4 915 (.ints .i64 []) rfl rfl rfl rfl rfl trivial ?_
 try dsimp only
 apply Xhi hC [(913, 915)]
 exact co
 rfl
 decide
 rfl
 refine kL [0,4,5] [0,64,80,913] [_,_,_] [_,_,_,_] ?_
 refine kA h (fun v9 => ([(0, .any)], [(0, some (.box [.sv (.str v3.1), .sv (.int .i64 v3.2.1), .sv (.bool v9)]))])) (fun v9 h => ?_) fun v9 h => ?_
 refine Xac ?_
 iterate 6 refine kO hT hC ?_
 refine kS h ?_ ?_ <;> intro b5 h
 iterate 3 refine kF hC b5 ?_
 refine kP hC true b5 ?_
 iterate 3 refine kO hT hC ?_
 exact Vc.nil kM
 refine kI hT hC b5 ?_
 refine kE hC b5 [] Try.call15 h (fun _ => Xlb) fun q10 h => ?_
 refine kI hT hC b5 ?_
 refine kP hC false b5 ?_
 iterate 3 refine kO hT hC ?_
 exact Vc.nil kM
 refine Xad ?_
 iterate 2 refine kO hT hC ?_
 refine Vc.nil (Xah ?_)
 obtain rfl := kj h
 exact Xel (τ := ⟨[(4, .ptr 2000000 0)], [(16, some (.ints .i64 v3.2.2.2.2.2.2)), (0, some (.box [.sv (.str v3.1), .sv (.int .i64 v3.2.1), .sv (.bool v9)])), (2000000, some (.box [.sv (.int .i64 v1.2.2.2), .sv (.int .i64 v3.2.2.2.1), .sv (.int .i64 v3.2.2.2.2.1), .sv (.int .i64 v3.2.2.2.2.2.1), .own 16]))]⟩) (kW hC [(16, 913), (2000000, 64)]) rfl ⟨rfl, rfl, trivial⟩
def Xnv (r : ((List Xam) × Bool)) : AV := .tup [.own 16, .sv (.bool r.2)]
def Xnu (r : ((List Xam) × Bool)) : Xbg := [(16, .row Xcx r.1)]
theorem Xxc {p0 p1 p2 p3 r} (h : Xij p0 p1 p2 p3 = some r) : AC Try.prog 29 [.sv (.str p0), .sv (.int .i64 p1), .sv (.int .i64 p2), .agg [.sv (.bool p3.Key), .sv (.int .i64 p3.Qp), .sv (.bool p3.Large), .sv (.bool p3.Exact)]] [] (Xnv r) (Xnu r) := by
 refine Xaf hT Try.func29 rfl fun C hC => ?_
 unfold Xij at h
 refine Xad ?_
 iterate 3 refine kO hT hC ?_
 refine kN ?_
 iterate 2 refine kO hT hC ?_
 refine kC hC [(16, 224)] Try.call77 h (fun _ => Yb9) fun q1 h => ?_
 refine kO hT hC ?_
 refine kN ?_
 iterate 2 refine kO hT hC ?_
 refine Vc.nil (Xax ?_)
 refine kL [0,2,7,10,11] [112,224,240] [_,_,_,_,_] [_,_,_] ?_
 refine kA h (fun v2 => ([(23, .sv (.bool v2))], [])) (fun v2 h => ?_) fun v2 h => ?_
 refine Xac ?_
 refine kO hT hC ?_
 refine kC hC [] Try.call53 h (fun _ => Xaj) fun q3 h => ?_
 iterate 2 refine kO hT hC ?_
 refine kS h ?_ ?_ <;> intro b1 h
 refine kI hT hC (kn b1) ?_
 refine kE hC (kn b1) [] Try.call27 h (fun _ => Xde) fun q4 h => ?_
 refine kI hT hC (kn b1) ?_
 refine kP hC false (kn b1) ?_
 exact Vc.nil kM
 iterate 3 refine kF hC (kn b1) ?_
 refine kP hC true (kn b1) ?_
 exact Vc.nil kM
 refine kS h ?_ ?_ <;> intro b2 h
 refine kt b2 (Xad ?_)
 iterate 3 refine kO hT hC ?_
 refine Vc.nil (Xah (Xa5 ?_))
 obtain rfl := kj h
 exact Xel (τ := ⟨[(8, .own 16), (9, .sv (.bool false))], [(16, some (.row Xcx ([] : List Xam)))]⟩) (kW hC [(16, 240)]) rfl ⟨rfl, trivial⟩
 refine kf b2 (Xag (Xae (Xax (Xad ?_))))
 iterate 2 refine kO hT hC ?_
 refine Vc.nil ?_
 refine kL [0,7,10,11,25,26] [112,224,240] [_,_,_,_,_,_] [_,_,_] ?_
 obtain ⟨o12, hl, h⟩ := Xbj h
 refine Xpb (fun v7 => ([(26, .sv (.int .i64 v7.1))], [(224, some (.box [.sv (.str v7.2.1), .sv (.int .i64 v7.2.2.1), .sv (.bool v7.2.2.2.1)])), (240, some (.row Xcx v7.2.2.2.2))])) (fun v10 => ([(7, .any), (25, .any), (26, .any)], [(224, some (.box [.sv (.str v10.1), .sv (.int .i64 v10.2.1), .sv (.bool v10.2.2.1)])), (240, some (.row Xcx v10.2.2.2)), (112, none)])) (fun r => Xyu C T Try.f29.results.toList (Xnv r) (Xnu r)) hl ?_ ?_ ?_ ?_
 try dsimp only
 apply Xhi hC []
 exact co
 rfl
 decide
 rfl
 intro v7 s hs
 have h := hs
 unfold Xfi at h
 refine Xad ?_
 refine kO hT hC ?_
 refine Vc.nil (Xax ?_)
 refine kS h ?_ ?_ <;> intro b7 h
 refine kt b7 (Xag (Xae (Xax (Xap (Xad ?_)))))
 iterate 3 refine kO hT hC ?_
 refine kC hC [(16, 496), (0, 224)] Try.call78 h (fun _ => Xsu) fun q11 h => ?_
 refine kO hT hC ?_
 obtain ⟨hq, h⟩ := Xaw h
 refine Yjv hT hC rfl rfl rfl rfl ⟨fun _ _ => rfl, by rw [Xqz]; exact hq⟩ ?_
 rw [Xqz]
 refine kO hT hC ?_
 refine kN ?_
 iterate 4 refine kO hT hC ?_
 refine Vc.nil ?_
 refine kS h ?_ ?_ <;> intro b8 h
 refine kt b8 (Xad ?_)
 iterate 3 refine kO hT hC ?_
 refine Vc.nil (Xah (Xp3 (Xa5 ?_)))
 obtain rfl := kj h
 refine Ye1 (Yex ?_)
 refine Xel (τ := ⟨[(8, .own 16), (9, .sv (.bool false))], [(16, some (.row Xcx ([] : List Xam)))]⟩) ?_ rfl ⟨rfl, trivial⟩
 apply Xhi hC [(16, 608)]
 exact co
 rfl
 decide
 rfl
 refine kf b8 (Xag (Xas (Xae (Xac ?_))))
 iterate 2 refine kO hT hC ?_
 refine Vc.nil ?_
 obtain rfl := kj h
 exact Yfr (kW hC [(240, 528)])
 exact kf b7 (Xar (Xa1 kb))
 intro v10 e
 subst e
 refine Xae (Xax (Xad ?_))
 iterate 7 refine kO hT hC ?_
 refine Vc.nil ?_
 refine kS h ?_ ?_ <;> intro b9 h
 refine kt b9 (Xad ?_)
 iterate 3 refine kO hT hC ?_
 refine Vc.nil (Xah (Xa5 ?_))
 obtain rfl := kj h
 exact Xel (τ := ⟨[(8, .own 16), (9, .sv (.bool false))], [(16, some (.row Xcx ([] : List Xam)))]⟩) (kW hC [(16, 752)]) rfl ⟨rfl, trivial⟩
 refine kf b9 (Xag (Xae (Xad ?_)))
 iterate 3 refine kO hT hC ?_
 refine Vc.nil (Xah ?_)
 obtain rfl := kj h
 exact Xel (τ := ⟨[(8, .own 16), (9, .sv (.bool true))], [(16, some (.row Xcx v10.2.2.2))]⟩) (kW hC [(16, 240)]) rfl ⟨rfl, trivial⟩
 intro r' σ' e hE
 subst e
 obtain rfl := kj h
 refine Xa5 ?_
 exact hE
def Ybu (r : (Pic × Bool)) : AV := .tup [.agg [.sv (.int .i64 r.1.Wide), .sv (.int .i64 r.1.High), .sv (.str r.1.Dots)], .sv (.bool r.2)]
def Ybt (r : (Pic × Bool)) : Xbg := []
theorem Yd1 {p0 p1 r} (h : Xlv p0 p1 = some r) : AC Try.prog 24 [.agg [.sv (.int .i64 p0.Wide), .sv (.int .i64 p0.High), .sv (.str p0.Dots)], .agg [.sv (.int .i64 p1.Left), .sv (.int .i64 p1.Top), .sv (.int .i64 p1.Wide), .sv (.int .i64 p1.High)]] [] (Ybu r) (Ybt r) := by
 refine Xaf hT Try.func24 rfl fun C hC => ?_
 unfold Xlv at h
 refine Xad ?_
 iterate 4 refine kO hT hC ?_
 refine Vc.nil (Xax ?_)
 refine kL [2,3,4] [32,48,64] [_,_,_] [_,_,_] ?_
 refine kA h (fun v1 => ([(16, .sv (.bool v1))], [])) (fun v1 h => ?_) fun v1 h => ?_
 refine Xac ?_
 refine kO hT hC ?_
 refine kC hC [] Try.call50 h (fun _ => Xcs) fun q2 h => ?_
 iterate 2 refine kO hT hC ?_
 refine kS h ?_ ?_ <;> intro b1 h
 iterate 2 refine kI hT hC (kn b1) ?_
 refine kE hC (kn b1) [] Try.call75 h (fun _ => Xjn) fun q3 h => ?_
 refine kI hT hC (kn b1) ?_
 refine kP hC false (kn b1) ?_
 exact Vc.nil kM
 iterate 4 refine kF hC (kn b1) ?_
 refine kP hC true (kn b1) ?_
 exact Vc.nil kM
 refine kS h ?_ ?_ <;> intro b2 h
 refine kt b2 (Xad ?_)
 iterate 3 refine kO hT hC ?_
 exact Vc.nil (Xah (Xa5 kR))
 refine kf b2 (Xag (Xae (Xad ?_)))
 iterate 5 refine kO hT hC ?_
 obtain ⟨hq, h⟩ := Xaw h
 refine Yjv hT hC rfl rfl rfl rfl ⟨hq.1, hq.2.1, hq.2.2, by decide⟩ ?_
 refine kO hT hC ?_
 refine Vc.nil (Xax (Xad ?_))
 iterate 3 refine kO hT hC ?_
 refine Vc.nil ?_
 refine kL [2,3,4,6,7] [32,48,64,368] [_,_,_,_,_] [_,_,_,_] ?_
 refine kX h (fun v5 => ([(7, .sv (.int .i64 v5.1))], [(368, some (.ints .u8 v5.2))])) (fun v7 => ([(2, .any), (7, .any)], [(368, some (.ints .u8 v7)), (32, none)])) (kW hC []) (fun v5 s h => ?_) fun v7 h => ?_
 unfold Xou at h
 refine Xax (Xad ?_)
 iterate 7 refine kO hT hC ?_
 refine Vc.nil ?_
 refine kS h ?_ ?_ <;> intro b5 h
 refine kt b5 (Xag (Xae (Xax (Xap (Xac ?_)))))
 iterate 20 refine kO hT hC ?_
 refine kQ hT hC h fun h => ?_
 refine kT hT hC h fun h => ?_
 refine kO hT hC ?_
 refine Vc.nil (Xas (Xae (Xac ?_)))
 iterate 3 refine kO hT hC ?_
 refine Vc.nil ?_
 obtain rfl := kj h
 exact Yfr (kW hC [(368, 896)])
 exact kf b5 (Xar (Xa1 ku))
 refine Xae (Xad ?_)
 iterate 9 refine kO hT hC ?_
 exact Vc.nil (Xah kR)
def Xny (r : (Pic × Bool)) : AV := .tup [.agg [.sv (.int .i64 r.1.Wide), .sv (.int .i64 r.1.High), .sv (.str r.1.Dots)], .sv (.bool r.2)]
def Xnx (r : (Pic × Bool)) : Xbg := []
theorem Xxj {p0 p1 p2 p3 p4 r} (h : Xim p0 p1 p2 p3 p4 = some r) : AC Try.prog 30 [.agg [.sv (.int .i64 p0.Wide), .sv (.int .i64 p0.High), .sv (.str p0.Dots)], .agg [.sv (.int .i64 p1.Left), .sv (.int .i64 p1.Top), .sv (.int .i64 p1.Wide), .sv (.int .i64 p1.High)], .agg [.sv (.bool p2.Key), .sv (.int .i64 p2.Qp), .sv (.bool p2.Large), .sv (.bool p2.Exact)], .sv (.bool p3), .sv (Xcx.sv p4)] [] (Xny r) (Xnx r) := by
 refine Xaf hT Try.func30 rfl fun C hC => ?_
 unfold Xim at h
 refine Xad ?_
 iterate 5 refine kO hT hC ?_
 refine Vc.nil (Xax ?_)
 refine kL [3,4,5,6,7,10] [80,96,112,160] [_,_,_,_,_,_] [_,_,_,_] ?_
 refine kA h (fun v1 => ([(59, .sv (.bool v1))], [])) (fun v1 h => ?_) fun v1 h => ?_
 refine Xac ?_
 iterate 2 refine kO hT hC ?_
 refine kC hC [] Try.call66 h (fun _ => Xke) fun q2 h => ?_
 iterate 2 refine kO hT hC ?_
 refine kS h ?_ ?_ <;> intro b1 h
 iterate 2 refine kI hT hC (kn b1) ?_
 refine kE hC (kn b1) [] Try.call66 h (fun _ => Xke) fun q3 h => ?_
 refine kI hT hC (kn b1) ?_
 refine kP hC false (kn b1) ?_
 refine kO hT hC ?_
 refine kS h ?_ ?_ <;> intro b2 h
 iterate 2 refine kI hT hC (kn b2) ?_
 refine kE hC (kn b2) [] Try.call53 h (fun _ => Xaj) fun q4 h => ?_
 refine kI hT hC (kn b2) ?_
 refine kP hC false (kn b2) ?_
 refine kO hT hC ?_
 refine kS h ?_ ?_ <;> intro b3 h
 iterate 2 refine kI hT hC (kn b3) ?_
 refine kE hC (kn b3) [] Try.call53 h (fun _ => Xaj) fun q5 h => ?_
 refine kI hT hC (kn b3) ?_
 refine kP hC false (kn b3) ?_
 refine kO hT hC ?_
 refine kS h ?_ ?_ <;> intro b4 h
 refine kI hT hC (kn b4) ?_
 refine kE hC (kn b4) [] Try.call27 h (fun _ => Xde) fun q6 h => ?_
 refine kI hT hC (kn b4) ?_
 refine kP hC false (kn b4) ?_
 refine kO hT hC ?_
 refine kS h ?_ ?_ <;> intro b5 h
 iterate 4 refine kI hT hC (kn b5) ?_
 refine kJ hT hC (kn b5) h fun h => ?_
 iterate 2 refine kI hT hC (kn b5) ?_
 refine kJ hT hC (kn b5) h fun h => ?_
 iterate 2 refine kI hT hC (kn b5) ?_
 refine kP hC false (kn b5) ?_
 exact Vc.nil kM
 iterate 10 refine kF hC (kn b5) ?_
 refine kP hC true (kn b5) ?_
 exact Vc.nil kM
 iterate 3 refine kF hC (kn b4) ?_
 refine kP hC true (kn b4) ?_
 refine kO hT hC ?_
 iterate 10 refine kF hC rfl ?_
 refine kO hT hC ?_
 exact Vc.nil kM
 iterate 4 refine kF hC (kn b3) ?_
 refine kP hC true (kn b3) ?_
 refine kO hT hC ?_
 iterate 3 refine kF hC rfl ?_
 iterate 2 refine kO hT hC ?_
 iterate 10 refine kF hC rfl ?_
 refine kO hT hC ?_
 exact Vc.nil kM
 iterate 4 refine kF hC (kn b2) ?_
 refine kP hC true (kn b2) ?_
 refine kO hT hC ?_
 iterate 4 refine kF hC rfl ?_
 iterate 2 refine kO hT hC ?_
 iterate 3 refine kF hC rfl ?_
 iterate 2 refine kO hT hC ?_
 iterate 10 refine kF hC rfl ?_
 refine kO hT hC ?_
 exact Vc.nil kM
 iterate 4 refine kF hC (kn b1) ?_
 refine kP hC true (kn b1) ?_
 refine kO hT hC ?_
 iterate 4 refine kF hC rfl ?_
 iterate 2 refine kO hT hC ?_
 iterate 4 refine kF hC rfl ?_
 iterate 2 refine kO hT hC ?_
 iterate 3 refine kF hC rfl ?_
 iterate 2 refine kO hT hC ?_
 iterate 10 refine kF hC rfl ?_
 refine kO hT hC ?_
 exact Vc.nil kM
 refine kS h ?_ ?_ <;> intro b6 h
 refine kt b6 (Xad ?_)
 iterate 3 refine kO hT hC ?_
 exact Vc.nil (Xah (Xa5 kR))
 refine kf b6 (Xag (Xae (Xax ?_)))
 refine kL [3,4,5,6,7,10] [80,96,112,160] [_,_,_,_,_,_] [_,_,_,_] ?_
 refine kA h (fun v7 => ([(74, .sv (.bool v7))], [])) (fun v7 h => ?_) fun v7 h => ?_
 refine Xac ?_
 iterate 4 refine kO hT hC ?_
 refine kS h ?_ ?_ <;> intro b7 h
 iterate 4 refine kF hC (kn b7) ?_
 iterate 4 refine Xom hC rfl rfl rfl rfl rfl rfl ?_
 refine kF hC (kn b7) ?_
 refine kP hC false (kn b7) ?_
 exact Vc.nil kM
 refine kI hT hC (kn b7) ?_
 refine kE hC (kn b7) [] Try.call50 h (fun _ => Xcs) fun q8 h => ?_
 iterate 2 refine kI hT hC (kn b7) ?_
 refine kS h ?_ ?_ <;> intro b8 h
 iterate 2 refine kI hT hC (kn b8) ?_
 refine kE hC (kn b8) [] Try.call75 h (fun _ => Xjn) fun q9 h => ?_
 refine kI hT hC (kn b8) ?_
 refine Xda hC rfl rfl rfl rfl (kn b7) rfl rfl (b := false) (kn b8) rfl rfl rfl trivial ?_
 refine kP hC true (kn b7) ?_
 exact Vc.nil kM
 iterate 4 refine kF hC (kn b8) ?_
 refine Xda hC rfl rfl rfl rfl (kn b7) rfl rfl (b := true) (kn b8) rfl rfl rfl trivial ?_
 refine kP hC true (kn b7) ?_
 exact Vc.nil kM
 refine kS h ?_ ?_ <;> intro b9 h
 refine kt b9 (Xad ?_)
 iterate 3 refine kO hT hC ?_
 exact Vc.nil (Xah (Xa5 kR))
 refine kf b9 (Xag (Xae ?_))
 refine Xgx hm ?_
 iterate 6 refine kO hT hC ?_
 refine kD ?_
 refine kL [3,4,5,6,7,10,12,13] [80,96,112,160] [_,_,_,_,_,_,_,_] [_,_,_,_] ?_
 refine kA h (fun v10 => ([(12, .sv (.int .i64 v10.1)), (13, .sv (.int .i64 v10.2.1)), (3, .any)], [(80, some (.box [.sv (.int .i64 v10.2.2.1), .sv (.int .i64 v10.2.2.2.1), .sv (.str v10.2.2.2.2)]))])) (fun v10 h => ?_) fun v10 h => ?_
 refine Xad ?_
 refine kO hT hC ?_
 refine Vc.nil ?_
 refine kS h ?_ ?_ <;> intro b10 h
 refine kt b10 (Xad ?_)
 iterate 2 refine kO hT hC ?_
 refine kN ?_
 iterate 3 refine kO hT hC ?_
 refine Vc.nil ?_
 refine kS h ?_ ?_ <;> intro b11 h
 refine kt b11 (Xac ?_)
 iterate 2 refine kO hT hC ?_
 refine kC hC [] Try.call24 h (fun _ => Yd1) fun q11 h => ?_
 iterate 4 refine kO hT hC ?_
 exact Vc.nil kM
 exact kf b11 (Xag kM)
 exact kf b10 (Xag kM)
 refine Xad ?_
 iterate 4 refine kO hT hC ?_
 refine kC hC [] Try.call25 h (fun _ => Xwj) fun q12 h => ?_
 iterate 2 refine kO hT hC ?_
 refine Vc.nil (Xax (Xad ?_))
 iterate 3 refine kO hT hC ?_
 refine Vc.nil ?_
 refine kL [5,6,7,10,12,13,14,95,96,97] [80,96,112,160,224] [_,_,_,_,_,_,_,_,_,_] [_,_,_,_,_] ?_
 obtain ⟨o23, hl, h⟩ := Xbj h
 refine Xpb (fun v16 => ([(97, .sv (.int .i64 v16.1))], [(224, some (.box [.sv (.int .i64 v16.2.1), .sv (.int .i64 v16.2.2.1), .sv (.str v16.2.2.2)]))])) (fun v20 => ([(5, .any), (6, .any), (7, .any), (12, .any), (13, .any), (95, .any), (96, .any), (97, .any)], [(224, some (.box [.sv (.int .i64 v20.1), .sv (.int .i64 v20.2.1), .sv (.str v20.2.2)])), (80, none), (96, none), (112, none)])) (fun r => Xyu C T Try.f30.results.toList (Xny r) (Xnx r)) hl ?_ ?_ ?_ ?_
 try dsimp only
 apply Xhi hC []
 exact co
 rfl
 decide
 rfl
 intro v16 s hs
 have h := hs
 unfold Xc4 at h
 refine Xad ?_
 refine kO hT hC ?_
 refine Vc.nil (Xax ?_)
 refine kS h ?_ ?_ <;> intro b16 h
 refine kt b16 (Xag (Xae (Xax (Xap (Xad ?_)))))
 refine kO hT hC ?_
 refine kQ hT hC h fun h => ?_
 iterate 4 refine kO hT hC ?_
 refine Vc.nil ?_
 refine Xgx hm ?_
 iterate 3 refine kO hT hC ?_
 iterate 2 refine kQ hT hC h fun h => ?_
 iterate 4 refine kO hT hC ?_
 iterate 2 refine kQ hT hC h fun h => ?_
 iterate 3 refine kO hT hC ?_
 refine kD (Xad ?_)
 iterate 8 refine kO hT hC ?_
 refine kC hC [(16, 1968)] Try.call14 h (fun _ => Xm0) fun q21 h => ?_
 iterate 5 refine kO hT hC ?_
 refine Vc.nil (Xax (Xad ?_))
 iterate 2 refine kO hT hC ?_
 refine Vc.nil ?_
 refine kS h ?_ ?_ <;> intro b17 h
 refine kt b17 (Xad ?_)
 iterate 3 refine kO hT hC ?_
 refine Vc.nil (Xah (Xa5 (Xp3 (Xa5 ?_))))
 obtain rfl := kj h
 refine Ye1 (Yex ?_)
 exact Xel (Xjg.refl _) rfl trivial
 refine kf b17 (Xag (Xae (Xac ?_)))
 iterate 4 refine kO hT hC ?_
 refine kC hC [] Try.call67 h (fun _ => Xz7) fun q22 h => ?_
 refine kO hT hC ?_
 refine Vc.nil (Xas (Xae (Xac ?_)))
 iterate 2 refine kO hT hC ?_
 exact Vc.nil kG
 exact kf b16 (Xar (Xa1 kb))
 intro v20 e
 subst e
 refine Xae (Xad ?_)
 iterate 3 refine kO hT hC ?_
 exact Vc.nil (Xah kR)
 intro r' σ' e hE
 subst e
 obtain rfl := kj h
 refine Xa5 ?_
 exact hE
def Xpv (r : Bool) : AV := .sv (.bool r)
def Xpu (r : Bool) : Xbg := []
theorem Yae {p0 r} (h : Xm3 p0 = some r) : AC Try.prog 6 [.sv (.ints .u8 p0)] [] (Xpv r) (Xpu r) := by
 refine Xaf hT Try.func6 rfl fun C hC => ?_
 unfold Xm3 at h
 refine Xad ?_
 refine kO hT hC ?_
 refine Vc.nil (Xax (Xad ?_))
 refine kO hT hC ?_
 refine kC hC [] Try.call8 h (fun _ => Yh4) fun q1 h => ?_
 refine Vc.nil ?_
 refine kS h ?_ ?_ <;> intro b1 h
 refine kt b1 (Xad ?_)
 refine kO hT hC ?_
 exact Vc.nil (Xah (Xa5 kR))
 refine kf b1 (Xag (Xae (Xad ?_)))
 refine kO hT hC ?_
 refine kC hC [] Try.call9 h (fun _ => Xx2) fun q2 h => ?_
 iterate 7 refine kO hT hC ?_
 refine kN ?_
 refine kO hT hC ?_
 refine kC hC [] Try.call10 h (fun _ => Xx0) fun q3 h => ?_
 iterate 2 refine kO hT hC ?_
 refine kN ?_
 refine kO hT hC ?_
 refine kC hC [(16, 464)] Try.call11 h (fun _ => Xux) fun q4 h => ?_
 refine kO hT hC ?_
 refine Vc.nil ?_
 refine Xgx hm ?_
 iterate 4 refine kO hT hC ?_
 iterate 3 refine kQ hT hC h fun h => ?_
 refine kC hC [(16, 608)] Try.call17 h (fun _ => Xzv) fun q5 h => ?_
 iterate 8 refine kO hT hC ?_
 refine kD (Xad ?_)
 iterate 2 refine kO hT hC ?_
 refine kC hC [] Try.call28 h (fun _ => Xzw) fun q6 h => ?_
 iterate 5 refine kO hT hC ?_
 refine kN ?_
 iterate 7 refine kO hT hC ?_
 refine kN ?_
 iterate 3 refine kO hT hC ?_
 refine kQ hT hC h fun h => ?_
 iterate 2 refine kO hT hC ?_
 refine kQ hT hC h fun h => ?_
 iterate 2 refine kO hT hC ?_
 refine kC hC [(16, 1008)] Try.call29 h (fun _ => Xxc) fun q7 h => ?_
 iterate 5 refine kO hT hC ?_
 refine kN ?_
 iterate 4 refine kO hT hC ?_
 refine kC hC [] Try.call30 h (fun _ => Xxj) fun q8 h => ?_
 iterate 6 refine kO hT hC ?_
 refine Vc.nil (Xax ?_)
 refine kL [3,5,8,9,11,14,15,16] [48,80,128,240] [_,_,_,_,_,_,_,_] [_,_,_,_] ?_
 refine kA h (fun v9 => ([(115, .sv (.bool v9)), (9, .any), (11, .any), (14, .any), (15, .any), (16, .any)], [(240, none)])) (fun v9 h => ?_) fun v9 h => ?_
 refine Xac ?_
 iterate 3 refine kO hT hC ?_
 refine kS h ?_ ?_ <;> intro b2 h
 iterate 2 refine kI hT hC (kn b2) ?_
 refine kP hC false (kn b2) ?_
 refine kO hT hC ?_
 refine kS h ?_ ?_ <;> intro b3 h
 iterate 2 refine kI hT hC (kn b3) ?_
 refine kP hC false (kn b3) ?_
 refine kO hT hC ?_
 refine kS h ?_ ?_ <;> intro b4 h
 iterate 2 refine kI hT hC (kn b4) ?_
 refine kP hC false (kn b4) ?_
 refine kO hT hC ?_
 refine kS h ?_ ?_ <;> intro b5 h
 iterate 2 refine kI hT hC (kn b5) ?_
 refine Yp1 hC rfl rfl rfl rfl (kn b5) rfl rfl rfl Yon rfl rfl ?_
 refine kP hC false (kn b5) ?_
 refine kO hT hC ?_
 refine kS h ?_ ?_ <;> intro b6 h
 iterate 5 refine kF hC b6 ?_
 refine kP hC true b6 ?_
 refine kO hT hC ?_
 iterate 5 refine kF hC rfl ?_
 iterate 2 refine kO hT hC ?_
 iterate 7 refine kF hC rfl ?_
 refine kO hT hC ?_
 exact Vc.nil kM
 iterate 5 refine kI hT hC b6 ?_
 refine kP hC false b6 ?_
 refine kO hT hC ?_
 refine kS h ?_ ?_ <;> intro b7 h
 iterate 5 refine kF hC b7 ?_
 refine kP hC true b7 ?_
 refine kO hT hC ?_
 iterate 7 refine kF hC rfl ?_
 refine kO hT hC ?_
 exact Vc.nil kM
 iterate 5 refine kI hT hC b7 ?_
 refine kP hC false b7 ?_
 refine kO hT hC ?_
 refine kS h ?_ ?_ <;> intro b8 h
 iterate 7 refine kF hC b8 ?_
 refine kP hC true b8 ?_
 exact Vc.nil kM
 iterate 7 refine kI hT hC b8 ?_
 refine kP hC false b8 ?_
 exact Vc.nil kM
 iterate 3 refine kF hC (kn b5) ?_
 refine kP hC true (kn b5) ?_
 refine kO hT hC ?_
 iterate 5 refine kF hC rfl ?_
 iterate 2 refine kO hT hC ?_
 iterate 5 refine kF hC rfl ?_
 iterate 2 refine kO hT hC ?_
 iterate 7 refine kF hC rfl ?_
 refine kO hT hC ?_
 exact Vc.nil kM
 iterate 2 refine kF hC (kn b4) ?_
 refine kP hC true (kn b4) ?_
 refine kO hT hC ?_
 iterate 3 refine kF hC rfl ?_
 iterate 2 refine kO hT hC ?_
 iterate 5 refine kF hC rfl ?_
 iterate 2 refine kO hT hC ?_
 iterate 5 refine kF hC rfl ?_
 iterate 2 refine kO hT hC ?_
 iterate 7 refine kF hC rfl ?_
 refine kO hT hC ?_
 exact Vc.nil kM
 iterate 2 refine kF hC (kn b3) ?_
 refine kP hC true (kn b3) ?_
 refine kO hT hC ?_
 iterate 2 refine kF hC rfl ?_
 iterate 2 refine kO hT hC ?_
 iterate 3 refine kF hC rfl ?_
 iterate 2 refine kO hT hC ?_
 iterate 5 refine kF hC rfl ?_
 iterate 2 refine kO hT hC ?_
 iterate 5 refine kF hC rfl ?_
 iterate 2 refine kO hT hC ?_
 iterate 7 refine kF hC rfl ?_
 refine kO hT hC ?_
 exact Vc.nil kM
 iterate 2 refine kF hC (kn b2) ?_
 refine kP hC true (kn b2) ?_
 refine kO hT hC ?_
 iterate 2 refine kF hC rfl ?_
 iterate 2 refine kO hT hC ?_
 iterate 2 refine kF hC rfl ?_
 iterate 2 refine kO hT hC ?_
 iterate 3 refine kF hC rfl ?_
 iterate 2 refine kO hT hC ?_
 iterate 5 refine kF hC rfl ?_
 iterate 2 refine kO hT hC ?_
 iterate 5 refine kF hC rfl ?_
 iterate 2 refine kO hT hC ?_
 iterate 7 refine kF hC rfl ?_
 refine kO hT hC ?_
 exact Vc.nil kM
 refine kS h ?_ ?_ <;> intro b9 h
 refine kt b9 (Xad ?_)
 refine kO hT hC ?_
 exact Vc.nil (Xah (Xa5 kR))
 refine kf b9 (Xag (Xae (Xax (Xad ?_))))
 iterate 2 refine kO hT hC ?_
 refine Vc.nil ?_
 refine kS h ?_ ?_ <;> intro b10 h
 refine kt b10 (Xad ?_)
 iterate 2 refine kO hT hC ?_
 refine Yr1 hC rfl rfl rfl rfl Yon rfl rfl ?_
 refine kO hT hC ?_
 exact Vc.nil (Xah (Xa5 kR))
 refine kf b10 (Xag (Xae (Xax (Xad ?_))))
 refine kO hT hC ?_
 refine Vc.nil ?_
 refine kL [3,5,8,17] [48,80,128] [_,_,_,_] [_,_,_] ?_
 obtain ⟨o23, hl, h⟩ := Xbj h
 refine Xpb (fun v14 => ([(17, .sv (.int .i64 v14))], [])) (fun v19 => ([(3, .any), (5, .any), (8, .any), (17, .any)], [(48, none), (80, none), (128, none)])) (fun r => Xyu C T Try.f6.results.toList (Xpv r) (Xpu r)) hl ?_ ?_ ?_ ?_
 apply Xhi hC []
 exact co
 rfl
 decide
 rfl
 intro v14 s hs
 have h := hs
 unfold Xeu at h
 refine Xax ?_
 refine kL [3,5,8,17] [48,80,128] [_,_,_,_] [_,_,_] ?_
 refine kA h (fun v20 => ([(129, .sv (.bool v20))], [])) (fun v20 h => ?_) fun v20 h => ?_
 refine Xac ?_
 iterate 6 refine kO hT hC ?_
 refine kS h ?_ ?_ <;> intro b19 h
 iterate 2 refine kI hT hC b19 ?_
 refine kP hC true b19 ?_
 exact Vc.nil kM
 iterate 2 refine kF hC b19 ?_
 refine kP hC false b19 ?_
 exact Vc.nil kM
 refine kS h ?_ ?_ <;> intro b20 h
 refine kt b20 (Xag (Xae (Xax (Xap ?_))))
 refine Xgx hm ?_
 iterate 3 refine kO hT hC ?_
 refine kQ hT hC h fun h => ?_
 iterate 4 refine kO hT hC ?_
 refine kQ hT hC h fun h => ?_
 iterate 3 refine kO hT hC ?_
 refine kD ?_
 refine kL [3,5,8,17,18] [48,80,128] [_,_,_,_,_] [_,_,_] ?_
 refine kA h (fun v21 => ([(18, .sv (.int .i64 v21))], [])) (fun v21 h => ?_) fun v21 h => ?_
 refine Xad ?_
 iterate 2 refine kO hT hC ?_
 refine Vc.nil ?_
 refine kS h ?_ ?_ <;> intro b21 h
 refine kt b21 (Xac ?_)
 iterate 3 refine kO hT hC ?_
 exact Vc.nil kM
 exact kf b21 (Xag kM)
 refine Xad ?_
 iterate 4 refine kO hT hC ?_
 refine kC hC [] Try.call31 h (fun _ => Xne) fun q22 h => ?_
 refine kO hT hC ?_
 refine Vc.nil ?_
 refine kS h ?_ ?_ <;> intro b22 h
 refine kt b22 (Xad ?_)
 refine kO hT hC ?_
 refine Vc.nil (Xah (Xp3 (Xa5 ?_)))
 obtain rfl := kj h
 refine Ye1 (Yex ?_)
 exact Xel (Xjg.refl _) rfl trivial
 refine kf b22 (Xag (Xas (Xae (Xac ?_))))
 iterate 3 refine kO hT hC ?_
 exact Vc.nil kG
 exact kf b20 (Xar (Xa1 kb))
 intro v19 e
 subst e
 refine Xae (Xad ?_)
 refine kO hT hC ?_
 exact Vc.nil (Xah kR)
 intro r' σ' e hE
 subst e
 obtain rfl := kj h
 refine Xa5 ?_
 exact hE
end
end Go.Proofs.Ytlebkepfhdjnmac.A
