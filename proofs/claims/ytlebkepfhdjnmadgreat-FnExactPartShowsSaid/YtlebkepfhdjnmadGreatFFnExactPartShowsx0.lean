/- Contracts of the functions that the law FnExactPartShows reaches, part 0: each comes to what its pure function tells. Written by a program of this session. Conditions: as each statement tells. -/
import Derived.Test.YtlebkepfhdjnmadGreatBFnExactPartShows
namespace Go.Proofs.YtlebkepfhdjnmadGreat.A
open Go Go.Proofs Go.Proofs.YtlebkepfhdjnmadGreatAL Go.RowKit
set_option linter.unusedVariables false
set_option linter.unusedSimpArgs false
set_option maxRecDepth 100000
set_option maxHeartbeats 8000000
noncomputable section
def Xxn (r : Int) : AV := .sv (.int .i64 r)
def Xxm (r : Int) : Xa5 := []
theorem Yac {p0 p1 r} (h : Xke p0 p1 = some r) : AC Tryz.prog 7 [.agg [.sv (.int .i64 p0.Wide), .sv (.int .i64 p0.High), .sv (.str p0.Dots)], .sv (.int .i64 p1)] [] (Xxn r) (Xxm r) := by
 refine Xag hT Tryz.func7 rfl fun C hC => ?_
 unfold Xke at h
 refine Xac ?_
 iterate 2 refine kO hT hC ?_
 refine kN ?_
 iterate 6 refine kO hT hC ?_
 refine Vc.nil (Xas (Xac ?_))
 iterate 2 refine kO hT hC ?_
 refine Vc.nil ?_
 refine kS h ?_ ?_ <;> intro b1 h
 refine kt b1 (Xac ?_)
 refine kO hT hC ?_
 exact Vc.nil (Xah (Xat kR))
 refine kf b1 (Xaf (Xae (Xac ?_)))
 iterate 2 refine kO hT hC ?_
 exact Vc.nil (Xah kR)
def Xu4 (r : Int) : AV := .sv (.int .i64 r)
def Xu3 (r : Int) : Xa5 := []
theorem Xxl {p0 p1 r} (h : Xk7 p0 p1 = some r) : AC Tryz.prog 8 [.agg [.sv (.bool p0.Key), .sv (.int .i64 p0.Qp), .sv (.str p0.Row)], .sv (.int .i64 p1)] [] (Xu4 r) (Xu3 r) := by
 refine Xag hT Tryz.func8 rfl fun C hC => ?_
 unfold Xk7 at h
 refine Xac ?_
 iterate 2 refine kO hT hC ?_
 refine kN ?_
 iterate 6 refine kO hT hC ?_
 refine Vc.nil (Xas (Xac ?_))
 iterate 2 refine kO hT hC ?_
 refine Vc.nil ?_
 refine kS h ?_ ?_ <;> intro b1 h
 refine kt b1 (Xac ?_)
 refine kO hT hC ?_
 exact Vc.nil (Xah (Xat kR))
 refine kf b1 (Xaf (Xae (Xac ?_)))
 iterate 2 refine kO hT hC ?_
 exact Vc.nil (Xah kR)
def Xxr (r : Pic) : AV := .agg [.sv (.int .i64 r.Wide), .sv (.int .i64 r.High), .sv (.str r.Dots)]
def Xxq (r : Pic) : Xa5 := []
theorem Xpn {p0 r} (h : Xkg p0 = some r) : AC Tryz.prog 10 [.agg [.sv (.int .i64 p0.Wide), .sv (.int .i64 p0.High), .sv (.str p0.Dots)]] [] (Xxr r) (Xxq r) := by
 refine Xag hT Tryz.func10 rfl fun C hC => ?_
 unfold Xkg at h
 refine Xac ?_
 iterate 2 refine kO hT hC ?_
 refine kN ?_
 refine kO hT hC ?_
 refine kN ?_
 iterate 4 refine kO hT hC ?_
 refine kN ?_
 iterate 4 refine kO hT hC ?_
 refine kN ?_
 iterate 4 refine kO hT hC ?_
 refine kN ?_
 iterate 2 refine kO hT hC ?_
 exact Vc.nil (Xah kR)
def Xu8 (r : Rect) : AV := .agg [.sv (.int .i64 r.Left), .sv (.int .i64 r.Top), .sv (.int .i64 r.Wide), .sv (.int .i64 r.High)]
def Xu7 (r : Rect) : Xa5 := []
theorem Xnj {p0 r} (h : Xi9 p0 = some r) : AC Tryz.prog 11 [.agg [.sv (.int .i64 p0.Left), .sv (.int .i64 p0.Top), .sv (.int .i64 p0.Wide), .sv (.int .i64 p0.High)]] [] (Xu8 r) (Xu7 r) := by
 refine Xag hT Tryz.func11 rfl fun C hC => ?_
 unfold Xi9 at h
 refine Xac ?_
 iterate 2 refine kO hT hC ?_
 refine kN ?_
 refine kO hT hC ?_
 refine kN ?_
 iterate 4 refine kO hT hC ?_
 refine kN ?_
 iterate 4 refine kO hT hC ?_
 refine kN ?_
 iterate 4 refine kO hT hC ?_
 refine kN ?_
 iterate 4 refine kO hT hC ?_
 refine kN ?_
 iterate 2 refine kO hT hC ?_
 exact Vc.nil (Xah kR)
def Xxp (r : Par) : AV := .agg [.sv (.int .i64 r.Qp), .sv (.bool r.Large), .sv (.bool r.Exact), .sv (.bool r.Confined)]
def Xxo (r : Par) : Xa5 := []
theorem Xpm {p0 r} (h : Xkf p0 = some r) : AC Tryz.prog 12 [.agg [.sv (.int .i64 p0.Qp), .sv (.bool p0.Large), .sv (.bool p0.Exact), .sv (.bool p0.Confined)]] [] (Xxp r) (Xxo r) := by
 refine Xag hT Tryz.func12 rfl fun C hC => ?_
 unfold Xkf at h
 refine Xac ?_
 iterate 2 refine kO hT hC ?_
 refine kN ?_
 refine kO hT hC ?_
 refine kN ?_
 iterate 4 refine kO hT hC ?_
 refine kN ?_
 iterate 4 refine kO hT hC ?_
 refine kN ?_
 iterate 4 refine kO hT hC ?_
 refine kN ?_
 iterate 4 refine kO hT hC ?_
 refine kN ?_
 iterate 2 refine kO hT hC ?_
 exact Vc.nil (Xah kR)
def Xu6 (r : Part) : AV := .agg [.sv (.bool r.Key), .sv (.int .i64 r.Qp), .sv (.str r.Row)]
def Xu5 (r : Part) : Xa5 := []
theorem Xni {p0 r} (h : Xi8 p0 = some r) : AC Tryz.prog 13 [.agg [.sv (.bool p0.Key), .sv (.int .i64 p0.Qp), .sv (.str p0.Row)]] [] (Xu6 r) (Xu5 r) := by
 refine Xag hT Tryz.func13 rfl fun C hC => ?_
 unfold Xi8 at h
 refine Xac ?_
 iterate 2 refine kO hT hC ?_
 refine kN ?_
 refine kO hT hC ?_
 refine kN ?_
 iterate 4 refine kO hT hC ?_
 refine kN ?_
 iterate 4 refine kO hT hC ?_
 refine kN ?_
 iterate 4 refine kO hT hC ?_
 refine kN ?_
 iterate 2 refine kO hT hC ?_
 exact Vc.nil (Xah kR)
def Xye (r : Bool) : AV := .sv (.bool r)
def Xyd (r : Bool) : Xa5 := []
theorem Xal {p0 p1 p2 r} (h : Xar p0 p1 p2 = some r) : AC Tryz.prog 53 [.sv (.int .i64 p0), .sv (.int .i64 p1), .sv (.int .i64 p2)] [] (Xye r) (Xyd r) := by
 refine Xag hT Tryz.func53 rfl fun C hC => ?_
 unfold Xar at h
 refine Xac ?_
 refine kO hT hC ?_
 refine Vc.nil ?_
 refine kL [0,1,2,6] [] [_,_,_,_] [] ?_
 refine kA h (fun v1 => ([(6, .sv (.bool v1)), (0, .any), (1, .any), (2, .any)], [])) (fun v1 h => ?_) fun v1 h => ?_
 refine Xab ?_
 iterate 4 refine kO hT hC ?_
 refine kS h ?_ ?_ <;> intro b1 h
 iterate 3 refine kI hT hC b1 ?_
 refine kP hC true b1 ?_
 refine kO hT hC ?_
 exact Vc.nil kM
 iterate 3 refine kF hC b1 ?_
 refine kP hC false b1 ?_
 refine kO hT hC ?_
 exact Vc.nil kM
 exact Xah kR
def Xth (r : Bool) : AV := .sv (.bool r)
def Xtg (r : Bool) : Xa5 := []
theorem Xg8 {p0 r} (h : Xd4 p0 = some r) : AC Tryz.prog 40 [.sv (.int .i64 p0)] [] (Xth r) (Xtg r) := by
 refine Xag hT Tryz.func40 rfl fun C hC => ?_
 unfold Xd4 at h
 refine Xac ?_
 refine kO hT hC ?_
 refine Vc.nil ?_
 refine kL [0,2] [] [_,_] [] ?_
 refine kA h (fun v1 => ([(2, .sv (.bool v1)), (0, .any)], [])) (fun v1 h => ?_) fun v1 h => ?_
 refine Xab ?_
 refine kO hT hC ?_
 refine kQ hT hC h fun h => ?_
 iterate 2 refine kO hT hC ?_
 refine kS h ?_ ?_ <;> intro b1 h
 refine kI hT hC b1 ?_
 refine kE hC b1 [] Tryz.call53 h (fun _ => Xal) fun q2 h => ?_
 refine kP hC true b1 ?_
 refine kO hT hC ?_
 exact Vc.nil kM
 iterate 2 refine kF hC b1 ?_
 refine kP hC false b1 ?_
 refine kO hT hC ?_
 exact Vc.nil kM
 exact Xah kR
def Xso (r : Xf8) : AV := .agg [.sv (.bool r.Key), .sv (.int .i64 r.Qp), .sv (.bool r.Large), .sv (.bool r.Exact)]
def Xsn (r : Xf8) : Xa5 := []
theorem Xmf {p0 p1 r} (h : Xh9 p0 p1 = some r) : AC Tryz.prog 42 [.agg [.sv (.int .i64 p0.Qp), .sv (.bool p0.Large), .sv (.bool p0.Exact), .sv (.bool p0.Confined)], .agg [.sv (.bool p1.Key), .sv (.int .i64 p1.Qp), .sv (.str p1.Row)]] [] (Xso r) (Xsn r) := by
 refine Xag hT Tryz.func42 rfl fun C hC => ?_
 unfold Xh9 at h
 refine Xac ?_
 iterate 3 refine kO hT hC ?_
 refine kN ?_
 iterate 10 refine kO hT hC ?_
 exact Vc.nil (Xah kR)
def Xmi (r : Bool) : AV := .sv (.bool r)
def Xmh (r : Bool) : Xa5 := []
theorem Xyf {p0 r} (h : Xld p0 = some r) : AC Tryz.prog 135 [.sv (.str p0)] [] (Xmi r) (Xmh r) := by
 refine Xag hT Tryz.func135 rfl fun C hC => ?_
 unfold Xld at h
 refine Xac ?_
 refine kO hT hC ?_
 refine Vc.nil (Xas (Xac ?_))
 refine kO hT hC ?_
 refine Vc.nil ?_
 refine kL [0,3] [] [_,_] [] ?_
 obtain ⟨o8, hl, h⟩ := Xbd h
 refine Xf5 (fun v3 => ([(3, .sv (.int .i64 v3))], [])) (fun v6 => ([(0, .any), (3, .any)], [])) (fun r => Xl1 C T Tryz.f135.results.toList (Xmi r) (Xmh r)) hl ?_ ?_ ?_ ?_
 apply Xcv hC []
 exact co
 rfl
 decide
 rfl
 intro v3 s hs
 have h := hs
 unfold Xeh at h
 refine Xas (Xac ?_)
 iterate 4 refine kO hT hC ?_
 refine Vc.nil ?_
 refine kS h ?_ ?_ <;> intro b7 h
 refine kt b7 (Xaf (Xae (Xas (Xam ?_))))
 refine kL [0,3] [] [_,_] [] ?_
 refine kA h (fun v7 => ([(19, .sv (.bool v7))], [])) (fun v7 h => ?_) fun v7 h => ?_
 refine Xab ?_
 iterate 2 refine kO hT hC ?_
 refine kQ hT hC h fun h => ?_
 iterate 2 refine kO hT hC ?_
 refine kS h ?_ ?_ <;> intro b8 h
 iterate 2 refine kI hT hC b8 ?_
 refine kJ hT hC b8 h fun h => ?_
 refine kI hT hC b8 ?_
 refine kP hC true b8 ?_
 exact Vc.nil kM
 iterate 4 refine kF hC b8 ?_
 refine kP hC false b8 ?_
 exact Vc.nil kM
 refine kS h ?_ ?_ <;> intro b9 h
 refine kt b9 (Xac ?_)
 refine kO hT hC ?_
 refine Vc.nil (Xah (Xgj (Xat ?_)))
 obtain rfl := kj h
 refine Xna (Xm9 ?_)
 exact Xcw (Xif.refl _) rfl trivial
 refine kf b9 (Xaf (Xap (Xae (Xab ?_))))
 iterate 3 refine kO hT hC ?_
 exact Vc.nil kG
 exact kf b7 (Xaq (Xaw kb))
 intro v6 e
 subst e
 refine Xae (Xac ?_)
 refine kO hT hC ?_
 exact Vc.nil (Xah kR)
 intro r' σ' e hE
 subst e
 obtain rfl := kj h
 refine Xat ?_
 exact hE
def Xx8 (r : Bool) : AV := .sv (.bool r)
def Xx7 (r : Bool) : Xa5 := []
theorem Ya5 {p0 r} (h : Xi1 p0 = some r) : AC Tryz.prog 83 [.sv (.str p0)] [] (Xx8 r) (Xx7 r) := by
 refine Xag hT Tryz.func83 rfl fun C hC => ?_
 unfold Xi1 at h
 refine Xac ?_
 refine kO hT hC ?_
 refine Vc.nil ?_
 refine kL [0,2] [] [_,_] [] ?_
 refine kA h (fun v1 => ([(2, .sv (.bool v1)), (0, .any)], [])) (fun v1 h => ?_) fun v1 h => ?_
 refine Xab ?_
 iterate 4 refine kO hT hC ?_
 refine kS h ?_ ?_ <;> intro b1 h
 refine kI hT hC b1 ?_
 refine kE hC b1 [] Tryz.call135 h (fun _ => Xyf) fun q2 h => ?_
 refine kP hC true b1 ?_
 refine kO hT hC ?_
 exact Vc.nil kM
 iterate 2 refine kF hC b1 ?_
 refine kP hC false b1 ?_
 refine kO hT hC ?_
 exact Vc.nil kM
 exact Xah kR
def Xvu (r : Bool) : AV := .sv (.bool r)
def Xvt (r : Bool) : Xa5 := []
theorem Xhy {p0 r} (h : Xex p0 = some r) : AC Tryz.prog 52 [.agg [.sv (.bool p0.Key), .sv (.int .i64 p0.Qp), .sv (.bool p0.Large), .sv (.bool p0.Exact)]] [] (Xvu r) (Xvt r) := by
 refine Xag hT Tryz.func52 rfl fun C hC => ?_
 unfold Xex at h
 refine Xac ?_
 iterate 2 refine kO hT hC ?_
 refine Vc.nil ?_
 refine kL [1,2] [16] [_,_] [_] ?_
 refine kA h (fun v1 => ([(2, .sv (.bool v1)), (1, .any)], [(16, none)])) (fun v1 h => ?_) fun v1 h => ?_
 refine Xab ?_
 iterate 2 refine kO hT hC ?_
 refine kC hC [] Tryz.call53 h (fun _ => Xal) fun q2 h => ?_
 refine kO hT hC ?_
 refine kS h ?_ ?_ <;> intro b1 h
 iterate 3 refine kI hT hC b1 ?_
 refine kS h ?_ ?_ <;> intro b2 h
 iterate 2 refine kI hT hC b2 ?_
 refine Xdd hC rfl rfl rfl rfl b1 rfl rfl (b := true) b2 rfl rfl rfl trivial ?_
 refine kI hT hC b1 ?_
 refine kP hC true b1 ?_
 refine kO hT hC ?_
 exact Vc.nil kM
 iterate 2 refine kF hC b2 ?_
 refine Xdd hC rfl rfl rfl rfl b1 rfl rfl (b := false) b2 rfl rfl rfl trivial ?_
 refine kI hT hC b1 ?_
 refine kP hC true b1 ?_
 refine kO hT hC ?_
 exact Vc.nil kM
 iterate 3 refine kF hC b1 ?_
 iterate 2 refine Xkt hC rfl rfl rfl rfl rfl rfl ?_
 iterate 2 refine kF hC b1 ?_
 refine kP hC false b1 ?_
 refine kO hT hC ?_
 exact Vc.nil kM
 exact Xah kR
def Xs2 (r : (Int × Int × Bool)) : AV := .tup [.sv (.int .i64 r.1), .sv (.int .i64 r.2.1), .sv (.bool r.2.2)]
def Xs1 (r : (Int × Int × Bool)) : Xa5 := []
theorem Xwh {p0 p1 p2 r} (h : Xic p0 p1 p2 = some r) : AC Tryz.prog 190 [.sv (.str p0), .sv (.int .i64 p1), .sv (.int .i64 p2)] [] (Xs2 r) (Xs1 r) := by
 refine Xag hT Tryz.func190 rfl fun C hC => ?_
 unfold Xic at h
 refine Xac ?_
 iterate 3 refine kO hT hC ?_
 refine Vc.nil (Xas (Xac ?_))
 iterate 6 refine kO hT hC ?_
 refine Vc.nil ?_
 refine kS h ?_ ?_ <;> intro b1 h
 refine kt b1 (Xac ?_)
 iterate 3 refine kO hT hC ?_
 exact Vc.nil (Xah (Xat kR))
 refine kf b1 (Xaf (Xae (Xac ?_)))
 refine kO hT hC ?_
 refine Vc.nil (Xas (Xac ?_))
 iterate 2 refine kO hT hC ?_
 refine Vc.nil ?_
 refine kL [0,1,2,9,10] [] [_,_,_,_,_] [] ?_
 refine kX h (fun v2 => ([(9, .sv (.int .i64 v2.1)), (10, .sv (.int .i64 v2.2))], [])) (fun v4 => ([(9, .sv (.int .i64 v4)), (0, .any), (10, .any)], [])) (kW hC []) (fun v2 s h => ?_) fun v4 h => ?_
 unfold Xe4 at h
 refine Xas (Xac ?_)
 iterate 5 refine kO hT hC ?_
 refine Vc.nil ?_
 refine kS h ?_ ?_ <;> intro b4 h
 refine kt b4 (Xaf (Xae (Xas (Xam (Xab ?_)))))
 iterate 4 refine kO hT hC ?_
 refine kQ hT hC h fun h => ?_
 iterate 4 refine kO hT hC ?_
 refine Vc.nil (Xap (Xae (Xab ?_)))
 iterate 3 refine kO hT hC ?_
 exact Vc.nil kG
 exact kf b4 (Xaq (Xaw ku))
 refine Xae (Xac ?_)
 iterate 7 refine kO hT hC ?_
 exact Vc.nil (Xah kR)
def Xp9 (r : (Int × Int × Bool)) : AV := .tup [.sv (.int .i64 r.1), .sv (.int .i64 r.2.1), .sv (.bool r.2.2)]
def Xp8 (r : (Int × Int × Bool)) : Xa5 := []
theorem Xdw {p0 p1 r} (h : Xbg p0 p1 = some r) : AC Tryz.prog 136 [.sv (.str p0), .sv (.int .i64 p1)] [] (Xp9 r) (Xp8 r) := by
 refine Xag hT Tryz.func136 rfl fun C hC => ?_
 unfold Xbg at h
 refine Xac ?_
 iterate 3 refine kO hT hC ?_
 refine kN ?_
 refine kO hT hC ?_
 refine Vc.nil (Xas ?_)
 refine kL [0,1,7] [] [_,_,_] [] ?_
 refine kX h (fun v3 => ([(7, .sv (.int .i64 v3))], [])) (fun v6 => ([(7, .sv (.int .i64 v6))], [])) (kW hC []) (fun v3 s h => ?_) fun v6 h => ?_
 unfold Xcy at h
 refine Xas ?_
 refine kL [0,1,7] [] [_,_,_] [] ?_
 refine kA h (fun v7 => ([(28, .sv (.bool v7))], [])) (fun v7 h => ?_) fun v7 h => ?_
 refine Xab ?_
 iterate 7 refine kO hT hC ?_
 refine kS h ?_ ?_ <;> intro b7 h
 iterate 4 refine kI hT hC b7 ?_
 refine kJ hT hC b7 h fun h => ?_
 refine kI hT hC b7 ?_
 refine kP hC true b7 ?_
 refine kO hT hC ?_
 refine kS h ?_ ?_ <;> intro b8 h
 iterate 2 refine kI hT hC b8 ?_
 refine kP hC true b8 ?_
 exact Vc.nil kM
 iterate 2 refine kF hC b8 ?_
 refine kP hC false b8 ?_
 exact Vc.nil kM
 iterate 6 refine kF hC b7 ?_
 refine kP hC false b7 ?_
 refine kO hT hC ?_
 iterate 2 refine kF hC rfl ?_
 refine kO hT hC ?_
 exact Vc.nil kM
 refine kS h ?_ ?_ <;> intro b9 h
 refine kt b9 (Xaf (Xae (Xam (Xab ?_))))
 iterate 3 refine kO hT hC ?_
 exact Vc.nil (Xap kG)
 exact kf b9 (Xaq (Xaw ku))
 refine Xae (Xac ?_)
 iterate 6 refine kO hT hC ?_
 refine kC hC [] Tryz.call190 h (fun _ => Xwh) fun q9 h => ?_
 iterate 7 refine kO hT hC ?_
 refine Vc.nil (Xas ?_)
 refine kL [7,8,9,10] [] [_,_,_,_] [] ?_
 refine kA h (fun v10 => ([(55, .sv (.bool v10)), (7, .any), (10, .any)], [])) (fun v10 h => ?_) fun v10 h => ?_
 refine Xab ?_
 iterate 3 refine kO hT hC ?_
 refine kS h ?_ ?_ <;> intro b10 h
 iterate 3 refine kI hT hC (kn b10) ?_
 refine kJ hT hC (kn b10) h fun h => ?_
 refine kI hT hC (kn b10) ?_
 refine kP hC false (kn b10) ?_
 refine kO hT hC ?_
 refine kS h ?_ ?_ <;> intro b11 h
 iterate 3 refine kF hC b11 ?_
 refine kP hC true b11 ?_
 exact Vc.nil kM
 iterate 3 refine kI hT hC b11 ?_
 refine kP hC false b11 ?_
 exact Vc.nil kM
 iterate 5 refine kF hC (kn b10) ?_
 refine kP hC true (kn b10) ?_
 refine kO hT hC ?_
 iterate 3 refine kF hC rfl ?_
 refine kO hT hC ?_
 exact Vc.nil kM
 refine kS h ?_ ?_ <;> intro b12 h
 refine kt b12 (Xac ?_)
 iterate 3 refine kO hT hC ?_
 exact Vc.nil (Xah (Xat kR))
 refine kf b12 (Xaf (Xae (Xac ?_)))
 iterate 6 refine kO hT hC ?_
 exact Vc.nil (Xah kR)
def Xv5 (r : (Int × Bool)) : AV := .tup [.sv (.int .i64 r.1), .sv (.bool r.2)]
def Xv4 (r : (Int × Bool)) : Xa5 := []
theorem Xx1 {p0 r} (h : Xjc p0 = some r) : AC Tryz.prog 191 [.sv (.int .i64 p0)] [] (Xv5 r) (Xv4 r) := by
 refine Xag hT Tryz.func191 rfl fun C hC => ?_
 unfold Xjc at h
 refine Xac ?_
 iterate 2 refine kO hT hC ?_
 refine Vc.nil (Xas (Xac ?_))
 refine kO hT hC ?_
 refine kC hC [] Tryz.call53 h (fun _ => Xal) fun q1 h => ?_
 refine kO hT hC ?_
 refine Vc.nil ?_
 refine kS h ?_ ?_ <;> intro b1 h
 refine kt b1 (Xac ?_)
 iterate 2 refine kO hT hC ?_
 exact Vc.nil (Xah (Xat kR))
 refine kf b1 (Xaf (Xae (Xas (Xac ?_))))
 refine kO hT hC ?_
 refine kQ hT hC h fun h => ?_
 refine kO hT hC ?_
 refine Vc.nil ?_
 refine kS h ?_ ?_ <;> intro b2 h
 refine kt b2 (Xac ?_)
 iterate 2 refine kO hT hC ?_
 refine kQ hT hC h fun h => ?_
 iterate 2 refine kO hT hC ?_
 exact Vc.nil (Xah (Xat kR))
 refine kf b2 (Xaf (Xae (Xac ?_)))
 refine kO hT hC ?_
 refine kQ hT hC h fun h => ?_
 iterate 3 refine kO hT hC ?_
 exact Vc.nil (Xah kR)
def Xp7 (r : (Int × Int × Bool)) : AV := .tup [.sv (.int .i64 r.1), .sv (.int .i64 r.2.1), .sv (.bool r.2.2)]
def Xp6 (r : (Int × Int × Bool)) : Xa5 := []
theorem Xho {p0 p1 r} (h : Xbi p0 p1 = some r) : AC Tryz.prog 137 [.sv (.str p0), .sv (.int .i64 p1)] [] (Xp7 r) (Xp6 r) := by
 refine Xag hT Tryz.func137 rfl fun C hC => ?_
 unfold Xbi at h
 refine Xac ?_
 iterate 3 refine kO hT hC ?_
 refine kN ?_
 iterate 2 refine kO hT hC ?_
 refine kC hC [] Tryz.call136 h (fun _ => Xdw) fun q1 h => ?_
 iterate 7 refine kO hT hC ?_
 refine Vc.nil (Xas (Xac ?_))
 iterate 2 refine kO hT hC ?_
 refine Vc.nil ?_
 refine kS h ?_ ?_ <;> intro b1 h
 refine kt b1 (Xac ?_)
 iterate 3 refine kO hT hC ?_
 exact Vc.nil (Xah (Xat kR))
 refine kf b1 (Xaf (Xae (Xac ?_)))
 refine kO hT hC ?_
 refine kC hC [] Tryz.call191 h (fun _ => Xx1) fun q2 h => ?_
 iterate 5 refine kO hT hC ?_
 refine kN ?_
 iterate 5 refine kO hT hC ?_
 exact Vc.nil (Xah kR)
def Xlr (r : ((List Int) × Int × Bool)) : AV := .tup [.own 16, .sv (.int .i64 r.2.1), .sv (.bool r.2.2)]
def Xlq (r : ((List Int) × Int × Bool)) : Xa5 := [(16, .ints .i64 r.1)]
theorem Xmo {p0 p1 p2 r} (h : Xe6 p0 p1 p2 = some r) : AC Tryz.prog 192 [.sv (.str p0), .sv (.int .i64 p1), .sv (.int .i64 p2)] [] (Xlr r) (Xlq r) := by
 refine Xag hT Tryz.func192 rfl fun C hC => ?_
 unfold Xe6 at h
 refine Xac ?_
 iterate 3 refine kO hT hC ?_
 refine kN ?_
 refine kO hT hC ?_
 obtain ⟨hq, h⟩ := Xay h
 refine Ybg hT hC rfl rfl rfl rfl ⟨hq.1, hq.2.1, hq.2.2, by decide⟩ ?_
 refine kO hT hC ?_
 refine kN ?_
 iterate 2 refine kO hT hC ?_
 refine kC hC [] Tryz.call136 h (fun _ => Xdw) fun q1 h => ?_
 iterate 7 refine kO hT hC ?_
 refine Vc.nil (Xas ?_)
 refine kL [0,2,9,10,11,12] [352] [_,_,_,_,_,_] [_] ?_
 refine kA h (fun v2 => ([(36, .sv (.bool v2)), (12, .any)], [])) (fun v2 h => ?_) fun v2 h => ?_
 refine Xab ?_
 iterate 3 refine kO hT hC ?_
 refine kS h ?_ ?_ <;> intro b1 h
 iterate 3 refine kI hT hC (kn b1) ?_
 refine kP hC false (kn b1) ?_
 exact Vc.nil kM
 iterate 3 refine kF hC (kn b1) ?_
 refine kP hC true (kn b1) ?_
 exact Vc.nil kM
 refine kS h ?_ ?_ <;> intro b2 h
 refine kt b2 (Xac ?_)
 iterate 4 refine kO hT hC ?_
 refine Vc.nil (Xah (Xat ?_))
 obtain rfl := kj h
 exact Xcw (τ := ⟨[(6, .own 16), (7, .sv (.int .i64 0)), (8, .sv (.bool false))], [(16, some (.ints .i64 ([] : List Int)))]⟩) (kW hC [(16, 592)]) rfl ⟨rfl, trivial⟩
 refine kf b2 (Xaf (Xae (Xac ?_)))
 refine kO hT hC ?_
 refine Vc.nil (Xas (Xac ?_))
 refine kO hT hC ?_
 refine Vc.nil ?_
 refine kL [0,2,9,10,11,13,14] [352] [_,_,_,_,_,_,_] [_] ?_
 obtain ⟨o22, hl, h⟩ := Xbd h
 refine Xf5 (fun v9 => ([(11, .sv (.int .i64 v9.1)), (13, .sv (.int .i64 v9.2.1)), (14, .sv (.int .i64 v9.2.2.1))], [(352, some (.ints .i64 v9.2.2.2))])) (fun v16 => ([(11, .sv (.int .i64 v16.1)), (0, .any), (2, .any), (10, .any), (13, .any), (14, .any)], [(352, some (.ints .i64 v16.2))])) (fun r => Xl1 C T Tryz.f192.results.toList (Xlr r) (Xlq r)) hl ?_ ?_ ?_ ?_
 try dsimp only
 apply Xcv hC []
 exact co
 rfl
 decide
 rfl
 intro v9 s hs
 have h := hs
 unfold Xbj at h
 refine Xas (Xac ?_)
 iterate 3 refine kO hT hC ?_
 refine Vc.nil ?_
 refine kS h ?_ ?_ <;> intro b15 h
 refine kt b15 (Xaf (Xae (Xas (Xam (Xac ?_)))))
 iterate 2 refine kO hT hC ?_
 refine kC hC [] Tryz.call136 h (fun _ => Xdw) fun q17 h => ?_
 iterate 7 refine kO hT hC ?_
 refine Vc.nil (Xas ?_)
 refine kL [0,2,9,10,13,14,15,16,17] [352] [_,_,_,_,_,_,_,_,_] [_] ?_
 refine kA h (fun v18 => ([(59, .sv (.bool v18)), (17, .any)], [])) (fun v18 h => ?_) fun v18 h => ?_
 refine Xab ?_
 iterate 3 refine kO hT hC ?_
 refine kS h ?_ ?_ <;> intro b16 h
 iterate 6 refine kI hT hC (kn b16) ?_
 refine kP hC false (kn b16) ?_
 exact Vc.nil kM
 iterate 6 refine kF hC (kn b16) ?_
 refine kP hC true (kn b16) ?_
 exact Vc.nil kM
 refine kS h ?_ ?_ <;> intro b17 h
 refine kt b17 (Xac ?_)
 iterate 4 refine kO hT hC ?_
 refine Vc.nil (Xah (Xat (Xgj (Xat ?_))))
 obtain rfl := kj h
 refine Xna (Xm9 ?_)
 refine Xcw (τ := ⟨[(6, .own 16), (7, .sv (.int .i64 0)), (8, .sv (.bool false))], [(16, some (.ints .i64 ([] : List Int)))]⟩) ?_ rfl ⟨rfl, trivial⟩
 apply Xcv hC [(16, 960)]
 exact co
 rfl
 decide
 rfl
 refine kf b17 (Xaf (Xae (Xac ?_)))
 iterate 2 refine kO hT hC ?_
 refine kC hC [] Tryz.call137 h (fun _ => Xho) fun q19 h => ?_
 iterate 7 refine kO hT hC ?_
 refine Vc.nil (Xas ?_)
 refine kL [0,2,9,10,13,14,15,18,19,20] [352] [_,_,_,_,_,_,_,_,_,_] [_] ?_
 refine kA h (fun v20 => ([(78, .sv (.bool v20)), (20, .any)], [])) (fun v20 h => ?_) fun v20 h => ?_
 refine Xab ?_
 iterate 3 refine kO hT hC ?_
 refine kS h ?_ ?_ <;> intro b18 h
 iterate 2 refine kI hT hC (kn b18) ?_
 refine kP hC false (kn b18) ?_
 refine kO hT hC ?_
 refine kS h ?_ ?_ <;> intro b19 h
 iterate 3 refine kF hC b19 ?_
 refine kP hC true b19 ?_
 exact Vc.nil kM
 refine kI hT hC b19 ?_
 refine kE hC b19 [] Tryz.call53 h (fun _ => Xal) fun q21 h => ?_
 refine kI hT hC b19 ?_
 refine kP hC false b19 ?_
 exact Vc.nil kM
 iterate 2 refine kF hC (kn b18) ?_
 refine kP hC true (kn b18) ?_
 refine kO hT hC ?_
 iterate 3 refine kF hC rfl ?_
 refine kO hT hC ?_
 exact Vc.nil kM
 refine kS h ?_ ?_ <;> intro b20 h
 refine kt b20 (Xac ?_)
 iterate 4 refine kO hT hC ?_
 refine Vc.nil (Xah (Xat (Xgj (Xat ?_))))
 obtain rfl := kj h
 refine Xna (Xm9 ?_)
 refine Xcw (τ := ⟨[(6, .own 16), (7, .sv (.int .i64 0)), (8, .sv (.bool false))], [(16, some (.ints .i64 ([] : List Int)))]⟩) ?_ rfl ⟨rfl, trivial⟩
 apply Xcv hC [(16, 1264)]
 exact co
 rfl
 decide
 rfl
 refine kf b20 (Xaf (Xae (Xac ?_)))
 iterate 4 refine kO hT hC ?_
 refine kN ?_
 iterate 3 refine kO hT hC ?_
 iterate 2 refine kQ hT hC h fun h => ?_
 refine kN ?_
 iterate 3 refine kO hT hC ?_
 refine Vc.nil (Xab ?_)
 iterate 2 refine kO hT hC ?_
 refine Vc.nil (Xap (Xae (Xab ?_)))
 iterate 3 refine kO hT hC ?_
 exact Vc.nil kG
 exact kf b15 (Xaq (Xaw kb))
 intro v16 e
 subst e
 refine Xae (Xac ?_)
 iterate 5 refine kO hT hC ?_
 refine Vc.nil (Xah ?_)
 obtain rfl := kj h
 exact Xcw (τ := ⟨[(6, .own 16), (7, .sv (.int .i64 v16.1)), (8, .sv (.bool true))], [(16, some (.ints .i64 v16.2))]⟩) (kW hC [(16, 352)]) rfl ⟨rfl, trivial⟩
 intro r' σ' e hE
 subst e
 obtain rfl := kj h
 refine Xat ?_
 exact hE
def Xlz (r : ((List Int) × Int × Bool)) : AV := .tup [.own 16, .sv (.int .i64 r.2.1), .sv (.bool r.2.2)]
def Xly (r : ((List Int) × Int × Bool)) : Xa5 := [(16, .ints .i64 r.1)]
theorem Xwq {p0 p1 p2 r} (h : Xd3 p0 p1 p2 = some r) : AC Tryz.prog 138 [.sv (.str p0), .sv (.int .i64 p1), .agg [.sv (.bool p2.Key), .sv (.int .i64 p2.Qp), .sv (.bool p2.Large), .sv (.bool p2.Exact)]] [] (Xlz r) (Xly r) := by
 refine Xag hT Tryz.func138 rfl fun C hC => ?_
 unfold Xd3 at h
 refine Xac ?_
 iterate 4 refine kO hT hC ?_
 refine Vc.nil (Xas ?_)
 refine kL [0,1,5] [80] [_,_,_] [_] ?_
 refine kA h (fun v1 => ([(19, .sv (.bool v1)), (5, .any)], [(80, none)])) (fun v1 h => ?_) fun v1 h => ?_
 refine Xab ?_
 iterate 3 refine kO hT hC ?_
 refine kS h ?_ ?_ <;> intro b1 h
 iterate 2 refine kF hC b1 ?_
 refine kP hC true b1 ?_
 exact Vc.nil kM
 iterate 2 refine kI hT hC b1 ?_
 refine kP hC false b1 ?_
 exact Vc.nil kM
 refine kS h ?_ ?_ <;> intro b2 h
 refine kt b2 (Xac ?_)
 iterate 2 refine kO hT hC ?_
 refine kC hC [(16, 352)] Tryz.call192 h (fun _ => Xmo) fun q2 h => ?_
 iterate 6 refine kO hT hC ?_
 refine Vc.nil (Xah (Xat ?_))
 obtain rfl := kj h
 exact Xcw (τ := ⟨[(6, .own 16), (7, .sv (.int .i64 q2.2.1)), (8, .sv (.bool q2.2.2))], [(16, some (.ints .i64 q2.1))]⟩) (kW hC [(16, 352)]) rfl ⟨rfl, trivial⟩
 refine kf b2 (Xaf (Xae (Xac ?_)))
 iterate 2 refine kO hT hC ?_
 refine Vc.nil (Xas (Xac ?_))
 refine kO hT hC ?_
 refine Vc.nil ?_
 refine kL [0,1,9,10] [416] [_,_,_,_] [_] ?_
 obtain ⟨o10, hl, h⟩ := Xbd h
 refine Xf5 (fun v5 => ([(1, .sv (.int .i64 v5.1)), (10, .sv (.int .i64 v5.2.1))], [(416, some (.ints .i64 v5.2.2))])) (fun v8 => ([(1, .sv (.int .i64 v8.1)), (0, .any), (10, .any)], [(416, some (.ints .i64 v8.2))])) (fun r => Xl1 C T Tryz.f138.results.toList (Xlz r) (Xly r)) hl ?_ ?_ ?_ ?_
 try dsimp only
 apply Xcv hC []
 exact co
 rfl
 decide
 rfl
 intro v5 s hs
 have h := hs
 unfold Xch at h
 refine Xas (Xac ?_)
 iterate 2 refine kO hT hC ?_
 refine Vc.nil ?_
 refine kS h ?_ ?_ <;> intro b7 h
 refine kt b7 (Xaf (Xae (Xas (Xam (Xac ?_)))))
 iterate 2 refine kO hT hC ?_
 refine kC hC [(16, 544)] Tryz.call192 h (fun _ => Xmo) fun q9 h => ?_
 iterate 7 refine kO hT hC ?_
 refine Vc.nil (Xas (Xac ?_))
 iterate 2 refine kO hT hC ?_
 refine Vc.nil ?_
 refine kS h ?_ ?_ <;> intro b8 h
 refine kt b8 (Xac ?_)
 iterate 4 refine kO hT hC ?_
 refine Vc.nil (Xah (Xat (Xgj (Xat ?_))))
 obtain rfl := kj h
 refine Xna (Xm9 ?_)
 refine Xcw (τ := ⟨[(6, .own 16), (7, .sv (.int .i64 0)), (8, .sv (.bool false))], [(16, some (.ints .i64 ([] : List Int)))]⟩) ?_ rfl ⟨rfl, trivial⟩
 apply Xcv hC [(16, 640)]
 exact co
 rfl
 decide
 rfl
 refine kf b8 (Xaf (Xae (Xac ?_)))
 iterate 2 refine kO hT hC ?_
 refine kT hT hC h fun h => ?_
 refine kO hT hC ?_
 refine Vc.nil (Xab ?_)
 iterate 2 refine kO hT hC ?_
 refine Vc.nil (Xap (Xae (Xab ?_)))
 iterate 3 refine kO hT hC ?_
 refine Vc.nil ?_
 obtain rfl := kj h
 exact Ycs (kW hC [(416, 688)])
 exact kf b7 (Xaq (Xaw kb))
 intro v8 e
 subst e
 refine Xae (Xac ?_)
 iterate 5 refine kO hT hC ?_
 refine Vc.nil (Xah ?_)
 obtain rfl := kj h
 exact Xcw (τ := ⟨[(6, .own 16), (7, .sv (.int .i64 v8.1)), (8, .sv (.bool true))], [(16, some (.ints .i64 v8.2))]⟩) (kW hC [(16, 416)]) rfl ⟨rfl, trivial⟩
 intro r' σ' e hE
 subst e
 obtain rfl := kj h
 refine Xat ?_
 exact hE
def Xmk (r : Bool) : AV := .sv (.bool r)
def Xmj (r : Bool) : Xa5 := []
theorem Xei {p0 p1 p2 r} (h : Xck p0 p1 p2 = some r) : AC Tryz.prog 150 [.sv (.ints .i64 p0), .sv (.int .i64 p1), .sv (.int .i64 p2)] [] (Xmk r) (Xmj r) := by
 refine Xag hT Tryz.func150 rfl fun C hC => ?_
 unfold Xck at h
 refine Xac ?_
 refine kO hT hC ?_
 refine Vc.nil (Xas (Xac ?_))
 iterate 4 refine kO hT hC ?_
 refine Vc.nil ?_
 refine kS h ?_ ?_ <;> intro b1 h
 refine kt b1 (Xac ?_)
 refine kO hT hC ?_
 exact Vc.nil (Xah (Xat kR))
 refine kf b1 (Xaf (Xae (Xas (Xac ?_))))
 refine kO hT hC ?_
 refine Vc.nil ?_
 refine kL [0,1,2,7] [] [_,_,_,_] [] ?_
 obtain ⟨o8, hl, h⟩ := Xbd h
 refine Xf5 (fun v3 => ([(7, .sv (.int .i64 v3))], [])) (fun v6 => ([(0, .any), (1, .any), (2, .any), (7, .any)], [])) (fun r => Xl1 C T Tryz.f150.results.toList (Xmk r) (Xmj r)) hl ?_ ?_ ?_ ?_
 apply Xcv hC []
 exact co
 rfl
 decide
 rfl
 intro v3 s hs
 have h := hs
 unfold Xct at h
 refine Xas (Xac ?_)
 iterate 3 refine kO hT hC ?_
 refine Vc.nil ?_
 refine kS h ?_ ?_ <;> intro b6 h
 refine kt b6 (Xaf (Xae (Xas (Xam (Xac ?_)))))
 iterate 2 refine kO hT hC ?_
 refine kQ hT hC h fun h => ?_
 iterate 4 refine kO hT hC ?_
 refine kC hC [] Tryz.call53 h (fun _ => Xal) fun q7 h => ?_
 refine kO hT hC ?_
 refine Vc.nil ?_
 refine kS h ?_ ?_ <;> intro b7 h
 refine kt b7 (Xac ?_)
 refine kO hT hC ?_
 refine Vc.nil (Xah (Xgj (Xat ?_)))
 obtain rfl := kj h
 refine Xna (Xm9 ?_)
 exact Xcw (Xif.refl _) rfl trivial
 refine kf b7 (Xaf (Xap (Xae (Xab ?_))))
 iterate 3 refine kO hT hC ?_
 exact Vc.nil kG
 exact kf b6 (Xaq (Xaw kb))
 intro v6 e
 subst e
 refine Xae (Xac ?_)
 refine kO hT hC ?_
 exact Vc.nil (Xah kR)
 intro r' σ' e hE
 subst e
 obtain rfl := kj h
 refine Xat ?_
 exact hE
def Xrd (r : Bool) : AV := .sv (.bool r)
def Xrc (r : Bool) : Xa5 := []
theorem Xij {p0 r} (h : Xcq p0 = some r) : AC Tryz.prog 105 [.agg [.sv (.int .i64 p0.Kind), .sv (.int .i64 p0.Mode), .sv (.int .i64 p0.Dx), .sv (.int .i64 p0.Dy), .sv (.ints .i64 p0.Levels)]] [] (Xrd r) (Xrc r) := by
 refine Xag hT Tryz.func105 rfl fun C hC => ?_
 unfold Xcq at h
 refine Xac ?_
 iterate 2 refine kO hT hC ?_
 refine Vc.nil (Xas (Xac ?_))
 iterate 2 refine kO hT hC ?_
 refine Vc.nil (Xam (Xac ?_))
 iterate 2 refine kO hT hC ?_
 refine Vc.nil ?_
 refine kS h ?_ ?_ <;> intro b1 h
 refine kt b1 ?_
 refine kL [1,2] [16] [_,_] [_] ?_
 refine kA h (fun v1 => ([(2, .sv (.bool v1)), (1, .any)], [(16, none)])) (fun v1 h => ?_) fun v1 h => ?_
 refine Xab ?_
 iterate 4 refine kO hT hC ?_
 refine kS h ?_ ?_ <;> intro b2 h
 iterate 3 refine kI hT hC b2 ?_
 refine kP hC true b2 ?_
 refine kO hT hC ?_
 refine kS h ?_ ?_ <;> intro b3 h
 iterate 3 refine kI hT hC b3 ?_
 refine kP hC true b3 ?_
 refine kO hT hC ?_
 refine kS h ?_ ?_ <;> intro b4 h
 iterate 4 refine kI hT hC b4 ?_
 refine kP hC true b4 ?_
 refine kO hT hC ?_
 exact Vc.nil kM
 iterate 4 refine kF hC b4 ?_
 refine kP hC false b4 ?_
 refine kO hT hC ?_
 exact Vc.nil kM
 iterate 3 refine kF hC b3 ?_
 refine kP hC false b3 ?_
 refine kO hT hC ?_
 iterate 4 refine kF hC rfl ?_
 iterate 2 refine kO hT hC ?_
 exact Vc.nil kM
 iterate 3 refine kF hC b2 ?_
 refine kP hC false b2 ?_
 refine kO hT hC ?_
 iterate 3 refine kF hC rfl ?_
 iterate 2 refine kO hT hC ?_
 iterate 4 refine kF hC rfl ?_
 iterate 2 refine kO hT hC ?_
 exact Vc.nil kM
 exact Xah (Xgj (Xat kR))
 refine kf b1 (Xac ?_)
 iterate 2 refine kO hT hC ?_
 refine Vc.nil ?_
 refine kS h ?_ ?_ <;> intro b5 h
 refine kt b5 ?_
 refine kL [1,2] [16] [_,_] [_] ?_
 refine kA h (fun v2 => ([(2, .sv (.bool v2)), (1, .any)], [(16, none)])) (fun v2 h => ?_) fun v2 h => ?_
 refine Xab ?_
 iterate 4 refine kO hT hC ?_
 refine kS h ?_ ?_ <;> intro b6 h
 iterate 2 refine kI hT hC b6 ?_
 refine kE hC b6 [] Tryz.call53 h (fun _ => Xal) fun q3 h => ?_
 refine kP hC true b6 ?_
 refine kO hT hC ?_
 refine kS h ?_ ?_ <;> intro b7 h
 iterate 2 refine kI hT hC b7 ?_
 refine kE hC b7 [] Tryz.call53 h (fun _ => Xal) fun q4 h => ?_
 refine kP hC true b7 ?_
 refine kO hT hC ?_
 refine kS h ?_ ?_ <;> intro b8 h
 iterate 2 refine kI hT hC b8 ?_
 refine kE hC b8 [] Tryz.call150 h (fun _ => Xei) fun q5 h => ?_
 refine kP hC true b8 ?_
 refine kO hT hC ?_
 exact Vc.nil kM
 iterate 3 refine kF hC b8 ?_
 refine kP hC false b8 ?_
 refine kO hT hC ?_
 exact Vc.nil kM
 iterate 3 refine kF hC b7 ?_
 refine kP hC false b7 ?_
 refine kO hT hC ?_
 iterate 3 refine kF hC rfl ?_
 iterate 2 refine kO hT hC ?_
 exact Vc.nil kM
 iterate 3 refine kF hC b6 ?_
 refine kP hC false b6 ?_
 refine kO hT hC ?_
 iterate 3 refine kF hC rfl ?_
 iterate 2 refine kO hT hC ?_
 iterate 3 refine kF hC rfl ?_
 iterate 2 refine kO hT hC ?_
 exact Vc.nil kM
 exact Xah (Xgj (Xat kR))
 refine kf b5 (Xac ?_)
 iterate 2 refine kO hT hC ?_
 refine Vc.nil ?_
 refine kS h ?_ ?_ <;> intro b9 h
 refine kt b9 ?_
 refine kL [1,2] [16] [_,_] [_] ?_
 refine kA h (fun v6 => ([(2, .sv (.bool v6)), (1, .any)], [(16, none)])) (fun v6 h => ?_) fun v6 h => ?_
 refine Xab ?_
 iterate 2 refine kO hT hC ?_
 refine kC hC [] Tryz.call53 h (fun _ => Xal) fun q7 h => ?_
 refine kO hT hC ?_
 refine kS h ?_ ?_ <;> intro b10 h
 iterate 3 refine kI hT hC b10 ?_
 refine kP hC true b10 ?_
 refine kO hT hC ?_
 refine kS h ?_ ?_ <;> intro b11 h
 iterate 3 refine kI hT hC b11 ?_
 refine kP hC true b11 ?_
 refine kO hT hC ?_
 refine kS h ?_ ?_ <;> intro b12 h
 iterate 2 refine kI hT hC b12 ?_
 refine kE hC b12 [] Tryz.call150 h (fun _ => Xei) fun q8 h => ?_
 refine kP hC true b12 ?_
 refine kO hT hC ?_
 exact Vc.nil kM
 iterate 3 refine kF hC b12 ?_
 refine kP hC false b12 ?_
 refine kO hT hC ?_
 exact Vc.nil kM
 iterate 3 refine kF hC b11 ?_
 refine kP hC false b11 ?_
 refine kO hT hC ?_
 iterate 3 refine kF hC rfl ?_
 iterate 2 refine kO hT hC ?_
 exact Vc.nil kM
 iterate 3 refine kF hC b10 ?_
 refine kP hC false b10 ?_
 refine kO hT hC ?_
 iterate 3 refine kF hC rfl ?_
 iterate 2 refine kO hT hC ?_
 iterate 3 refine kF hC rfl ?_
 iterate 2 refine kO hT hC ?_
 exact Vc.nil kM
 exact Xah (Xgj (Xat kR))
 refine kf b9 (Xaf (Xap (Xae (Xac ?_))))
 refine kO hT hC ?_
 exact Vc.nil (Xah kR)
def Xtf (r : (Xao × Int × Bool)) : AV := .tup [.agg [.sv (.int .i64 r.1.Kind), .sv (.int .i64 r.1.Mode), .sv (.int .i64 r.1.Dx), .sv (.int .i64 r.1.Dy), .own 16], .sv (.int .i64 r.2.1), .sv (.bool r.2.2)]
def Xte (r : (Xao × Int × Bool)) : Xa5 := [(16, .ints .i64 r.1.Levels)]
theorem Xwr {p0 p1 p2 r} (h : Xgi p0 p1 p2 = some r) : AC Tryz.prog 84 [.sv (.str p0), .sv (.int .i64 p1), .agg [.sv (.bool p2.Key), .sv (.int .i64 p2.Qp), .sv (.bool p2.Large), .sv (.bool p2.Exact)]] [] (Xtf r) (Xte r) := by
 refine Xag hT Tryz.func84 rfl fun C hC => ?_
 unfold Xgi at h
 refine Xac ?_
 iterate 4 refine kO hT hC ?_
 refine kN ?_
 iterate 3 refine kO hT hC ?_
 refine kN ?_
 refine kO hT hC ?_
 refine Vc.nil ?_
 refine kL [0,1,5,6,9] [80,96,144] [_,_,_,_,_] [_,_,_] ?_
 refine Xzj h (fun (v1 : (Int × Int)) => ([(1, .sv (.int .i64 v1.1))], [(144, some (.box [.sv (.int .i64 v1.2), .sv (.int .i64 0), .sv (.int .i64 0), .sv (.int .i64 0), .sv .nil]))])) (fun v1 h => ?_) (fun h => ?_)
 refine kL [0,1,5,6,9] [80,96,144] [_,_,_,_,_] [_,_,_] ?_
 refine Xzj h (fun (v4 : (Int × Bool × Int × Int × Int)) => ([(1, .sv (.int .i64 v4.1)), (10, .sv (.bool v4.2.1))], [(144, some (.box [.sv (.int .i64 v1.2), .sv (.int .i64 v4.2.2.1), .sv (.int .i64 v4.2.2.2.1), .sv (.int .i64 v4.2.2.2.2), .sv .nil]))])) (fun v4 h => ?_) (fun h => ?_)
 refine Xas (Xac ?_)
 iterate 2 refine kO hT hC ?_
 refine Vc.nil ?_
 refine kS h ?_ ?_ <;> intro b7 h
 refine kt b7 (Xac ?_)
 iterate 4 refine kO hT hC ?_
 refine Vc.nil (Xah (Xat ?_))
 obtain rfl := kj h
 refine Xcw (τ := ⟨[(6, .ptr 2000000 0), (7, .sv (.int .i64 0)), (8, .sv (.bool false))], [(16, some (.ints .i64 [])), (2000000, some (.box [.sv (.int .i64 0), .sv (.int .i64 0), .sv (.int .i64 0), .sv (.int .i64 0), .own 16]))]⟩) ?_ rfl ⟨rfl, trivial⟩
 refine Xji hC 96 4 1428 (.ints .i64 []) rfl rfl rfl rfl rfl trivial ?_
 apply Xcv hC [(16, 1428), (2000000, 96)]
 exact co
 rfl
 decide
 rfl
 refine kf b7 (Xaf (Xae (Xac ?_)))
 iterate 3 refine kO hT hC ?_
 refine kC hC [(16, 1168)] Tryz.call138 h (fun _ => Xwq) fun q8 h => ?_
 iterate 8 refine kO hT hC ?_
 refine Vc.nil (Xas ?_)
 refine kL [1,6,9,10] [96,144,1168] [_,_,_,_] [_,_,_] ?_
 refine kA h (fun v9 => ([(84, .sv (.bool v9)), (10, .any)], [])) (fun v9 h => ?_) fun v9 h => ?_
 refine Xab ?_
 iterate 3 refine kO hT hC ?_
 refine kS h ?_ ?_ <;> intro b8 h
 refine kI hT hC (kn b8) ?_
 refine kE hC (kn b8) [] Tryz.call105 h (fun _ => Xij) fun q10 h => ?_
 refine kI hT hC (kn b8) ?_
 refine kP hC false (kn b8) ?_
 exact Vc.nil kM
 iterate 3 refine kF hC (kn b8) ?_
 refine kP hC true (kn b8) ?_
 exact Vc.nil kM
 refine kS h ?_ ?_ <;> intro b9 h
 refine kt b9 (Xac ?_)
 iterate 4 refine kO hT hC ?_
 refine Vc.nil (Xah (Xat ?_))
 obtain rfl := kj h
 refine Xcw (τ := ⟨[(6, .ptr 2000000 0), (7, .sv (.int .i64 0)), (8, .sv (.bool false))], [(16, some (.ints .i64 [])), (2000000, some (.box [.sv (.int .i64 0), .sv (.int .i64 0), .sv (.int .i64 0), .sv (.int .i64 0), .own 16]))]⟩) ?_ rfl ⟨rfl, trivial⟩
 refine Xji hC 96 4 1429 (.ints .i64 []) rfl rfl rfl rfl rfl trivial ?_
 apply Xcv hC [(16, 1429), (2000000, 96)]
 exact co
 rfl
 decide
 rfl
 refine kf b9 (Xaf (Xae (Xac ?_)))
 iterate 5 refine kO hT hC ?_
 refine Vc.nil (Xah ?_)
 obtain rfl := kj h
 exact Xcw (τ := ⟨[(6, .ptr 2000000 0), (7, .sv (.int .i64 q8.2.1)), (8, .sv (.bool true))], [(16, some (.ints .i64 q8.1)), (2000000, some (.box [.sv (.int .i64 v1.2), .sv (.int .i64 v4.2.2.1), .sv (.int .i64 v4.2.2.2.1), .sv (.int .i64 v4.2.2.2.2), .own 16]))]⟩) (kW hC [(16, 1168), (2000000, 96)]) rfl ⟨rfl, trivial⟩
 refine Xac ?_
 iterate 2 refine kO hT hC ?_
 refine Vc.nil (Xam (Xac ?_))
 iterate 2 refine kO hT hC ?_
 refine Vc.nil ?_
 refine kS h ?_ ?_ <;> intro b4 h
 refine kt b4 (Xac ?_)
 iterate 5 refine kO hT hC ?_
 refine Vc.nil (Xah (Xgj (Yil ?_)))
 obtain rfl := kj h
 refine Xcw (τ := ⟨[(6, .ptr 2000000 0), (7, .sv (.int .i64 v1.1)), (8, .sv (.bool true))], [(16, some (.ints .i64 [])), (2000000, some (.box [.sv (.int .i64 v1.2), .sv (.int .i64 0), .sv (.int .i64 0), .sv (.int .i64 0), .own 16]))]⟩) ?_ rfl ⟨rfl, trivial⟩
 refine Xji hC 96 4 1426 (.ints .i64 []) rfl rfl rfl rfl rfl trivial ?_
 apply Xcv hC [(16, 1426), (2000000, 96)]
 exact co
 rfl
 decide
 rfl
 refine kf b4 (Xac ?_)
 iterate 2 refine kO hT hC ?_
 refine Vc.nil ?_
 refine kS h ?_ ?_ <;> intro b5 h
 refine kt b5 (Xac ?_)
 iterate 2 refine kO hT hC ?_
 refine kC hC [] Tryz.call137 h (fun _ => Xho) fun q5 h => ?_
 iterate 8 refine kO hT hC ?_
 refine Vc.nil (Xas (Xac ?_))
 iterate 2 refine kO hT hC ?_
 refine Vc.nil ?_
 refine kS h ?_ ?_ <;> intro b6 h
 refine kt b6 (Xac ?_)
 iterate 4 refine kO hT hC ?_
 refine Vc.nil (Xah (Xat (Xgj (Yil ?_))))
 obtain rfl := kj h
 refine Xcw (τ := ⟨[(6, .ptr 2000000 0), (7, .sv (.int .i64 0)), (8, .sv (.bool false))], [(16, some (.ints .i64 [])), (2000000, some (.box [.sv (.int .i64 0), .sv (.int .i64 0), .sv (.int .i64 0), .sv (.int .i64 0), .own 16]))]⟩) ?_ rfl ⟨rfl, trivial⟩
 refine Xji hC 96 4 1427 (.ints .i64 []) rfl rfl rfl rfl rfl trivial ?_
 apply Xcv hC [(16, 1427), (2000000, 96)]
 exact co
 rfl
 decide
 rfl
 refine kf b6 (Xaf (Xae (Xab ?_)))
 iterate 2 refine kO hT hC ?_
 refine kC hC [] Tryz.call137 h (fun _ => Xho) fun q6 h => ?_
 iterate 8 refine kO hT hC ?_
 refine Vc.nil (Xap ?_)
 exact Xyw (q6.2.1, q6.2.2, 0, q5.1, q6.1) h (kW hC [])
 refine kf b5 (Xab ?_)
 iterate 2 refine kO hT hC ?_
 refine kC hC [] Tryz.call136 h (fun _ => Xdw) fun q7 h => ?_
 iterate 8 refine kO hT hC ?_
 refine Vc.nil (Xap ?_)
 exact Xyw (q7.2.1, q7.2.2, q7.1, 0, 0) h (kW hC [])
 refine Xac ?_
 iterate 3 refine kO hT hC ?_
 refine Vc.nil ?_
 refine kS h ?_ ?_ <;> intro b1 h
 refine kt b1 (Xac ?_)
 iterate 2 refine kO hT hC ?_
 refine kC hC [] Tryz.call136 h (fun _ => Xdw) fun q2 h => ?_
 iterate 8 refine kO hT hC ?_
 refine Vc.nil ?_
 refine kL [0,1,5,6,9,10] [80,96,144] [_,_,_,_,_,_] [_,_,_] ?_
 refine kA h (fun v3 => ([(29, .sv (.bool v3)), (10, .any)], [])) (fun v3 h => ?_) fun v3 h => ?_
 refine Xab ?_
 iterate 3 refine kO hT hC ?_
 refine kS h ?_ ?_ <;> intro b2 h
 iterate 3 refine kI hT hC (kn b2) ?_
 refine kP hC false (kn b2) ?_
 exact Vc.nil kM
 iterate 3 refine kF hC (kn b2) ?_
 refine kP hC true (kn b2) ?_
 exact Vc.nil kM
 refine kS h ?_ ?_ <;> intro b3 h
 refine kt b3 (Xac ?_)
 iterate 4 refine kO hT hC ?_
 refine Vc.nil (Xah (Yil ?_))
 obtain rfl := kj h
 refine Xcw (τ := ⟨[(6, .ptr 2000000 0), (7, .sv (.int .i64 0)), (8, .sv (.bool false))], [(16, some (.ints .i64 [])), (2000000, some (.box [.sv (.int .i64 0), .sv (.int .i64 0), .sv (.int .i64 0), .sv (.int .i64 0), .own 16]))]⟩) ?_ rfl ⟨rfl, trivial⟩
 refine Xji hC 96 4 1425 (.ints .i64 []) rfl rfl rfl rfl rfl trivial ?_
 apply Xcv hC [(16, 1425), (2000000, 96)]
 exact co
 rfl
 decide
 rfl
 refine kf b3 (Xaf ?_)
 exact Xyw (q2.2.1, q2.1) h (kW hC [])
 refine kf b1 (Xaf ?_)
 exact Xyw (p1, 2) h (kW hC [])
def Xkm (r : ((List Xao) × Bool)) : AV := .tup [.own 16, .sv (.bool r.2)]
def Xkl (r : ((List Xao) × Bool)) : Xa5 := [(16, .row Xcj r.1)]
theorem Xlm {p0 p1 p2 p3 r} (h : Xfg p0 p1 p2 p3 = some r) : AC Tryz.prog 43 [.sv (.str p0), .sv (.int .i64 p1), .sv (.int .i64 p2), .agg [.sv (.bool p3.Key), .sv (.int .i64 p3.Qp), .sv (.bool p3.Large), .sv (.bool p3.Exact)]] [] (Xkm r) (Xkl r) := by
 refine Xag hT Tryz.func43 rfl fun C hC => ?_
 unfold Xfg at h
 refine Xac ?_
 iterate 3 refine kO hT hC ?_
 refine kN ?_
 iterate 2 refine kO hT hC ?_
 refine Vc.nil (Xas ?_)
 refine kL [0,1,2,7,10] [112,240] [_,_,_,_,_] [_,_] ?_
 refine kA h (fun v1 => ([(35, .sv (.bool v1))], [])) (fun v1 h => ?_) fun v1 h => ?_
 refine Xab ?_
 refine kO hT hC ?_
 refine kC hC [] Tryz.call83 h (fun _ => Ya5) fun q2 h => ?_
 iterate 2 refine kO hT hC ?_
 refine kS h ?_ ?_ <;> intro b1 h
 iterate 3 refine kI hT hC (kn b1) ?_
 refine kE hC (kn b1) [] Tryz.call53 h (fun _ => Xal) fun q3 h => ?_
 refine kI hT hC (kn b1) ?_
 refine kP hC false (kn b1) ?_
 refine kO hT hC ?_
 refine kS h ?_ ?_ <;> intro b2 h
 refine kI hT hC (kn b2) ?_
 refine kE hC (kn b2) [] Tryz.call52 h (fun _ => Xhy) fun q4 h => ?_
 refine kI hT hC (kn b2) ?_
 refine kP hC false (kn b2) ?_
 refine kO hT hC ?_
 refine kS h ?_ ?_ <;> intro b3 h
 refine kI hT hC (kn b3) ?_
 refine kE hC (kn b3) [] Tryz.call53 h (fun _ => Xal) fun q5 h => ?_
 refine kI hT hC (kn b3) ?_
 refine kP hC false (kn b3) ?_
 exact Vc.nil kM
 iterate 3 refine kF hC (kn b3) ?_
 refine kP hC true (kn b3) ?_
 exact Vc.nil kM
 iterate 3 refine kF hC (kn b2) ?_
 refine kP hC true (kn b2) ?_
 refine kO hT hC ?_
 iterate 3 refine kF hC rfl ?_
 refine kO hT hC ?_
 exact Vc.nil kM
 iterate 5 refine kF hC (kn b1) ?_
 refine kP hC true (kn b1) ?_
 refine kO hT hC ?_
 iterate 3 refine kF hC rfl ?_
 iterate 2 refine kO hT hC ?_
 iterate 3 refine kF hC rfl ?_
 refine kO hT hC ?_
 exact Vc.nil kM
 refine kS h ?_ ?_ <;> intro b4 h
 refine kt b4 (Xac ?_)
 iterate 3 refine kO hT hC ?_
 refine Vc.nil (Xah (Xat ?_))
 obtain rfl := kj h
 exact Xcw (τ := ⟨[(8, .own 16), (9, .sv (.bool false))], [(16, some (.row Xcj ([] : List Xao)))]⟩) (kW hC [(16, 240)]) rfl ⟨rfl, trivial⟩
 refine kf b4 (Xaf (Xae (Xas (Xac ?_))))
 refine kO hT hC ?_
 refine Vc.nil ?_
 refine kL [0,1,2,7,10,11] [112,240] [_,_,_,_,_,_] [_,_] ?_
 obtain ⟨o13, hl, h⟩ := Xbd h
 refine Xf5 (fun v8 => ([(1, .sv (.int .i64 v8.1)), (11, .sv (.int .i64 v8.2.1))], [(240, some (.row Xcj v8.2.2))])) (fun v11 => ([(1, .sv (.int .i64 v11.1)), (2, .any), (7, .any), (11, .any)], [(240, some (.row Xcj v11.2)), (112, none)])) (fun r => Xl1 C T Tryz.f43.results.toList (Xkm r) (Xkl r)) hl ?_ ?_ ?_ ?_
 try dsimp only
 apply Xcv hC []
 exact co
 rfl
 decide
 rfl
 intro v8 s hs
 have h := hs
 unfold Xbf at h
 refine Xas (Xac ?_)
 iterate 3 refine kO hT hC ?_
 refine Vc.nil ?_
 refine kS h ?_ ?_ <;> intro b9 h
 refine kt b9 (Xaf (Xae (Xas (Xam (Xac ?_)))))
 iterate 3 refine kO hT hC ?_
 refine kC hC [(16, 736)] Tryz.call84 h (fun _ => Xwr) fun q12 h => ?_
 iterate 8 refine kO hT hC ?_
 refine Vc.nil (Xas (Xac ?_))
 iterate 2 refine kO hT hC ?_
 refine Vc.nil ?_
 refine kS h ?_ ?_ <;> intro b10 h
 refine kt b10 (Xac ?_)
 iterate 3 refine kO hT hC ?_
 refine Vc.nil (Xah (Xat (Xgj (Xat ?_))))
 obtain rfl := kj h
 refine Xna (Xm9 ?_)
 refine Xcw (τ := ⟨[(8, .own 16), (9, .sv (.bool false))], [(16, some (.row Xcj ([] : List Xao)))]⟩) ?_ rfl ⟨rfl, trivial⟩
 apply Xcv hC [(16, 832)]
 exact co
 rfl
 decide
 rfl
 refine kf b10 (Xaf (Xae (Xac ?_)))
 iterate 3 refine kO hT hC ?_
 obtain ⟨hq, h⟩ := Xay h
 refine Ybg hT hC rfl rfl rfl rfl ⟨fun _ _ => rfl, by rw [Xmt]; exact hq⟩ ?_
 rw [Xmt]
 refine kO hT hC ?_
 refine Vc.nil (Xab ?_)
 iterate 2 refine kO hT hC ?_
 refine Vc.nil (Xap (Xae (Xab ?_)))
 iterate 3 refine kO hT hC ?_
 refine Vc.nil ?_
 obtain rfl := kj h
 exact Ycs (kW hC [(240, 896)])
 exact kf b9 (Xaq (Xaw kb))
 intro v11 e
 subst e
 refine Xae (Xas (Xac ?_))
 iterate 4 refine kO hT hC ?_
 refine Vc.nil ?_
 refine kS h ?_ ?_ <;> intro b11 h
 refine kt b11 (Xac ?_)
 iterate 3 refine kO hT hC ?_
 refine Vc.nil (Xah (Xat ?_))
 obtain rfl := kj h
 exact Xcw (τ := ⟨[(8, .own 16), (9, .sv (.bool false))], [(16, some (.row Xcj ([] : List Xao)))]⟩) (kW hC [(16, 992)]) rfl ⟨rfl, trivial⟩
 refine kf b11 (Xaf (Xae (Xac ?_)))
 iterate 3 refine kO hT hC ?_
 refine Vc.nil (Xah ?_)
 obtain rfl := kj h
 exact Xcw (τ := ⟨[(8, .own 16), (9, .sv (.bool true))], [(16, some (.row Xcj v11.2))]⟩) (kW hC [(16, 240)]) rfl ⟨rfl, trivial⟩
 intro r' σ' e hE
 subst e
 obtain rfl := kj h
 refine Xat ?_
 exact hE
def Xx3 (r : Bool) : AV := .sv (.bool r)
def Xx2 (r : Bool) : Xa5 := []
theorem Ya3 {p0 r} (h : Xkk p0 = some r) : AC Tryz.prog 82 [.agg [.sv (.int .i64 p0.Qp), .sv (.bool p0.Large), .sv (.bool p0.Exact), .sv (.bool p0.Confined)]] [] (Xx3 r) (Xx2 r) := by
 refine Xag hT Tryz.func82 rfl fun C hC => ?_
 unfold Xkk at h
 refine Xac ?_
 iterate 2 refine kO hT hC ?_
 refine Vc.nil ?_
 refine kL [1,2] [16] [_,_] [_] ?_
 refine kA h (fun v1 => ([(2, .sv (.bool v1)), (1, .any)], [(16, none)])) (fun v1 h => ?_) fun v1 h => ?_
 refine Xab ?_
 iterate 2 refine kO hT hC ?_
 refine kC hC [] Tryz.call53 h (fun _ => Xal) fun q2 h => ?_
 refine kO hT hC ?_
 refine kS h ?_ ?_ <;> intro b1 h
 iterate 3 refine kI hT hC b1 ?_
 refine kS h ?_ ?_ <;> intro b2 h
 iterate 2 refine kI hT hC b2 ?_
 refine Xdd hC rfl rfl rfl rfl b1 rfl rfl (b := true) b2 rfl rfl rfl trivial ?_
 refine kI hT hC b1 ?_
 refine kP hC true b1 ?_
 refine kO hT hC ?_
 exact Vc.nil kM
 iterate 2 refine kF hC b2 ?_
 refine Xdd hC rfl rfl rfl rfl b1 rfl rfl (b := false) b2 rfl rfl rfl trivial ?_
 refine kI hT hC b1 ?_
 refine kP hC true b1 ?_
 refine kO hT hC ?_
 exact Vc.nil kM
 iterate 3 refine kF hC b1 ?_
 iterate 2 refine Xkt hC rfl rfl rfl rfl rfl rfl ?_
 iterate 2 refine kF hC b1 ?_
 refine kP hC false b1 ?_
 refine kO hT hC ?_
 exact Vc.nil kM
 exact Xah kR
def Xv7 (r : Bool) : AV := .sv (.bool r)
def Xv6 (r : Bool) : Xa5 := []
theorem Xx4 {p0 p1 p2 r} (h : Xlc p0 p1 p2 = some r) : AC Tryz.prog 41 [.agg [.sv (.int .i64 p0.Qp), .sv (.bool p0.Large), .sv (.bool p0.Exact), .sv (.bool p0.Confined)], .agg [.sv (.bool p1.Key), .sv (.int .i64 p1.Qp), .sv (.str p1.Row)], .sv (.int .i64 p2)] [] (Xv7 r) (Xv6 r) := by
 refine Xag hT Tryz.func41 rfl fun C hC => ?_
 unfold Xlc at h
 refine Xac ?_
 iterate 3 refine kO hT hC ?_
 refine Vc.nil ?_
 refine Xlj hm ?_
 iterate 5 refine kO hT hC ?_
 refine kC hC [] Tryz.call42 h (fun _ => Xmf) fun q1 h => ?_
 refine kC hC [(16, 256)] Tryz.call43 h (fun _ => Xlm) fun q2 h => ?_
 iterate 5 refine kO hT hC ?_
 refine kD ?_
 refine kL [3,6,8] [48] [_,_,_] [_] ?_
 refine kA h (fun v3 => ([(6, .sv (.bool v3)), (3, .any), (8, .any)], [(48, none)])) (fun v3 h => ?_) fun v3 h => ?_
 refine Xab ?_
 refine kO hT hC ?_
 refine kC hC [] Tryz.call82 h (fun _ => Ya3) fun q4 h => ?_
 refine kO hT hC ?_
 refine kS h ?_ ?_ <;> intro b1 h
 refine kI hT hC b1 ?_
 refine kP hC true b1 ?_
 refine kO hT hC ?_
 exact Vc.nil kM
 refine kF hC b1 ?_
 refine kP hC false b1 ?_
 refine kO hT hC ?_
 exact Vc.nil kM
 exact Xah kR
def Xnv (r : Bool) : AV := .sv (.bool r)
def Xnu (r : Bool) : Xa5 := []
theorem Ya6 {p0 p1 r} (h : Xkr p0 p1 = some r) : AC Tryz.prog 85 [.sv (Xcj.sv p0), .agg [.sv (.bool p1.Key), .sv (.int .i64 p1.Qp), .sv (.bool p1.Large), .sv (.bool p1.Exact)]] [] (Xnv r) (Xnu r) := by
 refine Xag hT Tryz.func85 rfl fun C hC => ?_
 unfold Xkr at h
 refine Xac ?_
 iterate 2 refine kO hT hC ?_
 refine Vc.nil (Xas ?_)
 refine kL [0,3] [48] [_,_] [_] ?_
 refine kA h (fun v1 => ([(14, .sv (.bool v1))], [])) (fun v1 h => ?_) fun v1 h => ?_
 refine Xab ?_
 refine kO hT hC ?_
 refine kC hC [] Tryz.call52 h (fun _ => Xhy) fun q2 h => ?_
 iterate 2 refine kO hT hC ?_
 refine kS h ?_ ?_ <;> intro b1 h
 iterate 2 refine kI hT hC (kn b1) ?_
 refine kE hC (kn b1) [] Tryz.call53 h (fun _ => Xal) fun q3 h => ?_
 refine kI hT hC (kn b1) ?_
 refine kP hC false (kn b1) ?_
 exact Vc.nil kM
 iterate 4 refine kF hC (kn b1) ?_
 refine kP hC true (kn b1) ?_
 exact Vc.nil kM
 refine kS h ?_ ?_ <;> intro b2 h
 refine kt b2 (Xac ?_)
 refine kO hT hC ?_
 exact Vc.nil (Xah (Xat kR))
 refine kf b2 (Xaf (Xae (Xas (Xac ?_))))
 refine kO hT hC ?_
 refine Vc.nil ?_
 refine kL [0,3,5] [48] [_,_,_] [_] ?_
 obtain ⟨o14, hl, h⟩ := Xbd h
 refine Xf5 (fun v7 => ([(5, .sv (.int .i64 v7))], [])) (fun v11 => ([(0, .any), (3, .any), (5, .any)], [(48, none)])) (fun r => Xl1 C T Tryz.f85.results.toList (Xnv r) (Xnu r)) hl ?_ ?_ ?_ ?_
 apply Xcv hC []
 exact co
 rfl
 decide
 rfl
 intro v7 s hs
 have h := hs
 unfold Xd9 at h
 refine Xas (Xac ?_)
 iterate 4 refine kO hT hC ?_
 refine Vc.nil ?_
 refine kS h ?_ ?_ <;> intro b11 h
 refine kt b11 (Xaf (Xae (Xas (Xam ?_))))
 refine kL [0,3,5] [48] [_,_,_] [_] ?_
 refine kA h (fun v12 => ([(38, .sv (.bool v12))], [])) (fun v12 h => ?_) fun v12 h => ?_
 refine Xab ?_
 iterate 2 refine kO hT hC ?_
 refine kQ hT hC h fun h => ?_
 refine kO hT hC ?_
 refine kC hC [] Tryz.call105 h (fun _ => Xij) fun q13 h => ?_
 iterate 2 refine kO hT hC ?_
 refine kS h ?_ ?_ <;> intro b12 h
 iterate 3 refine kI hT hC (kn b12) ?_
 refine kS h ?_ ?_ <;> intro b13 h
 iterate 2 refine kI hT hC b13 ?_
 refine kJ hT hC b13 h fun h => ?_
 iterate 3 refine kI hT hC b13 ?_
 refine Xdd hC rfl rfl rfl rfl (kn b12) rfl rfl (b := true) b13 rfl rfl rfl trivial ?_
 refine kP hC false (kn b12) ?_
 exact Vc.nil kM
 iterate 6 refine kF hC b13 ?_
 refine Xdd hC rfl rfl rfl rfl (kn b12) rfl rfl (b := false) b13 rfl rfl rfl trivial ?_
 refine kP hC false (kn b12) ?_
 exact Vc.nil kM
 iterate 3 refine kF hC (kn b12) ?_
 iterate 6 refine Xkt hC rfl rfl rfl rfl rfl rfl ?_
 refine kF hC (kn b12) ?_
 refine kP hC true (kn b12) ?_
 exact Vc.nil kM
 refine kS h ?_ ?_ <;> intro b14 h
 refine kt b14 (Xac ?_)
 refine kO hT hC ?_
 refine Vc.nil (Xah (Xgj (Xat ?_)))
 obtain rfl := kj h
 refine Xna (Xm9 ?_)
 exact Xcw (Xif.refl _) rfl trivial
 refine kf b14 (Xaf (Xap (Xae (Xab ?_))))
 iterate 3 refine kO hT hC ?_
 exact Vc.nil kG
 exact kf b11 (Xaq (Xaw kb))
 intro v11 e
 subst e
 refine Xae (Xac ?_)
 refine kO hT hC ?_
 exact Vc.nil (Xah kR)
 intro r' σ' e hE
 subst e
 obtain rfl := kj h
 refine Xat ?_
 exact hE
def Xx6 (r : Bool) : AV := .sv (.bool r)
def Xx5 (r : Bool) : Xa5 := []
theorem Xit {p0 r} (h : Xgf p0 = some r) : AC Tryz.prog 96 [.agg [.sv (.int .i64 p0.Wide), .sv (.int .i64 p0.High), .sv (.str p0.Dots)]] [] (Xx6 r) (Xx5 r) := by
 refine Xag hT Tryz.func96 rfl fun C hC => ?_
 unfold Xgf at h
 refine Xac ?_
 iterate 2 refine kO hT hC ?_
 refine Vc.nil ?_
 refine kL [1,2] [16] [_,_] [_] ?_
 refine kA h (fun v1 => ([(2, .sv (.bool v1)), (1, .any)], [(16, none)])) (fun v1 h => ?_) fun v1 h => ?_
 refine Xab ?_
 iterate 2 refine kO hT hC ?_
 refine kC hC [] Tryz.call53 h (fun _ => Xal) fun q2 h => ?_
 refine kO hT hC ?_
 refine kS h ?_ ?_ <;> intro b1 h
 iterate 2 refine kI hT hC b1 ?_
 refine kE hC b1 [] Tryz.call53 h (fun _ => Xal) fun q3 h => ?_
 refine kP hC true b1 ?_
 refine kO hT hC ?_
 refine kS h ?_ ?_ <;> intro b2 h
 iterate 9 refine kI hT hC b2 ?_
 refine kP hC true b2 ?_
 refine kO hT hC ?_
 exact Vc.nil kM
 iterate 9 refine kF hC b2 ?_
 refine kP hC false b2 ?_
 refine kO hT hC ?_
 exact Vc.nil kM
 iterate 3 refine kF hC b1 ?_
 refine kP hC false b1 ?_
 refine kO hT hC ?_
 iterate 9 refine kF hC rfl ?_
 iterate 2 refine kO hT hC ?_
 exact Vc.nil kM
 exact Xah kR
def Xqb (r : Bool) : AV := .sv (.bool r)
def Xqa (r : Bool) : Xa5 := []
theorem Xhp {p0 p1 p2 p3 p4 r} (h : Xbt p0 p1 p2 p3 p4 = some r) : AC Tryz.prog 86 [.agg [.sv (.int .i64 p0.Wide), .sv (.int .i64 p0.High), .sv (.str p0.Dots)], .sv (.int .i64 p1), .sv (.int .i64 p2), .sv (.int .i64 p3), .sv (.int .i64 p4)] [] (Xqb r) (Xqa r) := by
 refine Xag hT Tryz.func86 rfl fun C hC => ?_
 unfold Xbt at h
 refine Xac ?_
 iterate 2 refine kO hT hC ?_
 refine Vc.nil ?_
 refine kL [1,2,3,4,5,10] [80] [_,_,_,_,_,_] [_] ?_
 refine kA h (fun v1 => ([(10, .sv (.bool v1)), (1, .any), (2, .any), (3, .any), (4, .any), (5, .any)], [(80, none)])) (fun v1 h => ?_) fun v1 h => ?_
 refine Xab ?_
 refine kO hT hC ?_
 refine kC hC [] Tryz.call96 h (fun _ => Xit) fun q2 h => ?_
 refine kO hT hC ?_
 refine kS h ?_ ?_ <;> intro b1 h
 iterate 3 refine kI hT hC b1 ?_
 refine kE hC b1 [] Tryz.call53 h (fun _ => Xal) fun q3 h => ?_
 refine kP hC true b1 ?_
 refine kO hT hC ?_
 refine kS h ?_ ?_ <;> intro b2 h
 iterate 3 refine kI hT hC b2 ?_
 refine kE hC b2 [] Tryz.call53 h (fun _ => Xal) fun q4 h => ?_
 refine kP hC true b2 ?_
 refine kO hT hC ?_
 refine kS h ?_ ?_ <;> intro b3 h
 iterate 5 refine kI hT hC b3 ?_
 refine kE hC b3 [] Tryz.call53 h (fun _ => Xal) fun q5 h => ?_
 refine kP hC true b3 ?_
 refine kO hT hC ?_
 refine kS h ?_ ?_ <;> intro b4 h
 iterate 5 refine kI hT hC b4 ?_
 refine kE hC b4 [] Tryz.call53 h (fun _ => Xal) fun q6 h => ?_
 refine kP hC true b4 ?_
 refine kO hT hC ?_
 exact Vc.nil kM
 iterate 6 refine kF hC b4 ?_
 refine kP hC false b4 ?_
 refine kO hT hC ?_
 exact Vc.nil kM
 iterate 6 refine kF hC b3 ?_
 refine kP hC false b3 ?_
 refine kO hT hC ?_
 iterate 6 refine kF hC rfl ?_
 iterate 2 refine kO hT hC ?_
 exact Vc.nil kM
 iterate 4 refine kF hC b2 ?_
 refine kP hC false b2 ?_
 refine kO hT hC ?_
 iterate 6 refine kF hC rfl ?_
 iterate 2 refine kO hT hC ?_
 iterate 6 refine kF hC rfl ?_
 iterate 2 refine kO hT hC ?_
 exact Vc.nil kM
 iterate 4 refine kF hC b1 ?_
 refine kP hC false b1 ?_
 refine kO hT hC ?_
 iterate 4 refine kF hC rfl ?_
 iterate 2 refine kO hT hC ?_
 iterate 6 refine kF hC rfl ?_
 iterate 2 refine kO hT hC ?_
 iterate 6 refine kF hC rfl ?_
 iterate 2 refine kO hT hC ?_
 exact Vc.nil kM
 exact Xah kR
def Xxx (r : (Pic × Bool)) : AV := .tup [.agg [.sv (.int .i64 r.1.Wide), .sv (.int .i64 r.1.High), .sv (.str r.1.Dots)], .sv (.bool r.2)]
def Xxw (r : (Pic × Bool)) : Xa5 := []
theorem Yaz {p0 p1 r} (h : Xi0 p0 p1 = some r) : AC Tryz.prog 87 [.agg [.sv (.int .i64 p0.Wide), .sv (.int .i64 p0.High), .sv (.str p0.Dots)], .agg [.sv (.int .i64 p1.Left), .sv (.int .i64 p1.Top), .sv (.int .i64 p1.Wide), .sv (.int .i64 p1.High)]] [] (Xxx r) (Xxw r) := by
 refine Xag hT Tryz.func87 rfl fun C hC => ?_
 unfold Xi0 at h
 refine Xac ?_
 iterate 4 refine kO hT hC ?_
 refine Vc.nil (Xas (Xac ?_))
 iterate 9 refine kO hT hC ?_
 refine kC hC [] Tryz.call86 h (fun _ => Xhp) fun q1 h => ?_
 refine kO hT hC ?_
 refine Vc.nil ?_
 refine kS h ?_ ?_ <;> intro b1 h
 refine kt b1 (Xac ?_)
 iterate 3 refine kO hT hC ?_
 exact Vc.nil (Xah (Xat kR))
 refine kf b1 (Xaf (Xae (Xac ?_)))
 iterate 2 refine kO hT hC ?_
 refine Vc.nil (Xas (Xac ?_))
 iterate 3 refine kO hT hC ?_
 refine Vc.nil ?_
 refine kL [2,3,4,6,7] [32,48,64,320] [_,_,_,_,_] [_,_,_,_] ?_
 refine kX h (fun v3 => ([(7, .sv (.int .i64 v3.1))], [(320, some (.ints .u8 v3.2))])) (fun v5 => ([(2, .any), (7, .any)], [(320, some (.ints .u8 v5)), (32, none)])) (kW hC []) (fun v3 s h => ?_) fun v5 h => ?_
 unfold Xff at h
 refine Xas (Xac ?_)
 iterate 7 refine kO hT hC ?_
 refine Vc.nil ?_
 refine kS h ?_ ?_ <;> intro b4 h
 refine kt b4 (Xaf (Xae (Xas (Xam (Xab ?_)))))
 iterate 20 refine kO hT hC ?_
 refine kQ hT hC h fun h => ?_
 refine kT hT hC h fun h => ?_
 refine kO hT hC ?_
 refine Vc.nil (Xap (Xae (Xab ?_)))
 iterate 3 refine kO hT hC ?_
 refine Vc.nil ?_
 obtain rfl := kj h
 exact Ycs (kW hC [(320, 848)])
 exact kf b4 (Xaq (Xaw ku))
 refine Xae (Xac ?_)
 iterate 9 refine kO hT hC ?_
 exact Vc.nil (Xah kR)
def Xs0 (r : ByteArray) : AV := .sv (.str r)
def Xsz (r : ByteArray) : Xa5 := []
theorem Xwf {p0 p1 r} (h : Xib p0 p1 = some r) : AC Tryz.prog 139 [.sv (.int .i64 p0), .sv (.int .u8 p1)] [] (Xs0 r) (Xsz r) := by
 refine Xag hT Tryz.func139 rfl fun C hC => ?_
 unfold Xib at h
 refine Xac ?_
 refine kO hT hC ?_
 refine kN ?_
 refine kO hT hC ?_
 obtain ⟨hq, h⟩ := Xay h
 refine Ybg hT hC rfl rfl rfl rfl ⟨hq.1, hq.2.1, hq.2.2, by decide⟩ ?_
 refine kO hT hC ?_
 refine Vc.nil (Xas (Xac ?_))
 refine kO hT hC ?_
 refine Vc.nil ?_
 refine kL [0,1,5,6] [128] [_,_,_,_] [_] ?_
 refine kX h (fun v2 => ([(6, .sv (.int .i64 v2.1))], [(128, some (.ints .u8 v2.2))])) (fun v4 => ([(0, .any), (1, .any), (6, .any)], [(128, some (.ints .u8 v4))])) (kW hC []) (fun v2 s h => ?_) fun v4 h => ?_
 unfold Xe3 at h
 refine Xas (Xac ?_)
 iterate 3 refine kO hT hC ?_
 refine Vc.nil ?_
 refine kS h ?_ ?_ <;> intro b3 h
 refine kt b3 (Xaf (Xae (Xas (Xam (Xab ?_)))))
 iterate 3 refine kO hT hC ?_
 iterate 2 refine kQ hT hC h fun h => ?_
 refine Vc.nil (Xap (Xae (Xab ?_)))
 iterate 3 refine kO hT hC ?_
 exact Vc.nil kG
 exact kf b3 (Xaq (Xaw ku))
 refine Xae (Xac ?_)
 iterate 3 refine kO hT hC ?_
 exact Vc.nil (Xah kR)
def Ya2 (r : Pic) : AV := .agg [.sv (.int .i64 r.Wide), .sv (.int .i64 r.High), .sv (.str r.Dots)]
def Ya1 (r : Pic) : Xa5 := []
theorem Yc2 {p0 p1 r} (h : Xmg p0 p1 = some r) : AC Tryz.prog 88 [.sv (.int .i64 p0), .sv (.int .i64 p1)] [] (Ya2 r) (Ya1 r) := by
 refine Xag hT Tryz.func88 rfl fun C hC => ?_
 unfold Xmg at h
 refine Xac ?_
 refine kO hT hC ?_
 refine Vc.nil (Xas ?_)
 refine kL [0,1,4] [64] [_,_,_] [_] ?_
 refine kA h (fun v1 => ([(12, .sv (.bool v1))], [])) (fun v1 h => ?_) fun v1 h => ?_
 refine Xab ?_
 refine kO hT hC ?_
 refine kC hC [] Tryz.call53 h (fun _ => Xal) fun q2 h => ?_
 iterate 2 refine kO hT hC ?_
 refine kS h ?_ ?_ <;> intro b1 h
 refine kI hT hC (kn b1) ?_
 refine kE hC (kn b1) [] Tryz.call53 h (fun _ => Xal) fun q3 h => ?_
 refine kI hT hC (kn b1) ?_
 refine kP hC false (kn b1) ?_
 exact Vc.nil kM
 iterate 3 refine kF hC (kn b1) ?_
 refine kP hC true (kn b1) ?_
 exact Vc.nil kM
 refine kS h ?_ ?_ <;> intro b2 h
 refine kt b2 (Xac ?_)
 iterate 2 refine kO hT hC ?_
 exact Vc.nil (Xah (Xat kR))
 refine kf b2 (Xaf (Xae (Xac ?_)))
 iterate 5 refine kO hT hC ?_
 refine kC hC [] Tryz.call139 h (fun _ => Xwf) fun q4 h => ?_
 iterate 2 refine kO hT hC ?_
 exact Vc.nil (Xah kR)
def Xtd (r : Bool) : AV := .sv (.bool r)
def Xtc (r : Bool) : Xa5 := []
theorem Xmp {p0 p1 p2 r} (h : Xgg p0 p1 p2 = some r) : AC Tryz.prog 50 [.agg [.sv (.int .i64 p0.Wide), .sv (.int .i64 p0.High), .sv (.str p0.Dots)], .sv (.int .i64 p1), .sv (.int .i64 p2)] [] (Xtd r) (Xtc r) := by
 refine Xag hT Tryz.func50 rfl fun C hC => ?_
 unfold Xgg at h
 refine Xac ?_
 iterate 2 refine kO hT hC ?_
 refine Vc.nil ?_
 refine kL [1,2,3,6] [48] [_,_,_,_] [_] ?_
 refine kA h (fun v1 => ([(6, .sv (.bool v1)), (1, .any), (2, .any), (3, .any)], [(48, none)])) (fun v1 h => ?_) fun v1 h => ?_
 refine Xab ?_
 refine kO hT hC ?_
 refine kQ hT hC h fun h => ?_
 iterate 2 refine kO hT hC ?_
 refine kS h ?_ ?_ <;> intro b1 h
 refine kI hT hC b1 ?_
 refine kJ hT hC b1 h fun h => ?_
 refine kI hT hC b1 ?_
 refine kP hC true b1 ?_
 refine kO hT hC ?_
 refine kS h ?_ ?_ <;> intro b2 h
 iterate 3 refine kI hT hC b2 ?_
 refine kE hC b2 [] Tryz.call86 h (fun _ => Xhp) fun q2 h => ?_
 refine kP hC true b2 ?_
 refine kO hT hC ?_
 exact Vc.nil kM
 iterate 4 refine kF hC b2 ?_
 refine kP hC false b2 ?_
 refine kO hT hC ?_
 exact Vc.nil kM
 iterate 3 refine kF hC b1 ?_
 refine kP hC false b1 ?_
 refine kO hT hC ?_
 iterate 4 refine kF hC rfl ?_
 iterate 2 refine kO hT hC ?_
 exact Vc.nil kM
 exact Xah kR
def Xsm (r : Int) : AV := .sv (.int .i64 r)
def Xsl (r : Int) : Xa5 := []
theorem Xg1 {p0 p1 p2 r} (h : Xdb p0 p1 p2 = some r) : AC Tryz.prog 159 [.sv (.int .i64 p0), .sv (.int .i64 p1), .sv (.int .i64 p2)] [] (Xsm r) (Xsl r) := by
 refine Xag hT Tryz.func159 rfl fun C hC => ?_
 unfold Xdb at h
 refine Xac ?_
 refine kO hT hC ?_
 refine Vc.nil (Xas ?_)
 refine kL [0,1,2] [] [_,_,_] [] ?_
 refine kA h (fun v1 => ([(14, .sv (.bool v1))], [])) (fun v1 h => ?_) fun v1 h => ?_
 refine Xab ?_
 iterate 4 refine kO hT hC ?_
 refine kS h ?_ ?_ <;> intro b1 h
 iterate 3 refine kF hC b1 ?_
 refine kP hC true b1 ?_
 exact Vc.nil kM
 iterate 3 refine kI hT hC b1 ?_
 refine kP hC false b1 ?_
 exact Vc.nil kM
 refine kS h ?_ ?_ <;> intro b2 h
 refine kt b2 (Xac ?_)
 iterate 2 refine kO hT hC ?_
 exact Vc.nil (Xah (Xat kR))
 refine kf b2 (Xaf (Xae (Xas (Xac ?_))))
 iterate 3 refine kO hT hC ?_
 refine Vc.nil ?_
 refine kS h ?_ ?_ <;> intro b3 h
 refine kt b3 (Xac ?_)
 iterate 2 refine kO hT hC ?_
 exact Vc.nil (Xah (Xat kR))
 refine kf b3 (Xaf (Xae (Xac ?_)))
 iterate 2 refine kO hT hC ?_
 exact Vc.nil (Xah kR)
def Xxz (r : Int) : AV := .sv (.int .i64 r)
def Xxy (r : Int) : Xa5 := []
theorem Xis {p0 p1 p2 r} (h : Xdt p0 p1 p2 = some r) : AC Tryz.prog 145 [.agg [.sv (.int .i64 p0.Wide), .sv (.int .i64 p0.High), .sv (.str p0.Dots)], .sv (.int .i64 p1), .sv (.int .i64 p2)] [] (Xxz r) (Xxy r) := by
 refine Xag hT Tryz.func145 rfl fun C hC => ?_
 unfold Xdt at h
 refine Xac ?_
 iterate 2 refine kO hT hC ?_
 refine Vc.nil (Xas (Xac ?_))
 refine kO hT hC ?_
 refine kC hC [] Tryz.call96 h (fun _ => Xit) fun q1 h => ?_
 refine kO hT hC ?_
 refine Vc.nil ?_
 refine kS h ?_ ?_ <;> intro b1 h
 refine kt b1 (Xac ?_)
 refine kO hT hC ?_
 exact Vc.nil (Xah (Xat kR))
 refine kf b1 (Xaf (Xae ?_))
 refine Xlj hm ?_
 iterate 6 refine kO hT hC ?_
 refine kC hC [] Tryz.call159 h (fun _ => Xg1) fun q2 h => ?_
 iterate 7 refine kO hT hC ?_
 refine kC hC [] Tryz.call159 h (fun _ => Xg1) fun q3 h => ?_
 refine kO hT hC ?_
 refine kQ hT hC h fun h => ?_
 iterate 2 refine kO hT hC ?_
 exact kD (Xah kR)
def Xsq (r : (Xha × Bool)) : AV := .tup [.agg [.own 16, .own 17, .sv (.int .i64 r.1.Corner)], .sv (.bool r.2)]
def Xsp (r : (Xha × Bool)) : Xa5 := [(16, .ints .i64 r.1.Above), (17, .ints .i64 r.1.Left)]
theorem Xvv {p0 p1 p2 r} (h : Xey p0 p1 p2 = some r) : AC Tryz.prog 100 [.agg [.sv (.int .i64 p0.Wide), .sv (.int .i64 p0.High), .sv (.str p0.Dots)], .sv (.int .i64 p1), .sv (.int .i64 p2)] [] (Xsq r) (Xsp r) := by
 refine Xag hT Tryz.func100 rfl fun C hC => ?_
 unfold Xey at h
 refine Xac ?_
 iterate 3 refine kO hT hC ?_
 refine Vc.nil (Xas (Xac ?_))
 iterate 3 refine kO hT hC ?_
 refine kC hC [] Tryz.call50 h (fun _ => Xmp) fun q1 h => ?_
 refine kO hT hC ?_
 refine Vc.nil ?_
 refine kS h ?_ ?_ <;> intro b1 h
 refine kt b1 (Xac ?_)
 iterate 3 refine kO hT hC ?_
 refine Vc.nil (Xah (Xat ?_))
 obtain rfl := kj h
 refine Xcw (τ := ⟨[(6, .ptr 2000000 0), (7, .sv (.bool false))], [(16, some (.ints .i64 [])), (17, some (.ints .i64 [])), (2000000, some (.box [.own 16, .own 17, .sv (.int .i64 0)]))]⟩) ?_ rfl ⟨rfl, rfl, trivial⟩
 refine Xji hC 96 0 1025 (.ints .i64 []) rfl rfl rfl rfl rfl trivial ?_
 refine Xji hC 96 1 1026 (.ints .i64 []) rfl rfl rfl rfl rfl trivial ?_
 apply Xcv hC [(16, 1025), (17, 1026), (2000000, 96)]
 exact co
 rfl
 decide
 rfl
 refine kf b1 (Xaf (Xae (Xac ?_)))
 iterate 3 refine kO hT hC ?_
 refine Vc.nil (Xas (Xac ?_))
 refine kO hT hC ?_
 refine Vc.nil ?_
 refine kL [1,2,3,6,8,9] [48,96,128] [_,_,_,_,_,_] [_,_,_] ?_
 obtain ⟨v13, hl, h⟩ := Xbd h
 refine Yhd (fun v7 => ([(9, .sv (.int .i64 v7.1))], [(128, some (.box [.own 1049, .own 1050, .sv (.int .i64 (-1))])), (1049, some (.ints .i64 v7.2.1)), (1050, some (.ints .i64 v7.2.2))])) (fun v13 => ([(9, .any)], [(128, some (.box [.own 1053, .own 1054, .sv (.int .i64 (-1))])), (1053, some (.ints .i64 v13.1)), (1054, some (.ints .i64 v13.2))])) hl ?_ ?_ ?_
 refine Xji hC 128 0 1055 (.ints .i64 []) rfl rfl rfl rfl rfl trivial ?_
 refine Xji hC 128 1 1056 (.ints .i64 []) rfl rfl rfl rfl rfl trivial ?_
 try dsimp only
 apply Xcv hC [(1049, 1055), (1050, 1056)]
 exact co
 rfl
 decide
 rfl
 intro v7 s hs
 have h := hs
 unfold Xc2 at h
 refine Xas (Xac ?_)
 iterate 2 refine kO hT hC ?_
 refine Vc.nil ?_
 refine kS h ?_ ?_ <;> intro b8 h
 refine kt b8 (Xaf (Xae ?_))
 refine kL [1,2,3,6,8,9] [48,96,128,1049,1050] [_,_,_,_,_,_] [_,_,_,_,_] ?_
 refine kA h (fun v14 => ([], [(1049, some (.ints .i64 v14.1)), (1050, some (.ints .i64 v14.2))])) (fun v14 h => ?_) fun v14 h => ?_
 refine Xam ?_
 refine kL [1,2,3,6,8,9] [48,96,128,1049,1050] [_,_,_,_,_,_] [_,_,_,_,_] ?_
 refine kA h (fun v15 => ([], [(1049, some (.ints .i64 v15))])) (fun v15 h => ?_) fun v15 h => ?_
 refine Xac ?_
 iterate 2 refine kO hT hC ?_
 refine Vc.nil ?_
 refine kS h ?_ ?_ <;> intro b9 h
 refine kt b9 ?_
 refine Xdo hm ?_
 iterate 8 refine kO hT hC ?_
 refine kC hC [] Tryz.call145 h (fun _ => Xis) fun q16 h => ?_
 refine kO hT hC ?_
 refine kT hT hC h fun h => ?_
 iterate 2 refine kO hT hC ?_
 refine kD ?_
 obtain rfl := kj h
 exact Xge (kW hC [(1049, 528)])
 exact kf b9 (Xaf kM)
 refine Xac ?_
 iterate 2 refine kO hT hC ?_
 refine Vc.nil ?_
 refine kS h ?_ ?_ <;> intro b10 h
 refine kt b10 ?_
 refine Xdo hm ?_
 iterate 8 refine kO hT hC ?_
 refine kC hC [] Tryz.call145 h (fun _ => Xis) fun q17 h => ?_
 refine kO hT hC ?_
 refine kT hT hC h fun h => ?_
 iterate 2 refine kO hT hC ?_
 refine kD (Xap ?_)
 obtain rfl := kj h
 exact Xge (kW hC [(1050, 752)])
 exact kf b10 (Xaf (Xap kM))
 refine Xab ?_
 iterate 3 refine kO hT hC ?_
 exact Vc.nil kG
 refine kf b8 (Xaq (Xaw ?_))
 obtain rfl := kj h
 exact Ye1 (Yj9 (kW hC [(1053, 1049), (1054, 1050)]))
 refine Xae ?_
 refine kL [1,2,3,6,8] [48,96,128,1053,1054] [_,_,_,_,_] [_,_,_,_,_] ?_
 refine kA h (fun v19 => ([(1, .any), (2, .any), (3, .any)], [(128, some (.box [.own 1053, .own 1054, .sv (.int .i64 v19)])), (48, none)])) (fun v19 h => ?_) fun v19 h => ?_
 refine kL [1,2,3,6,8] [48,96,128,1053,1054] [_,_,_,_,_] [_,_,_,_,_] ?_
 refine kA h (fun v20 => ([(54, .sv (.bool v20))], [])) (fun v20 h => ?_) fun v20 h => ?_
 refine Xab ?_
 iterate 3 refine kO hT hC ?_
 refine kS h ?_ ?_ <;> intro b11 h
 iterate 2 refine kI hT hC b11 ?_
 refine kP hC true b11 ?_
 exact Vc.nil kM
 iterate 2 refine kF hC b11 ?_
 refine kP hC false b11 ?_
 exact Vc.nil kM
 refine kS h ?_ ?_ <;> intro b12 h
 refine kt b12 (Xab ?_)
 iterate 5 refine kO hT hC ?_
 refine kC hC [] Tryz.call145 h (fun _ => Xis) fun q21 h => ?_
 iterate 2 refine kO hT hC ?_
 exact Vc.nil kM
 exact kf b12 (Xaf kM)
 refine Xac ?_
 iterate 3 refine kO hT hC ?_
 refine Vc.nil (Xah ?_)
 obtain rfl := kj h
 exact Xcw (τ := ⟨[(6, .ptr 2000000 0), (7, .sv (.bool true))], [(16, some (.ints .i64 v13.1)), (17, some (.ints .i64 v13.2)), (2000000, some (.box [.own 16, .own 17, .sv (.int .i64 v19)]))]⟩) (kW hC [(16, 1053), (17, 1054), (2000000, 96)]) rfl ⟨rfl, rfl, trivial⟩
def Xjg (r : Int) : AV := .sv (.int .i64 r)
def Xjf (r : Int) : Xa5 := []
theorem Xx9 {p0 p1 r} (h : Xjd p0 p1 = some r) : AC Tryz.prog 200 [.sv (.int .i64 p0), .sv (.int .i64 p1)] [] (Xjg r) (Xjf r) := by
 refine Xag hT Tryz.func200 rfl fun C hC => ?_
 unfold Xjd at h
 refine Xac ?_
 refine kO hT hC ?_
 refine Vc.nil (Xas ?_)
 refine kL [0,1] [] [_,_] [] ?_
 refine kA h (fun v1 => ([(25, .sv (.bool v1))], [])) (fun v1 h => ?_) fun v1 h => ?_
 refine Xab ?_
 iterate 3 refine kO hT hC ?_
 refine kS h ?_ ?_ <;> intro b1 h
 iterate 2 refine kI hT hC b1 ?_
 refine kP hC true b1 ?_
 refine kO hT hC ?_
 refine kS h ?_ ?_ <;> intro b2 h
 iterate 2 refine kF hC b2 ?_
 refine kP hC true b2 ?_
 refine kO hT hC ?_
 iterate 5 refine kF hC rfl ?_
 refine kO hT hC ?_
 exact Vc.nil kM
 iterate 2 refine kI hT hC b2 ?_
 refine kP hC false b2 ?_
 refine kO hT hC ?_
 refine kS h ?_ ?_ <;> intro b3 h
 iterate 5 refine kF hC b3 ?_
 refine kP hC true b3 ?_
 exact Vc.nil kM
 iterate 5 refine kI hT hC b3 ?_
 refine kP hC false b3 ?_
 exact Vc.nil kM
 iterate 2 refine kF hC b1 ?_
 refine kP hC false b1 ?_
 refine kO hT hC ?_
 iterate 2 refine kI hT hC rfl ?_
 iterate 2 refine kO hT hC ?_
 refine kS h ?_ ?_ <;> intro b4 h
 iterate 5 refine kF hC b4 ?_
 refine kP hC true b4 ?_
 exact Vc.nil kM
 iterate 5 refine kI hT hC b4 ?_
 refine kP hC false b4 ?_
 exact Vc.nil kM
 refine kS h ?_ ?_ <;> intro b5 h
 refine kt b5 (Xac ?_)
 refine kO hT hC ?_
 exact Vc.nil (Xah (Xat kR))
 refine kf b5 (Xaf (Xae (Xac ?_)))
 refine kO hT hC ?_
 refine Vc.nil (Xas (Xac ?_))
 refine kO hT hC ?_
 refine Vc.nil ?_
 refine kL [0,1,5,6] [] [_,_,_,_] [] ?_
 obtain ⟨o48, hl, h⟩ := Xbd h
 refine Xf5 (fun v17 => ([(5, .sv (.int .i64 v17.1)), (6, .sv (.int .i64 v17.2))], [])) (fun v33 => ([(0, .any), (1, .any), (5, .any), (6, .any)], [])) (fun r => Xl1 C T Tryz.f200.results.toList (Xjg r) (Xjf r)) hl ?_ ?_ ?_ ?_
 try dsimp only
 apply Xcv hC []
 exact co
 rfl
 decide
 rfl
 intro v17 s hs
 have h := hs
 unfold Xg4 at h
 refine Xas (Xac ?_)
 iterate 5 refine kO hT hC ?_
 refine Vc.nil ?_
 refine kS h ?_ ?_ <;> intro b32 h
 refine kt b32 (Xaf (Xae (Xas (Xam (Xac ?_)))))
 refine kO hT hC ?_
 refine Vc.nil ?_
 refine kL [0,1,5,6,7] [] [_,_,_,_,_] [] ?_
 obtain ⟨o47, hl, h⟩ := Xbd h
 refine Xf5 (fun v38 => ([(5, .sv (.int .i64 v38.1)), (7, .sv (.int .i64 v38.2))], [])) (fun v43 => ([(5, .sv (.int .i64 v43)), (7, .any)], [])) (fun r => Xl1 C T Tryz.f200.results.toList (Xjg r) (Xjf r)) hl ?_ ?_ ?_ ?_
 try dsimp only
 apply Xcv hC []
 exact co
 rfl
 decide
 rfl
 intro v38 s hs
 have h := hs
 unfold Xje at h
 refine Xas (Xac ?_)
 iterate 3 refine kO hT hC ?_
 refine Vc.nil ?_
 refine kS h ?_ ?_ <;> intro b41 h
 refine kt b41 (Xaf (Xae ?_))
 refine kL [0,1,5,6,7] [] [_,_,_,_,_] [] ?_
 refine Xzj h (fun (v44 : Int) => ([(5, .sv (.int .i64 v44))], [])) (fun v44 h => ?_) (fun h => ?_)
 refine Xab ?_
 iterate 3 refine kO hT hC ?_
 exact Vc.nil kG
 refine Xam (Xac ?_)
 iterate 2 refine kO hT hC ?_
 refine Vc.nil ?_
 refine kL [0,1,5,6,7,8] [] [_,_,_,_,_,_] [] ?_
 refine kA h (fun v45 => ([(8, .sv (.int .i64 v45))], [])) (fun v45 h => ?_) fun v45 h => ?_
 refine Xac ?_
 refine kO hT hC ?_
 refine kQ hT hC h fun h => ?_
 refine kO hT hC ?_
 refine Vc.nil ?_
 refine kS h ?_ ?_ <;> intro b42 h
 refine kt b42 (Xab ?_)
 iterate 5 refine kO hT hC ?_
 exact Vc.nil kM
 exact kf b42 (Xaf kM)
 refine Xas (Xac ?_)
 iterate 5 refine kO hT hC ?_
 refine kC hC [] Tryz.call53 h (fun _ => Xal) fun q46 h => ?_
 refine kO hT hC ?_
 refine Vc.nil ?_
 refine kS h ?_ ?_ <;> intro b43 h
 refine kt b43 (Xaq (Xaw (Ygd ?_)))
 exact Xyw v38.1 h (kW hC [])
 refine kf b43 (Xaf (Xae (Xas (Xac ?_))))
 iterate 3 refine kO hT hC ?_
 refine Vc.nil ?_
 refine kS h ?_ ?_ <;> intro b44 h
 refine kt b44 (Xac ?_)
 iterate 8 refine kO hT hC ?_
 refine Vc.nil (Xah (Xat (Xgj (Yil ?_))))
 obtain rfl := kj h
 refine Xna (Xm9 ?_)
 exact Xcw (Xif.refl _) rfl trivial
 refine kf b44 (Xaf (Xae (Xab ?_)))
 iterate 3 refine kO hT hC ?_
 refine Vc.nil (Xap ?_)
 exact Xyw (Xaa .i64 (v38.1 + 1)) h (kW hC [])
 exact kf b41 (Xaq (Xaw kb))
 intro v43 e
 subst e
 refine Xap (Xae (Xab ?_))
 iterate 3 refine kO hT hC ?_
 exact Vc.nil kG
 intro r' σ' e hE
 subst e
 obtain rfl := kj h
 refine Xgj (Xat (Xna (Xm9 ?_)))
 exact hE
 exact kf b32 (Xaq (Xaw kb))
 intro v33 e
 subst e
 refine Xae (Xac ?_)
 refine kO hT hC ?_
 exact Vc.nil (Xah kR)
 intro r' σ' e hE
 subst e
 obtain rfl := kj h
 refine Xat ?_
 exact hE
def Xp5 (r : ((List Int) × Bool)) : AV := .tup [.own 16, .sv (.bool r.2)]
def Xp4 (r : ((List Int) × Bool)) : Xa5 := [(16, .ints .i64 r.1)]
theorem Xhn {p0 p1 r} (h : Xb9 p0 p1 = some r) : AC Tryz.prog 160 [.sv (.int .i64 p0), .sv (.ints .i64 p1)] [] (Xp5 r) (Xp4 r) := by
 refine Xag hT Tryz.func160 rfl fun C hC => ?_
 unfold Xb9 at h
 refine Xac ?_
 iterate 2 refine kO hT hC ?_
 refine Vc.nil (Xas ?_)
 refine kL [0,1] [] [_,_] [] ?_
 refine kA h (fun v1 => ([(21, .sv (.bool v1))], [])) (fun v1 h => ?_) fun v1 h => ?_
 refine Xab ?_
 iterate 3 refine kO hT hC ?_
 refine kS h ?_ ?_ <;> intro b1 h
 iterate 2 refine kI hT hC b1 ?_
 refine kP hC true b1 ?_
 refine kO hT hC ?_
 refine kS h ?_ ?_ <;> intro b2 h
 iterate 6 refine kF hC b2 ?_
 refine kP hC true b2 ?_
 exact Vc.nil kM
 iterate 6 refine kI hT hC b2 ?_
 refine kP hC false b2 ?_
 exact Vc.nil kM
 iterate 2 refine kF hC b1 ?_
 refine kP hC false b1 ?_
 refine kO hT hC ?_
 iterate 6 refine kI hT hC rfl ?_
 refine kO hT hC ?_
 exact Vc.nil kM
 refine kS h ?_ ?_ <;> intro b3 h
 refine kt b3 (Xac ?_)
 iterate 3 refine kO hT hC ?_
 refine Vc.nil (Xah (Xat ?_))
 obtain rfl := kj h
 exact Xcw (τ := ⟨[(4, .own 16), (5, .sv (.bool false))], [(16, some (.ints .i64 ([] : List Int)))]⟩) (kW hC [(16, 352)]) rfl ⟨rfl, trivial⟩
 refine kf b3 (Xaf (Xae (Xac ?_)))
 iterate 2 refine kO hT hC ?_
 obtain ⟨hq, h⟩ := Xay h
 refine Ybg hT hC rfl rfl rfl rfl ⟨hq.1, hq.2.1, hq.2.2, by decide⟩ ?_
 refine kO hT hC ?_
 refine Vc.nil (Xas (Xac ?_))
 refine kO hT hC ?_
 refine Vc.nil ?_
 refine kL [0,1,6,7] [400] [_,_,_,_] [_] ?_
 refine kX h (fun v4 => ([(7, .sv (.int .i64 v4.1))], [(400, some (.ints .i64 v4.2))])) (fun v7 => ([(0, .any), (1, .any), (7, .any)], [(400, some (.ints .i64 v7))])) (kW hC []) (fun v4 s h => ?_) fun v7 h => ?_
 unfold Xbp at h
 refine Xas (Xac ?_)
 iterate 5 refine kO hT hC ?_
 refine Vc.nil ?_
 refine kS h ?_ ?_ <;> intro b6 h
 refine kt b6 (Xaf (Xae (Xas (Xam ?_))))
 refine Xdo hm ?_
 iterate 3 refine kO hT hC ?_
 refine kC hC [] Tryz.call200 h (fun _ => Xx9) fun q8 h => ?_
 iterate 2 refine kO hT hC ?_
 refine kQ hT hC h fun h => ?_
 refine kO hT hC ?_
 iterate 2 refine kQ hT hC h fun h => ?_
 refine kD (Xap (Xae (Xab ?_)))
 iterate 3 refine kO hT hC ?_
 exact Vc.nil kG
 exact kf b6 (Xaq (Xaw ku))
 refine Xae (Xac ?_)
 iterate 3 refine kO hT hC ?_
 refine Vc.nil (Xah ?_)
 obtain rfl := kj h
 exact Xcw (τ := ⟨[(4, .own 16), (5, .sv (.bool true))], [(16, some (.ints .i64 v7))]⟩) (kW hC [(16, 400)]) rfl ⟨rfl, trivial⟩
def Xwd (r : Int) : AV := .sv (.int .i64 r)
def Xwc (r : Int) : Xa5 := []
theorem Xya {p0 r} (h : Xe2 p0 = some r) : AC Tryz.prog 202 [.sv (.int .i64 p0)] [] (Xwd r) (Xwc r) := by
 refine Xag hT Tryz.func202 rfl fun C hC => ?_
 unfold Xe2 at h
 refine Xac ?_
 refine kO hT hC ?_
 refine Vc.nil (Xas (Xac ?_))
 refine kO hT hC ?_
 refine kC hC [] Tryz.call53 h (fun _ => Xal) fun q1 h => ?_
 refine kO hT hC ?_
 refine Vc.nil ?_
 refine kS h ?_ ?_ <;> intro b1 h
 refine kt b1 (Xac ?_)
 refine kO hT hC ?_
 exact Vc.nil (Xah (Xat kR))
 refine kf b1 (Xaf (Xae (Xac ?_)))
 refine kO hT hC ?_
 refine Vc.nil ?_
 refine kL [0,3] [] [_,_] [] ?_
 refine kA h (fun v2 => ([(3, .sv (.int .i64 v2))], [])) (fun v2 h => ?_) fun v2 h => ?_
 refine Xac ?_
 refine kO hT hC ?_
 refine kQ hT hC h fun h => ?_
 refine Vc.nil (Xam (Xac ?_))
 iterate 2 refine kO hT hC ?_
 refine Vc.nil ?_
 refine kS h ?_ ?_ <;> intro b2 h
 refine kt b2 (Xab ?_)
 refine kO hT hC ?_
 exact Vc.nil (Xap kM)
 refine kf b2 (Xac ?_)
 iterate 2 refine kO hT hC ?_
 refine Vc.nil ?_
 refine kS h ?_ ?_ <;> intro b3 h
 refine kt b3 (Xab ?_)
 refine kO hT hC ?_
 exact Vc.nil (Xap kM)
 refine kf b3 (Xac ?_)
 iterate 2 refine kO hT hC ?_
 refine Vc.nil ?_
 refine kS h ?_ ?_ <;> intro b4 h
 refine kt b4 (Xab ?_)
 refine kO hT hC ?_
 exact Vc.nil (Xap kM)
 refine kf b4 (Xac ?_)
 iterate 2 refine kO hT hC ?_
 refine Vc.nil ?_
 refine kS h ?_ ?_ <;> intro b5 h
 refine kt b5 (Xab ?_)
 refine kO hT hC ?_
 exact Vc.nil (Xap kM)
 refine kf b5 (Xac ?_)
 iterate 2 refine kO hT hC ?_
 refine Vc.nil ?_
 refine kS h ?_ ?_ <;> intro b6 h
 refine kt b6 (Xab ?_)
 refine kO hT hC ?_
 exact Vc.nil (Xap kM)
 exact kf b6 (Xaf (Xap kM))
 refine Xas (Xac ?_)
 refine kO hT hC ?_
 refine Vc.nil ?_
 refine kL [0,3,4] [] [_,_,_] [] ?_
 refine kX h (fun v4 => ([(3, .sv (.int .i64 v4.1)), (4, .sv (.int .i64 v4.2))], [])) (fun v6 => ([(3, .sv (.int .i64 v6)), (0, .any), (4, .any)], [])) (kW hC []) (fun v4 s h => ?_) fun v6 h => ?_
 unfold Xfy at h
 refine Xas (Xac ?_)
 iterate 2 refine kO hT hC ?_
 refine kQ hT hC h fun h => ?_
 refine kO hT hC ?_
 refine Vc.nil ?_
 refine kS h ?_ ?_ <;> intro b9 h
 refine kt b9 (Xaf (Xae (Xas (Xam (Xab ?_)))))
 iterate 3 refine kO hT hC ?_
 refine Vc.nil (Xap (Xae (Xab ?_)))
 iterate 3 refine kO hT hC ?_
 exact Vc.nil kG
 exact kf b9 (Xaq (Xaw ku))
 refine Xae (Xac ?_)
 iterate 2 refine kO hT hC ?_
 exact Vc.nil (Xah kR)
def Xpy (r : Int) : AV := .sv (.int .i64 r)
def Xpx (r : Int) : Xa5 := []
theorem Xq9 {p0 p1 r} (h : Xdk p0 p1 = some r) : AC Tryz.prog 161 [.sv (.int .i64 p0), .sv (.int .i64 p1)] [] (Xpy r) (Xpx r) := by
 refine Xag hT Tryz.func161 rfl fun C hC => ?_
 unfold Xdk at h
 refine Xac ?_
 refine kO hT hC ?_
 refine Vc.nil (Xas (Xac ?_))
 refine kO hT hC ?_
 refine kC hC [] Tryz.call53 h (fun _ => Xal) fun q1 h => ?_
 refine kO hT hC ?_
 refine Vc.nil ?_
 refine kS h ?_ ?_ <;> intro b1 h
 refine kt b1 (Xac ?_)
 refine kO hT hC ?_
 exact Vc.nil (Xah (Xat kR))
 refine kf b1 (Xaf (Xae (Xac ?_)))
 iterate 2 refine kO hT hC ?_
 refine kC hC [] Tryz.call202 h (fun _ => Xya) fun q2 h => ?_
 iterate 2 refine kO hT hC ?_
 exact Vc.nil (Xah kR)
def Xwb (r : Int) : AV := .sv (.int .i64 r)
def Xwa (r : Int) : Xa5 := []
theorem Xnq {p0 p1 r} (h : Xe1 p0 p1 = some r) : AC Tryz.prog 237 [.sv (.int .i64 p0), .sv (.int .i64 p1)] [] (Xwb r) (Xwa r) := by
 refine Xag hT Tryz.func237 rfl fun C hC => ?_
 unfold Xe1 at h
 refine Xac ?_
 refine kO hT hC ?_
 refine Vc.nil (Xas ?_)
 refine kL [0,1] [] [_,_] [] ?_
 refine kA h (fun v1 => ([(14, .sv (.bool v1))], [])) (fun v1 h => ?_) fun v1 h => ?_
 refine Xab ?_
 refine kO hT hC ?_
 refine kC hC [] Tryz.call53 h (fun _ => Xal) fun q2 h => ?_
 iterate 2 refine kO hT hC ?_
 refine kS h ?_ ?_ <;> intro b1 h
 refine kI hT hC (kn b1) ?_
 refine kE hC (kn b1) [] Tryz.call53 h (fun _ => Xal) fun q3 h => ?_
 refine kI hT hC (kn b1) ?_
 refine kP hC false (kn b1) ?_
 exact Vc.nil kM
 iterate 3 refine kF hC (kn b1) ?_
 refine kP hC true (kn b1) ?_
 exact Vc.nil kM
 refine kS h ?_ ?_ <;> intro b2 h
 refine kt b2 (Xac ?_)
 refine kO hT hC ?_
 exact Vc.nil (Xah (Xat kR))
 refine kf b2 (Xaf (Xae (Xac ?_)))
 refine kO hT hC ?_
 refine Vc.nil (Xas (Xac ?_))
 iterate 4 refine kO hT hC ?_
 refine Vc.nil ?_
 refine kL [5,6] [] [_,_] [] ?_
 refine kX h (fun v6 => ([(5, .sv (.int .i64 v6.1)), (6, .sv (.int .i64 v6.2))], [])) (fun v9 => ([(5, .sv (.int .i64 v9)), (6, .any)], [])) (kW hC []) (fun v6 s h => ?_) fun v9 h => ?_
 unfold Xfx at h
 refine Xas (Xac ?_)
 iterate 2 refine kO hT hC ?_
 refine Vc.nil ?_
 refine kS h ?_ ?_ <;> intro b7 h
 refine kt b7 (Xaf (Xae ?_))
 refine kL [5,6] [] [_,_] [] ?_
 refine kA h (fun v10 => ([(5, .sv (.int .i64 v10))], [])) (fun v10 h => ?_) fun v10 h => ?_
 refine Xam (Xac ?_)
 refine kO hT hC ?_
 refine kQ hT hC h fun h => ?_
 refine kO hT hC ?_
 refine Vc.nil ?_
 refine kS h ?_ ?_ <;> intro b8 h
 refine kt b8 (Xab ?_)
 iterate 3 refine kO hT hC ?_
 exact Vc.nil (Xap kM)
 exact kf b8 (Xaf (Xap kM))
 refine Xab ?_
 refine kO hT hC ?_
 refine kQ hT hC h fun h => ?_
 refine kO hT hC ?_
 exact Vc.nil kG
 exact kf b7 (Xaq (Xaw ku))
 refine Xae (Xac ?_)
 iterate 2 refine kO hT hC ?_
 exact Vc.nil (Xah kR)
def Xwj (r : Int) : AV := .sv (.int .i64 r)
def Xwi (r : Int) : Xa5 := []
theorem Xyh {p0 p1 p2 r} (h : Xf6 p0 p1 p2 = some r) : AC Tryz.prog 236 [.sv (.ints .i64 p0), .sv (.int .i64 p1), .sv (.int .i64 p2)] [] (Xwj r) (Xwi r) := by
 refine Xag hT Tryz.func236 rfl fun C hC => ?_
 unfold Xf6 at h
 refine Xac ?_
 refine kO hT hC ?_
 refine kN ?_
 refine kO hT hC ?_
 refine Vc.nil (Xas (Xac ?_))
 refine kO hT hC ?_
 refine Vc.nil ?_
 refine kL [0,1,2,7,8] [] [_,_,_,_,_] [] ?_
 refine kX h (fun v3 => ([(7, .sv (.int .i64 v3.1)), (8, .sv (.int .i64 v3.2))], [])) (fun v6 => ([(7, .sv (.int .i64 v6)), (0, .any), (1, .any), (2, .any), (8, .any)], [])) (kW hC []) (fun v3 s h => ?_) fun v6 h => ?_
 unfold Xcu at h
 refine Xas (Xac ?_)
 iterate 2 refine kO hT hC ?_
 refine Vc.nil ?_
 refine kS h ?_ ?_ <;> intro b3 h
 refine kt b3 (Xaf (Xae (Xas (Xam ?_))))
 refine Xdo hm ?_
 iterate 6 refine kO hT hC ?_
 refine kQ hT hC h fun h => ?_
 iterate 3 refine kO hT hC ?_
 refine kC hC [] Tryz.call237 h (fun _ => Xnq) fun q7 h => ?_
 iterate 3 refine kO hT hC ?_
 refine kD (Xap (Xae (Xab ?_)))
 iterate 3 refine kO hT hC ?_
 exact Vc.nil kG
 exact kf b3 (Xaq (Xaw ku))
 refine Xae (Xac ?_)
 iterate 2 refine kO hT hC ?_
 exact Vc.nil (Xah kR)
def Xta (r : (List Int)) : AV := .own 16
def Xs9 (r : (List Int)) : Xa5 := [(16, .ints .i64 r)]
theorem Xwk {p0 r} (h : Xe5 p0 = some r) : AC Tryz.prog 201 [.sv (.ints .i64 p0)] [] (Xta r) (Xs9 r) := by
 refine Xag hT Tryz.func201 rfl fun C hC => ?_
 unfold Xe5 at h
 refine Xac ?_
 refine kO hT hC ?_
 refine kN ?_
 iterate 2 refine kO hT hC ?_
 refine Vc.nil (Xas (Xac ?_))
 refine kO hT hC ?_
 refine Vc.nil ?_
 refine kL [0,3,4] [176] [_,_,_] [_] ?_
 refine kX h (fun v10 => ([(4, .sv (.int .i64 v10.1))], [(176, some (.ints .i64 v10.2))])) (fun v20 => ([(0, .any), (4, .any)], [(176, some (.ints .i64 v20))])) (kW hC []) (fun v10 s h => ?_) fun v20 h => ?_
 unfold Xb2 at h
 refine Xas (Xac ?_)
 iterate 2 refine kO hT hC ?_
 refine Vc.nil ?_
 refine kS h ?_ ?_ <;> intro b9 h
 refine kt b9 (Xaf (Xae (Xas (Xam (Xac ?_)))))
 refine kO hT hC ?_
 refine Vc.nil ?_
 refine kL [0,3,4,5] [176] [_,_,_,_] [_] ?_
 refine kX h (fun v23 => ([(5, .sv (.int .i64 v23.1))], [(176, some (.ints .i64 v23.2))])) (fun v26 => ([(5, .any)], [(176, some (.ints .i64 v26))])) (kW hC []) (fun v23 s h => ?_) fun v26 h => ?_
 unfold Xb3 at h
 refine Xas (Xac ?_)
 iterate 2 refine kO hT hC ?_
 refine Vc.nil ?_
 refine kS h ?_ ?_ <;> intro b12 h
 refine kt b12 (Xaf (Xae (Xas (Xam (Xab ?_)))))
 iterate 4 refine kO hT hC ?_
 refine kC hC [] Tryz.call236 h (fun _ => Xyh) fun q27 h => ?_
 refine kO hT hC ?_
 refine kT hT hC h fun h => ?_
 refine kO hT hC ?_
 refine Vc.nil (Xap (Xae (Xab ?_)))
 iterate 3 refine kO hT hC ?_
 refine Vc.nil ?_
 obtain rfl := kj h
 exact Ycs (kW hC [(176, 416)])
 exact kf b12 (Xaq (Xaw ku))
 refine Xap (Xae (Xab ?_))
 iterate 3 refine kO hT hC ?_
 exact Vc.nil kG
 exact kf b9 (Xaq (Xaw ku))
 refine Xae (Xac ?_)
 iterate 2 refine kO hT hC ?_
 refine Vc.nil (Xas (Xac ?_))
 refine kO hT hC ?_
 refine Vc.nil ?_
 refine kL [3,6,7] [176,432] [_,_,_] [_,_] ?_
 refine kX h (fun v60 => ([(7, .sv (.int .i64 v60.1))], [(432, some (.ints .i64 v60.2))])) (fun v91 => ([(3, .any), (7, .any)], [(432, some (.ints .i64 v91)), (176, none)])) (kW hC []) (fun v60 s h => ?_) fun v91 h => ?_
 unfold Xbq at h
 refine Xas (Xac ?_)
 iterate 2 refine kO hT hC ?_
 refine Vc.nil ?_
 refine kS h ?_ ?_ <;> intro b39 h
 refine kt b39 (Xaf (Xae (Xas (Xam (Xac ?_)))))
 refine kO hT hC ?_
 refine Vc.nil ?_
 refine kL [3,6,7,8] [176,432] [_,_,_,_] [_,_] ?_
 refine kX h (fun v101 => ([(8, .sv (.int .i64 v101.1))], [(432, some (.ints .i64 v101.2))])) (fun v111 => ([(8, .any)], [(432, some (.ints .i64 v111))])) (kW hC []) (fun v101 s h => ?_) fun v111 h => ?_
 unfold Xbr at h
 refine Xas (Xac ?_)
 iterate 2 refine kO hT hC ?_
 refine Vc.nil ?_
 refine kS h ?_ ?_ <;> intro b48 h
 refine kt b48 (Xaf (Xae (Xas (Xam (Xac ?_)))))
 refine kO hT hC ?_
 refine Vc.nil (Xas (Xac ?_))
 refine kO hT hC ?_
 refine Vc.nil ?_
 refine kL [3,6,7,8,9,10] [176,432] [_,_,_,_,_,_] [_,_] ?_
 refine kX h (fun v114 => ([(9, .sv (.int .i64 v114.1)), (10, .sv (.int .i64 v114.2))], [])) (fun v117 => ([(9, .sv (.int .i64 v117)), (10, .any)], [])) (kW hC []) (fun v114 s h => ?_) fun v117 h => ?_
 unfold Xbs at h
 refine Xas (Xac ?_)
 iterate 2 refine kO hT hC ?_
 refine Vc.nil ?_
 refine kS h ?_ ?_ <;> intro b51 h
 refine kt b51 (Xaf (Xae (Xas (Xam ?_))))
 refine Xdo hm ?_
 iterate 3 refine kO hT hC ?_
 refine kC hC [] Tryz.call237 h (fun _ => Xnq) fun q118 h => ?_
 iterate 5 refine kO hT hC ?_
 iterate 2 refine kQ hT hC h fun h => ?_
 iterate 3 refine kO hT hC ?_
 refine kD (Xap (Xae (Xab ?_)))
 iterate 3 refine kO hT hC ?_
 exact Vc.nil kG
 exact kf b51 (Xaq (Xaw ku))
 refine Xae (Xab ?_)
 iterate 3 refine kO hT hC ?_
 refine kT hT hC h fun h => ?_
 refine kO hT hC ?_
 refine Vc.nil (Xap (Xae (Xab ?_)))
 iterate 3 refine kO hT hC ?_
 refine Vc.nil ?_
 obtain rfl := kj h
 exact Ycs (kW hC [(432, 896)])
 exact kf b48 (Xaq (Xaw ku))
 refine Xap (Xae (Xab ?_))
 iterate 3 refine kO hT hC ?_
 exact Vc.nil kG
 exact kf b39 (Xaq (Xaw ku))
 refine Xae (Xac ?_)
 iterate 2 refine kO hT hC ?_
 refine Vc.nil (Xah ?_)
 obtain rfl := kj h
 exact Xcw (τ := ⟨[(2, .own 16)], [(16, some (.ints .i64 v91))]⟩) (kW hC [(16, 432)]) rfl ⟨rfl, trivial⟩
def Xs6 (r : Int) : AV := .sv (.int .i64 r)
def Xs5 (r : Int) : Xa5 := []
theorem Xg6 {p0 p1 r} (h : Xb1 p0 p1 = some r) : AC Tryz.prog 207 [.sv (.int .i64 p0), .sv (.int .i64 p1)] [] (Xs6 r) (Xs5 r) := by
 refine Xag hT Tryz.func207 rfl fun C hC => ?_
 unfold Xb1 at h
 refine Xac ?_
 refine kO hT hC ?_
 refine kN ?_
 iterate 2 refine kO hT hC ?_
 refine kQ hT hC h fun h => ?_
 refine kO hT hC ?_
 refine Vc.nil ?_
 refine kL [0,1,5] [] [_,_,_] [] ?_
 refine kA h (fun v1 => ([(5, .sv (.int .i64 v1)), (0, .any), (1, .any)], [])) (fun v1 h => ?_) fun v1 h => ?_
 refine Xac ?_
 iterate 2 refine kO hT hC ?_
 refine kQ hT hC h fun h => ?_
 refine kO hT hC ?_
 refine Vc.nil ?_
 refine kS h ?_ ?_ <;> intro b1 h
 refine kt b1 (Xab ?_)
 iterate 3 refine kO hT hC ?_
 exact Vc.nil kM
 exact kf b1 (Xaf kM)
 refine Xac ?_
 iterate 2 refine kO hT hC ?_
 exact Vc.nil (Xah kR)
def Xpw (r : (List Int)) : AV := .own 16
def Xpv (r : (List Int)) : Xa5 := [(16, .ints .i64 r)]
theorem Xq5 {p0 r} (h : Xdi p0 = some r) : AC Tryz.prog 162 [.sv (.ints .i64 p0)] [] (Xpw r) (Xpv r) := by
 refine Xag hT Tryz.func162 rfl fun C hC => ?_
 unfold Xdi at h
 refine Xac ?_
 refine kO hT hC ?_
 refine Vc.nil (Xas (Xac ?_))
 refine kO hT hC ?_
 refine kC hC [] Tryz.call150 h (fun _ => Xei) fun q1 h => ?_
 refine kO hT hC ?_
 refine Vc.nil ?_
 refine kS h ?_ ?_ <;> intro b1 h
 refine kt b1 (Xac ?_)
 iterate 2 refine kO hT hC ?_
 refine Vc.nil (Xah (Xat ?_))
 obtain rfl := kj h
 exact Xcw (τ := ⟨[(2, .own 16)], [(16, some (.ints .i64 ([] : List Int)))]⟩) (kW hC [(16, 128)]) rfl ⟨rfl, trivial⟩
 refine kf b1 (Xaf (Xae (Xac ?_)))
 refine kO hT hC ?_
 refine kC hC [(16, 160)] Tryz.call201 h (fun _ => Xwk) fun q2 h => ?_
 refine kO hT hC ?_
 refine Vc.nil (Xas (Xac ?_))
 refine kO hT hC ?_
 refine Vc.nil ?_
 refine kL [3,4] [160] [_,_] [_] ?_
 refine kX h (fun v5 => ([(4, .sv (.int .i64 v5.1))], [(160, some (.ints .i64 v5.2))])) (fun v8 => ([(4, .any)], [(160, some (.ints .i64 v8))])) (kW hC []) (fun v5 s h => ?_) fun v8 h => ?_
 unfold Xdu at h
 refine Xas (Xac ?_)
 iterate 2 refine kO hT hC ?_
 refine Vc.nil ?_
 refine kS h ?_ ?_ <;> intro b4 h
 refine kt b4 (Xaf (Xae (Xas (Xam (Xab ?_)))))
 iterate 4 refine kO hT hC ?_
 iterate 2 refine kQ hT hC h fun h => ?_
 refine kO hT hC ?_
 refine kC hC [] Tryz.call207 h (fun _ => Xg6) fun q9 h => ?_
 iterate 2 refine kQ hT hC h fun h => ?_
 refine Vc.nil (Xap (Xae (Xab ?_)))
 iterate 3 refine kO hT hC ?_
 exact Vc.nil kG
 exact kf b4 (Xaq (Xaw ku))
 refine Xae (Xac ?_)
 iterate 2 refine kO hT hC ?_
 refine Vc.nil (Xah ?_)
 obtain rfl := kj h
 exact Xcw (τ := ⟨[(2, .own 16)], [(16, some (.ints .i64 v8))]⟩) (kW hC [(16, 160)]) rfl ⟨rfl, trivial⟩
def Xv3 (r : Int) : AV := .sv (.int .i64 r)
def Xv2 (r : Int) : Xa5 := []
theorem Xx0 {p0 r} (h : Xhm p0 = some r) : AC Tryz.prog 238 [.sv (.int .i64 p0)] [] (Xv3 r) (Xv2 r) := by
 refine Xag hT Tryz.func238 rfl fun C hC => ?_
 unfold Xhm at h
 refine Xac ?_
 refine kO hT hC ?_
 refine Vc.nil (Xas (Xac ?_))
 refine kO hT hC ?_
 refine kC hC [] Tryz.call53 h (fun _ => Xal) fun q1 h => ?_
 refine kO hT hC ?_
 refine Vc.nil ?_
 refine kS h ?_ ?_ <;> intro b1 h
 refine kt b1 (Xac ?_)
 refine kO hT hC ?_
 exact Vc.nil (Xah (Xat kR))
 refine kf b1 (Xaf (Xae (Xac ?_)))
 refine kO hT hC ?_
 iterate 2 refine kQ hT hC h fun h => ?_
 refine kO hT hC ?_
 refine kN ?_
 refine kO hT hC ?_
 iterate 2 refine kQ hT hC h fun h => ?_
 refine kO hT hC ?_
 refine Vc.nil (Xas ?_)
 refine kL [3,4] [] [_,_] [] ?_
 refine kA h (fun v2 => ([(19, .sv (.bool v2))], [])) (fun v2 h => ?_) fun v2 h => ?_
 refine Xab ?_
 iterate 3 refine kO hT hC ?_
 refine kS h ?_ ?_ <;> intro b2 h
 iterate 2 refine kI hT hC b2 ?_
 refine kP hC true b2 ?_
 exact Vc.nil kM
 iterate 2 refine kF hC b2 ?_
 refine kP hC false b2 ?_
 exact Vc.nil kM
 refine kS h ?_ ?_ <;> intro b3 h
 refine kt b3 (Xac ?_)
 refine kO hT hC ?_
 exact Vc.nil (Xah (Xat kR))
 refine kf b3 (Xaf (Xae (Xas ?_)))
 refine kL [3,4] [] [_,_] [] ?_
 refine kA h (fun v3 => ([(25, .sv (.bool v3)), (3, .any), (4, .any)], [])) (fun v3 h => ?_) fun v3 h => ?_
 refine Xab ?_
 iterate 3 refine kO hT hC ?_
 refine kS h ?_ ?_ <;> intro b4 h
 iterate 2 refine kI hT hC b4 ?_
 refine kP hC true b4 ?_
 exact Vc.nil kM
 iterate 2 refine kF hC b4 ?_
 refine kP hC false b4 ?_
 exact Vc.nil kM
 refine kS h ?_ ?_ <;> intro b5 h
 refine kt b5 (Xac ?_)
 refine kO hT hC ?_
 exact Vc.nil (Xah (Xat kR))
 refine kf b5 (Xaf (Xae (Xac ?_)))
 refine kO hT hC ?_
 exact Vc.nil (Xah kR)
def Xs4 (r : Int) : AV := .sv (.int .i64 r)
def Xs3 (r : Int) : Xa5 := []
theorem Xdx {p0 p1 p2 p3 r} (h : Xbb p0 p1 p2 p3 = some r) : AC Tryz.prog 239 [.sv (.int .i64 p0), .sv (.int .i64 p1), .sv (.int .i64 p2), .sv (.int .i64 p3)] [] (Xs4 r) (Xs3 r) := by
 refine Xag hT Tryz.func239 rfl fun C hC => ?_
 unfold Xbb at h
 refine Xac ?_
 refine kO hT hC ?_
 refine Vc.nil (Xas (Xac ?_))
 refine kO hT hC ?_
 refine Vc.nil (Xam (Xac ?_))
 iterate 2 refine kO hT hC ?_
 refine Vc.nil ?_
 refine kS h ?_ ?_ <;> intro b1 h
 refine kt b1 (Xac ?_)
 iterate 2 refine kO hT hC ?_
 exact Vc.nil (Xah (Xgj (Xat kR)))
 refine kf b1 (Xac ?_)
 iterate 2 refine kO hT hC ?_
 refine Vc.nil ?_
 refine kS h ?_ ?_ <;> intro b2 h
 refine kt b2 (Xac ?_)
 iterate 2 refine kO hT hC ?_
 exact Vc.nil (Xah (Xgj (Xat kR)))
 refine kf b2 (Xaf (Xap (Xae (Xac ?_))))
 iterate 2 refine kO hT hC ?_
 exact Vc.nil (Xah kR)
def Xsx (r : Int) : AV := .sv (.int .i64 r)
def Xsw (r : Int) : Xa5 := []
theorem Xv8 {p0 p1 r} (h : Xe0 p0 p1 = some r) : AC Tryz.prog 208 [.sv (.int .i64 p0), .sv (.int .i64 p1)] [] (Xsx r) (Xsw r) := by
 refine Xag hT Tryz.func208 rfl fun C hC => ?_
 unfold Xe0 at h
 refine Xac ?_
 refine kO hT hC ?_
 refine kN ?_
 refine kO hT hC ?_
 refine kC hC [] Tryz.call238 h (fun _ => Xx0) fun q1 h => ?_
 refine kO hT hC ?_
 refine Vc.nil (Xas ?_)
 refine kL [0,5] [] [_,_] [] ?_
 refine kA h (fun v2 => ([(16, .sv (.bool v2))], [])) (fun v2 h => ?_) fun v2 h => ?_
 refine Xab ?_
 refine kO hT hC ?_
 refine kC hC [] Tryz.call53 h (fun _ => Xal) fun q3 h => ?_
 iterate 2 refine kO hT hC ?_
 refine kS h ?_ ?_ <;> intro b1 h
 iterate 2 refine kI hT hC (kn b1) ?_
 refine kP hC false (kn b1) ?_
 exact Vc.nil kM
 iterate 2 refine kF hC (kn b1) ?_
 refine kP hC true (kn b1) ?_
 exact Vc.nil kM
 refine kS h ?_ ?_ <;> intro b2 h
 refine kt b2 (Xac ?_)
 refine kO hT hC ?_
 exact Vc.nil (Xah (Xat kR))
 refine kf b2 (Xaf (Xae (Xac ?_)))
 refine kO hT hC ?_
 refine Vc.nil ?_
 refine kL [0,5,6] [] [_,_,_] [] ?_
 refine kA h (fun v4 => ([(6, .sv (.int .i64 v4)), (5, .any)], [])) (fun v4 h => ?_) fun v4 h => ?_
 refine Xac ?_
 refine kO hT hC ?_
 refine kQ hT hC h fun h => ?_
 refine Vc.nil (Xam (Xac ?_))
 iterate 2 refine kO hT hC ?_
 refine Vc.nil ?_
 refine kS h ?_ ?_ <;> intro b3 h
 refine kt b3 (Xab ?_)
 refine kO hT hC ?_
 refine kC hC [] Tryz.call239 h (fun _ => Xdx) fun q5 h => ?_
 refine kO hT hC ?_
 exact Vc.nil (Xap kM)
 refine kf b3 (Xac ?_)
 iterate 2 refine kO hT hC ?_
 refine Vc.nil ?_
 refine kS h ?_ ?_ <;> intro b4 h
 refine kt b4 (Xab ?_)
 refine kO hT hC ?_
 refine kC hC [] Tryz.call239 h (fun _ => Xdx) fun q6 h => ?_
 refine kO hT hC ?_
 exact Vc.nil (Xap kM)
 refine kf b4 (Xac ?_)
 iterate 2 refine kO hT hC ?_
 refine Vc.nil ?_
 refine kS h ?_ ?_ <;> intro b5 h
 refine kt b5 (Xab ?_)
 refine kO hT hC ?_
 refine kC hC [] Tryz.call239 h (fun _ => Xdx) fun q7 h => ?_
 refine kO hT hC ?_
 exact Vc.nil (Xap kM)
 refine kf b5 (Xac ?_)
 iterate 2 refine kO hT hC ?_
 refine Vc.nil ?_
 refine kS h ?_ ?_ <;> intro b6 h
 refine kt b6 (Xab ?_)
 refine kO hT hC ?_
 refine kC hC [] Tryz.call239 h (fun _ => Xdx) fun q8 h => ?_
 refine kO hT hC ?_
 exact Vc.nil (Xap kM)
 refine kf b6 (Xac ?_)
 iterate 2 refine kO hT hC ?_
 refine Vc.nil ?_
 refine kS h ?_ ?_ <;> intro b7 h
 refine kt b7 (Xab ?_)
 refine kO hT hC ?_
 refine kC hC [] Tryz.call239 h (fun _ => Xdx) fun q9 h => ?_
 refine kO hT hC ?_
 exact Vc.nil (Xap kM)
 refine kf b7 (Xac ?_)
 iterate 2 refine kO hT hC ?_
 refine Vc.nil ?_
 refine kS h ?_ ?_ <;> intro b8 h
 refine kt b8 (Xab ?_)
 refine kO hT hC ?_
 refine kC hC [] Tryz.call239 h (fun _ => Xdx) fun q10 h => ?_
 refine kO hT hC ?_
 exact Vc.nil (Xap kM)
 exact kf b8 (Xaf (Xap kM))
 refine Xas (Xac ?_)
 refine kO hT hC ?_
 refine Vc.nil ?_
 refine kL [0,6,7] [] [_,_,_] [] ?_
 refine kX h (fun v12 => ([(6, .sv (.int .i64 v12.1)), (7, .sv (.int .i64 v12.2))], [])) (fun v14 => ([(6, .sv (.int .i64 v14)), (0, .any), (7, .any)], [])) (kW hC []) (fun v12 s h => ?_) fun v14 h => ?_
 unfold Xc3 at h
 refine Xas (Xac ?_)
 iterate 2 refine kO hT hC ?_
 refine kQ hT hC h fun h => ?_
 refine kO hT hC ?_
 refine Vc.nil ?_
 refine kS h ?_ ?_ <;> intro b11 h
 refine kt b11 (Xaf (Xae (Xas (Xam (Xab ?_)))))
 iterate 3 refine kO hT hC ?_
 refine Vc.nil (Xap (Xae (Xab ?_)))
 iterate 3 refine kO hT hC ?_
 exact Vc.nil kG
 exact kf b11 (Xaq (Xaw ku))
 refine Xae (Xac ?_)
 iterate 2 refine kO hT hC ?_
 exact Vc.nil (Xah kR)
def Xp2 (r : Int) : AV := .sv (.int .i64 r)
def Xp1 (r : Int) : Xa5 := []
theorem Xrb {p0 p1 p2 r} (h : Xdl p0 p1 p2 = some r) : AC Tryz.prog 163 [.sv (.int .i64 p0), .sv (.int .i64 p1), .sv (.int .i64 p2)] [] (Xp2 r) (Xp1 r) := by
 refine Xag hT Tryz.func163 rfl fun C hC => ?_
 unfold Xdl at h
 refine Xac ?_
 refine kO hT hC ?_
 refine Vc.nil (Xas (Xac ?_))
 refine kO hT hC ?_
 refine kC hC [] Tryz.call53 h (fun _ => Xal) fun q1 h => ?_
 refine kO hT hC ?_
 refine Vc.nil ?_
 refine kS h ?_ ?_ <;> intro b1 h
 refine kt b1 (Xac ?_)
 refine kO hT hC ?_
 exact Vc.nil (Xah (Xat kR))
 refine kf b1 (Xaf (Xae (Xac ?_)))
 iterate 3 refine kO hT hC ?_
 refine kC hC [] Tryz.call208 h (fun _ => Xv8) fun q2 h => ?_
 iterate 2 refine kO hT hC ?_
 exact Vc.nil (Xah kR)
def Xrh (r : (List Int)) : AV := .own 16
def Xrg (r : (List Int)) : Xa5 := [(16, .ints .i64 r)]
theorem Xln {p0 r} (h : Xdc p0 = some r) : AC Tryz.prog 209 [.sv (.ints .i64 p0)] [] (Xrh r) (Xrg r) := by
 refine Xag hT Tryz.func209 rfl fun C hC => ?_
 unfold Xdc at h
 refine Xac ?_
 refine kO hT hC ?_
 refine kN ?_
 iterate 2 refine kO hT hC ?_
 refine Vc.nil (Xas (Xac ?_))
 refine kO hT hC ?_
 refine Vc.nil ?_
 refine kL [0,3,4] [208] [_,_,_] [_] ?_
 refine kX h (fun v4 => ([(4, .sv (.int .i64 v4.1))], [(208, some (.ints .i64 v4.2))])) (fun v8 => ([(0, .any), (4, .any)], [(208, some (.ints .i64 v8))])) (kW hC []) (fun v4 s h => ?_) fun v8 h => ?_
 unfold Xb0 at h
 refine Xas (Xac ?_)
 iterate 2 refine kO hT hC ?_
 refine Vc.nil ?_
 refine kS h ?_ ?_ <;> intro b3 h
 refine kt b3 (Xaf (Xae (Xas (Xam (Xac ?_)))))
 iterate 3 refine kO hT hC ?_
 refine kQ hT hC h fun h => ?_
 iterate 2 refine kO hT hC ?_
 refine kN ?_
 iterate 4 refine kO hT hC ?_
 refine kQ hT hC h fun h => ?_
 iterate 2 refine kO hT hC ?_
 refine kN ?_
 iterate 4 refine kO hT hC ?_
 refine kQ hT hC h fun h => ?_
 iterate 2 refine kO hT hC ?_
 refine kN ?_
 iterate 4 refine kO hT hC ?_
 refine kQ hT hC h fun h => ?_
 iterate 2 refine kO hT hC ?_
 refine kN ?_
 iterate 4 refine kO hT hC ?_
 refine kN ?_
 iterate 4 refine kO hT hC ?_
 refine kN ?_
 refine kO hT hC ?_
 refine kC hC [] Tryz.call207 h (fun _ => Xg6) fun q9 h => ?_
 iterate 3 refine kO hT hC ?_
 refine kN ?_
 iterate 2 refine kO hT hC ?_
 refine kC hC [] Tryz.call207 h (fun _ => Xg6) fun q10 h => ?_
 iterate 2 refine kO hT hC ?_
 refine Vc.nil (Xab ?_)
 iterate 14 refine kO hT hC ?_
 refine kT hT hC h fun h => ?_
 refine kO hT hC ?_
 refine Vc.nil (Xap (Xae (Xab ?_)))
 iterate 3 refine kO hT hC ?_
 refine Vc.nil ?_
 obtain rfl := kj h
 exact Ycs (kW hC [(208, 1104)])
 exact kf b3 (Xaq (Xaw ku))
 refine Xae (Xac ?_)
 iterate 2 refine kO hT hC ?_
 refine Vc.nil (Xah ?_)
 obtain rfl := kj h
 exact Xcw (τ := ⟨[(2, .own 16)], [(16, some (.ints .i64 v8))]⟩) (kW hC [(16, 208)]) rfl ⟨rfl, trivial⟩
def Xs8 (r : (List Int)) : AV := .own 16
def Xs7 (r : (List Int)) : Xa5 := [(16, .ints .i64 r)]
theorem Xml {p0 r} (h : Xd2 p0 = some r) : AC Tryz.prog 204 [.sv (.ints .i64 p0)] [] (Xs8 r) (Xs7 r) := by
 refine Xag hT Tryz.func204 rfl fun C hC => ?_
 unfold Xd2 at h
 refine Xac ?_
 refine kO hT hC ?_
 refine kN ?_
 obtain ⟨hq, h⟩ := Xay h
 refine Ybg hT hC rfl rfl rfl rfl ⟨hq.1, hq.2.1, hq.2.2, by decide⟩ ?_
 refine kO hT hC ?_
 refine Vc.nil (Xas (Xac ?_))
 refine kO hT hC ?_
 refine Vc.nil ?_
 refine kL [0,3,4] [80] [_,_,_] [_] ?_
 refine kX h (fun v2 => ([(4, .sv (.int .i64 v2.1))], [(80, some (.ints .i64 v2.2))])) (fun v4 => ([(0, .any), (4, .any)], [(80, some (.ints .i64 v4))])) (kW hC []) (fun v2 s h => ?_) fun v4 h => ?_
 unfold Xcg at h
 refine Xas (Xac ?_)
 iterate 2 refine kO hT hC ?_
 refine Vc.nil ?_
 refine kS h ?_ ?_ <;> intro b3 h
 refine kt b3 (Xaf (Xae (Xas (Xam (Xab ?_)))))
 iterate 2 refine kO hT hC ?_
 refine kQ hT hC h fun h => ?_
 iterate 2 refine kO hT hC ?_
 refine kQ hT hC h fun h => ?_
 iterate 3 refine kO hT hC ?_
 refine kQ hT hC h fun h => ?_
 refine kO hT hC ?_
 iterate 2 refine kQ hT hC h fun h => ?_
 refine Vc.nil (Xap (Xae (Xab ?_)))
 iterate 3 refine kO hT hC ?_
 exact Vc.nil kG
 exact kf b3 (Xaq (Xaw ku))
 refine Xae (Xac ?_)
 iterate 2 refine kO hT hC ?_
 refine Vc.nil (Xah ?_)
 obtain rfl := kj h
 exact Xcw (τ := ⟨[(2, .own 16)], [(16, some (.ints .i64 v4))]⟩) (kW hC [(16, 80)]) rfl ⟨rfl, trivial⟩
def Xq8 (r : (List Int)) : AV := .own 16
def Xq7 (r : (List Int)) : Xa5 := [(16, .ints .i64 r)]
theorem Xst {p0 r} (h : Xd8 p0 = some r) : AC Tryz.prog 164 [.sv (.ints .i64 p0)] [] (Xq8 r) (Xq7 r) := by
 refine Xag hT Tryz.func164 rfl fun C hC => ?_
 unfold Xd8 at h
 refine Xac ?_
 refine kO hT hC ?_
 refine Vc.nil (Xas (Xac ?_))
 refine kO hT hC ?_
 refine kC hC [] Tryz.call150 h (fun _ => Xei) fun q1 h => ?_
 refine kO hT hC ?_
 refine Vc.nil ?_
 refine kS h ?_ ?_ <;> intro b1 h
 refine kt b1 (Xac ?_)
 iterate 2 refine kO hT hC ?_
 refine Vc.nil (Xah (Xat ?_))
 obtain rfl := kj h
 exact Xcw (τ := ⟨[(2, .own 16)], [(16, some (.ints .i64 ([] : List Int)))]⟩) (kW hC [(16, 128)]) rfl ⟨rfl, trivial⟩
 refine kf b1 (Xaf (Xae (Xac ?_)))
 refine kO hT hC ?_
 refine kC hC [(16, 160)] Tryz.call209 h (fun _ => Xln) fun q2 h => ?_
 refine kC hC [(16, 176)] Tryz.call204 h (fun _ => Xml) fun q3 h => ?_
 refine kC hC [(16, 192)] Tryz.call209 h (fun _ => Xln) fun q4 h => ?_
 refine kC hC [(16, 208)] Tryz.call204 h (fun _ => Xml) fun q5 h => ?_
 refine kO hT hC ?_
 refine Vc.nil (Xas (Xac ?_))
 refine kO hT hC ?_
 refine Vc.nil ?_
 refine kL [3,4] [208] [_,_] [_] ?_
 refine kX h (fun v8 => ([(4, .sv (.int .i64 v8.1))], [(208, some (.ints .i64 v8.2))])) (fun v11 => ([(4, .any)], [(208, some (.ints .i64 v11))])) (kW hC []) (fun v8 s h => ?_) fun v11 h => ?_
 unfold Xed at h
 refine Xas (Xac ?_)
 iterate 2 refine kO hT hC ?_
 refine Vc.nil ?_
 refine kS h ?_ ?_ <;> intro b4 h
 refine kt b4 (Xaf (Xae (Xas (Xam (Xab ?_)))))
 iterate 4 refine kO hT hC ?_
 iterate 2 refine kQ hT hC h fun h => ?_
 refine kO hT hC ?_
 refine kC hC [] Tryz.call207 h (fun _ => Xg6) fun q12 h => ?_
 iterate 2 refine kQ hT hC h fun h => ?_
 refine Vc.nil (Xap (Xae (Xab ?_)))
 iterate 3 refine kO hT hC ?_
 exact Vc.nil kG
 exact kf b4 (Xaq (Xaw ku))
 refine Xae (Xac ?_)
 iterate 2 refine kO hT hC ?_
 refine Vc.nil (Xah ?_)
 obtain rfl := kj h
 exact Xcw (τ := ⟨[(2, .own 16)], [(16, some (.ints .i64 v11))]⟩) (kW hC [(16, 208)]) rfl ⟨rfl, trivial⟩
def Xoh (r : ((List Int) × Bool)) : AV := .tup [.own 16, .sv (.bool r.2)]
def Xog (r : ((List Int) × Bool)) : Xa5 := [(16, .ints .i64 r.1)]
theorem Xjp {p0 p1 r} (h : Xcf p0 p1 = some r) : AC Tryz.prog 106 [.sv (.ints .i64 p0), .agg [.sv (.bool p1.Key), .sv (.int .i64 p1.Qp), .sv (.bool p1.Large), .sv (.bool p1.Exact)]] [] (Xoh r) (Xog r) := by
 refine Xag hT Tryz.func106 rfl fun C hC => ?_
 unfold Xcf at h
 refine Xac ?_
 iterate 3 refine kO hT hC ?_
 refine Vc.nil (Xas ?_)
 refine kL [0,3] [48] [_,_] [_] ?_
 refine kA h (fun v1 => ([(23, .sv (.bool v1))], [])) (fun v1 h => ?_) fun v1 h => ?_
 refine Xab ?_
 refine kO hT hC ?_
 refine kC hC [] Tryz.call52 h (fun _ => Xhy) fun q2 h => ?_
 iterate 2 refine kO hT hC ?_
 refine kS h ?_ ?_ <;> intro b1 h
 refine kI hT hC (kn b1) ?_
 refine kE hC (kn b1) [] Tryz.call150 h (fun _ => Xei) fun q3 h => ?_
 refine kI hT hC (kn b1) ?_
 refine kP hC false (kn b1) ?_
 exact Vc.nil kM
 iterate 3 refine kF hC (kn b1) ?_
 refine kP hC true (kn b1) ?_
 exact Vc.nil kM
 refine kS h ?_ ?_ <;> intro b2 h
 refine kt b2 (Xac ?_)
 iterate 3 refine kO hT hC ?_
 refine Vc.nil (Xah (Xat ?_))
 obtain rfl := kj h
 exact Xcw (τ := ⟨[(4, .own 16), (5, .sv (.bool false))], [(16, some (.ints .i64 ([] : List Int)))]⟩) (kW hC [(16, 384)]) rfl ⟨rfl, trivial⟩
 refine kf b2 (Xaf (Xae (Xas (Xac ?_))))
 iterate 2 refine kO hT hC ?_
 refine Vc.nil ?_
 refine kS h ?_ ?_ <;> intro b3 h
 refine kt b3 (Xac ?_)
 refine kO hT hC ?_
 refine kC hC [(16, 448)] Tryz.call160 h (fun _ => Xhn) fun q4 h => ?_
 iterate 4 refine kO hT hC ?_
 refine Vc.nil (Xah (Xat ?_))
 obtain rfl := kj h
 exact Xcw (τ := ⟨[(4, .own 16), (5, .sv (.bool q4.2))], [(16, some (.ints .i64 q4.1))]⟩) (kW hC [(16, 448)]) rfl ⟨rfl, trivial⟩
 refine kf b3 (Xaf (Xae (Xas (Xac ?_))))
 iterate 2 refine kO hT hC ?_
 refine Vc.nil ?_
 refine kS h ?_ ?_ <;> intro b4 h
 refine kt b4 (Xac ?_)
 refine kO hT hC ?_
 refine kC hC [(16, 560)] Tryz.call160 h (fun _ => Xhn) fun q5 h => ?_
 iterate 5 refine kO hT hC ?_
 refine Vc.nil (Xas (Xac ?_))
 refine kO hT hC ?_
 refine Vc.nil ?_
 refine kL [3,6,8] [48,560] [_,_,_] [_,_] ?_
 refine kX h (fun v8 => ([(8, .sv (.int .i64 v8.1))], [(560, some (.ints .i64 v8.2))])) (fun v11 => ([(3, .any), (8, .any)], [(560, some (.ints .i64 v11)), (48, none)])) (kW hC []) (fun v8 s h => ?_) fun v11 h => ?_
 unfold Xa6 at h
 refine Xas (Xac ?_)
 iterate 2 refine kO hT hC ?_
 refine Vc.nil ?_
 refine kS h ?_ ?_ <;> intro b7 h
 refine kt b7 (Xaf (Xae (Xas (Xam ?_))))
 refine Xdo hm ?_
 iterate 4 refine kO hT hC ?_
 iterate 2 refine kQ hT hC h fun h => ?_
 iterate 2 refine kO hT hC ?_
 refine kC hC [] Tryz.call161 h (fun _ => Xq9) fun q12 h => ?_
 iterate 2 refine kQ hT hC h fun h => ?_
 refine kD (Xap (Xae (Xab ?_)))
 iterate 3 refine kO hT hC ?_
 exact Vc.nil kG
 exact kf b7 (Xaq (Xaw ku))
 refine Xae (Xac ?_)
 refine kO hT hC ?_
 refine kC hC [(16, 848)] Tryz.call162 h (fun _ => Xq5) fun q14 h => ?_
 iterate 2 refine kO hT hC ?_
 refine Vc.nil (Xah (Xat ?_))
 obtain rfl := kj h
 exact Xcw (τ := ⟨[(4, .own 16), (5, .sv (.bool true))], [(16, some (.ints .i64 q14))]⟩) (kW hC [(16, 848)]) rfl ⟨rfl, trivial⟩
 refine kf b4 (Xaf (Xae (Xac ?_)))
 obtain ⟨hq, h⟩ := Xay h
 refine Ybg hT hC rfl rfl rfl rfl ⟨hq.1, hq.2.1, hq.2.2, by decide⟩ ?_
 refine kO hT hC ?_
 refine Vc.nil (Xas (Xac ?_))
 refine kO hT hC ?_
 refine Vc.nil ?_
 refine kL [0,3,9,10] [48,864] [_,_,_,_] [_,_] ?_
 refine kX h (fun v31 => ([(10, .sv (.int .i64 v31.1))], [(864, some (.ints .i64 v31.2))])) (fun v48 => ([(0, .any), (3, .any), (10, .any)], [(864, some (.ints .i64 v48)), (48, none)])) (kW hC []) (fun v31 s h => ?_) fun v48 h => ?_
 unfold Xbm at h
 refine Xas (Xac ?_)
 iterate 2 refine kO hT hC ?_
 refine Vc.nil ?_
 refine kS h ?_ ?_ <;> intro b22 h
 refine kt b22 (Xaf (Xae (Xas (Xam (Xac ?_)))))
 iterate 6 refine kO hT hC ?_
 refine kQ hT hC h fun h => ?_
 refine kC hC [(16, 1072)] Tryz.call160 h (fun _ => Xhn) fun q49 h => ?_
 iterate 5 refine kO hT hC ?_
 refine Vc.nil (Xas (Xac ?_))
 refine kO hT hC ?_
 refine Vc.nil ?_
 refine kL [0,3,9,10,11,13] [48,864,1072] [_,_,_,_,_,_] [_,_,_] ?_
 refine kX h (fun v52 => ([(13, .sv (.int .i64 v52.1))], [(1072, some (.ints .i64 v52.2))])) (fun v55 => ([(13, .any)], [(1072, some (.ints .i64 v55))])) (kW hC []) (fun v52 s h => ?_) fun v55 h => ?_
 unfold Xa3 at h
 refine Xas (Xac ?_)
 iterate 2 refine kO hT hC ?_
 refine Vc.nil ?_
 refine kS h ?_ ?_ <;> intro b25 h
 refine kt b25 (Xaf (Xae (Xas (Xam ?_))))
 refine Xdo hm ?_
 iterate 4 refine kO hT hC ?_
 iterate 2 refine kQ hT hC h fun h => ?_
 iterate 3 refine kO hT hC ?_
 refine kC hC [] Tryz.call163 h (fun _ => Xrb) fun q56 h => ?_
 iterate 2 refine kQ hT hC h fun h => ?_
 refine kD (Xap (Xae (Xab ?_)))
 iterate 3 refine kO hT hC ?_
 exact Vc.nil kG
 exact kf b25 (Xaq (Xaw ku))
 refine Xae (Xac ?_)
 refine kO hT hC ?_
 refine kC hC [(16, 1376)] Tryz.call164 h (fun _ => Xst) fun q58 h => ?_
 refine kO hT hC ?_
 refine kN ?_
 refine kO hT hC ?_
 refine Vc.nil ?_
 refine kL [0,3,9,10,14,15] [48,864,1376] [_,_,_,_,_,_] [_,_,_] ?_
 refine kX h (fun v60 => ([(15, .sv (.int .i64 v60.1))], [(864, some (.ints .i64 v60.2))])) (fun v62 => ([(14, .any), (15, .any)], [(864, some (.ints .i64 v62)), (1376, none)])) (kW hC []) (fun v60 s h => ?_) fun v62 h => ?_
 unfold Xa7 at h
 refine Xas (Xac ?_)
 iterate 2 refine kO hT hC ?_
 refine Vc.nil ?_
 refine kS h ?_ ?_ <;> intro b28 h
 refine kt b28 (Xaf (Xae (Xas (Xam (Xab ?_)))))
 iterate 2 refine kO hT hC ?_
 refine kQ hT hC h fun h => ?_
 iterate 2 refine kO hT hC ?_
 refine kQ hT hC h fun h => ?_
 iterate 3 refine kO hT hC ?_
 refine kQ hT hC h fun h => ?_
 iterate 3 refine kO hT hC ?_
 refine kQ hT hC h fun h => ?_
 iterate 3 refine kO hT hC ?_
 iterate 4 refine kQ hT hC h fun h => ?_
 refine Vc.nil (Xap (Xae (Xab ?_)))
 iterate 3 refine kO hT hC ?_
 exact Vc.nil kG
 exact kf b28 (Xaq (Xaw ku))
 refine Xap (Xae (Xab ?_))
 iterate 3 refine kO hT hC ?_
 exact Vc.nil kG
 exact kf b22 (Xaq (Xaw ku))
 refine Xae (Xac ?_)
 iterate 3 refine kO hT hC ?_
 refine Vc.nil (Xah ?_)
 obtain rfl := kj h
 exact Xcw (τ := ⟨[(4, .own 16), (5, .sv (.bool true))], [(16, some (.ints .i64 v48))]⟩) (kW hC [(16, 864)]) rfl ⟨rfl, trivial⟩
def Xlw (r : Bool) : AV := .sv (.bool r)
def Xlv (r : Bool) : Xa5 := []
theorem Xmq {p0 r} (h : Xgh p0 = some r) : AC Tryz.prog 196 [.sv (.ints .i64 p0)] [] (Xlw r) (Xlv r) := by
 refine Xag hT Tryz.func196 rfl fun C hC => ?_
 unfold Xgh at h
 refine Xac ?_
 refine kO hT hC ?_
 refine Vc.nil (Xas ?_)
 refine kL [0] [] [_] [] ?_
 refine kA h (fun v1 => ([(11, .sv (.bool v1))], [])) (fun v1 h => ?_) fun v1 h => ?_
 refine Xab ?_
 iterate 4 refine kO hT hC ?_
 refine kS h ?_ ?_ <;> intro b1 h
 iterate 3 refine kI hT hC b1 ?_
 refine kP hC true b1 ?_
 exact Vc.nil kM
 iterate 3 refine kF hC b1 ?_
 refine kP hC false b1 ?_
 exact Vc.nil kM
 refine kS h ?_ ?_ <;> intro b2 h
 refine kt b2 (Xac ?_)
 refine kO hT hC ?_
 exact Vc.nil (Xah (Xat kR))
 refine kf b2 (Xaf (Xae (Xas (Xac ?_))))
 refine kO hT hC ?_
 refine Vc.nil ?_
 refine kL [0,3] [] [_,_] [] ?_
 obtain ⟨o9, hl, h⟩ := Xbd h
 refine Xf5 (fun v4 => ([(3, .sv (.int .i64 v4))], [])) (fun v7 => ([(0, .any), (3, .any)], [])) (fun r => Xl1 C T Tryz.f196.results.toList (Xlw r) (Xlv r)) hl ?_ ?_ ?_ ?_
 apply Xcv hC []
 exact co
 rfl
 decide
 rfl
 intro v4 s hs
 have h := hs
 unfold Xe8 at h
 refine Xas (Xac ?_)
 iterate 4 refine kO hT hC ?_
 refine Vc.nil ?_
 refine kS h ?_ ?_ <;> intro b7 h
 refine kt b7 (Xaf (Xae (Xas (Xam (Xac ?_)))))
 iterate 2 refine kO hT hC ?_
 refine kQ hT hC h fun h => ?_
 refine kO hT hC ?_
 refine kC hC [] Tryz.call53 h (fun _ => Xal) fun q8 h => ?_
 refine kO hT hC ?_
 refine Vc.nil ?_
 refine kS h ?_ ?_ <;> intro b8 h
 refine kt b8 (Xac ?_)
 refine kO hT hC ?_
 refine Vc.nil (Xah (Xgj (Xat ?_)))
 obtain rfl := kj h
 refine Xna (Xm9 ?_)
 exact Xcw (Xif.refl _) rfl trivial
 refine kf b8 (Xaf (Xap (Xae (Xab ?_))))
 iterate 3 refine kO hT hC ?_
 exact Vc.nil kG
 exact kf b7 (Xaq (Xaw kb))
 intro v7 e
 subst e
 refine Xae (Xac ?_)
 refine kO hT hC ?_
 exact Vc.nil (Xah kR)
 intro r' σ' e hE
 subst e
 obtain rfl := kj h
 refine Xat ?_
 exact hE
def Xss (r : Bool) : AV := .sv (.bool r)
def Xsr (r : Bool) : Xa5 := []
theorem Xvx {p0 r} (h : Xia p0 = some r) : AC Tryz.prog 146 [.agg [.sv (.ints .i64 p0.Above), .sv (.ints .i64 p0.Left), .sv (.int .i64 p0.Corner)]] [] (Xss r) (Xsr r) := by
 refine Xag hT Tryz.func146 rfl fun C hC => ?_
 unfold Xia at h
 refine Xac ?_
 iterate 2 refine kO hT hC ?_
 refine Vc.nil ?_
 refine kL [1,2] [16] [_,_] [_] ?_
 refine kA h (fun v1 => ([(2, .sv (.bool v1)), (1, .any)], [(16, none)])) (fun v1 h => ?_) fun v1 h => ?_
 refine Xab ?_
 iterate 2 refine kO hT hC ?_
 refine kC hC [] Tryz.call196 h (fun _ => Xmq) fun q2 h => ?_
 refine kO hT hC ?_
 refine kS h ?_ ?_ <;> intro b1 h
 iterate 2 refine kI hT hC b1 ?_
 refine kE hC b1 [] Tryz.call196 h (fun _ => Xmq) fun q3 h => ?_
 refine kP hC true b1 ?_
 refine kO hT hC ?_
 refine kS h ?_ ?_ <;> intro b2 h
 iterate 2 refine kI hT hC b2 ?_
 refine kE hC b2 [] Tryz.call53 h (fun _ => Xal) fun q4 h => ?_
 refine kP hC true b2 ?_
 refine kO hT hC ?_
 exact Vc.nil kM
 iterate 3 refine kF hC b2 ?_
 refine kP hC false b2 ?_
 refine kO hT hC ?_
 exact Vc.nil kM
 iterate 3 refine kF hC b1 ?_
 refine kP hC false b1 ?_
 refine kO hT hC ?_
 iterate 3 refine kF hC rfl ?_
 iterate 2 refine kO hT hC ?_
 exact Vc.nil kM
 exact Xah kR
def Xqd (r : Int) : AV := .sv (.int .i64 r)
def Xqc (r : Int) : Xa5 := []
theorem Xkp {p0 p1 r} (h : Xca p0 p1 = some r) : AC Tryz.prog 157 [.sv (.ints .i64 p0), .sv (.int .i64 p1)] [] (Xqd r) (Xqc r) := by
 refine Xag hT Tryz.func157 rfl fun C hC => ?_
 unfold Xca at h
 refine Xac ?_
 refine kO hT hC ?_
 refine Vc.nil (Xas (Xac ?_))
 iterate 3 refine kO hT hC ?_
 refine Vc.nil ?_
 refine kS h ?_ ?_ <;> intro b1 h
 refine kt b1 (Xac ?_)
 refine kO hT hC ?_
 exact Vc.nil (Xah (Xat kR))
 refine kf b1 (Xaf (Xae (Xac ?_)))
 iterate 2 refine kO hT hC ?_
 refine kQ hT hC h fun h => ?_
 iterate 2 refine kO hT hC ?_
 exact Vc.nil (Xah kR)
def Xwp (r : Int) : AV := .sv (.int .i64 r)
def Xwo (r : Int) : Xa5 := []
theorem Xyk {p0 r} (h : Xf7 p0 = some r) : AC Tryz.prog 158 [.agg [.sv (.ints .i64 p0.Above), .sv (.ints .i64 p0.Left), .sv (.int .i64 p0.Corner)]] [] (Xwp r) (Xwo r) := by
 refine Xag hT Tryz.func158 rfl fun C hC => ?_
 unfold Xf7 at h
 refine Xac ?_
 iterate 2 refine kO hT hC ?_
 refine kN ?_
 iterate 8 refine kO hT hC ?_
 refine Vc.nil (Xas (Xac ?_))
 iterate 2 refine kO hT hC ?_
 refine Vc.nil ?_
 refine kS h ?_ ?_ <;> intro b1 h
 refine kt b1 (Xac ?_)
 refine kO hT hC ?_
 exact Vc.nil (Xah (Xat kR))
 refine kf b1 (Xaf (Xae (Xac ?_)))
 refine kO hT hC ?_
 refine kQ hT hC h fun h => ?_
 refine kO hT hC ?_
 refine Vc.nil (Xas (Xac ?_))
 refine kO hT hC ?_
 refine Vc.nil ?_
 refine kL [1,3,4,5] [16] [_,_,_,_] [_] ?_
 refine kX h (fun v2 => ([(4, .sv (.int .i64 v2.1)), (5, .sv (.int .i64 v2.2))], [])) (fun v4 => ([(4, .sv (.int .i64 v4)), (5, .any)], [])) (kW hC []) (fun v2 s h => ?_) fun v4 h => ?_
 unfold Xej at h
 refine Xas (Xac ?_)
 iterate 5 refine kO hT hC ?_
 refine Vc.nil ?_
 refine kS h ?_ ?_ <;> intro b4 h
 refine kt b4 (Xaf (Xae (Xas (Xam (Xab ?_)))))
 iterate 4 refine kO hT hC ?_
 refine kQ hT hC h fun h => ?_
 iterate 3 refine kO hT hC ?_
 refine Vc.nil (Xap (Xae (Xab ?_)))
 iterate 3 refine kO hT hC ?_
 exact Vc.nil kG
 exact kf b4 (Xaq (Xaw ku))
 refine Xae (Xas (Xac ?_))
 refine kO hT hC ?_
 refine Vc.nil ?_
 refine kL [1,3,4,6] [16] [_,_,_,_] [_] ?_
 refine kX h (fun v7 => ([(4, .sv (.int .i64 v7.1)), (6, .sv (.int .i64 v7.2))], [])) (fun v9 => ([(4, .sv (.int .i64 v9)), (1, .any), (6, .any)], [(16, none)])) (kW hC []) (fun v7 s h => ?_) fun v9 h => ?_
 unfold Xek at h
 refine Xas (Xac ?_)
 iterate 5 refine kO hT hC ?_
 refine Vc.nil ?_
 refine kS h ?_ ?_ <;> intro b7 h
 refine kt b7 (Xaf (Xae (Xas (Xam (Xab ?_)))))
 iterate 4 refine kO hT hC ?_
 refine kQ hT hC h fun h => ?_
 iterate 3 refine kO hT hC ?_
 refine Vc.nil (Xap (Xae (Xab ?_)))
 iterate 3 refine kO hT hC ?_
 exact Vc.nil kG
 exact kf b7 (Xaq (Xaw ku))
 refine Xae (Xac ?_)
 iterate 2 refine kO hT hC ?_
 refine kQ hT hC h fun h => ?_
 refine kO hT hC ?_
 exact Vc.nil (Xah kR)
def Xsv (r : (List Int)) : AV := .own 16
def Xsu (r : (List Int)) : Xa5 := [(16, .ints .i64 r)]
theorem Xvy {p0 p1 r} (h : Xd1 p0 p1 = some r) : AC Tryz.prog 104 [.sv (.int .i64 p0), .agg [.sv (.ints .i64 p1.Above), .sv (.ints .i64 p1.Left), .sv (.int .i64 p1.Corner)]] [] (Xsv r) (Xsu r) := by
 refine Xag hT Tryz.func104 rfl fun C hC => ?_
 unfold Xd1 at h
 refine Xac ?_
 iterate 2 refine kO hT hC ?_
 refine kN ?_
 iterate 2 refine kO hT hC ?_
 refine Vc.nil (Xas ?_)
 refine kL [0,3,5] [48,160] [_,_,_] [_,_] ?_
 refine kA h (fun v1 => ([(18, .sv (.bool v1))], [])) (fun v1 h => ?_) fun v1 h => ?_
 refine Xab ?_
 refine kO hT hC ?_
 refine kC hC [] Tryz.call146 h (fun _ => Xvx) fun q2 h => ?_
 iterate 2 refine kO hT hC ?_
 refine kS h ?_ ?_ <;> intro b1 h
 refine kI hT hC (kn b1) ?_
 refine kE hC (kn b1) [] Tryz.call53 h (fun _ => Xal) fun q3 h => ?_
 refine kI hT hC (kn b1) ?_
 refine kP hC false (kn b1) ?_
 exact Vc.nil kM
 iterate 3 refine kF hC (kn b1) ?_
 refine kP hC true (kn b1) ?_
 exact Vc.nil kM
 refine kS h ?_ ?_ <;> intro b2 h
 refine kt b2 (Xac ?_)
 iterate 2 refine kO hT hC ?_
 refine Vc.nil (Xah (Xat ?_))
 obtain rfl := kj h
 exact Xcw (τ := ⟨[(4, .own 16)], [(16, some (.ints .i64 ([] : List Int)))]⟩) (kW hC [(16, 160)]) rfl ⟨rfl, trivial⟩
 refine kf b2 (Xaf (Xae (Xac ?_)))
 iterate 3 refine kO hT hC ?_
 refine Vc.nil ?_
 refine kL [0,3,5,6] [48,160] [_,_,_,_] [_,_] ?_
 refine kA h (fun v4 => ([(6, .sv (.int .i64 v4))], [])) (fun v4 h => ?_) fun v4 h => ?_
 refine Xac ?_
 iterate 2 refine kO hT hC ?_
 refine Vc.nil ?_
 refine kS h ?_ ?_ <;> intro b3 h
 refine kt b3 (Xab ?_)
 refine kO hT hC ?_
 exact Vc.nil kM
 exact kf b3 (Xaf kM)
 refine Xas (Xac ?_)
 refine kO hT hC ?_
 refine Vc.nil ?_
 refine kL [0,3,5,6,7] [48,160] [_,_,_,_,_] [_,_] ?_
 refine kX h (fun v11 => ([(7, .sv (.int .i64 v11.1))], [(160, some (.ints .i64 v11.2))])) (fun v18 => ([(0, .any), (3, .any), (6, .any), (7, .any)], [(160, some (.ints .i64 v18)), (48, none)])) (kW hC []) (fun v11 s h => ?_) fun v18 h => ?_
 unfold Xce at h
 refine Xas (Xac ?_)
 iterate 2 refine kO hT hC ?_
 refine Vc.nil ?_
 refine kS h ?_ ?_ <;> intro b12 h
 refine kt b12 (Xaf (Xae ?_))
 refine kL [0,3,5,6,7] [48,160] [_,_,_,_,_] [_,_] ?_
 refine kA h (fun v19 => ([(5, .own 1110)], [(1110, some (.ints .i64 v19)), (160, none)])) (fun v19 h => ?_) fun v19 h => ?_
 refine Xam (Xac ?_)
 iterate 3 refine kO hT hC ?_
 refine kQ hT hC h fun h => ?_
 refine kC hC [] Tryz.call157 h (fun _ => Xkp) fun q20 h => ?_
 refine kO hT hC ?_
 refine kN ?_
 iterate 3 refine kO hT hC ?_
 refine kQ hT hC h fun h => ?_
 refine kC hC [] Tryz.call157 h (fun _ => Xkp) fun q21 h => ?_
 refine kO hT hC ?_
 refine kN ?_
 refine kO hT hC ?_
 refine Vc.nil (Xam (Xac ?_))
 iterate 2 refine kO hT hC ?_
 refine Vc.nil ?_
 refine kS h ?_ ?_ <;> intro b13 h
 refine kt b13 (Xab ?_)
 iterate 2 refine kO hT hC ?_
 refine kC hC [] Tryz.call158 h (fun _ => Xyk) fun q22 h => ?_
 refine kO hT hC ?_
 refine kT hT hC h fun h => ?_
 refine kO hT hC ?_
 refine Vc.nil ?_
 iterate 2 refine Xap ?_
 obtain rfl := kj h
 exact Xge (kW hC [(1110, 864)])
 refine kf b13 (Xac ?_)
 iterate 2 refine kO hT hC ?_
 refine Vc.nil ?_
 refine kS h ?_ ?_ <;> intro b14 h
 refine kt b14 (Xab ?_)
 iterate 3 refine kO hT hC ?_
 refine kT hT hC h fun h => ?_
 refine kO hT hC ?_
 refine Vc.nil ?_
 iterate 2 refine Xap ?_
 obtain rfl := kj h
 exact Xge (kW hC [(1110, 960)])
 refine kf b14 (Xac ?_)
 iterate 2 refine kO hT hC ?_
 refine Vc.nil ?_
 refine kS h ?_ ?_ <;> intro b15 h
 refine kt b15 (Xab ?_)
 iterate 3 refine kO hT hC ?_
 refine kT hT hC h fun h => ?_
 refine kO hT hC ?_
 refine Vc.nil ?_
 iterate 2 refine Xap ?_
 obtain rfl := kj h
 exact Xge (kW hC [(1110, 1056)])
 refine kf b15 (Xab ?_)
 iterate 6 refine kO hT hC ?_
 refine kC hC [] Tryz.call159 h (fun _ => Xg1) fun q23 h => ?_
 refine kO hT hC ?_
 refine kT hT hC h fun h => ?_
 refine kO hT hC ?_
 refine Vc.nil ?_
 iterate 2 refine Xap ?_
 obtain rfl := kj h
 exact Xge (kW hC [(1110, 752)])
 refine Xab ?_
 iterate 3 refine kO hT hC ?_
 refine Vc.nil ?_
 obtain rfl := kj h
 exact Ycs (kW hC [(160, 1110)])
 exact kf b12 (Xaq (Xaw ku))
 refine Xae (Xac ?_)
 iterate 2 refine kO hT hC ?_
 refine Vc.nil (Xah ?_)
 obtain rfl := kj h
 exact Xcw (τ := ⟨[(4, .own 16)], [(16, some (.ints .i64 v18))]⟩) (kW hC [(16, 160)]) rfl ⟨rfl, trivial⟩
def Xlt (r : Bool) : AV := .sv (.bool r)
def Xls (r : Bool) : Xa5 := []
theorem Xwn {p0 r} (h : Xid p0 = some r) : AC Tryz.prog 51 [.sv (.ints .i64 p0)] [] (Xlt r) (Xls r) := by
 refine Xag hT Tryz.func51 rfl fun C hC => ?_
 unfold Xid at h
 refine Xac ?_
 refine kO hT hC ?_
 refine Vc.nil (Xas (Xac ?_))
 iterate 3 refine kO hT hC ?_
 refine Vc.nil ?_
 refine kS h ?_ ?_ <;> intro b1 h
 refine kt b1 (Xac ?_)
 refine kO hT hC ?_
 exact Vc.nil (Xah (Xat kR))
 refine kf b1 (Xaf (Xae (Xas (Xac ?_))))
 refine kO hT hC ?_
 refine Vc.nil ?_
 refine kL [0,3] [] [_,_] [] ?_
 obtain ⟨o8, hl, h⟩ := Xbd h
 refine Xf5 (fun v3 => ([(3, .sv (.int .i64 v3))], [])) (fun v6 => ([(0, .any), (3, .any)], [])) (fun r => Xl1 C T Tryz.f51.results.toList (Xlt r) (Xls r)) hl ?_ ?_ ?_ ?_
 apply Xcv hC []
 exact co
 rfl
 decide
 rfl
 intro v3 s hs
 have h := hs
 unfold Xe7 at h
 refine Xas (Xac ?_)
 iterate 2 refine kO hT hC ?_
 refine Vc.nil ?_
 refine kS h ?_ ?_ <;> intro b6 h
 refine kt b6 (Xaf (Xae (Xas (Xam (Xac ?_)))))
 iterate 2 refine kO hT hC ?_
 refine kQ hT hC h fun h => ?_
 refine kO hT hC ?_
 refine kC hC [] Tryz.call53 h (fun _ => Xal) fun q7 h => ?_
 refine kO hT hC ?_
 refine Vc.nil ?_
 refine kS h ?_ ?_ <;> intro b7 h
 refine kt b7 (Xac ?_)
 refine kO hT hC ?_
 refine Vc.nil (Xah (Xgj (Xat ?_)))
 obtain rfl := kj h
 refine Xna (Xm9 ?_)
 exact Xcw (Xif.refl _) rfl trivial
 refine kf b7 (Xaf (Xap (Xae (Xab ?_))))
 iterate 3 refine kO hT hC ?_
 exact Vc.nil kG
 exact kf b6 (Xaq (Xaw kb))
 intro v6 e
 subst e
 refine Xae (Xac ?_)
 refine kO hT hC ?_
 exact Vc.nil (Xah kR)
 intro r' σ' e hE
 subst e
 obtain rfl := kj h
 refine Xat ?_
 exact hE
def Xv1 (r : (List Int)) : AV := .own 16
def Xv0 (r : (List Int)) : Xa5 := [(16, .ints .i64 r)]
theorem Xnn {p0 p1 r} (h : Xez p0 p1 = some r) : AC Tryz.prog 107 [.sv (.ints .i64 p0), .sv (.ints .i64 p1)] [] (Xv1 r) (Xv0 r) := by
 refine Xag hT Tryz.func107 rfl fun C hC => ?_
 unfold Xez at h
 refine Xac ?_
 refine kO hT hC ?_
 refine kN ?_
 iterate 2 refine kO hT hC ?_
 refine Vc.nil (Xas ?_)
 refine kL [0,1,5] [112] [_,_,_] [_] ?_
 refine kA h (fun v1 => ([(15, .sv (.bool v1))], [])) (fun v1 h => ?_) fun v1 h => ?_
 refine Xab ?_
 refine kO hT hC ?_
 refine kC hC [] Tryz.call51 h (fun _ => Xwn) fun q2 h => ?_
 iterate 2 refine kO hT hC ?_
 refine kS h ?_ ?_ <;> intro b1 h
 refine kI hT hC (kn b1) ?_
 refine kE hC (kn b1) [] Tryz.call150 h (fun _ => Xei) fun q3 h => ?_
 refine kI hT hC (kn b1) ?_
 refine kP hC false (kn b1) ?_
 exact Vc.nil kM
 iterate 3 refine kF hC (kn b1) ?_
 refine kP hC true (kn b1) ?_
 exact Vc.nil kM
 refine kS h ?_ ?_ <;> intro b2 h
 refine kt b2 (Xac ?_)
 iterate 2 refine kO hT hC ?_
 refine Vc.nil (Xah (Xat ?_))
 obtain rfl := kj h
 exact Xcw (τ := ⟨[(4, .own 16)], [(16, some (.ints .i64 ([] : List Int)))]⟩) (kW hC [(16, 112)]) rfl ⟨rfl, trivial⟩
 refine kf b2 (Xaf (Xae (Xas (Xac ?_))))
 refine kO hT hC ?_
 refine Vc.nil ?_
 refine kL [0,1,5,6] [112] [_,_,_,_] [_] ?_
 refine kX h (fun v6 => ([(6, .sv (.int .i64 v6.1))], [(112, some (.ints .i64 v6.2))])) (fun v9 => ([(0, .any), (1, .any), (6, .any)], [(112, some (.ints .i64 v9))])) (kW hC []) (fun v6 s h => ?_) fun v9 h => ?_
 unfold Xdj at h
 refine Xas (Xac ?_)
 iterate 2 refine kO hT hC ?_
 refine Vc.nil ?_
 refine kS h ?_ ?_ <;> intro b5 h
 refine kt b5 (Xaf (Xae (Xas (Xam ?_))))
 refine Xdo hm ?_
 iterate 3 refine kO hT hC ?_
 refine kQ hT hC h fun h => ?_
 iterate 3 refine kO hT hC ?_
 refine kQ hT hC h fun h => ?_
 iterate 2 refine kO hT hC ?_
 refine kC hC [] Tryz.call159 h (fun _ => Xg1) fun q10 h => ?_
 refine kO hT hC ?_
 refine kT hT hC h fun h => ?_
 refine kO hT hC ?_
 refine kD (Xap (Xae (Xab ?_)))
 iterate 3 refine kO hT hC ?_
 refine Vc.nil ?_
 obtain rfl := kj h
 exact Ycs (kW hC [(112, 528)])
 exact kf b5 (Xaq (Xaw ku))
 refine Xae (Xac ?_)
 iterate 2 refine kO hT hC ?_
 refine Vc.nil (Xah ?_)
 obtain rfl := kj h
 exact Xcw (τ := ⟨[(4, .own 16)], [(16, some (.ints .i64 v9))]⟩) (kW hC [(16, 112)]) rfl ⟨rfl, trivial⟩
def Xsk (r : (List Int)) : AV := .own 16
def Xsj (r : (List Int)) : Xa5 := [(16, .ints .i64 r)]
theorem Xvr {p0 p1 p2 r} (h : Xh8 p0 p1 p2 = some r) : AC Tryz.prog 99 [.agg [.sv (.int .i64 p0.Wide), .sv (.int .i64 p0.High), .sv (.str p0.Dots)], .sv (.int .i64 p1), .sv (.int .i64 p2)] [] (Xsk r) (Xsj r) := by
 refine Xag hT Tryz.func99 rfl fun C hC => ?_
 unfold Xh8 at h
 refine Xac ?_
 iterate 2 refine kO hT hC ?_
 refine kN ?_
 iterate 2 refine kO hT hC ?_
 refine Vc.nil (Xas ?_)
 refine kL [1,2,3,7] [48,144] [_,_,_,_] [_,_] ?_
 refine kA h (fun v1 => ([(22, .sv (.bool v1))], [])) (fun v1 h => ?_) fun v1 h => ?_
 refine Xab ?_
 refine kO hT hC ?_
 refine kC hC [] Tryz.call96 h (fun _ => Xit) fun q2 h => ?_
 iterate 2 refine kO hT hC ?_
 refine kS h ?_ ?_ <;> intro b1 h
 refine kI hT hC (kn b1) ?_
 refine kE hC (kn b1) [] Tryz.call53 h (fun _ => Xal) fun q3 h => ?_
 refine kI hT hC (kn b1) ?_
 refine kP hC false (kn b1) ?_
 refine kO hT hC ?_
 refine kS h ?_ ?_ <;> intro b2 h
 refine kI hT hC (kn b2) ?_
 refine kE hC (kn b2) [] Tryz.call53 h (fun _ => Xal) fun q4 h => ?_
 refine kI hT hC (kn b2) ?_
 refine kP hC false (kn b2) ?_
 exact Vc.nil kM
 iterate 3 refine kF hC (kn b2) ?_
 refine kP hC true (kn b2) ?_
 exact Vc.nil kM
 iterate 3 refine kF hC (kn b1) ?_
 refine kP hC true (kn b1) ?_
 refine kO hT hC ?_
 iterate 3 refine kF hC rfl ?_
 refine kO hT hC ?_
 exact Vc.nil kM
 refine kS h ?_ ?_ <;> intro b3 h
 refine kt b3 (Xac ?_)
 iterate 2 refine kO hT hC ?_
 refine Vc.nil (Xah (Xat ?_))
 obtain rfl := kj h
 exact Xcw (τ := ⟨[(6, .own 16)], [(16, some (.ints .i64 ([] : List Int)))]⟩) (kW hC [(16, 144)]) rfl ⟨rfl, trivial⟩
 refine kf b3 (Xaf (Xae (Xas (Xac ?_))))
 refine kO hT hC ?_
 refine Vc.nil ?_
 refine kL [1,2,3,7,8] [48,144] [_,_,_,_,_] [_,_] ?_
 refine kX h (fun v7 => ([(8, .sv (.int .i64 v7.1))], [(144, some (.ints .i64 v7.2))])) (fun v10 => ([(1, .any), (2, .any), (3, .any), (8, .any)], [(144, some (.ints .i64 v10)), (48, none)])) (kW hC []) (fun v7 s h => ?_) fun v10 h => ?_
 unfold Xew at h
 refine Xas (Xac ?_)
 iterate 2 refine kO hT hC ?_
 refine Vc.nil ?_
 refine kS h ?_ ?_ <;> intro b6 h
 refine kt b6 (Xaf (Xae (Xas (Xam (Xab ?_)))))
 iterate 4 refine kO hT hC ?_
 refine kQ hT hC h fun h => ?_
 iterate 3 refine kO hT hC ?_
 refine kQ hT hC h fun h => ?_
 refine kO hT hC ?_
 refine kC hC [] Tryz.call145 h (fun _ => Xis) fun q11 h => ?_
 refine kO hT hC ?_
 refine kT hT hC h fun h => ?_
 refine kO hT hC ?_
 refine Vc.nil (Xap (Xae (Xab ?_)))
 iterate 3 refine kO hT hC ?_
 refine Vc.nil ?_
 obtain rfl := kj h
 exact Ycs (kW hC [(144, 640)])
 exact kf b6 (Xaq (Xaw ku))
 refine Xae (Xac ?_)
 iterate 2 refine kO hT hC ?_
 refine Vc.nil (Xah ?_)
 obtain rfl := kj h
 exact Xcw (τ := ⟨[(6, .own 16)], [(16, some (.ints .i64 v10))]⟩) (kW hC [(16, 144)]) rfl ⟨rfl, trivial⟩
def Xoj (r : ((List Int) × Bool)) : AV := .tup [.own 16, .sv (.bool r.2)]
def Xoi (r : ((List Int) × Bool)) : Xa5 := [(16, .ints .i64 r.1)]
theorem Xp3 {p0 p1 p2 p3 p4 p5 p6 p7 r} (h : Xbx p0 p1 p2 p3 p4 p5 p6 p7 = some r) : AC Tryz.prog 56 [.agg [.sv (.int .i64 p0.Wide), .sv (.int .i64 p0.High), .sv (.str p0.Dots)], .agg [.sv (.int .i64 p1.Wide), .sv (.int .i64 p1.High), .sv (.str p1.Dots)], .sv (.int .i64 p2), .sv (.int .i64 p3), .agg [.sv (.bool p4.Key), .sv (.int .i64 p4.Qp), .sv (.bool p4.Large), .sv (.bool p4.Exact)], .sv (.int .i64 p5), .sv (.int .i64 p6), .agg [.sv (.int .i64 p7.Kind), .sv (.int .i64 p7.Mode), .sv (.int .i64 p7.Dx), .sv (.int .i64 p7.Dy), .sv (.ints .i64 p7.Levels)]] [] (Xoj r) (Xoi r) := by
 refine Xag hT Tryz.func56 rfl fun C hC => ?_
 unfold Xbx at h
 refine Xac ?_
 iterate 6 refine kO hT hC ?_
 refine Vc.nil (Xas ?_)
 refine kL [2,3,5,6,8,9,12,15] [128,144,192,240] [_,_,_,_,_,_,_,_] [_,_,_,_] ?_
 refine kA h (fun v1 => ([(49, .sv (.bool v1))], [])) (fun v1 h => ?_) fun v1 h => ?_
 refine Xab ?_
 iterate 3 refine kO hT hC ?_
 refine kC hC [] Tryz.call50 h (fun _ => Xmp) fun q2 h => ?_
 iterate 2 refine kO hT hC ?_
 refine kS h ?_ ?_ <;> intro b1 h
 refine kI hT hC (kn b1) ?_
 refine kE hC (kn b1) [] Tryz.call53 h (fun _ => Xal) fun q3 h => ?_
 refine kI hT hC (kn b1) ?_
 refine kP hC false (kn b1) ?_
 refine kO hT hC ?_
 refine kS h ?_ ?_ <;> intro b2 h
 refine kI hT hC (kn b2) ?_
 refine kE hC (kn b2) [] Tryz.call53 h (fun _ => Xal) fun q4 h => ?_
 refine kI hT hC (kn b2) ?_
 refine kP hC false (kn b2) ?_
 refine kO hT hC ?_
 refine kS h ?_ ?_ <;> intro b3 h
 refine kI hT hC (kn b3) ?_
 refine kE hC (kn b3) [] Tryz.call105 h (fun _ => Xij) fun q5 h => ?_
 refine kI hT hC (kn b3) ?_
 refine kP hC false (kn b3) ?_
 refine kO hT hC ?_
 refine kS h ?_ ?_ <;> intro b4 h
 refine kI hT hC (kn b4) ?_
 refine kE hC (kn b4) [] Tryz.call52 h (fun _ => Xhy) fun q6 h => ?_
 refine kI hT hC (kn b4) ?_
 refine kP hC false (kn b4) ?_
 exact Vc.nil kM
 iterate 3 refine kF hC (kn b4) ?_
 refine kP hC true (kn b4) ?_
 exact Vc.nil kM
 iterate 3 refine kF hC (kn b3) ?_
 refine kP hC true (kn b3) ?_
 refine kO hT hC ?_
 iterate 3 refine kF hC rfl ?_
 refine kO hT hC ?_
 exact Vc.nil kM
 iterate 3 refine kF hC (kn b2) ?_
 refine kP hC true (kn b2) ?_
 refine kO hT hC ?_
 iterate 3 refine kF hC rfl ?_
 iterate 2 refine kO hT hC ?_
 iterate 3 refine kF hC rfl ?_
 refine kO hT hC ?_
 exact Vc.nil kM
 iterate 3 refine kF hC (kn b1) ?_
 refine kP hC true (kn b1) ?_
 refine kO hT hC ?_
 iterate 3 refine kF hC rfl ?_
 iterate 2 refine kO hT hC ?_
 iterate 3 refine kF hC rfl ?_
 iterate 2 refine kO hT hC ?_
 iterate 3 refine kF hC rfl ?_
 refine kO hT hC ?_
 exact Vc.nil kM
 refine kS h ?_ ?_ <;> intro b5 h
 refine kt b5 (Xac ?_)
 iterate 3 refine kO hT hC ?_
 refine Vc.nil (Xah (Xat ?_))
 obtain rfl := kj h
 exact Xcw (τ := ⟨[(16, .own 16), (17, .sv (.bool false))], [(16, some (.ints .i64 ([] : List Int)))]⟩) (kW hC [(16, 800)]) rfl ⟨rfl, trivial⟩
 refine kf b5 (Xaf (Xae (Xas (Xac ?_))))
 iterate 3 refine kO hT hC ?_
 refine Vc.nil ?_
 refine kS h ?_ ?_ <;> intro b6 h
 refine kt b6 (Xac ?_)
 iterate 3 refine kO hT hC ?_
 refine kC hC [(16, 928), (17, 929)] Tryz.call100 h (fun _ => Xvv) fun q7 h => ?_
 iterate 6 refine kO hT hC ?_
 refine kN ?_
 iterate 3 refine kO hT hC ?_
 refine kC hC [(16, 1040)] Tryz.call106 h (fun _ => Xjp) fun q8 h => ?_
 iterate 5 refine kO hT hC ?_
 refine kN ?_
 iterate 3 refine kO hT hC ?_
 refine kC hC [(16, 1136)] Tryz.call104 h (fun _ => Xvy) fun q9 h => ?_
 refine kO hT hC ?_
 refine kC hC [(16, 1168)] Tryz.call107 h (fun _ => Xnn) fun q10 h => ?_
 iterate 2 refine kO hT hC ?_
 refine Vc.nil (Xah (Xat ?_))
 obtain rfl := kj h
 exact Xcw (τ := ⟨[(16, .own 16), (17, .sv (.bool true))], [(16, some (.ints .i64 q10))]⟩) (kW hC [(16, 1168)]) rfl ⟨rfl, trivial⟩
 refine kf b6 (Xaf (Xae (Xas ?_)))
 refine kL [2,3,5,6,9,12,15] [144,192,240] [_,_,_,_,_,_,_] [_,_,_] ?_
 refine kA h (fun v11 => ([(80, .sv (.bool v11))], [])) (fun v11 h => ?_) fun v11 h => ?_
 refine Xab ?_
 iterate 3 refine kO hT hC ?_
 refine kS h ?_ ?_ <;> intro b7 h
 iterate 3 refine kF hC b7 ?_
 refine kP hC true b7 ?_
 exact Vc.nil kM
 refine kI hT hC b7 ?_
 refine kE hC b7 [] Tryz.call96 h (fun _ => Xit) fun q12 h => ?_
 refine kI hT hC b7 ?_
 refine kP hC false b7 ?_
 exact Vc.nil kM
 refine kS h ?_ ?_ <;> intro b8 h
 refine kt b8 (Xac ?_)
 iterate 3 refine kO hT hC ?_
 refine Vc.nil (Xah (Xat ?_))
 obtain rfl := kj h
 exact Xcw (τ := ⟨[(16, .own 16), (17, .sv (.bool false))], [(16, some (.ints .i64 ([] : List Int)))]⟩) (kW hC [(16, 1296)]) rfl ⟨rfl, trivial⟩
 refine kf b8 (Xaf (Xae (Xac ?_)))
 iterate 13 refine kO hT hC ?_
 refine kC hC [(16, 1520)] Tryz.call99 h (fun _ => Xvr) fun q13 h => ?_
 refine kO hT hC ?_
 refine Vc.nil (Xas (Xac ?_))
 iterate 3 refine kO hT hC ?_
 refine Vc.nil ?_
 refine kS h ?_ ?_ <;> intro b9 h
 refine kt b9 (Xac ?_)
 iterate 3 refine kO hT hC ?_
 refine Vc.nil (Xah (Xat ?_))
 obtain rfl := kj h
 exact Xcw (τ := ⟨[(16, .own 16), (17, .sv (.bool true))], [(16, some (.ints .i64 q13))]⟩) (kW hC [(16, 1520)]) rfl ⟨rfl, trivial⟩
 refine kf b9 (Xaf (Xae (Xac ?_)))
 iterate 3 refine kO hT hC ?_
 refine kC hC [(16, 1664)] Tryz.call106 h (fun _ => Xjp) fun q14 h => ?_
 iterate 5 refine kO hT hC ?_
 refine kN ?_
 iterate 2 refine kO hT hC ?_
 refine kC hC [(16, 1744)] Tryz.call107 h (fun _ => Xnn) fun q15 h => ?_
 iterate 2 refine kO hT hC ?_
 refine Vc.nil (Xah ?_)
 obtain rfl := kj h
 exact Xcw (τ := ⟨[(16, .own 16), (17, .sv (.bool true))], [(16, some (.ints .i64 q15))]⟩) (kW hC [(16, 1744)]) rfl ⟨rfl, trivial⟩
def Xwt (r : Pic) : AV := .agg [.sv (.int .i64 r.Wide), .sv (.int .i64 r.High), .sv (.str r.Dots)]
def Xws (r : Pic) : Xa5 := []
theorem Xyl {p0 p1 p2 p3 r} (h : Xe9 p0 p1 p2 p3 = some r) : AC Tryz.prog 89 [.agg [.sv (.int .i64 p0.Wide), .sv (.int .i64 p0.High), .sv (.str p0.Dots)], .sv (.int .i64 p1), .sv (.int .i64 p2), .sv (.ints .i64 p3)] [] (Xwt r) (Xws r) := by
 refine Xag hT Tryz.func89 rfl fun C hC => ?_
 unfold Xe9 at h
 refine Xac ?_
 iterate 2 refine kO hT hC ?_
 refine kN ?_
 iterate 2 refine kO hT hC ?_
 refine kQ hT hC h fun h => ?_
 refine kO hT hC ?_
 refine Vc.nil (Xas (Xac ?_))
 refine kO hT hC ?_
 refine Vc.nil ?_
 refine kL [1,2,3,4,8,9,10] [64,128,208] [_,_,_,_,_,_,_] [_,_,_] ?_
 refine kX h (fun v2 => ([(10, .sv (.int .i64 v2.1))], [(208, some (.ints .u8 v2.2))])) (fun v4 => ([(1, .any), (2, .any), (3, .any), (10, .any)], [(208, some (.ints .u8 v4))])) (kW hC []) (fun v2 s h => ?_) fun v4 h => ?_
 unfold Xdm at h
 refine Xas (Xac ?_)
 iterate 2 refine kO hT hC ?_
 refine Vc.nil ?_
 refine kS h ?_ ?_ <;> intro b3 h
 refine kt b3 (Xaf (Xae (Xas (Xam ?_))))
 refine Xdo hm ?_
 iterate 3 refine kO hT hC ?_
 refine kQ hT hC h fun h => ?_
 iterate 7 refine kO hT hC ?_
 refine kQ hT hC h fun h => ?_
 iterate 3 refine kO hT hC ?_
 refine kQ hT hC h fun h => ?_
 iterate 2 refine kO hT hC ?_
 iterate 2 refine kQ hT hC h fun h => ?_
 refine kD (Xap (Xae (Xab ?_)))
 iterate 3 refine kO hT hC ?_
 exact Vc.nil kG
 exact kf b3 (Xaq (Xaw ku))
 refine Xae (Xac ?_)
 iterate 8 refine kO hT hC ?_
 exact Vc.nil (Xah kR)
def Xrf (r : (Pic × Bool)) : AV := .tup [.agg [.sv (.int .i64 r.1.Wide), .sv (.int .i64 r.1.High), .sv (.str r.1.Dots)], .sv (.bool r.2)]
def Xre (r : (Pic × Bool)) : Xa5 := []
theorem Xsy {p0 p1 p2 p3 p4 r} (h : Xg5 p0 p1 p2 p3 p4 = some r) : AC Tryz.prog 44 [.agg [.sv (.int .i64 p0.Wide), .sv (.int .i64 p0.High), .sv (.str p0.Dots)], .agg [.sv (.int .i64 p1.Left), .sv (.int .i64 p1.Top), .sv (.int .i64 p1.Wide), .sv (.int .i64 p1.High)], .agg [.sv (.bool p2.Key), .sv (.int .i64 p2.Qp), .sv (.bool p2.Large), .sv (.bool p2.Exact)], .sv (.bool p3), .sv (Xcj.sv p4)] [] (Xrf r) (Xre r) := by
 refine Xag hT Tryz.func44 rfl fun C hC => ?_
 unfold Xg5 at h
 refine Xac ?_
 iterate 5 refine kO hT hC ?_
 refine Vc.nil (Xas ?_)
 refine kL [3,4,5,6,7,10] [80,96,112,160] [_,_,_,_,_,_] [_,_,_,_] ?_
 refine kA h (fun v1 => ([(59, .sv (.bool v1))], [])) (fun v1 h => ?_) fun v1 h => ?_
 refine Xab ?_
 iterate 2 refine kO hT hC ?_
 refine kC hC [] Tryz.call40 h (fun _ => Xg8) fun q2 h => ?_
 iterate 2 refine kO hT hC ?_
 refine kS h ?_ ?_ <;> intro b1 h
 iterate 2 refine kI hT hC (kn b1) ?_
 refine kE hC (kn b1) [] Tryz.call40 h (fun _ => Xg8) fun q3 h => ?_
 refine kI hT hC (kn b1) ?_
 refine kP hC false (kn b1) ?_
 refine kO hT hC ?_
 refine kS h ?_ ?_ <;> intro b2 h
 iterate 2 refine kI hT hC (kn b2) ?_
 refine kE hC (kn b2) [] Tryz.call53 h (fun _ => Xal) fun q4 h => ?_
 refine kI hT hC (kn b2) ?_
 refine kP hC false (kn b2) ?_
 refine kO hT hC ?_
 refine kS h ?_ ?_ <;> intro b3 h
 iterate 2 refine kI hT hC (kn b3) ?_
 refine kE hC (kn b3) [] Tryz.call53 h (fun _ => Xal) fun q5 h => ?_
 refine kI hT hC (kn b3) ?_
 refine kP hC false (kn b3) ?_
 refine kO hT hC ?_
 refine kS h ?_ ?_ <;> intro b4 h
 iterate 2 refine kI hT hC (kn b4) ?_
 refine kE hC (kn b4) [] Tryz.call85 h (fun _ => Ya6) fun q6 h => ?_
 refine kI hT hC (kn b4) ?_
 refine kP hC false (kn b4) ?_
 refine kO hT hC ?_
 refine kS h ?_ ?_ <;> intro b5 h
 iterate 4 refine kI hT hC (kn b5) ?_
 refine kJ hT hC (kn b5) h fun h => ?_
 iterate 2 refine kI hT hC (kn b5) ?_
 refine kJ hT hC (kn b5) h fun h => ?_
 iterate 2 refine kI hT hC (kn b5) ?_
 refine kP hC false (kn b5) ?_
 exact Vc.nil kM
 iterate 10 refine kF hC (kn b5) ?_
 refine kP hC true (kn b5) ?_
 exact Vc.nil kM
 iterate 4 refine kF hC (kn b4) ?_
 refine kP hC true (kn b4) ?_
 refine kO hT hC ?_
 iterate 10 refine kF hC rfl ?_
 refine kO hT hC ?_
 exact Vc.nil kM
 iterate 4 refine kF hC (kn b3) ?_
 refine kP hC true (kn b3) ?_
 refine kO hT hC ?_
 iterate 4 refine kF hC rfl ?_
 iterate 2 refine kO hT hC ?_
 iterate 10 refine kF hC rfl ?_
 refine kO hT hC ?_
 exact Vc.nil kM
 iterate 4 refine kF hC (kn b2) ?_
 refine kP hC true (kn b2) ?_
 refine kO hT hC ?_
 iterate 4 refine kF hC rfl ?_
 iterate 2 refine kO hT hC ?_
 iterate 4 refine kF hC rfl ?_
 iterate 2 refine kO hT hC ?_
 iterate 10 refine kF hC rfl ?_
 refine kO hT hC ?_
 exact Vc.nil kM
 iterate 4 refine kF hC (kn b1) ?_
 refine kP hC true (kn b1) ?_
 refine kO hT hC ?_
 iterate 4 refine kF hC rfl ?_
 iterate 2 refine kO hT hC ?_
 iterate 4 refine kF hC rfl ?_
 iterate 2 refine kO hT hC ?_
 iterate 4 refine kF hC rfl ?_
 iterate 2 refine kO hT hC ?_
 iterate 10 refine kF hC rfl ?_
 refine kO hT hC ?_
 exact Vc.nil kM
 refine kS h ?_ ?_ <;> intro b6 h
 refine kt b6 (Xac ?_)
 iterate 3 refine kO hT hC ?_
 exact Vc.nil (Xah (Xat kR))
 refine kf b6 (Xaf (Xae (Xas ?_)))
 refine kL [3,4,5,6,7,10] [80,96,112,160] [_,_,_,_,_,_] [_,_,_,_] ?_
 refine kA h (fun v7 => ([(76, .sv (.bool v7))], [])) (fun v7 h => ?_) fun v7 h => ?_
 refine Xab ?_
 iterate 4 refine kO hT hC ?_
 refine kS h ?_ ?_ <;> intro b7 h
 iterate 11 refine kF hC (kn b7) ?_
 refine kP hC false (kn b7) ?_
 exact Vc.nil kM
 iterate 9 refine kI hT hC (kn b7) ?_
 refine kE hC (kn b7) [] Tryz.call86 h (fun _ => Xhp) fun q8 h => ?_
 refine kI hT hC (kn b7) ?_
 refine kP hC true (kn b7) ?_
 exact Vc.nil kM
 refine kS h ?_ ?_ <;> intro b8 h
 refine kt b8 (Xac ?_)
 iterate 3 refine kO hT hC ?_
 exact Vc.nil (Xah (Xat kR))
 refine kf b8 (Xaf (Xae (Xac ?_)))
 iterate 3 refine kO hT hC ?_
 refine kN ?_
 iterate 3 refine kO hT hC ?_
 refine Vc.nil ?_
 refine kL [3,4,5,6,7,10,12,13] [80,96,112,160] [_,_,_,_,_,_,_,_] [_,_,_,_] ?_
 refine kA h (fun v9 => ([(12, .sv (.int .i64 v9.1)), (13, .sv (.int .i64 v9.2.1)), (3, .any)], [(80, some (.box [.sv (.int .i64 v9.2.2.1), .sv (.int .i64 v9.2.2.2.1), .sv (.str v9.2.2.2.2)]))])) (fun v9 h => ?_) fun v9 h => ?_
 refine kL [3,4,5,6,7,10,12,13] [80,96,112,160] [_,_,_,_,_,_,_,_] [_,_,_,_] ?_
 refine kA h (fun v10 => ([(87, .sv (.bool v10)), (3, .any)], [])) (fun v10 h => ?_) fun v10 h => ?_
 refine Xab ?_
 iterate 4 refine kO hT hC ?_
 refine kS h ?_ ?_ <;> intro b9 h
 refine kF hC (kn b9) ?_
 refine kP hC false (kn b9) ?_
 exact Vc.nil kM
 refine kI hT hC (kn b9) ?_
 refine kP hC true (kn b9) ?_
 exact Vc.nil kM
 refine kS h ?_ ?_ <;> intro b10 h
 refine kt b10 (Xac ?_)
 iterate 2 refine kO hT hC ?_
 refine kC hC [] Tryz.call87 h (fun _ => Yaz) fun q11 h => ?_
 iterate 4 refine kO hT hC ?_
 refine kN ?_
 refine kO hT hC ?_
 refine Vc.nil (Xab ?_)
 refine kO hT hC ?_
 exact Vc.nil kM
 exact kf b10 (Xaf kM)
 refine Xac ?_
 iterate 4 refine kO hT hC ?_
 refine kC hC [] Tryz.call88 h (fun _ => Yc2) fun q12 h => ?_
 iterate 2 refine kO hT hC ?_
 refine Vc.nil (Xas (Xac ?_))
 refine kO hT hC ?_
 refine Vc.nil ?_
 refine kL [4,5,6,7,10,12,13,14,15] [80,96,112,160,224] [_,_,_,_,_,_,_,_,_] [_,_,_,_,_] ?_
 refine kX h (fun v16 => ([(15, .sv (.int .i64 v16.1))], [(224, some (.box [.sv (.int .i64 v16.2.1), .sv (.int .i64 v16.2.2.1), .sv (.str v16.2.2.2)]))])) (fun v20 => ([(4, .any), (5, .any), (6, .any), (7, .any), (12, .any), (13, .any), (15, .any)], [(224, some (.box [.sv (.int .i64 v20.1), .sv (.int .i64 v20.2.1), .sv (.str v20.2.2)])), (80, none), (96, none), (112, none)])) (kW hC []) (fun v16 s h => ?_) fun v20 h => ?_
 unfold Xa1 at h
 refine Xas (Xac ?_)
 iterate 4 refine kO hT hC ?_
 refine Vc.nil ?_
 refine kS h ?_ ?_ <;> intro b13 h
 refine kt b13 (Xaf (Xae (Xas (Xam (Xac ?_)))))
 iterate 3 refine kO hT hC ?_
 iterate 2 refine kQ hT hC h fun h => ?_
 iterate 2 refine kO hT hC ?_
 refine kN ?_
 iterate 3 refine kO hT hC ?_
 iterate 2 refine kQ hT hC h fun h => ?_
 iterate 2 refine kO hT hC ?_
 refine Vc.nil ?_
 refine Xlj hm ?_
 iterate 9 refine kO hT hC ?_
 refine kQ hT hC h fun h => ?_
 refine kO hT hC ?_
 refine kC hC [(16, 2064)] Tryz.call56 h (fun _ => Xp3) fun q21 h => ?_
 iterate 5 refine kO hT hC ?_
 refine kD (Xab ?_)
 iterate 4 refine kO hT hC ?_
 refine kC hC [] Tryz.call89 h (fun _ => Xyl) fun q22 h => ?_
 refine kO hT hC ?_
 refine Vc.nil (Xap (Xae (Xab ?_)))
 iterate 3 refine kO hT hC ?_
 exact Vc.nil kG
 exact kf b13 (Xaq (Xaw ku))
 refine Xae (Xac ?_)
 iterate 3 refine kO hT hC ?_
 exact Vc.nil (Xah kR)
def Xp0 (r : (Pic × Bool)) : AV := .tup [.agg [.sv (.int .i64 r.1.Wide), .sv (.int .i64 r.1.High), .sv (.str r.1.Dots)], .sv (.bool r.2)]
def Xpz (r : (Pic × Bool)) : Xa5 := []
theorem Xra {p0 p1 p2 p3 r} (h : Xfw p0 p1 p2 p3 = some r) : AC Tryz.prog 9 [.agg [.sv (.int .i64 p0.Wide), .sv (.int .i64 p0.High), .sv (.str p0.Dots)], .agg [.sv (.int .i64 p1.Left), .sv (.int .i64 p1.Top), .sv (.int .i64 p1.Wide), .sv (.int .i64 p1.High)], .agg [.sv (.int .i64 p2.Qp), .sv (.bool p2.Large), .sv (.bool p2.Exact), .sv (.bool p2.Confined)], .agg [.sv (.bool p3.Key), .sv (.int .i64 p3.Qp), .sv (.str p3.Row)]] [] (Xp0 r) (Xpz r) := by
 refine Xag hT Tryz.func9 rfl fun C hC => ?_
 unfold Xfw at h
 refine Xac ?_
 iterate 6 refine kO hT hC ?_
 refine Vc.nil (Xas ?_)
 refine kL [4,5,6,7,8] [64,80,96,112,128] [_,_,_,_,_] [_,_,_,_,_] ?_
 refine kA h (fun v1 => ([(23, .sv (.bool v1))], [])) (fun v1 h => ?_) fun v1 h => ?_
 refine Xab ?_
 iterate 2 refine kO hT hC ?_
 refine kC hC [] Tryz.call40 h (fun _ => Xg8) fun q2 h => ?_
 iterate 2 refine kO hT hC ?_
 refine kS h ?_ ?_ <;> intro b1 h
 iterate 2 refine kI hT hC (kn b1) ?_
 refine kE hC (kn b1) [] Tryz.call40 h (fun _ => Xg8) fun q3 h => ?_
 refine kI hT hC (kn b1) ?_
 refine kP hC false (kn b1) ?_
 exact Vc.nil kM
 iterate 4 refine kF hC (kn b1) ?_
 refine kP hC true (kn b1) ?_
 exact Vc.nil kM
 refine kS h ?_ ?_ <;> intro b2 h
 refine kt b2 (Xac ?_)
 iterate 3 refine kO hT hC ?_
 exact Vc.nil (Xah (Xat kR))
 refine kf b2 (Xaf (Xae (Xac ?_)))
 iterate 2 refine kO hT hC ?_
 refine kQ hT hC h fun h => ?_
 iterate 2 refine kO hT hC ?_
 refine kQ hT hC h fun h => ?_
 iterate 2 refine kO hT hC ?_
 refine Vc.nil (Xas (Xac ?_))
 iterate 3 refine kO hT hC ?_
 refine kC hC [] Tryz.call41 h (fun _ => Xx4) fun q4 h => ?_
 refine kO hT hC ?_
 refine Vc.nil ?_
 refine kS h ?_ ?_ <;> intro b3 h
 refine kt b3 (Xac ?_)
 iterate 3 refine kO hT hC ?_
 exact Vc.nil (Xah (Xat kR))
 refine kf b3 (Xaf (Xae (Xac ?_)))
 iterate 2 refine kO hT hC ?_
 refine kC hC [] Tryz.call42 h (fun _ => Xmf) fun q5 h => ?_
 iterate 2 refine kO hT hC ?_
 refine kN ?_
 iterate 4 refine kO hT hC ?_
 refine kC hC [(16, 736)] Tryz.call43 h (fun _ => Xlm) fun q6 h => ?_
 iterate 5 refine kO hT hC ?_
 refine kN ?_
 iterate 6 refine kO hT hC ?_
 refine kC hC [] Tryz.call44 h (fun _ => Xsy) fun q7 h => ?_
 iterate 4 refine kO hT hC ?_
 exact Vc.nil (Xah kR)
def Xu1 (r : Bool) : AV := .sv (.bool r)
def Xu0 (r : Bool) : Xa5 := []
theorem Xak {p0 p1 p2 r} (h : Xan p0 p1 p2 = some r) : AC Tryz.prog 61 [.sv (.int .i64 p0), .sv (.int .i64 p1), .sv (.int .i64 p2)] [] (Xu1 r) (Xu0 r) := by
 refine Xag hT Tryz.func61 rfl fun C hC => ?_
 unfold Xan at h
 refine Xac ?_
 refine kO hT hC ?_
 refine Vc.nil ?_
 refine kL [0,1,2,6] [] [_,_,_,_] [] ?_
 refine kA h (fun v1 => ([(6, .sv (.bool v1)), (0, .any), (1, .any), (2, .any)], [])) (fun v1 h => ?_) fun v1 h => ?_
 refine Xab ?_
 iterate 4 refine kO hT hC ?_
 refine kS h ?_ ?_ <;> intro b1 h
 iterate 3 refine kI hT hC b1 ?_
 refine kP hC true b1 ?_
 refine kO hT hC ?_
 exact Vc.nil kM
 iterate 3 refine kF hC b1 ?_
 refine kP hC false b1 ?_
 refine kO hT hC ?_
 exact Vc.nil kM
 exact Xah kR
def Xus (r : Bool) : AV := .sv (.bool r)
def Xur (r : Bool) : Xa5 := []
theorem Xhv {p0 r} (h : Xeq p0 = some r) : AC Tryz.prog 45 [.sv (.int .i64 p0)] [] (Xus r) (Xur r) := by
 refine Xag hT Tryz.func45 rfl fun C hC => ?_
 unfold Xeq at h
 refine Xac ?_
 refine kO hT hC ?_
 refine Vc.nil ?_
 refine kL [0,2] [] [_,_] [] ?_
 refine kA h (fun v1 => ([(2, .sv (.bool v1)), (0, .any)], [])) (fun v1 h => ?_) fun v1 h => ?_
 refine Xab ?_
 refine kO hT hC ?_
 refine kQ hT hC h fun h => ?_
 iterate 2 refine kO hT hC ?_
 refine kS h ?_ ?_ <;> intro b1 h
 refine kI hT hC b1 ?_
 refine kE hC b1 [] Tryz.call61 h (fun _ => Xak) fun q2 h => ?_
 refine kP hC true b1 ?_
 refine kO hT hC ?_
 exact Vc.nil kM
 iterate 2 refine kF hC b1 ?_
 refine kP hC false b1 ?_
 refine kO hT hC ?_
 exact Vc.nil kM
 exact Xah kR
def Xw9 (r : Bool) : AV := .sv (.bool r)
def Xw8 (r : Bool) : Xa5 := []
theorem Xzx {p0 r} (h : Xj2 p0 = some r) : AC Tryz.prog 46 [.agg [.sv (.int .i64 p0.Qp), .sv (.bool p0.Large), .sv (.bool p0.Exact), .sv (.bool p0.Confined)]] [] (Xw9 r) (Xw8 r) := by
 refine Xag hT Tryz.func46 rfl fun C hC => ?_
 unfold Xj2 at h
 refine Xac ?_
 iterate 2 refine kO hT hC ?_
 refine Vc.nil ?_
 refine kL [1,2] [16] [_,_] [_] ?_
 refine kA h (fun v1 => ([(2, .sv (.bool v1)), (1, .any)], [(16, none)])) (fun v1 h => ?_) fun v1 h => ?_
 refine Xab ?_
 iterate 2 refine kO hT hC ?_
 refine kC hC [] Tryz.call61 h (fun _ => Xak) fun q2 h => ?_
 refine kO hT hC ?_
 refine kS h ?_ ?_ <;> intro b1 h
 iterate 3 refine kI hT hC b1 ?_
 refine kS h ?_ ?_ <;> intro b2 h
 iterate 2 refine kI hT hC b2 ?_
 refine Xdd hC rfl rfl rfl rfl b1 rfl rfl (b := true) b2 rfl rfl rfl trivial ?_
 refine kI hT hC b1 ?_
 refine kP hC true b1 ?_
 refine kO hT hC ?_
 exact Vc.nil kM
 iterate 2 refine kF hC b2 ?_
 refine Xdd hC rfl rfl rfl rfl b1 rfl rfl (b := false) b2 rfl rfl rfl trivial ?_
 refine kI hT hC b1 ?_
 refine kP hC true b1 ?_
 refine kO hT hC ?_
 exact Vc.nil kM
 iterate 3 refine kF hC b1 ?_
 iterate 2 refine Xkt hC rfl rfl rfl rfl rfl rfl ?_
 iterate 2 refine kF hC b1 ?_
 refine kP hC false b1 ?_
 refine kO hT hC ?_
 exact Vc.nil kM
 exact Xah kR
def Xru (r : Xf8) : AV := .agg [.sv (.bool r.Key), .sv (.int .i64 r.Qp), .sv (.bool r.Large), .sv (.bool r.Exact)]
def Xrt (r : Xf8) : Xa5 := []
theorem Xt8 {p0 p1 r} (h : Xjl p0 p1 = some r) : AC Tryz.prog 47 [.agg [.sv (.int .i64 p0.Qp), .sv (.bool p0.Large), .sv (.bool p0.Exact), .sv (.bool p0.Confined)], .agg [.sv (.bool p1.Key), .sv (.int .i64 p1.Qp), .sv (.str p1.Row)]] [] (Xru r) (Xrt r) := by
 refine Xag hT Tryz.func47 rfl fun C hC => ?_
 unfold Xjl at h
 refine Xac ?_
 iterate 3 refine kO hT hC ?_
 refine kN ?_
 iterate 10 refine kO hT hC ?_
 exact Vc.nil (Xah kR)
def Xnd (r : Bool) : AV := .sv (.bool r)
def Xnc (r : Bool) : Xa5 := []
theorem Xzz {p0 r} (h : Xiy p0 = some r) : AC Tryz.prog 140 [.sv (.str p0)] [] (Xnd r) (Xnc r) := by
 refine Xag hT Tryz.func140 rfl fun C hC => ?_
 unfold Xiy at h
 refine Xac ?_
 refine kO hT hC ?_
 refine Vc.nil (Xas (Xac ?_))
 iterate 3 refine kO hT hC ?_
 refine Vc.nil ?_
 refine kS h ?_ ?_ <;> intro b1 h
 refine kt b1 (Xac ?_)
 refine kO hT hC ?_
 exact Vc.nil (Xah (Xat kR))
 refine kf b1 (Xaf (Xae (Xas (Xac ?_))))
 refine kO hT hC ?_
 refine Vc.nil ?_
 refine kL [0,3] [] [_,_] [] ?_
 obtain ⟨o8, hl, h⟩ := Xbd h
 refine Xf5 (fun v3 => ([(3, .sv (.int .i64 v3))], [])) (fun v6 => ([(0, .any), (3, .any)], [])) (fun r => Xl1 C T Tryz.f140.results.toList (Xnd r) (Xnc r)) hl ?_ ?_ ?_ ?_
 apply Xcv hC []
 exact co
 rfl
 decide
 rfl
 intro v3 s hs
 have h := hs
 unfold Xkz at h
 refine Xas (Xac ?_)
 iterate 4 refine kO hT hC ?_
 refine Vc.nil ?_
 refine kS h ?_ ?_ <;> intro b8 h
 refine kt b8 (Xaf (Xae (Xas (Xam ?_))))
 refine kL [0,3] [] [_,_] [] ?_
 refine kA h (fun v7 => ([(22, .sv (.bool v7))], [])) (fun v7 h => ?_) fun v7 h => ?_
 refine Xab ?_
 iterate 2 refine kO hT hC ?_
 refine kQ hT hC h fun h => ?_
 iterate 2 refine kO hT hC ?_
 refine kS h ?_ ?_ <;> intro b9 h
 iterate 2 refine kI hT hC b9 ?_
 refine kJ hT hC b9 h fun h => ?_
 refine kI hT hC b9 ?_
 refine kP hC true b9 ?_
 exact Vc.nil kM
 iterate 4 refine kF hC b9 ?_
 refine kP hC false b9 ?_
 exact Vc.nil kM
 refine kS h ?_ ?_ <;> intro b10 h
 refine kt b10 (Xac ?_)
 refine kO hT hC ?_
 refine Vc.nil (Xah (Xgj (Xat ?_)))
 obtain rfl := kj h
 refine Xna (Xm9 ?_)
 exact Xcw (Xif.refl _) rfl trivial
 refine kf b10 (Xaf (Xap (Xae (Xab ?_))))
 iterate 3 refine kO hT hC ?_
 exact Vc.nil kG
 exact kf b8 (Xaq (Xaw kb))
 intro v6 e
 subst e
 refine Xae (Xac ?_)
 refine kO hT hC ?_
 exact Vc.nil (Xah kR)
 intro r' σ' e hE
 subst e
 obtain rfl := kj h
 refine Xat ?_
 exact hE
def Xuv (r : Xi2) : AV := .ptr 16 0
def Xuu (r : Xi2) : Xa5 := [(16, .box [.sv (.str r.row_), .sv (.int .i64 r.at_), .sv (.bool r.bad_)])]
theorem Xxg {p0 p1 r} (h : Xk1 p0 p1 = some r) : AC Tryz.prog 90 [.sv (.str p0), .sv (.int .i64 p1)] [] (Xuv r) (Xuu r) := by
 refine Xag hT Tryz.func90 rfl fun C hC => ?_
 unfold Xk1 at h
 refine Xac ?_
 refine kO hT hC ?_
 refine Vc.nil ?_
 refine kL [0,1] [] [_,_] [] ?_
 refine kA h (fun v1 => ([(4, .ptr 321 0), (0, .any), (1, .any)], [(321, some (.box [.sv (.str p0), .sv (.int .i64 p1), .sv (.bool v1)]))])) (fun v1 h => ?_) fun v1 h => ?_
 refine Xab ?_
 iterate 3 refine kO hT hC ?_
 refine kC hC [] Tryz.call140 h (fun _ => Xzz) fun q2 h => ?_
 iterate 2 refine kO hT hC ?_
 refine kS h ?_ ?_ <;> intro b1 h
 iterate 3 refine kI hT hC (kn b1) ?_
 refine kE hC (kn b1) [] Tryz.call61 h (fun _ => Xak) fun q3 h => ?_
 refine kI hT hC (kn b1) ?_
 refine kP hC false (kn b1) ?_
 iterate 3 refine kO hT hC ?_
 refine Vc.nil ?_
 obtain rfl := kj h
 exact Xge (kW hC [(321, 288)])
 iterate 5 refine kF hC (kn b1) ?_
 refine kP hC true (kn b1) ?_
 iterate 3 refine kO hT hC ?_
 refine Vc.nil ?_
 obtain rfl := kj h
 exact Xge (kW hC [(321, 288)])
 refine Xah ?_
 obtain rfl := kj h
 exact Xcw (τ := ⟨[(4, .ptr 16 0)], [(16, some (.box [.sv (.str p0), .sv (.int .i64 p1), .sv (.bool v1)]))]⟩) (kW hC [(16, 321)]) rfl ⟨rfl, trivial⟩
def Xua (r : Bool) : AV := .sv (.bool r)
def Xt9 (r : Bool) : Xa5 := []
theorem Xht {p0 r} (h : Xen p0 = some r) : AC Tryz.prog 60 [.agg [.sv (.bool p0.Key), .sv (.int .i64 p0.Qp), .sv (.bool p0.Large), .sv (.bool p0.Exact)]] [] (Xua r) (Xt9 r) := by
 refine Xag hT Tryz.func60 rfl fun C hC => ?_
 unfold Xen at h
 refine Xac ?_
 iterate 2 refine kO hT hC ?_
 refine Vc.nil ?_
 refine kL [1,2] [16] [_,_] [_] ?_
 refine kA h (fun v1 => ([(2, .sv (.bool v1)), (1, .any)], [(16, none)])) (fun v1 h => ?_) fun v1 h => ?_
 refine Xab ?_
 iterate 2 refine kO hT hC ?_
 refine kC hC [] Tryz.call61 h (fun _ => Xak) fun q2 h => ?_
 refine kO hT hC ?_
 refine kS h ?_ ?_ <;> intro b1 h
 iterate 3 refine kI hT hC b1 ?_
 refine kS h ?_ ?_ <;> intro b2 h
 iterate 2 refine kI hT hC b2 ?_
 refine Xdd hC rfl rfl rfl rfl b1 rfl rfl (b := true) b2 rfl rfl rfl trivial ?_
 refine kI hT hC b1 ?_
 refine kP hC true b1 ?_
 refine kO hT hC ?_
 exact Vc.nil kM
 iterate 2 refine kF hC b2 ?_
 refine Xdd hC rfl rfl rfl rfl b1 rfl rfl (b := false) b2 rfl rfl rfl trivial ?_
 refine kI hT hC b1 ?_
 refine kP hC true b1 ?_
 refine kO hT hC ?_
 exact Vc.nil kM
 iterate 3 refine kF hC b1 ?_
 iterate 2 refine Xkt hC rfl rfl rfl rfl rfl rfl ?_
 iterate 2 refine kF hC b1 ?_
 refine kP hC false b1 ?_
 refine kO hT hC ?_
 exact Vc.nil kM
 exact Xah kR
def Xqz (r : (Int × Xi2)) : AV := .sv (.int .i64 r.1)
def Xqy (r : (Int × Xi2)) : Xa5 := [(0, .box [.sv (.str r.2.row_), .sv (.int .i64 r.2.at_), .sv (.bool r.2.bad_)])]
theorem Xsa {p0 p1 r} (h : Xcn p0 p1 = some r) : AC Tryz.prog 193 [.ptr 0 0, .sv (.int .i64 p1)] [(0, .box [.sv (.str p0.row_), .sv (.int .i64 p0.at_), .sv (.bool p0.bad_)])] (Xqz r) (Xqy r) := by
 refine Xag hT Tryz.func193 rfl fun C hC => ?_
 unfold Xcn at h
 refine Xac ?_
 refine kO hT hC ?_
 refine Vc.nil (Xas ?_)
 refine kL [0,1] [0] [_,_] [_] ?_
 refine kA h (fun v1 => ([(24, .sv (.bool v1))], [])) (fun v1 h => ?_) fun v1 h => ?_
 refine Xdo hm ?_
 iterate 5 refine kO hT hC ?_
 refine kS h ?_ ?_ <;> intro b1 h
 iterate 12 refine kF hC b1 ?_
 refine kP hC true b1 ?_
 exact kD kM
 iterate 12 refine kI hT hC b1 ?_
 refine kP hC false b1 ?_
 exact kD kM
 refine kS h ?_ ?_ <;> intro b2 h
 refine kt b2 (Xac ?_)
 iterate 4 refine kO hT hC ?_
 refine kN ?_
 refine kO hT hC ?_
 refine Vc.nil (Xah (Xat ?_))
 obtain rfl := kj h
 exact Xcw (Xif.refl _) rfl ⟨rfl, trivial⟩
 refine kf b2 (Xaf (Xae (Xac ?_)))
 refine kO hT hC ?_
 refine Vc.nil (Xas (Xac ?_))
 refine kO hT hC ?_
 refine Vc.nil ?_
 refine kL [0,1,5,6] [0] [_,_,_,_] [_] ?_
 refine kX h (fun v3 => ([(5, .sv (.int .i64 v3.1)), (6, .sv (.int .i64 v3.2))], [])) (fun v5 => ([(5, .sv (.int .i64 v5)), (6, .any)], [])) (kW hC []) (fun v3 s h => ?_) fun v5 h => ?_
 unfold Xec at h
 refine Xas (Xac ?_)
 iterate 3 refine kO hT hC ?_
 refine Vc.nil ?_
 refine kS h ?_ ?_ <;> intro b5 h
 refine kt b5 (Xaf (Xae (Xas (Xam ?_))))
 refine Xdo hm ?_
 refine kO hT hC ?_
 refine kQ hT hC h fun h => ?_
 iterate 10 refine kO hT hC ?_
 refine kQ hT hC h fun h => ?_
 iterate 4 refine kO hT hC ?_
 refine kD (Xap (Xae (Xab ?_)))
 iterate 3 refine kO hT hC ?_
 exact Vc.nil kG
 exact kf b5 (Xaq (Xaw ku))
 refine Xae (Xac ?_)
 iterate 10 refine kO hT hC ?_
 refine kN ?_
 iterate 2 refine kO hT hC ?_
 refine Vc.nil (Xah ?_)
 obtain rfl := kj h
 exact Xcw (Xif.refl _) rfl ⟨rfl, trivial⟩
def Xse (r : (Int × Xi2)) : AV := .sv (.int .i64 r.1)
def Xsd (r : (Int × Xi2)) : Xa5 := [(0, .box [.sv (.str r.2.row_), .sv (.int .i64 r.2.at_), .sv (.bool r.2.bad_)])]
theorem Xer {p0 r} (h : Xbh p0 = some r) : AC Tryz.prog 141 [.ptr 0 0] [(0, .box [.sv (.str p0.row_), .sv (.int .i64 p0.at_), .sv (.bool p0.bad_)])] (Xse r) (Xsd r) := by
 refine Xag hT Tryz.func141 rfl fun C hC => ?_
 unfold Xbh at h
 refine Xac ?_
 refine kO hT hC ?_
 refine kN ?_
 refine kO hT hC ?_
 refine Vc.nil (Xas ?_)
 refine kL [0,3] [0] [_,_] [_] ?_
 refine kX h (fun v3 => ([(3, .sv (.int .i64 v3))], [])) (fun v6 => ([(3, .sv (.int .i64 v6))], [])) (kW hC []) (fun v3 s h => ?_) fun v6 h => ?_
 unfold Xc1 at h
 refine Xas ?_
 refine kL [0,3] [0] [_,_] [_] ?_
 refine kA h (fun v7 => ([(37, .sv (.bool v7))], [])) (fun v7 h => ?_) fun v7 h => ?_
 refine Xdo hm ?_
 iterate 6 refine kO hT hC ?_
 refine kS h ?_ ?_ <;> intro b7 h
 iterate 12 refine kF hC (kn b7) ?_
 refine kP hC false (kn b7) ?_
 refine kO hT hC ?_
 iterate 12 refine kF hC rfl ?_
 refine kO hT hC ?_
 exact kD kM
 iterate 12 refine kI hT hC (kn b7) ?_
 refine kP hC true (kn b7) ?_
 refine kO hT hC ?_
 refine kS h ?_ ?_ <;> intro b8 h
 iterate 10 refine kI hT hC b8 ?_
 refine kJ hT hC b8 h fun h => ?_
 refine kI hT hC b8 ?_
 refine kP hC true b8 ?_
 exact kD kM
 iterate 12 refine kF hC b8 ?_
 refine kP hC false b8 ?_
 exact kD kM
 refine kS h ?_ ?_ <;> intro b9 h
 refine kt b9 (Xaf (Xae (Xam (Xab ?_))))
 iterate 3 refine kO hT hC ?_
 exact Vc.nil (Xap kG)
 exact kf b9 (Xaq (Xaw ku))
 refine Xae ?_
 refine kL [0,3] [0] [_,_] [_] ?_
 refine kA h (fun v9 => ([], [(0, some (.box [.sv (.str p0.row_), .sv (.int .i64 p0.at_), .sv (.bool v9)]))])) (fun v9 h => ?_) fun v9 h => ?_
 refine Xac ?_
 iterate 2 refine kO hT hC ?_
 refine Vc.nil ?_
 refine kS h ?_ ?_ <;> intro b10 h
 refine kt b10 (Xab ?_)
 iterate 4 refine kO hT hC ?_
 exact Vc.nil kM
 exact kf b10 (Xaf kM)
 refine Xac ?_
 iterate 4 refine kO hT hC ?_
 refine kC hC [(0, 0)] Tryz.call193 h (fun _ => Xsa) fun q10 h => ?_
 iterate 2 refine kO hT hC ?_
 refine Vc.nil (Xas ?_)
 refine kL [0,4] [0] [_,_] [_] ?_
 refine kA h (fun v11 => ([(58, .sv (.bool v11))], [])) (fun v11 h => ?_) fun v11 h => ?_
 refine Xab ?_
 iterate 5 refine kO hT hC ?_
 refine kS h ?_ ?_ <;> intro b11 h
 iterate 2 refine kF hC b11 ?_
 refine kP hC true b11 ?_
 exact Vc.nil kM
 iterate 2 refine kI hT hC b11 ?_
 refine kP hC false b11 ?_
 exact Vc.nil kM
 refine kS h ?_ ?_ <;> intro b12 h
 refine kt b12 (Xac ?_)
 iterate 4 refine kO hT hC ?_
 refine kN ?_
 refine kO hT hC ?_
 refine Vc.nil (Xah (Xat ?_))
 obtain rfl := kj h
 exact Xcw (Xif.refl _) rfl ⟨rfl, trivial⟩
 refine kf b12 (Xaf (Xae (Xac ?_)))
 iterate 2 refine kO hT hC ?_
 refine Vc.nil (Xah ?_)
 obtain rfl := kj h
 exact Xcw (Xif.refl _) rfl ⟨rfl, trivial⟩
def Xuj (r : (Int × Bool)) : AV := .tup [.sv (.int .i64 r.1), .sv (.bool r.2)]
def Xui (r : (Int × Bool)) : Xa5 := []
theorem Xw7 {p0 r} (h : Xi4 p0 = some r) : AC Tryz.prog 194 [.sv (.int .i64 p0)] [] (Xuj r) (Xui r) := by
 refine Xag hT Tryz.func194 rfl fun C hC => ?_
 unfold Xi4 at h
 refine Xac ?_
 iterate 2 refine kO hT hC ?_
 refine Vc.nil (Xas (Xam (Xac ?_)))
 refine kO hT hC ?_
 refine kC hC [] Tryz.call61 h (fun _ => Xak) fun q1 h => ?_
 iterate 2 refine kO hT hC ?_
 refine Vc.nil ?_
 refine kS h ?_ ?_ <;> intro b1 h
 refine kt b1 (Xac ?_)
 iterate 2 refine kO hT hC ?_
 exact Vc.nil (Xah (Xgj (Xat kR)))
 refine kf b1 (Xac ?_)
 refine kO hT hC ?_
 refine kQ hT hC h fun h => ?_
 iterate 2 refine kO hT hC ?_
 refine Vc.nil ?_
 refine kS h ?_ ?_ <;> intro b2 h
 refine kt b2 (Xac ?_)
 iterate 2 refine kO hT hC ?_
 refine kQ hT hC h fun h => ?_
 iterate 2 refine kO hT hC ?_
 exact Vc.nil (Xah (Xgj (Xat kR)))
 refine kf b2 (Xaf (Xap (Xae (Xac ?_))))
 iterate 2 refine kO hT hC ?_
 refine kQ hT hC h fun h => ?_
 iterate 2 refine kO hT hC ?_
 exact Vc.nil (Xah kR)
def Xsc (r : (Int × Xi2)) : AV := .sv (.int .i64 r.1)
def Xsb (r : (Int × Xi2)) : Xa5 := [(0, .box [.sv (.str r.2.row_), .sv (.int .i64 r.2.at_), .sv (.bool r.2.bad_)])]
theorem Xi6 {p0 r} (h : Xbn p0 = some r) : AC Tryz.prog 142 [.ptr 0 0] [(0, .box [.sv (.str p0.row_), .sv (.int .i64 p0.at_), .sv (.bool p0.bad_)])] (Xsc r) (Xsb r) := by
 refine Xag hT Tryz.func142 rfl fun C hC => ?_
 unfold Xbn at h
 refine Xac ?_
 refine kO hT hC ?_
 refine kN ?_
 refine kO hT hC ?_
 refine kC hC [(0, 0)] Tryz.call141 h (fun _ => Xer) fun q1 h => ?_
 refine kC hC [] Tryz.call194 h (fun _ => Xw7) fun q2 h => ?_
 iterate 5 refine kO hT hC ?_
 refine Vc.nil ?_
 refine kL [0,3,4] [0] [_,_,_] [_] ?_
 refine kA h (fun v3 => ([(0, .any), (4, .any)], [(0, some (.box [.sv (.str q1.2.row_), .sv (.int .i64 q1.2.at_), .sv (.bool v3)]))])) (fun v3 h => ?_) fun v3 h => ?_
 refine Xab ?_
 iterate 6 refine kO hT hC ?_
 refine kS h ?_ ?_ <;> intro b1 h
 iterate 2 refine kF hC b1 ?_
 refine kP hC true b1 ?_
 iterate 3 refine kO hT hC ?_
 exact Vc.nil kM
 iterate 2 refine kI hT hC b1 ?_
 refine kP hC false b1 ?_
 iterate 3 refine kO hT hC ?_
 exact Vc.nil kM
 refine Xac ?_
 iterate 2 refine kO hT hC ?_
 refine Vc.nil (Xah ?_)
 obtain rfl := kj h
 exact Xcw (Xif.refl _) rfl ⟨rfl, trivial⟩
def Xpi (r : ((List Int) × Xi2)) : AV := .own 16
def Xph (r : ((List Int) × Xi2)) : Xa5 := [(16, .ints .i64 r.1), (0, .box [.sv (.str r.2.row_), .sv (.int .i64 r.2.at_), .sv (.bool r.2.bad_)])]
theorem Xka {p0 p1 r} (h : Xb7 p0 p1 = some r) : AC Tryz.prog 195 [.ptr 0 0, .sv (.int .i64 p1)] [(0, .box [.sv (.str p0.row_), .sv (.int .i64 p0.at_), .sv (.bool p0.bad_)])] (Xpi r) (Xph r) := by
 refine Xag hT Tryz.func195 rfl fun C hC => ?_
 unfold Xb7 at h
 refine Xac ?_
 refine kO hT hC ?_
 refine kN ?_
 refine kO hT hC ?_
 obtain ⟨hq, h⟩ := Xay h
 refine Ybg hT hC rfl rfl rfl rfl ⟨hq.1, hq.2.1, hq.2.2, by decide⟩ ?_
 refine kO hT hC ?_
 refine kN ?_
 refine kO hT hC ?_
 refine Vc.nil (Xas (Xac ?_))
 refine kO hT hC ?_
 refine kC hC [(0, 0)] Tryz.call141 h (fun _ => Xer) fun q1 h => ?_
 refine kO hT hC ?_
 refine Vc.nil ?_
 refine kL [0,1,5,6,7] [0,160] [_,_,_,_,_] [_,_] ?_
 refine kX h (fun v8 => ([(6, .sv (.int .i64 v8.1)), (7, .sv (.int .i64 v8.2.1))], [(0, some (.box [.sv (.str v8.2.2.1), .sv (.int .i64 v8.2.2.2.1), .sv (.bool v8.2.2.2.2.1)])), (160, some (.ints .i64 v8.2.2.2.2.2))])) (fun v15 => ([(0, .any), (1, .any), (6, .any), (7, .any)], [(0, some (.box [.sv (.str v15.2.1), .sv (.int .i64 v15.2.2.1), .sv (.bool v15.2.2.2)])), (160, some (.ints .i64 v15.1))])) (kW hC []) (fun v8 s h => ?_) fun v15 h => ?_
 unfold Xa4 at h
 refine Xas ?_
 refine kL [0,1,5,6,7] [0,160] [_,_,_,_,_] [_,_] ?_
 refine kA h (fun v16 => ([(21, .sv (.bool v16))], [])) (fun v16 h => ?_) fun v16 h => ?_
 refine Xab ?_
 iterate 3 refine kO hT hC ?_
 refine kS h ?_ ?_ <;> intro b11 h
 iterate 5 refine kI hT hC b11 ?_
 refine kP hC true b11 ?_
 exact Vc.nil kM
 iterate 5 refine kF hC b11 ?_
 refine kP hC false b11 ?_
 exact Vc.nil kM
 refine kS h ?_ ?_ <;> intro b12 h
 refine kt b12 (Xaf (Xae (Xas (Xam (Xac ?_)))))
 iterate 2 refine kO hT hC ?_
 refine kC hC [(0, 0)] Tryz.call141 h (fun _ => Xer) fun q17 h => ?_
 iterate 2 refine kO hT hC ?_
 refine kN ?_
 refine kO hT hC ?_
 refine kC hC [(0, 0)] Tryz.call142 h (fun _ => Xi6) fun q18 h => ?_
 refine kO hT hC ?_
 refine Vc.nil (Xas ?_)
 refine kL [0,1,5,6,7,8] [0,160] [_,_,_,_,_,_] [_,_] ?_
 refine kA h (fun v19 => ([(41, .sv (.bool v19))], [])) (fun v19 h => ?_) fun v19 h => ?_
 refine Xab ?_
 iterate 4 refine kO hT hC ?_
 refine kS h ?_ ?_ <;> intro b13 h
 iterate 2 refine kF hC b13 ?_
 refine kP hC true b13 ?_
 refine kO hT hC ?_
 iterate 3 refine kF hC rfl ?_
 refine kO hT hC ?_
 exact Vc.nil kM
 iterate 2 refine kI hT hC b13 ?_
 refine kP hC false b13 ?_
 refine kO hT hC ?_
 refine kS h ?_ ?_ <;> intro b14 h
 iterate 3 refine kF hC b14 ?_
 refine kP hC true b14 ?_
 exact Vc.nil kM
 refine kI hT hC b14 ?_
 refine kE hC b14 [] Tryz.call61 h (fun _ => Xak) fun q20 h => ?_
 refine kI hT hC b14 ?_
 refine kP hC false b14 ?_
 exact Vc.nil kM
 refine kS h ?_ ?_ <;> intro b15 h
 refine kt b15 (Xac ?_)
 iterate 4 refine kO hT hC ?_
 refine Vc.nil (Xaq (Xaw ?_))
 refine Yjw rfl ?_
 exact Xaw ku
 refine kf b15 (Xaf (Xae (Xac ?_)))
 iterate 3 refine kO hT hC ?_
 iterate 2 refine kQ hT hC h fun h => ?_
 refine Vc.nil (Xab ?_)
 iterate 3 refine kO hT hC ?_
 refine Vc.nil (Xap (Xae (Xab ?_)))
 iterate 3 refine kO hT hC ?_
 exact Vc.nil kG
 exact kf b12 (Xaq (Xaw ku))
 refine Xae (Xac ?_)
 iterate 2 refine kO hT hC ?_
 refine Vc.nil (Xah ?_)
 obtain rfl := kj h
 exact Xcw (τ := ⟨[(4, .own 16)], [(16, some (.ints .i64 v15.1)), (0, some (.box [.sv (.str v15.2.1), .sv (.int .i64 v15.2.2.1), .sv (.bool v15.2.2.2)]))]⟩) (kW hC [(16, 160)]) rfl ⟨rfl, rfl, trivial⟩
def Xm6 (r : ((List Int) × Xi2)) : AV := .own 16
def Xm5 (r : ((List Int) × Xi2)) : Xa5 := [(16, .ints .i64 r.1), (0, .box [.sv (.str r.2.row_), .sv (.int .i64 r.2.at_), .sv (.bool r.2.bad_)])]
theorem Xi5 {p0 p1 r} (h : Xa9 p0 p1 = some r) : AC Tryz.prog 143 [.ptr 0 0, .agg [.sv (.bool p1.Key), .sv (.int .i64 p1.Qp), .sv (.bool p1.Large), .sv (.bool p1.Exact)]] [(0, .box [.sv (.str p0.row_), .sv (.int .i64 p0.at_), .sv (.bool p0.bad_)])] (Xm6 r) (Xm5 r) := by
 refine Xag hT Tryz.func143 rfl fun C hC => ?_
 unfold Xa9 at h
 refine Xac ?_
 iterate 2 refine kO hT hC ?_
 refine Vc.nil (Xas ?_)
 refine kL [0,3] [0,48] [_,_] [_,_] ?_
 refine kA h (fun v1 => ([(11, .sv (.bool v1)), (3, .any)], [(48, none)])) (fun v1 h => ?_) fun v1 h => ?_
 refine Xab ?_
 iterate 3 refine kO hT hC ?_
 refine kS h ?_ ?_ <;> intro b1 h
 iterate 2 refine kF hC b1 ?_
 refine kP hC true b1 ?_
 exact Vc.nil kM
 iterate 2 refine kI hT hC b1 ?_
 refine kP hC false b1 ?_
 exact Vc.nil kM
 refine kS h ?_ ?_ <;> intro b2 h
 refine kt b2 (Xac ?_)
 refine kO hT hC ?_
 refine kC hC [(16, 208), (0, 0)] Tryz.call195 h (fun _ => Xka) fun q2 h => ?_
 refine kO hT hC ?_
 refine Vc.nil (Xah (Xat ?_))
 obtain rfl := kj h
 exact Xcw (τ := ⟨[(4, .own 16)], [(16, some (.ints .i64 q2.1)), (0, some (.box [.sv (.str q2.2.row_), .sv (.int .i64 q2.2.at_), .sv (.bool q2.2.bad_)]))]⟩) (kW hC [(16, 208)]) rfl ⟨rfl, rfl, trivial⟩
 refine kf b2 (Xaf (Xae (Xac ?_)))
 iterate 2 refine kO hT hC ?_
 refine Vc.nil (Xas (Xac ?_))
 refine kO hT hC ?_
 refine Vc.nil ?_
 refine kL [0,5,15] [0,224] [_,_,_] [_,_] ?_
 refine kX h (fun v5 => ([(15, .sv (.int .i64 v5.1))], [(0, some (.box [.sv (.str v5.2.1), .sv (.int .i64 v5.2.2.1), .sv (.bool v5.2.2.2.1)])), (224, some (.ints .i64 v5.2.2.2.2))])) (fun v8 => ([(0, .any), (15, .any)], [(0, some (.box [.sv (.str v8.2.1), .sv (.int .i64 v8.2.2.1), .sv (.bool v8.2.2.2)])), (224, some (.ints .i64 v8.1))])) (kW hC []) (fun v5 s h => ?_) fun v8 h => ?_
 unfold Xa2 at h
 refine Xac ?_
 refine kO hT hC ?_
 refine Vc.nil (Xas ?_)
 refine kS h ?_ ?_ <;> intro b5 h
 refine kt b5 (Xaf (Xae (Xas (Xam (Xab ?_)))))
 iterate 2 refine kO hT hC ?_
 refine kC hC [(16, 304), (0, 0)] Tryz.call195 h (fun _ => Xka) fun q9 h => ?_
 refine kT hT hC h fun h => ?_
 refine kO hT hC ?_
 refine Vc.nil (Xap (Xae (Xab ?_)))
 iterate 2 refine kO hT hC ?_
 refine Vc.nil ?_
 obtain rfl := kj h
 exact Ycs (kW hC [(224, 320)])
 exact kf b5 (Xaq (Xaw ku))
 refine Xae (Xac ?_)
 iterate 2 refine kO hT hC ?_
 refine Vc.nil (Xah ?_)
 obtain rfl := kj h
 exact Xcw (τ := ⟨[(4, .own 16)], [(16, some (.ints .i64 v8.1)), (0, some (.box [.sv (.str v8.2.1), .sv (.int .i64 v8.2.2.1), .sv (.bool v8.2.2.2)]))]⟩) (kW hC [(16, 224)]) rfl ⟨rfl, rfl, trivial⟩
def Xng (r : Bool) : AV := .sv (.bool r)
def Xnf (r : Bool) : Xa5 := []
theorem Xfc {p0 p1 p2 p3 r} (h : Xcx p0 p1 p2 p3 = some r) : AC Tryz.prog 59 [.sv (.ints .i64 p0), .sv (.int .i64 p1), .sv (.int .i64 p2), .sv (.int .i64 p3)] [] (Xng r) (Xnf r) := by
 refine Xag hT Tryz.func59 rfl fun C hC => ?_
 unfold Xcx at h
 refine Xac ?_
 refine kO hT hC ?_
 refine Vc.nil (Xas (Xac ?_))
 iterate 3 refine kO hT hC ?_
 refine Vc.nil ?_
 refine kL [0,1,2,3,11,12,13] [] [_,_,_,_,_,_,_] [] ?_
 obtain ⟨o8, hl, h⟩ := Xbd h
 refine Xf5 (fun v3 => ([(13, .sv (.int .i64 v3))], [])) (fun v6 => ([(2, .any), (3, .any), (11, .any), (12, .any), (13, .any)], [])) (fun r => Xl1 C T Tryz.f59.results.toList (Xng r) (Xnf r)) hl ?_ ?_ ?_ ?_
 apply Xcv hC []
 exact co
 rfl
 decide
 rfl
 intro v3 s hs
 have h := hs
 unfold Xgv at h
 refine Xac ?_
 refine kO hT hC ?_
 refine Vc.nil (Xas ?_)
 refine kS h ?_ ?_ <;> intro b5 h
 refine kt b5 (Xaf (Xae (Xas (Xam (Xac ?_)))))
 refine kQ hT hC h fun h => ?_
 iterate 2 refine kO hT hC ?_
 refine kN ?_
 iterate 3 refine kO hT hC ?_
 refine kC hC [] Tryz.call61 h (fun _ => Xak) fun q7 h => ?_
 refine kO hT hC ?_
 refine Vc.nil ?_
 refine kS h ?_ ?_ <;> intro b6 h
 refine kt b6 (Xac ?_)
 refine kO hT hC ?_
 refine Vc.nil (Xah (Xgj (Xat ?_)))
 obtain rfl := kj h
 refine Xna (Xm9 ?_)
 exact Xcw (Xif.refl _) rfl trivial
 refine kf b6 (Xaf (Xap (Xae (Xab ?_))))
 iterate 2 refine kO hT hC ?_
 exact Vc.nil kG
 exact kf b5 (Xaq (Xaw kb))
 intro v6 e
 subst e
 refine Xae (Xac ?_)
 iterate 5 refine kO hT hC ?_
 exact Vc.nil (Xah kR)
 intro r' σ' e hE
 subst e
 obtain rfl := kj h
 refine Xat ?_
 exact hE
def Xpb (r : Bool) : AV := .sv (.bool r)
def Xpa (r : Bool) : Xa5 := []
theorem Xhf {p0 r} (h : Xdg p0 = some r) : AC Tryz.prog 174 [.sv (.ints .i64 p0)] [] (Xpb r) (Xpa r) := by
 refine Xag hT Tryz.func174 rfl fun C hC => ?_
 unfold Xdg at h
 refine Xac ?_
 refine kO hT hC ?_
 refine kN ?_
 refine kO hT hC ?_
 refine kC hC [] Tryz.call59 h (fun _ => Xfc) fun q1 h => ?_
 refine kO hT hC ?_
 exact Vc.nil (Xah kR)
def Xqt (r : Bool) : AV := .sv (.bool r)
def Xqs (r : Bool) : Xa5 := []
theorem Xli {p0 r} (h : Xd7 p0 = some r) : AC Tryz.prog 122 [.agg [.sv (.int .i64 p0.Kind), .sv (.int .i64 p0.Mode), .sv (.int .i64 p0.Dx), .sv (.int .i64 p0.Dy), .sv (.ints .i64 p0.Levels)]] [] (Xqt r) (Xqs r) := by
 refine Xag hT Tryz.func122 rfl fun C hC => ?_
 unfold Xd7 at h
 refine Xac ?_
 iterate 2 refine kO hT hC ?_
 refine Vc.nil (Xas (Xac ?_))
 iterate 2 refine kO hT hC ?_
 refine Vc.nil (Xam (Xac ?_))
 iterate 2 refine kO hT hC ?_
 refine Vc.nil ?_
 refine kS h ?_ ?_ <;> intro b1 h
 refine kt b1 ?_
 refine kL [1,2] [16] [_,_] [_] ?_
 refine kA h (fun v1 => ([(2, .sv (.bool v1)), (1, .any)], [(16, none)])) (fun v1 h => ?_) fun v1 h => ?_
 refine Xab ?_
 iterate 4 refine kO hT hC ?_
 refine kS h ?_ ?_ <;> intro b2 h
 iterate 3 refine kI hT hC b2 ?_
 refine kP hC true b2 ?_
 refine kO hT hC ?_
 refine kS h ?_ ?_ <;> intro b3 h
 iterate 3 refine kI hT hC b3 ?_
 refine kP hC true b3 ?_
 refine kO hT hC ?_
 refine kS h ?_ ?_ <;> intro b4 h
 iterate 4 refine kI hT hC b4 ?_
 refine kP hC true b4 ?_
 refine kO hT hC ?_
 exact Vc.nil kM
 iterate 4 refine kF hC b4 ?_
 refine kP hC false b4 ?_
 refine kO hT hC ?_
 exact Vc.nil kM
 iterate 3 refine kF hC b3 ?_
 refine kP hC false b3 ?_
 refine kO hT hC ?_
 iterate 4 refine kF hC rfl ?_
 iterate 2 refine kO hT hC ?_
 exact Vc.nil kM
 iterate 3 refine kF hC b2 ?_
 refine kP hC false b2 ?_
 refine kO hT hC ?_
 iterate 3 refine kF hC rfl ?_
 iterate 2 refine kO hT hC ?_
 iterate 4 refine kF hC rfl ?_
 iterate 2 refine kO hT hC ?_
 exact Vc.nil kM
 exact Xah (Xgj (Xat kR))
 refine kf b1 (Xac ?_)
 iterate 2 refine kO hT hC ?_
 refine Vc.nil ?_
 refine kS h ?_ ?_ <;> intro b5 h
 refine kt b5 ?_
 refine kL [1,2] [16] [_,_] [_] ?_
 refine kA h (fun v2 => ([(2, .sv (.bool v2)), (1, .any)], [(16, none)])) (fun v2 h => ?_) fun v2 h => ?_
 refine Xab ?_
 iterate 4 refine kO hT hC ?_
 refine kS h ?_ ?_ <;> intro b6 h
 iterate 2 refine kI hT hC b6 ?_
 refine kE hC b6 [] Tryz.call61 h (fun _ => Xak) fun q3 h => ?_
 refine kP hC true b6 ?_
 refine kO hT hC ?_
 refine kS h ?_ ?_ <;> intro b7 h
 iterate 2 refine kI hT hC b7 ?_
 refine kE hC b7 [] Tryz.call61 h (fun _ => Xak) fun q4 h => ?_
 refine kP hC true b7 ?_
 refine kO hT hC ?_
 refine kS h ?_ ?_ <;> intro b8 h
 iterate 2 refine kI hT hC b8 ?_
 refine kE hC b8 [] Tryz.call174 h (fun _ => Xhf) fun q5 h => ?_
 refine kP hC true b8 ?_
 refine kO hT hC ?_
 exact Vc.nil kM
 iterate 3 refine kF hC b8 ?_
 refine kP hC false b8 ?_
 refine kO hT hC ?_
 exact Vc.nil kM
 iterate 3 refine kF hC b7 ?_
 refine kP hC false b7 ?_
 refine kO hT hC ?_
 iterate 3 refine kF hC rfl ?_
 iterate 2 refine kO hT hC ?_
 exact Vc.nil kM
 iterate 3 refine kF hC b6 ?_
 refine kP hC false b6 ?_
 refine kO hT hC ?_
 iterate 3 refine kF hC rfl ?_
 iterate 2 refine kO hT hC ?_
 iterate 3 refine kF hC rfl ?_
 iterate 2 refine kO hT hC ?_
 exact Vc.nil kM
 exact Xah (Xgj (Xat kR))
 refine kf b5 (Xac ?_)
 iterate 2 refine kO hT hC ?_
 refine Vc.nil ?_
 refine kS h ?_ ?_ <;> intro b9 h
 refine kt b9 ?_
 refine kL [1,2] [16] [_,_] [_] ?_
 refine kA h (fun v6 => ([(2, .sv (.bool v6)), (1, .any)], [(16, none)])) (fun v6 h => ?_) fun v6 h => ?_
 refine Xab ?_
 iterate 2 refine kO hT hC ?_
 refine kC hC [] Tryz.call61 h (fun _ => Xak) fun q7 h => ?_
 refine kO hT hC ?_
 refine kS h ?_ ?_ <;> intro b10 h
 iterate 3 refine kI hT hC b10 ?_
 refine kP hC true b10 ?_
 refine kO hT hC ?_
 refine kS h ?_ ?_ <;> intro b11 h
 iterate 3 refine kI hT hC b11 ?_
 refine kP hC true b11 ?_
 refine kO hT hC ?_
 refine kS h ?_ ?_ <;> intro b12 h
 iterate 2 refine kI hT hC b12 ?_
 refine kE hC b12 [] Tryz.call174 h (fun _ => Xhf) fun q8 h => ?_
 refine kP hC true b12 ?_
 refine kO hT hC ?_
 exact Vc.nil kM
 iterate 3 refine kF hC b12 ?_
 refine kP hC false b12 ?_
 refine kO hT hC ?_
 exact Vc.nil kM
 iterate 3 refine kF hC b11 ?_
 refine kP hC false b11 ?_
 refine kO hT hC ?_
 iterate 3 refine kF hC rfl ?_
 iterate 2 refine kO hT hC ?_
 exact Vc.nil kM
 iterate 3 refine kF hC b10 ?_
 refine kP hC false b10 ?_
 refine kO hT hC ?_
 iterate 3 refine kF hC rfl ?_
 iterate 2 refine kO hT hC ?_
 iterate 3 refine kF hC rfl ?_
 iterate 2 refine kO hT hC ?_
 exact Vc.nil kM
 exact Xah (Xgj (Xat kR))
 refine kf b9 (Xaf (Xap (Xae (Xac ?_))))
 refine kO hT hC ?_
 exact Vc.nil (Xah kR)
end
end Go.Proofs.YtlebkepfhdjnmadGreat.A
