/- Contracts of the functions that the law FnPackets reaches, part 0: each comes to what its pure function tells. Written by a program of this session. Conditions: as each statement tells. -/
import Derived.Test.YtlebkepfhdjnmadGreatBFnPackets
namespace Go.Proofs.YtlebkepfhdjnmadGreat.A
open Go Go.Proofs Go.Proofs.YtlebkepfhdjnmadGreatAL Go.RowKit
set_option linter.unusedVariables false
set_option linter.unusedSimpArgs false
set_option maxRecDepth 100000
set_option maxHeartbeats 8000000
noncomputable section
def Yc4 (r : Bool) : AV := .sv (.bool r)
def Yc3 (r : Bool) : Xa2 := []
theorem Xai {p0 p1 p2 r} (h : Xak p0 p1 p2 = some r) : AC Tryz.prog 53 [.sv (.int .i64 p0), .sv (.int .i64 p1), .sv (.int .i64 p2)] [] (Yc4 r) (Yc3 r) := by
 refine Xae hT Tryz.func53 rfl fun C hC => ?_
 unfold Xak at h
 refine Xab ?_
 refine kO hT hC ?_
 refine Vc.nil ?_
 refine kL [0,1,2,6] [] [_,_,_,_] [] ?_
 refine kA h (fun v1 => ([(6, .sv (.bool v1)), (0, .any), (1, .any), (2, .any)], [])) (fun v1 h => ?_) fun v1 h => ?_
 refine Xac ?_
 iterate 4 refine kO hT hC ?_
 refine kS h ?_ ?_ <;> intro b1 h
 iterate 3 refine kI hT hC b1 ?_
 refine kP hC true b1 ?_
 refine kO hT hC ?_
 exact Vc.nil kM
 iterate 3 refine kF hC b1 ?_
 refine kP hC false b1 ?_
 refine kO hT hC ?_
 exact Vc.nil kM
 exact Xah kR
def Xxp (r : Bool) : AV := .sv (.bool r)
def Xxo (r : Bool) : Xa2 := []
theorem Xom {p0 r} (h : Xhi p0 = some r) : AC Tryz.prog 40 [.sv (.int .i64 p0)] [] (Xxp r) (Xxo r) := by
 refine Xae hT Tryz.func40 rfl fun C hC => ?_
 unfold Xhi at h
 refine Xab ?_
 refine kO hT hC ?_
 refine Vc.nil ?_
 refine kL [0,2] [] [_,_] [] ?_
 refine kA h (fun v1 => ([(2, .sv (.bool v1)), (0, .any)], [])) (fun v1 h => ?_) fun v1 h => ?_
 refine Xac ?_
 refine kO hT hC ?_
 refine kQ hT hC h fun h => ?_
 iterate 2 refine kO hT hC ?_
 refine kS h ?_ ?_ <;> intro b1 h
 refine kI hT hC b1 ?_
 refine kE hC b1 [] Tryz.call53 h (fun _ => Xai) fun q2 h => ?_
 refine kP hC true b1 ?_
 refine kO hT hC ?_
 exact Vc.nil kM
 iterate 2 refine kF hC b1 ?_
 refine kP hC false b1 ?_
 refine kO hT hC ?_
 exact Vc.nil kM
 exact Xah kR
def Xn8 (r : Bool) : AV := .sv (.bool r)
def Xn7 (r : Bool) : Xa2 := []
theorem Yc7 {p0 r} (h : Xkw p0 = some r) : AC Tryz.prog 135 [.sv (.str p0)] [] (Xn8 r) (Xn7 r) := by
 refine Xae hT Tryz.func135 rfl fun C hC => ?_
 unfold Xkw at h
 refine Xab ?_
 refine kO hT hC ?_
 refine Vc.nil (Xap (Xab ?_))
 refine kO hT hC ?_
 refine Vc.nil ?_
 refine kL [0,3] [] [_,_] [] ?_
 obtain ⟨o8, hl, h⟩ := Xbl h
 refine Xgy (fun v3 => ([(3, .sv (.int .i64 v3))], [])) (fun v6 => ([(0, .any), (3, .any)], [])) (fun r => Xnc C T Tryz.f135.results.toList (Xn8 r) (Xn7 r)) hl ?_ ?_ ?_ ?_
 apply Xeh hC []
 exact co
 rfl
 decide
 rfl
 intro v3 s hs
 have h := hs
 unfold Xf9 at h
 refine Xap (Xab ?_)
 iterate 4 refine kO hT hC ?_
 refine Vc.nil ?_
 refine kS h ?_ ?_ <;> intro b7 h
 refine kt b7 (Xag (Xaf (Xap (Xam ?_))))
 refine kL [0,3] [] [_,_] [] ?_
 refine kA h (fun v7 => ([(19, .sv (.bool v7))], [])) (fun v7 h => ?_) fun v7 h => ?_
 refine Xac ?_
 iterate 2 refine kO hT hC ?_
 refine kQ hT hC h fun h => ?_
 iterate 2 refine kO hT hC ?_
 refine kS h ?_ ?_ <;> intro b8 h
 iterate 2 refine kI hT hC b8 ?_
 refine kJ hT hC b8 h fun h => ?_
 refine kI hT hC b8 ?_
 refine kP hC true b8 ?_
 exact Vc.nil kM
 iterate 4 refine kF hC b8 ?_
 refine kP hC false b8 ?_
 exact Vc.nil kM
 refine kS h ?_ ?_ <;> intro b9 h
 refine kt b9 (Xab ?_)
 refine kO hT hC ?_
 refine Vc.nil (Xah (Xgu (Xas ?_)))
 obtain rfl := kj h
 refine Xpa (Xo9 ?_)
 exact Xb2 (Xgt.refl _) rfl trivial
 refine kf b9 (Xag (Xan (Xaf (Xac ?_))))
 iterate 3 refine kO hT hC ?_
 exact Vc.nil kG
 exact kf b7 (Xao (Xaz kb))
 intro v6 e
 subst e
 refine Xaf (Xab ?_)
 refine kO hT hC ?_
 exact Vc.nil (Xah kR)
 intro r' σ' e hE
 subst e
 obtain rfl := kj h
 refine Xas ?_
 exact hE
def Ycu (r : Bool) : AV := .sv (.bool r)
def Yct (r : Bool) : Xa2 := []
theorem Yfp {p0 r} (h : Xmd p0 = some r) : AC Tryz.prog 83 [.sv (.str p0)] [] (Ycu r) (Yct r) := by
 refine Xae hT Tryz.func83 rfl fun C hC => ?_
 unfold Xmd at h
 refine Xab ?_
 refine kO hT hC ?_
 refine Vc.nil ?_
 refine kL [0,2] [] [_,_] [] ?_
 refine kA h (fun v1 => ([(2, .sv (.bool v1)), (0, .any)], [])) (fun v1 h => ?_) fun v1 h => ?_
 refine Xac ?_
 iterate 4 refine kO hT hC ?_
 refine kS h ?_ ?_ <;> intro b1 h
 refine kI hT hC b1 ?_
 refine kE hC b1 [] Tryz.call135 h (fun _ => Yc7) fun q2 h => ?_
 refine kP hC true b1 ?_
 refine kO hT hC ?_
 exact Vc.nil kM
 iterate 2 refine kF hC b1 ?_
 refine kP hC false b1 ?_
 refine kO hT hC ?_
 exact Vc.nil kM
 exact Xah kR
def Xzu (r : Bool) : AV := .sv (.bool r)
def Xzt (r : Bool) : Xa2 := []
theorem Xfy {p0 r} (h : Xdv p0 = some r) : AC Tryz.prog 52 [.agg [.sv (.bool p0.Key), .sv (.int .i64 p0.Qp), .sv (.bool p0.Large), .sv (.bool p0.Exact)]] [] (Xzu r) (Xzt r) := by
 refine Xae hT Tryz.func52 rfl fun C hC => ?_
 unfold Xdv at h
 refine Xab ?_
 iterate 2 refine kO hT hC ?_
 refine Vc.nil ?_
 refine kL [1,2] [16] [_,_] [_] ?_
 refine kA h (fun v1 => ([(2, .sv (.bool v1)), (1, .any)], [(16, none)])) (fun v1 h => ?_) fun v1 h => ?_
 refine Xac ?_
 iterate 2 refine kO hT hC ?_
 refine kC hC [] Tryz.call53 h (fun _ => Xai) fun q2 h => ?_
 refine kO hT hC ?_
 refine kS h ?_ ?_ <;> intro b1 h
 iterate 3 refine kI hT hC b1 ?_
 refine kS h ?_ ?_ <;> intro b2 h
 iterate 2 refine kI hT hC b2 ?_
 refine Xbz hC rfl rfl rfl rfl b1 rfl rfl (b := true) b2 rfl rfl rfl trivial ?_
 refine kI hT hC b1 ?_
 refine kP hC true b1 ?_
 refine kO hT hC ?_
 exact Vc.nil kM
 iterate 2 refine kF hC b2 ?_
 refine Xbz hC rfl rfl rfl rfl b1 rfl rfl (b := false) b2 rfl rfl rfl trivial ?_
 refine kI hT hC b1 ?_
 refine kP hC true b1 ?_
 refine kO hT hC ?_
 exact Vc.nil kM
 iterate 3 refine kF hC b1 ?_
 iterate 2 refine Xhk hC rfl rfl rfl rfl rfl rfl ?_
 iterate 2 refine kF hC b1 ?_
 refine kP hC false b1 ?_
 refine kO hT hC ?_
 exact Vc.nil kM
 exact Xah kR
def Xog (r : Bool) : AV := .sv (.bool r)
def Xof (r : Bool) : Xa2 := []
theorem Xbh {p0 p1 p2 r} (h : Xbf p0 p1 p2 = some r) : AC Tryz.prog 150 [.sv (.ints .i64 p0), .sv (.int .i64 p1), .sv (.int .i64 p2)] [] (Xog r) (Xof r) := by
 refine Xae hT Tryz.func150 rfl fun C hC => ?_
 unfold Xbf at h
 refine Xab ?_
 refine kO hT hC ?_
 refine Vc.nil (Xap (Xab ?_))
 iterate 4 refine kO hT hC ?_
 refine Vc.nil ?_
 refine kS h ?_ ?_ <;> intro b1 h
 refine kt b1 (Xab ?_)
 refine kO hT hC ?_
 exact Vc.nil (Xah (Xas kR))
 refine kf b1 (Xag (Xaf (Xap (Xab ?_))))
 refine kO hT hC ?_
 refine Vc.nil ?_
 refine kL [0,1,2,7] [] [_,_,_,_] [] ?_
 obtain ⟨o8, hl, h⟩ := Xbl h
 refine Xgy (fun v3 => ([(7, .sv (.int .i64 v3))], [])) (fun v6 => ([(0, .any), (1, .any), (2, .any), (7, .any)], [])) (fun r => Xnc C T Tryz.f150.results.toList (Xog r) (Xof r)) hl ?_ ?_ ?_ ?_
 apply Xeh hC []
 exact co
 rfl
 decide
 rfl
 intro v3 s hs
 have h := hs
 unfold Xb9 at h
 refine Xap (Xab ?_)
 iterate 3 refine kO hT hC ?_
 refine Vc.nil ?_
 refine kS h ?_ ?_ <;> intro b6 h
 refine kt b6 (Xag (Xaf (Xap (Xam (Xab ?_)))))
 iterate 2 refine kO hT hC ?_
 refine kQ hT hC h fun h => ?_
 iterate 4 refine kO hT hC ?_
 refine kC hC [] Tryz.call53 h (fun _ => Xai) fun q7 h => ?_
 refine kO hT hC ?_
 refine Vc.nil ?_
 refine kS h ?_ ?_ <;> intro b7 h
 refine kt b7 (Xab ?_)
 refine kO hT hC ?_
 refine Vc.nil (Xah (Xgu (Xas ?_)))
 obtain rfl := kj h
 refine Xpa (Xo9 ?_)
 exact Xb2 (Xgt.refl _) rfl trivial
 refine kf b7 (Xag (Xan (Xaf (Xac ?_))))
 iterate 3 refine kO hT hC ?_
 exact Vc.nil kG
 exact kf b6 (Xao (Xaz kb))
 intro v6 e
 subst e
 refine Xaf (Xab ?_)
 refine kO hT hC ?_
 exact Vc.nil (Xah kR)
 intro r' σ' e hE
 subst e
 obtain rfl := kj h
 refine Xas ?_
 exact hE
def Xue (r : Bool) : AV := .sv (.bool r)
def Xud (r : Bool) : Xa2 := []
theorem Xwg {p0 r} (h : Xh1 p0 = some r) : AC Tryz.prog 105 [.agg [.sv (.int .i64 p0.Kind), .sv (.int .i64 p0.Mode), .sv (.int .i64 p0.Dx), .sv (.int .i64 p0.Dy), .sv (.ints .i64 p0.Levels)]] [] (Xue r) (Xud r) := by
 refine Xae hT Tryz.func105 rfl fun C hC => ?_
 unfold Xh1 at h
 refine Xab ?_
 iterate 2 refine kO hT hC ?_
 refine Vc.nil (Xap (Xab ?_))
 iterate 2 refine kO hT hC ?_
 refine Vc.nil (Xam (Xab ?_))
 iterate 2 refine kO hT hC ?_
 refine Vc.nil ?_
 refine kS h ?_ ?_ <;> intro b1 h
 refine kt b1 ?_
 refine kL [1,2] [16] [_,_] [_] ?_
 refine kA h (fun v1 => ([(2, .sv (.bool v1)), (1, .any)], [(16, none)])) (fun v1 h => ?_) fun v1 h => ?_
 refine Xac ?_
 iterate 4 refine kO hT hC ?_
 refine kS h ?_ ?_ <;> intro b2 h
 iterate 3 refine kI hT hC b2 ?_
 refine kP hC true b2 ?_
 refine kO hT hC ?_
 refine kS h ?_ ?_ <;> intro b3 h
 iterate 3 refine kI hT hC b3 ?_
 refine kP hC true b3 ?_
 refine kO hT hC ?_
 refine kS h ?_ ?_ <;> intro b4 h
 iterate 4 refine kI hT hC b4 ?_
 refine kP hC true b4 ?_
 refine kO hT hC ?_
 exact Vc.nil kM
 iterate 4 refine kF hC b4 ?_
 refine kP hC false b4 ?_
 refine kO hT hC ?_
 exact Vc.nil kM
 iterate 3 refine kF hC b3 ?_
 refine kP hC false b3 ?_
 refine kO hT hC ?_
 iterate 4 refine kF hC rfl ?_
 iterate 2 refine kO hT hC ?_
 exact Vc.nil kM
 iterate 3 refine kF hC b2 ?_
 refine kP hC false b2 ?_
 refine kO hT hC ?_
 iterate 3 refine kF hC rfl ?_
 iterate 2 refine kO hT hC ?_
 iterate 4 refine kF hC rfl ?_
 iterate 2 refine kO hT hC ?_
 exact Vc.nil kM
 exact Xah (Xgu (Xas kR))
 refine kf b1 (Xab ?_)
 iterate 2 refine kO hT hC ?_
 refine Vc.nil ?_
 refine kS h ?_ ?_ <;> intro b5 h
 refine kt b5 ?_
 refine kL [1,2] [16] [_,_] [_] ?_
 refine kA h (fun v2 => ([(2, .sv (.bool v2)), (1, .any)], [(16, none)])) (fun v2 h => ?_) fun v2 h => ?_
 refine Xac ?_
 iterate 4 refine kO hT hC ?_
 refine kS h ?_ ?_ <;> intro b6 h
 iterate 2 refine kI hT hC b6 ?_
 refine kE hC b6 [] Tryz.call53 h (fun _ => Xai) fun q3 h => ?_
 refine kP hC true b6 ?_
 refine kO hT hC ?_
 refine kS h ?_ ?_ <;> intro b7 h
 iterate 2 refine kI hT hC b7 ?_
 refine kE hC b7 [] Tryz.call53 h (fun _ => Xai) fun q4 h => ?_
 refine kP hC true b7 ?_
 refine kO hT hC ?_
 refine kS h ?_ ?_ <;> intro b8 h
 iterate 2 refine kI hT hC b8 ?_
 refine kE hC b8 [] Tryz.call150 h (fun _ => Xbh) fun q5 h => ?_
 refine kP hC true b8 ?_
 refine kO hT hC ?_
 exact Vc.nil kM
 iterate 3 refine kF hC b8 ?_
 refine kP hC false b8 ?_
 refine kO hT hC ?_
 exact Vc.nil kM
 iterate 3 refine kF hC b7 ?_
 refine kP hC false b7 ?_
 refine kO hT hC ?_
 iterate 3 refine kF hC rfl ?_
 iterate 2 refine kO hT hC ?_
 exact Vc.nil kM
 iterate 3 refine kF hC b6 ?_
 refine kP hC false b6 ?_
 refine kO hT hC ?_
 iterate 3 refine kF hC rfl ?_
 iterate 2 refine kO hT hC ?_
 iterate 3 refine kF hC rfl ?_
 iterate 2 refine kO hT hC ?_
 exact Vc.nil kM
 exact Xah (Xgu (Xas kR))
 refine kf b5 (Xab ?_)
 iterate 2 refine kO hT hC ?_
 refine Vc.nil ?_
 refine kS h ?_ ?_ <;> intro b9 h
 refine kt b9 ?_
 refine kL [1,2] [16] [_,_] [_] ?_
 refine kA h (fun v6 => ([(2, .sv (.bool v6)), (1, .any)], [(16, none)])) (fun v6 h => ?_) fun v6 h => ?_
 refine Xac ?_
 iterate 2 refine kO hT hC ?_
 refine kC hC [] Tryz.call53 h (fun _ => Xai) fun q7 h => ?_
 refine kO hT hC ?_
 refine kS h ?_ ?_ <;> intro b10 h
 iterate 3 refine kI hT hC b10 ?_
 refine kP hC true b10 ?_
 refine kO hT hC ?_
 refine kS h ?_ ?_ <;> intro b11 h
 iterate 3 refine kI hT hC b11 ?_
 refine kP hC true b11 ?_
 refine kO hT hC ?_
 refine kS h ?_ ?_ <;> intro b12 h
 iterate 2 refine kI hT hC b12 ?_
 refine kE hC b12 [] Tryz.call150 h (fun _ => Xbh) fun q8 h => ?_
 refine kP hC true b12 ?_
 refine kO hT hC ?_
 exact Vc.nil kM
 iterate 3 refine kF hC b12 ?_
 refine kP hC false b12 ?_
 refine kO hT hC ?_
 exact Vc.nil kM
 iterate 3 refine kF hC b11 ?_
 refine kP hC false b11 ?_
 refine kO hT hC ?_
 iterate 3 refine kF hC rfl ?_
 iterate 2 refine kO hT hC ?_
 exact Vc.nil kM
 iterate 3 refine kF hC b10 ?_
 refine kP hC false b10 ?_
 refine kO hT hC ?_
 iterate 3 refine kF hC rfl ?_
 iterate 2 refine kO hT hC ?_
 iterate 3 refine kF hC rfl ?_
 iterate 2 refine kO hT hC ?_
 exact Vc.nil kM
 exact Xah (Xgu (Xas kR))
 refine kf b9 (Xag (Xan (Xaf (Xab ?_))))
 refine kO hT hC ?_
 exact Vc.nil (Xah kR)
def Yco (r : Bool) : AV := .sv (.bool r)
def Ycn (r : Bool) : Xa2 := []
theorem Xr5 {p0 r} (h : Xkd p0 = some r) : AC Tryz.prog 82 [.agg [.sv (.int .i64 p0.Qp), .sv (.bool p0.Large), .sv (.bool p0.Exact), .sv (.bool p0.Confined)]] [] (Yco r) (Ycn r) := by
 refine Xae hT Tryz.func82 rfl fun C hC => ?_
 unfold Xkd at h
 refine Xab ?_
 iterate 2 refine kO hT hC ?_
 refine Vc.nil ?_
 refine kL [1,2] [16] [_,_] [_] ?_
 refine kA h (fun v1 => ([(2, .sv (.bool v1)), (1, .any)], [(16, none)])) (fun v1 h => ?_) fun v1 h => ?_
 refine Xac ?_
 iterate 2 refine kO hT hC ?_
 refine kC hC [] Tryz.call53 h (fun _ => Xai) fun q2 h => ?_
 refine kO hT hC ?_
 refine kS h ?_ ?_ <;> intro b1 h
 iterate 3 refine kI hT hC b1 ?_
 refine kS h ?_ ?_ <;> intro b2 h
 iterate 2 refine kI hT hC b2 ?_
 refine Xbz hC rfl rfl rfl rfl b1 rfl rfl (b := true) b2 rfl rfl rfl trivial ?_
 refine kI hT hC b1 ?_
 refine kP hC true b1 ?_
 refine kO hT hC ?_
 exact Vc.nil kM
 iterate 2 refine kF hC b2 ?_
 refine Xbz hC rfl rfl rfl rfl b1 rfl rfl (b := false) b2 rfl rfl rfl trivial ?_
 refine kI hT hC b1 ?_
 refine kP hC true b1 ?_
 refine kO hT hC ?_
 exact Vc.nil kM
 iterate 3 refine kF hC b1 ?_
 iterate 2 refine Xhk hC rfl rfl rfl rfl rfl rfl ?_
 iterate 2 refine kF hC b1 ?_
 refine kP hC false b1 ?_
 refine kO hT hC ?_
 exact Vc.nil kM
 exact Xah kR
def Ycq (r : Bool) : AV := .sv (.bool r)
def Ycp (r : Bool) : Xa2 := []
theorem Xb4 {p0 r} (h : Xcc p0 = some r) : AC Tryz.prog 96 [.agg [.sv (.int .i64 p0.Wide), .sv (.int .i64 p0.High), .sv (.str p0.Dots)]] [] (Ycq r) (Ycp r) := by
 refine Xae hT Tryz.func96 rfl fun C hC => ?_
 unfold Xcc at h
 refine Xab ?_
 iterate 2 refine kO hT hC ?_
 refine Vc.nil ?_
 refine kL [1,2] [16] [_,_] [_] ?_
 refine kA h (fun v1 => ([(2, .sv (.bool v1)), (1, .any)], [(16, none)])) (fun v1 h => ?_) fun v1 h => ?_
 refine Xac ?_
 iterate 2 refine kO hT hC ?_
 refine kC hC [] Tryz.call53 h (fun _ => Xai) fun q2 h => ?_
 refine kO hT hC ?_
 refine kS h ?_ ?_ <;> intro b1 h
 iterate 2 refine kI hT hC b1 ?_
 refine kE hC b1 [] Tryz.call53 h (fun _ => Xai) fun q3 h => ?_
 refine kP hC true b1 ?_
 refine kO hT hC ?_
 refine kS h ?_ ?_ <;> intro b2 h
 iterate 9 refine kI hT hC b2 ?_
 refine kP hC true b2 ?_
 refine kO hT hC ?_
 exact Vc.nil kM
 iterate 9 refine kF hC b2 ?_
 refine kP hC false b2 ?_
 refine kO hT hC ?_
 exact Vc.nil kM
 iterate 3 refine kF hC b1 ?_
 refine kP hC false b1 ?_
 refine kO hT hC ?_
 iterate 9 refine kF hC rfl ?_
 iterate 2 refine kO hT hC ?_
 exact Vc.nil kM
 exact Xah kR
def Xsu (r : Bool) : AV := .sv (.bool r)
def Xst (r : Bool) : Xa2 := []
theorem Xmg {p0 p1 p2 p3 p4 r} (h : Xed p0 p1 p2 p3 p4 = some r) : AC Tryz.prog 86 [.agg [.sv (.int .i64 p0.Wide), .sv (.int .i64 p0.High), .sv (.str p0.Dots)], .sv (.int .i64 p1), .sv (.int .i64 p2), .sv (.int .i64 p3), .sv (.int .i64 p4)] [] (Xsu r) (Xst r) := by
 refine Xae hT Tryz.func86 rfl fun C hC => ?_
 unfold Xed at h
 refine Xab ?_
 iterate 2 refine kO hT hC ?_
 refine Vc.nil ?_
 refine kL [1,2,3,4,5,10] [80] [_,_,_,_,_,_] [_] ?_
 refine kA h (fun v1 => ([(10, .sv (.bool v1)), (1, .any), (2, .any), (3, .any), (4, .any), (5, .any)], [(80, none)])) (fun v1 h => ?_) fun v1 h => ?_
 refine Xac ?_
 refine kO hT hC ?_
 refine kC hC [] Tryz.call96 h (fun _ => Xb4) fun q2 h => ?_
 refine kO hT hC ?_
 refine kS h ?_ ?_ <;> intro b1 h
 iterate 3 refine kI hT hC b1 ?_
 refine kE hC b1 [] Tryz.call53 h (fun _ => Xai) fun q3 h => ?_
 refine kP hC true b1 ?_
 refine kO hT hC ?_
 refine kS h ?_ ?_ <;> intro b2 h
 iterate 3 refine kI hT hC b2 ?_
 refine kE hC b2 [] Tryz.call53 h (fun _ => Xai) fun q4 h => ?_
 refine kP hC true b2 ?_
 refine kO hT hC ?_
 refine kS h ?_ ?_ <;> intro b3 h
 iterate 5 refine kI hT hC b3 ?_
 refine kE hC b3 [] Tryz.call53 h (fun _ => Xai) fun q5 h => ?_
 refine kP hC true b3 ?_
 refine kO hT hC ?_
 refine kS h ?_ ?_ <;> intro b4 h
 iterate 5 refine kI hT hC b4 ?_
 refine kE hC b4 [] Tryz.call53 h (fun _ => Xai) fun q6 h => ?_
 refine kP hC true b4 ?_
 refine kO hT hC ?_
 exact Vc.nil kM
 iterate 6 refine kF hC b4 ?_
 refine kP hC false b4 ?_
 refine kO hT hC ?_
 exact Vc.nil kM
 iterate 6 refine kF hC b3 ?_
 refine kP hC false b3 ?_
 refine kO hT hC ?_
 iterate 6 refine kF hC rfl ?_
 iterate 2 refine kO hT hC ?_
 exact Vc.nil kM
 iterate 4 refine kF hC b2 ?_
 refine kP hC false b2 ?_
 refine kO hT hC ?_
 iterate 6 refine kF hC rfl ?_
 iterate 2 refine kO hT hC ?_
 iterate 6 refine kF hC rfl ?_
 iterate 2 refine kO hT hC ?_
 exact Vc.nil kM
 iterate 4 refine kF hC b1 ?_
 refine kP hC false b1 ?_
 refine kO hT hC ?_
 iterate 4 refine kF hC rfl ?_
 iterate 2 refine kO hT hC ?_
 iterate 6 refine kF hC rfl ?_
 iterate 2 refine kO hT hC ?_
 iterate 6 refine kF hC rfl ?_
 iterate 2 refine kO hT hC ?_
 exact Vc.nil kM
 exact Xah kR
def Xwp (r : ByteArray) : AV := .sv (.str r)
def Xwo (r : ByteArray) : Xa2 := []
theorem Xn5 {p0 p1 r} (h : Xhb p0 p1 = some r) : AC Tryz.prog 139 [.sv (.int .i64 p0), .sv (.int .u8 p1)] [] (Xwp r) (Xwo r) := by
 refine Xae hT Tryz.func139 rfl fun C hC => ?_
 unfold Xhb at h
 refine Xab ?_
 refine kO hT hC ?_
 refine kN ?_
 refine kO hT hC ?_
 obtain ⟨hq, h⟩ := Xbm h
 refine Yej hT hC rfl rfl rfl rfl ⟨hq.1, hq.2.1, hq.2.2, by decide⟩ ?_
 refine kO hT hC ?_
 refine Vc.nil (Xap (Xab ?_))
 refine kO hT hC ?_
 refine Vc.nil ?_
 refine kL [0,1,5,6] [128] [_,_,_,_] [_] ?_
 refine kX h (fun v2 => ([(6, .sv (.int .i64 v2.1))], [(128, some (.ints .u8 v2.2))])) (fun v4 => ([(0, .any), (1, .any), (6, .any)], [(128, some (.ints .u8 v4))])) (kW hC []) (fun v2 s h => ?_) fun v4 h => ?_
 unfold Xe5 at h
 refine Xap (Xab ?_)
 iterate 3 refine kO hT hC ?_
 refine Vc.nil ?_
 refine kS h ?_ ?_ <;> intro b3 h
 refine kt b3 (Xag (Xaf (Xap (Xam (Xac ?_)))))
 iterate 3 refine kO hT hC ?_
 iterate 2 refine kQ hT hC h fun h => ?_
 refine Vc.nil (Xan (Xaf (Xac ?_)))
 iterate 3 refine kO hT hC ?_
 exact Vc.nil kG
 exact kf b3 (Xao (Xaz ku))
 refine Xaf (Xab ?_)
 iterate 3 refine kO hT hC ?_
 exact Vc.nil (Xah kR)
def Yfm (r : Pic) : AV := .agg [.sv (.int .i64 r.Wide), .sv (.int .i64 r.High), .sv (.str r.Dots)]
def Yfl (r : Pic) : Xa2 := []
theorem Yhg {p0 p1 r} (h : Xn0 p0 p1 = some r) : AC Tryz.prog 88 [.sv (.int .i64 p0), .sv (.int .i64 p1)] [] (Yfm r) (Yfl r) := by
 refine Xae hT Tryz.func88 rfl fun C hC => ?_
 unfold Xn0 at h
 refine Xab ?_
 refine kO hT hC ?_
 refine Vc.nil (Xap ?_)
 refine kL [0,1,4] [64] [_,_,_] [_] ?_
 refine kA h (fun v1 => ([(12, .sv (.bool v1))], [])) (fun v1 h => ?_) fun v1 h => ?_
 refine Xac ?_
 refine kO hT hC ?_
 refine kC hC [] Tryz.call53 h (fun _ => Xai) fun q2 h => ?_
 iterate 2 refine kO hT hC ?_
 refine kS h ?_ ?_ <;> intro b1 h
 refine kI hT hC (kn b1) ?_
 refine kE hC (kn b1) [] Tryz.call53 h (fun _ => Xai) fun q3 h => ?_
 refine kI hT hC (kn b1) ?_
 refine kP hC false (kn b1) ?_
 exact Vc.nil kM
 iterate 3 refine kF hC (kn b1) ?_
 refine kP hC true (kn b1) ?_
 exact Vc.nil kM
 refine kS h ?_ ?_ <;> intro b2 h
 refine kt b2 (Xab ?_)
 iterate 2 refine kO hT hC ?_
 exact Vc.nil (Xah (Xas kR))
 refine kf b2 (Xag (Xaf (Xab ?_)))
 iterate 5 refine kO hT hC ?_
 refine kC hC [] Tryz.call139 h (fun _ => Xn5) fun q4 h => ?_
 iterate 2 refine kO hT hC ?_
 exact Vc.nil (Xah kR)
def Xxn (r : Bool) : AV := .sv (.bool r)
def Xxm (r : Bool) : Xa2 := []
theorem Xig {p0 p1 p2 r} (h : Xdr p0 p1 p2 = some r) : AC Tryz.prog 50 [.agg [.sv (.int .i64 p0.Wide), .sv (.int .i64 p0.High), .sv (.str p0.Dots)], .sv (.int .i64 p1), .sv (.int .i64 p2)] [] (Xxn r) (Xxm r) := by
 refine Xae hT Tryz.func50 rfl fun C hC => ?_
 unfold Xdr at h
 refine Xab ?_
 iterate 2 refine kO hT hC ?_
 refine Vc.nil ?_
 refine kL [1,2,3,6] [48] [_,_,_,_] [_] ?_
 refine kA h (fun v1 => ([(6, .sv (.bool v1)), (1, .any), (2, .any), (3, .any)], [(48, none)])) (fun v1 h => ?_) fun v1 h => ?_
 refine Xac ?_
 refine kO hT hC ?_
 refine kQ hT hC h fun h => ?_
 iterate 2 refine kO hT hC ?_
 refine kS h ?_ ?_ <;> intro b1 h
 refine kI hT hC b1 ?_
 refine kJ hT hC b1 h fun h => ?_
 refine kI hT hC b1 ?_
 refine kP hC true b1 ?_
 refine kO hT hC ?_
 refine kS h ?_ ?_ <;> intro b2 h
 iterate 3 refine kI hT hC b2 ?_
 refine kE hC b2 [] Tryz.call86 h (fun _ => Xmg) fun q2 h => ?_
 refine kP hC true b2 ?_
 refine kO hT hC ?_
 exact Vc.nil kM
 iterate 4 refine kF hC b2 ?_
 refine kP hC false b2 ?_
 refine kO hT hC ?_
 exact Vc.nil kM
 iterate 3 refine kF hC b1 ?_
 refine kP hC false b1 ?_
 refine kO hT hC ?_
 iterate 4 refine kF hC rfl ?_
 iterate 2 refine kO hT hC ?_
 exact Vc.nil kM
 exact Xah kR
def Xvr (r : Int) : AV := .sv (.int .i64 r)
def Xvq (r : Int) : Xa2 := []
theorem Xbn {p0 p1 p2 r} (h : Xbj p0 p1 p2 = some r) : AC Tryz.prog 159 [.sv (.int .i64 p0), .sv (.int .i64 p1), .sv (.int .i64 p2)] [] (Xvr r) (Xvq r) := by
 refine Xae hT Tryz.func159 rfl fun C hC => ?_
 unfold Xbj at h
 refine Xab ?_
 refine kO hT hC ?_
 refine Vc.nil (Xap ?_)
 refine kL [0,1,2] [] [_,_,_] [] ?_
 refine kA h (fun v1 => ([(14, .sv (.bool v1))], [])) (fun v1 h => ?_) fun v1 h => ?_
 refine Xac ?_
 iterate 4 refine kO hT hC ?_
 refine kS h ?_ ?_ <;> intro b1 h
 iterate 3 refine kF hC b1 ?_
 refine kP hC true b1 ?_
 exact Vc.nil kM
 iterate 3 refine kI hT hC b1 ?_
 refine kP hC false b1 ?_
 exact Vc.nil kM
 refine kS h ?_ ?_ <;> intro b2 h
 refine kt b2 (Xab ?_)
 iterate 2 refine kO hT hC ?_
 exact Vc.nil (Xah (Xas kR))
 refine kf b2 (Xag (Xaf (Xap (Xab ?_))))
 iterate 3 refine kO hT hC ?_
 refine Vc.nil ?_
 refine kS h ?_ ?_ <;> intro b3 h
 refine kt b3 (Xab ?_)
 iterate 2 refine kO hT hC ?_
 exact Vc.nil (Xah (Xas kR))
 refine kf b3 (Xag (Xaf (Xab ?_)))
 iterate 2 refine kO hT hC ?_
 exact Vc.nil (Xah kR)
def Ycb (r : Int) : AV := .sv (.int .i64 r)
def Yca (r : Int) : Xa2 := []
theorem Xhu {p0 p1 p2 r} (h : Xc5 p0 p1 p2 = some r) : AC Tryz.prog 145 [.agg [.sv (.int .i64 p0.Wide), .sv (.int .i64 p0.High), .sv (.str p0.Dots)], .sv (.int .i64 p1), .sv (.int .i64 p2)] [] (Ycb r) (Yca r) := by
 refine Xae hT Tryz.func145 rfl fun C hC => ?_
 unfold Xc5 at h
 refine Xab ?_
 iterate 2 refine kO hT hC ?_
 refine Vc.nil (Xap (Xab ?_))
 refine kO hT hC ?_
 refine kC hC [] Tryz.call96 h (fun _ => Xb4) fun q1 h => ?_
 refine kO hT hC ?_
 refine Vc.nil ?_
 refine kS h ?_ ?_ <;> intro b1 h
 refine kt b1 (Xab ?_)
 refine kO hT hC ?_
 exact Vc.nil (Xah (Xas kR))
 refine kf b1 (Xag (Xaf ?_))
 refine Xdn hm ?_
 iterate 6 refine kO hT hC ?_
 refine kC hC [] Tryz.call159 h (fun _ => Xbn) fun q2 h => ?_
 iterate 7 refine kO hT hC ?_
 refine kC hC [] Tryz.call159 h (fun _ => Xbn) fun q3 h => ?_
 refine kO hT hC ?_
 refine kQ hT hC h fun h => ?_
 iterate 2 refine kO hT hC ?_
 exact kD (Xah kR)
def Xvt (r : (Xnb × Bool)) : AV := .tup [.agg [.own 16, .own 17, .sv (.int .i64 r.1.Corner)], .sv (.bool r.2)]
def Xvs (r : (Xnb × Bool)) : Xa2 := [(16, .ints .i64 r.1.Above), (17, .ints .i64 r.1.Left)]
theorem Xnu {p0 p1 p2 r} (h : Xg8 p0 p1 p2 = some r) : AC Tryz.prog 100 [.agg [.sv (.int .i64 p0.Wide), .sv (.int .i64 p0.High), .sv (.str p0.Dots)], .sv (.int .i64 p1), .sv (.int .i64 p2)] [] (Xvt r) (Xvs r) := by
 refine Xae hT Tryz.func100 rfl fun C hC => ?_
 unfold Xg8 at h
 refine Xab ?_
 iterate 3 refine kO hT hC ?_
 refine Vc.nil (Xap (Xab ?_))
 iterate 3 refine kO hT hC ?_
 refine kC hC [] Tryz.call50 h (fun _ => Xig) fun q1 h => ?_
 refine kO hT hC ?_
 refine Vc.nil ?_
 refine kS h ?_ ?_ <;> intro b1 h
 refine kt b1 (Xab ?_)
 iterate 3 refine kO hT hC ?_
 refine Vc.nil (Xah (Xas ?_))
 obtain rfl := kj h
 refine Xb2 (τ := ⟨[(6, .ptr 2000000 0), (7, .sv (.bool false))], [(16, some (.ints .i64 [])), (17, some (.ints .i64 [])), (2000000, some (.box [.own 16, .own 17, .sv (.int .i64 0)]))]⟩) ?_ rfl ⟨rfl, rfl, trivial⟩
 refine Xs1 hC 96 0 1025 (.ints .i64 []) rfl rfl rfl rfl rfl trivial ?_
 refine Xs1 hC 96 1 1026 (.ints .i64 []) rfl rfl rfl rfl rfl trivial ?_
 apply Xeh hC [(16, 1025), (17, 1026), (2000000, 96)]
 exact co
 rfl
 decide
 rfl
 refine kf b1 (Xag (Xaf (Xab ?_)))
 iterate 3 refine kO hT hC ?_
 refine Vc.nil (Xap (Xab ?_))
 refine kO hT hC ?_
 refine Vc.nil ?_
 refine kL [1,2,3,6,8,9] [48,96,128] [_,_,_,_,_,_] [_,_,_] ?_
 obtain ⟨v13, hl, h⟩ := Xbl h
 refine Ypf (fun v7 => ([(9, .sv (.int .i64 v7.1))], [(128, some (.box [.own 1049, .own 1050, .sv (.int .i64 (-1))])), (1049, some (.ints .i64 v7.2.1)), (1050, some (.ints .i64 v7.2.2))])) (fun v13 => ([(9, .any)], [(128, some (.box [.own 1053, .own 1054, .sv (.int .i64 (-1))])), (1053, some (.ints .i64 v13.1)), (1054, some (.ints .i64 v13.2))])) hl ?_ ?_ ?_
 refine Xs1 hC 128 0 1055 (.ints .i64 []) rfl rfl rfl rfl rfl trivial ?_
 refine Xs1 hC 128 1 1056 (.ints .i64 []) rfl rfl rfl rfl rfl trivial ?_
 try dsimp only
 apply Xeh hC [(1049, 1055), (1050, 1056)]
 exact co
 rfl
 decide
 rfl
 intro v7 s hs
 have h := hs
 unfold Xew at h
 refine Xap (Xab ?_)
 iterate 2 refine kO hT hC ?_
 refine Vc.nil ?_
 refine kS h ?_ ?_ <;> intro b8 h
 refine kt b8 (Xag (Xaf ?_))
 refine kL [1,2,3,6,8,9] [48,96,128,1049,1050] [_,_,_,_,_,_] [_,_,_,_,_] ?_
 refine kA h (fun v14 => ([], [(1049, some (.ints .i64 v14.1)), (1050, some (.ints .i64 v14.2))])) (fun v14 h => ?_) fun v14 h => ?_
 refine Xam ?_
 refine kL [1,2,3,6,8,9] [48,96,128,1049,1050] [_,_,_,_,_,_] [_,_,_,_,_] ?_
 refine kA h (fun v15 => ([], [(1049, some (.ints .i64 v15))])) (fun v15 h => ?_) fun v15 h => ?_
 refine Xab ?_
 iterate 2 refine kO hT hC ?_
 refine Vc.nil ?_
 refine kS h ?_ ?_ <;> intro b9 h
 refine kt b9 ?_
 refine Xcn hm ?_
 iterate 8 refine kO hT hC ?_
 refine kC hC [] Tryz.call145 h (fun _ => Xhu) fun q16 h => ?_
 refine kO hT hC ?_
 refine kT hT hC h fun h => ?_
 iterate 2 refine kO hT hC ?_
 refine kD ?_
 obtain rfl := kj h
 exact Xj4 (kW hC [(1049, 528)])
 exact kf b9 (Xag kM)
 refine Xab ?_
 iterate 2 refine kO hT hC ?_
 refine Vc.nil ?_
 refine kS h ?_ ?_ <;> intro b10 h
 refine kt b10 ?_
 refine Xcn hm ?_
 iterate 8 refine kO hT hC ?_
 refine kC hC [] Tryz.call145 h (fun _ => Xhu) fun q17 h => ?_
 refine kO hT hC ?_
 refine kT hT hC h fun h => ?_
 iterate 2 refine kO hT hC ?_
 refine kD (Xan ?_)
 obtain rfl := kj h
 exact Xj4 (kW hC [(1050, 752)])
 exact kf b10 (Xag (Xan kM))
 refine Xac ?_
 iterate 3 refine kO hT hC ?_
 exact Vc.nil kG
 refine kf b8 (Xao (Xaz ?_))
 obtain rfl := kj h
 exact Ymj (Yq8 (kW hC [(1053, 1049), (1054, 1050)]))
 refine Xaf ?_
 refine kL [1,2,3,6,8] [48,96,128,1053,1054] [_,_,_,_,_] [_,_,_,_,_] ?_
 refine kA h (fun v19 => ([(1, .any), (2, .any), (3, .any)], [(128, some (.box [.own 1053, .own 1054, .sv (.int .i64 v19)])), (48, none)])) (fun v19 h => ?_) fun v19 h => ?_
 refine kL [1,2,3,6,8] [48,96,128,1053,1054] [_,_,_,_,_] [_,_,_,_,_] ?_
 refine kA h (fun v20 => ([(54, .sv (.bool v20))], [])) (fun v20 h => ?_) fun v20 h => ?_
 refine Xac ?_
 iterate 3 refine kO hT hC ?_
 refine kS h ?_ ?_ <;> intro b11 h
 iterate 2 refine kI hT hC b11 ?_
 refine kP hC true b11 ?_
 exact Vc.nil kM
 iterate 2 refine kF hC b11 ?_
 refine kP hC false b11 ?_
 exact Vc.nil kM
 refine kS h ?_ ?_ <;> intro b12 h
 refine kt b12 (Xac ?_)
 iterate 5 refine kO hT hC ?_
 refine kC hC [] Tryz.call145 h (fun _ => Xhu) fun q21 h => ?_
 iterate 2 refine kO hT hC ?_
 exact Vc.nil kM
 exact kf b12 (Xag kM)
 refine Xab ?_
 iterate 3 refine kO hT hC ?_
 refine Vc.nil (Xah ?_)
 obtain rfl := kj h
 exact Xb2 (τ := ⟨[(6, .ptr 2000000 0), (7, .sv (.bool true))], [(16, some (.ints .i64 v13.1)), (17, some (.ints .i64 v13.2)), (2000000, some (.box [.own 16, .own 17, .sv (.int .i64 v19)]))]⟩) (kW hC [(16, 1053), (17, 1054), (2000000, 96)]) rfl ⟨rfl, rfl, trivial⟩
def Xkr (r : Int) : AV := .sv (.int .i64 r)
def Xkq (r : Int) : Xa2 := []
theorem Xpp {p0 p1 r} (h : Xiu p0 p1 = some r) : AC Tryz.prog 200 [.sv (.int .i64 p0), .sv (.int .i64 p1)] [] (Xkr r) (Xkq r) := by
 refine Xae hT Tryz.func200 rfl fun C hC => ?_
 unfold Xiu at h
 refine Xab ?_
 refine kO hT hC ?_
 refine Vc.nil (Xap ?_)
 refine kL [0,1] [] [_,_] [] ?_
 refine kA h (fun v1 => ([(25, .sv (.bool v1))], [])) (fun v1 h => ?_) fun v1 h => ?_
 refine Xac ?_
 iterate 3 refine kO hT hC ?_
 refine kS h ?_ ?_ <;> intro b1 h
 iterate 2 refine kI hT hC b1 ?_
 refine kP hC true b1 ?_
 refine kO hT hC ?_
 refine kS h ?_ ?_ <;> intro b2 h
 iterate 2 refine kF hC b2 ?_
 refine kP hC true b2 ?_
 refine kO hT hC ?_
 iterate 5 refine kF hC rfl ?_
 refine kO hT hC ?_
 exact Vc.nil kM
 iterate 2 refine kI hT hC b2 ?_
 refine kP hC false b2 ?_
 refine kO hT hC ?_
 refine kS h ?_ ?_ <;> intro b3 h
 iterate 5 refine kF hC b3 ?_
 refine kP hC true b3 ?_
 exact Vc.nil kM
 iterate 5 refine kI hT hC b3 ?_
 refine kP hC false b3 ?_
 exact Vc.nil kM
 iterate 2 refine kF hC b1 ?_
 refine kP hC false b1 ?_
 refine kO hT hC ?_
 iterate 2 refine kI hT hC rfl ?_
 iterate 2 refine kO hT hC ?_
 refine kS h ?_ ?_ <;> intro b4 h
 iterate 5 refine kF hC b4 ?_
 refine kP hC true b4 ?_
 exact Vc.nil kM
 iterate 5 refine kI hT hC b4 ?_
 refine kP hC false b4 ?_
 exact Vc.nil kM
 refine kS h ?_ ?_ <;> intro b5 h
 refine kt b5 (Xab ?_)
 refine kO hT hC ?_
 exact Vc.nil (Xah (Xas kR))
 refine kf b5 (Xag (Xaf (Xab ?_)))
 refine kO hT hC ?_
 refine Vc.nil (Xap (Xab ?_))
 refine kO hT hC ?_
 refine Vc.nil ?_
 refine kL [0,1,5,6] [] [_,_,_,_] [] ?_
 obtain ⟨o48, hl, h⟩ := Xbl h
 refine Xgy (fun v17 => ([(5, .sv (.int .i64 v17.1)), (6, .sv (.int .i64 v17.2))], [])) (fun v33 => ([(0, .any), (1, .any), (5, .any), (6, .any)], [])) (fun r => Xnc C T Tryz.f200.results.toList (Xkr r) (Xkq r)) hl ?_ ?_ ?_ ?_
 try dsimp only
 apply Xeh hC []
 exact co
 rfl
 decide
 rfl
 intro v17 s hs
 have h := hs
 unfold Xh0 at h
 refine Xap (Xab ?_)
 iterate 5 refine kO hT hC ?_
 refine Vc.nil ?_
 refine kS h ?_ ?_ <;> intro b32 h
 refine kt b32 (Xag (Xaf (Xap (Xam (Xab ?_)))))
 refine kO hT hC ?_
 refine Vc.nil ?_
 refine kL [0,1,5,6,7] [] [_,_,_,_,_] [] ?_
 obtain ⟨o47, hl, h⟩ := Xbl h
 refine Xgy (fun v38 => ([(5, .sv (.int .i64 v38.1)), (7, .sv (.int .i64 v38.2))], [])) (fun v43 => ([(5, .sv (.int .i64 v43)), (7, .any)], [])) (fun r => Xnc C T Tryz.f200.results.toList (Xkr r) (Xkq r)) hl ?_ ?_ ?_ ?_
 try dsimp only
 apply Xeh hC []
 exact co
 rfl
 decide
 rfl
 intro v38 s hs
 have h := hs
 unfold Xkp at h
 refine Xap (Xab ?_)
 iterate 3 refine kO hT hC ?_
 refine Vc.nil ?_
 refine kS h ?_ ?_ <;> intro b41 h
 refine kt b41 (Xag (Xaf ?_))
 refine kL [0,1,5,6,7] [] [_,_,_,_,_] [] ?_
 refine Yen h (fun (v44 : Int) => ([(5, .sv (.int .i64 v44))], [])) (fun v44 h => ?_) (fun h => ?_)
 refine Xac ?_
 iterate 3 refine kO hT hC ?_
 exact Vc.nil kG
 refine Xam (Xab ?_)
 iterate 2 refine kO hT hC ?_
 refine Vc.nil ?_
 refine kL [0,1,5,6,7,8] [] [_,_,_,_,_,_] [] ?_
 refine kA h (fun v45 => ([(8, .sv (.int .i64 v45))], [])) (fun v45 h => ?_) fun v45 h => ?_
 refine Xab ?_
 refine kO hT hC ?_
 refine kQ hT hC h fun h => ?_
 refine kO hT hC ?_
 refine Vc.nil ?_
 refine kS h ?_ ?_ <;> intro b42 h
 refine kt b42 (Xac ?_)
 iterate 5 refine kO hT hC ?_
 exact Vc.nil kM
 exact kf b42 (Xag kM)
 refine Xap (Xab ?_)
 iterate 5 refine kO hT hC ?_
 refine kC hC [] Tryz.call53 h (fun _ => Xai) fun q46 h => ?_
 refine kO hT hC ?_
 refine Vc.nil ?_
 refine kS h ?_ ?_ <;> intro b43 h
 refine kt b43 (Xao (Xaz (Yd0 ?_)))
 exact Yd6 v38.1 h (kW hC [])
 refine kf b43 (Xag (Xaf (Xap (Xab ?_))))
 iterate 3 refine kO hT hC ?_
 refine Vc.nil ?_
 refine kS h ?_ ?_ <;> intro b44 h
 refine kt b44 (Xab ?_)
 iterate 8 refine kO hT hC ?_
 refine Vc.nil (Xah (Xas (Xgu (Ypu ?_))))
 obtain rfl := kj h
 refine Xpa (Xo9 ?_)
 exact Xb2 (Xgt.refl _) rfl trivial
 refine kf b44 (Xag (Xaf (Xac ?_)))
 iterate 3 refine kO hT hC ?_
 refine Vc.nil (Xan ?_)
 exact Yd6 (Xaa .i64 (v38.1 + 1)) h (kW hC [])
 exact kf b41 (Xao (Xaz kb))
 intro v43 e
 subst e
 refine Xan (Xaf (Xac ?_))
 iterate 3 refine kO hT hC ?_
 exact Vc.nil kG
 intro r' σ' e hE
 subst e
 obtain rfl := kj h
 refine Xgu (Xas (Xpa (Xo9 ?_)))
 exact hE
 exact kf b32 (Xao (Xaz kb))
 intro v33 e
 subst e
 refine Xaf (Xab ?_)
 refine kO hT hC ?_
 exact Vc.nil (Xah kR)
 intro r' σ' e hE
 subst e
 obtain rfl := kj h
 refine Xas ?_
 exact hE
def Xso (r : ((List Int) × Bool)) : AV := .tup [.own 16, .sv (.bool r.2)]
def Xsn (r : ((List Int) × Bool)) : Xa2 := [(16, .ints .i64 r.1)]
theorem Xiz {p0 p1 r} (h : Xcz p0 p1 = some r) : AC Tryz.prog 160 [.sv (.int .i64 p0), .sv (.ints .i64 p1)] [] (Xso r) (Xsn r) := by
 refine Xae hT Tryz.func160 rfl fun C hC => ?_
 unfold Xcz at h
 refine Xab ?_
 iterate 2 refine kO hT hC ?_
 refine Vc.nil (Xap ?_)
 refine kL [0,1] [] [_,_] [] ?_
 refine kA h (fun v1 => ([(21, .sv (.bool v1))], [])) (fun v1 h => ?_) fun v1 h => ?_
 refine Xac ?_
 iterate 3 refine kO hT hC ?_
 refine kS h ?_ ?_ <;> intro b1 h
 iterate 2 refine kI hT hC b1 ?_
 refine kP hC true b1 ?_
 refine kO hT hC ?_
 refine kS h ?_ ?_ <;> intro b2 h
 iterate 6 refine kF hC b2 ?_
 refine kP hC true b2 ?_
 exact Vc.nil kM
 iterate 6 refine kI hT hC b2 ?_
 refine kP hC false b2 ?_
 exact Vc.nil kM
 iterate 2 refine kF hC b1 ?_
 refine kP hC false b1 ?_
 refine kO hT hC ?_
 iterate 6 refine kI hT hC rfl ?_
 refine kO hT hC ?_
 exact Vc.nil kM
 refine kS h ?_ ?_ <;> intro b3 h
 refine kt b3 (Xab ?_)
 iterate 3 refine kO hT hC ?_
 refine Vc.nil (Xah (Xas ?_))
 obtain rfl := kj h
 exact Xb2 (τ := ⟨[(4, .own 16), (5, .sv (.bool false))], [(16, some (.ints .i64 ([] : List Int)))]⟩) (kW hC [(16, 352)]) rfl ⟨rfl, trivial⟩
 refine kf b3 (Xag (Xaf (Xab ?_)))
 iterate 2 refine kO hT hC ?_
 obtain ⟨hq, h⟩ := Xbm h
 refine Yej hT hC rfl rfl rfl rfl ⟨hq.1, hq.2.1, hq.2.2, by decide⟩ ?_
 refine kO hT hC ?_
 refine Vc.nil (Xap (Xab ?_))
 refine kO hT hC ?_
 refine Vc.nil ?_
 refine kL [0,1,6,7] [400] [_,_,_,_] [_] ?_
 refine kX h (fun v4 => ([(7, .sv (.int .i64 v4.1))], [(400, some (.ints .i64 v4.2))])) (fun v7 => ([(0, .any), (1, .any), (7, .any)], [(400, some (.ints .i64 v7))])) (kW hC []) (fun v4 s h => ?_) fun v7 h => ?_
 unfold Xde at h
 refine Xap (Xab ?_)
 iterate 5 refine kO hT hC ?_
 refine Vc.nil ?_
 refine kS h ?_ ?_ <;> intro b6 h
 refine kt b6 (Xag (Xaf (Xap (Xam ?_))))
 refine Xcn hm ?_
 iterate 3 refine kO hT hC ?_
 refine kC hC [] Tryz.call200 h (fun _ => Xpp) fun q8 h => ?_
 iterate 2 refine kO hT hC ?_
 refine kQ hT hC h fun h => ?_
 refine kO hT hC ?_
 iterate 2 refine kQ hT hC h fun h => ?_
 refine kD (Xan (Xaf (Xac ?_)))
 iterate 3 refine kO hT hC ?_
 exact Vc.nil kG
 exact kf b6 (Xao (Xaz ku))
 refine Xaf (Xab ?_)
 iterate 3 refine kO hT hC ?_
 refine Vc.nil (Xah ?_)
 obtain rfl := kj h
 exact Xb2 (τ := ⟨[(4, .own 16), (5, .sv (.bool true))], [(16, some (.ints .i64 v7))]⟩) (kW hC [(16, 400)]) rfl ⟨rfl, trivial⟩
def Yao (r : Int) : AV := .sv (.int .i64 r)
def Yan (r : Int) : Xa2 := []
theorem Xpv {p0 r} (h : Xiy p0 = some r) : AC Tryz.prog 202 [.sv (.int .i64 p0)] [] (Yao r) (Yan r) := by
 refine Xae hT Tryz.func202 rfl fun C hC => ?_
 unfold Xiy at h
 refine Xab ?_
 refine kO hT hC ?_
 refine Vc.nil (Xap (Xab ?_))
 refine kO hT hC ?_
 refine kC hC [] Tryz.call53 h (fun _ => Xai) fun q1 h => ?_
 refine kO hT hC ?_
 refine Vc.nil ?_
 refine kS h ?_ ?_ <;> intro b1 h
 refine kt b1 (Xab ?_)
 refine kO hT hC ?_
 exact Vc.nil (Xah (Xas kR))
 refine kf b1 (Xag (Xaf (Xab ?_)))
 refine kO hT hC ?_
 refine Vc.nil ?_
 refine kL [0,3] [] [_,_] [] ?_
 refine kA h (fun v2 => ([(3, .sv (.int .i64 v2))], [])) (fun v2 h => ?_) fun v2 h => ?_
 refine Xab ?_
 refine kO hT hC ?_
 refine kQ hT hC h fun h => ?_
 refine Vc.nil (Xam (Xab ?_))
 iterate 2 refine kO hT hC ?_
 refine Vc.nil ?_
 refine kS h ?_ ?_ <;> intro b2 h
 refine kt b2 (Xac ?_)
 refine kO hT hC ?_
 exact Vc.nil (Xan kM)
 refine kf b2 (Xab ?_)
 iterate 2 refine kO hT hC ?_
 refine Vc.nil ?_
 refine kS h ?_ ?_ <;> intro b3 h
 refine kt b3 (Xac ?_)
 refine kO hT hC ?_
 exact Vc.nil (Xan kM)
 refine kf b3 (Xab ?_)
 iterate 2 refine kO hT hC ?_
 refine Vc.nil ?_
 refine kS h ?_ ?_ <;> intro b4 h
 refine kt b4 (Xac ?_)
 refine kO hT hC ?_
 exact Vc.nil (Xan kM)
 refine kf b4 (Xab ?_)
 iterate 2 refine kO hT hC ?_
 refine Vc.nil ?_
 refine kS h ?_ ?_ <;> intro b5 h
 refine kt b5 (Xac ?_)
 refine kO hT hC ?_
 exact Vc.nil (Xan kM)
 refine kf b5 (Xab ?_)
 iterate 2 refine kO hT hC ?_
 refine Vc.nil ?_
 refine kS h ?_ ?_ <;> intro b6 h
 refine kt b6 (Xac ?_)
 refine kO hT hC ?_
 exact Vc.nil (Xan kM)
 exact kf b6 (Xag (Xan kM))
 refine Xap (Xab ?_)
 refine kO hT hC ?_
 refine Vc.nil ?_
 refine kL [0,3,4] [] [_,_,_] [] ?_
 refine kX h (fun v4 => ([(3, .sv (.int .i64 v4.1)), (4, .sv (.int .i64 v4.2))], [])) (fun v6 => ([(3, .sv (.int .i64 v6)), (0, .any), (4, .any)], [])) (kW hC []) (fun v4 s h => ?_) fun v6 h => ?_
 unfold Xi9 at h
 refine Xap (Xab ?_)
 iterate 2 refine kO hT hC ?_
 refine kQ hT hC h fun h => ?_
 refine kO hT hC ?_
 refine Vc.nil ?_
 refine kS h ?_ ?_ <;> intro b9 h
 refine kt b9 (Xag (Xaf (Xap (Xam (Xac ?_)))))
 iterate 3 refine kO hT hC ?_
 refine Vc.nil (Xan (Xaf (Xac ?_)))
 iterate 3 refine kO hT hC ?_
 exact Vc.nil kG
 exact kf b9 (Xao (Xaz ku))
 refine Xaf (Xab ?_)
 iterate 2 refine kO hT hC ?_
 exact Vc.nil (Xah kR)
def Xr0 (r : Int) : AV := .sv (.int .i64 r)
def Xrz (r : Int) : Xa2 := []
theorem Xtx {p0 p1 r} (h : Xf2 p0 p1 = some r) : AC Tryz.prog 161 [.sv (.int .i64 p0), .sv (.int .i64 p1)] [] (Xr0 r) (Xrz r) := by
 refine Xae hT Tryz.func161 rfl fun C hC => ?_
 unfold Xf2 at h
 refine Xab ?_
 refine kO hT hC ?_
 refine Vc.nil (Xap (Xab ?_))
 refine kO hT hC ?_
 refine kC hC [] Tryz.call53 h (fun _ => Xai) fun q1 h => ?_
 refine kO hT hC ?_
 refine Vc.nil ?_
 refine kS h ?_ ?_ <;> intro b1 h
 refine kt b1 (Xab ?_)
 refine kO hT hC ?_
 exact Vc.nil (Xah (Xas kR))
 refine kf b1 (Xag (Xaf (Xab ?_)))
 iterate 2 refine kO hT hC ?_
 refine kC hC [] Tryz.call202 h (fun _ => Xpv) fun q2 h => ?_
 iterate 2 refine kO hT hC ?_
 exact Vc.nil (Xah kR)
def Yak (r : Int) : AV := .sv (.int .i64 r)
def Yaj (r : Int) : Xa2 := []
theorem Xpt {p0 p1 r} (h : Xix p0 p1 = some r) : AC Tryz.prog 237 [.sv (.int .i64 p0), .sv (.int .i64 p1)] [] (Yak r) (Yaj r) := by
 refine Xae hT Tryz.func237 rfl fun C hC => ?_
 unfold Xix at h
 refine Xab ?_
 refine kO hT hC ?_
 refine Vc.nil (Xap ?_)
 refine kL [0,1] [] [_,_] [] ?_
 refine kA h (fun v1 => ([(14, .sv (.bool v1))], [])) (fun v1 h => ?_) fun v1 h => ?_
 refine Xac ?_
 refine kO hT hC ?_
 refine kC hC [] Tryz.call53 h (fun _ => Xai) fun q2 h => ?_
 iterate 2 refine kO hT hC ?_
 refine kS h ?_ ?_ <;> intro b1 h
 refine kI hT hC (kn b1) ?_
 refine kE hC (kn b1) [] Tryz.call53 h (fun _ => Xai) fun q3 h => ?_
 refine kI hT hC (kn b1) ?_
 refine kP hC false (kn b1) ?_
 exact Vc.nil kM
 iterate 3 refine kF hC (kn b1) ?_
 refine kP hC true (kn b1) ?_
 exact Vc.nil kM
 refine kS h ?_ ?_ <;> intro b2 h
 refine kt b2 (Xab ?_)
 refine kO hT hC ?_
 exact Vc.nil (Xah (Xas kR))
 refine kf b2 (Xag (Xaf (Xab ?_)))
 refine kO hT hC ?_
 refine Vc.nil (Xap (Xab ?_))
 iterate 4 refine kO hT hC ?_
 refine Vc.nil ?_
 refine kL [5,6] [] [_,_] [] ?_
 refine kX h (fun v6 => ([(5, .sv (.int .i64 v6.1)), (6, .sv (.int .i64 v6.2))], [])) (fun v9 => ([(5, .sv (.int .i64 v9)), (6, .any)], [])) (kW hC []) (fun v6 s h => ?_) fun v9 h => ?_
 unfold Xi8 at h
 refine Xap (Xab ?_)
 iterate 2 refine kO hT hC ?_
 refine Vc.nil ?_
 refine kS h ?_ ?_ <;> intro b7 h
 refine kt b7 (Xag (Xaf ?_))
 refine kL [5,6] [] [_,_] [] ?_
 refine kA h (fun v10 => ([(5, .sv (.int .i64 v10))], [])) (fun v10 h => ?_) fun v10 h => ?_
 refine Xam (Xab ?_)
 refine kO hT hC ?_
 refine kQ hT hC h fun h => ?_
 refine kO hT hC ?_
 refine Vc.nil ?_
 refine kS h ?_ ?_ <;> intro b8 h
 refine kt b8 (Xac ?_)
 iterate 3 refine kO hT hC ?_
 exact Vc.nil (Xan kM)
 exact kf b8 (Xag (Xan kM))
 refine Xac ?_
 refine kO hT hC ?_
 refine kQ hT hC h fun h => ?_
 refine kO hT hC ?_
 exact Vc.nil kG
 exact kf b7 (Xao (Xaz ku))
 refine Xaf (Xab ?_)
 iterate 2 refine kO hT hC ?_
 exact Vc.nil (Xah kR)
def Ya8 (r : Int) : AV := .sv (.int .i64 r)
def Ya7 (r : Int) : Xa2 := []
theorem Ydi {p0 p1 p2 r} (h : Xk1 p0 p1 p2 = some r) : AC Tryz.prog 236 [.sv (.ints .i64 p0), .sv (.int .i64 p1), .sv (.int .i64 p2)] [] (Ya8 r) (Ya7 r) := by
 refine Xae hT Tryz.func236 rfl fun C hC => ?_
 unfold Xk1 at h
 refine Xab ?_
 refine kO hT hC ?_
 refine kN ?_
 refine kO hT hC ?_
 refine Vc.nil (Xap (Xab ?_))
 refine kO hT hC ?_
 refine Vc.nil ?_
 refine kL [0,1,2,7,8] [] [_,_,_,_,_] [] ?_
 refine kX h (fun v3 => ([(7, .sv (.int .i64 v3.1)), (8, .sv (.int .i64 v3.2))], [])) (fun v6 => ([(7, .sv (.int .i64 v6)), (0, .any), (1, .any), (2, .any), (8, .any)], [])) (kW hC []) (fun v3 s h => ?_) fun v6 h => ?_
 unfold Xga at h
 refine Xap (Xab ?_)
 iterate 2 refine kO hT hC ?_
 refine Vc.nil ?_
 refine kS h ?_ ?_ <;> intro b3 h
 refine kt b3 (Xag (Xaf (Xap (Xam ?_))))
 refine Xcn hm ?_
 iterate 6 refine kO hT hC ?_
 refine kQ hT hC h fun h => ?_
 iterate 3 refine kO hT hC ?_
 refine kC hC [] Tryz.call237 h (fun _ => Xpt) fun q7 h => ?_
 iterate 3 refine kO hT hC ?_
 refine kD (Xan (Xaf (Xac ?_)))
 iterate 3 refine kO hT hC ?_
 exact Vc.nil kG
 exact kf b3 (Xao (Xaz ku))
 refine Xaf (Xab ?_)
 iterate 2 refine kO hT hC ?_
 exact Vc.nil (Xah kR)
def Xxf (r : (List Int)) : AV := .own 16
def Xxe (r : (List Int)) : Xa2 := [(16, .ints .i64 r)]
theorem Xoj {p0 r} (h : Xhg p0 = some r) : AC Tryz.prog 201 [.sv (.ints .i64 p0)] [] (Xxf r) (Xxe r) := by
 refine Xae hT Tryz.func201 rfl fun C hC => ?_
 unfold Xhg at h
 refine Xab ?_
 refine kO hT hC ?_
 refine kN ?_
 iterate 2 refine kO hT hC ?_
 refine Vc.nil (Xap (Xab ?_))
 refine kO hT hC ?_
 refine Vc.nil ?_
 refine kL [0,3,4] [176] [_,_,_] [_] ?_
 refine kX h (fun v10 => ([(4, .sv (.int .i64 v10.1))], [(176, some (.ints .i64 v10.2))])) (fun v20 => ([(0, .any), (4, .any)], [(176, some (.ints .i64 v20))])) (kW hC []) (fun v10 s h => ?_) fun v20 h => ?_
 unfold Xd6 at h
 refine Xap (Xab ?_)
 iterate 2 refine kO hT hC ?_
 refine Vc.nil ?_
 refine kS h ?_ ?_ <;> intro b9 h
 refine kt b9 (Xag (Xaf (Xap (Xam (Xab ?_)))))
 refine kO hT hC ?_
 refine Vc.nil ?_
 refine kL [0,3,4,5] [176] [_,_,_,_] [_] ?_
 refine kX h (fun v23 => ([(5, .sv (.int .i64 v23.1))], [(176, some (.ints .i64 v23.2))])) (fun v26 => ([(5, .any)], [(176, some (.ints .i64 v26))])) (kW hC []) (fun v23 s h => ?_) fun v26 h => ?_
 unfold Xd7 at h
 refine Xap (Xab ?_)
 iterate 2 refine kO hT hC ?_
 refine Vc.nil ?_
 refine kS h ?_ ?_ <;> intro b12 h
 refine kt b12 (Xag (Xaf (Xap (Xam (Xac ?_)))))
 iterate 4 refine kO hT hC ?_
 refine kC hC [] Tryz.call236 h (fun _ => Ydi) fun q27 h => ?_
 refine kO hT hC ?_
 refine kT hT hC h fun h => ?_
 refine kO hT hC ?_
 refine Vc.nil (Xan (Xaf (Xac ?_)))
 iterate 3 refine kO hT hC ?_
 refine Vc.nil ?_
 obtain rfl := kj h
 exact Xs2 (kW hC [(176, 416)])
 exact kf b12 (Xao (Xaz ku))
 refine Xan (Xaf (Xac ?_))
 iterate 3 refine kO hT hC ?_
 exact Vc.nil kG
 exact kf b9 (Xao (Xaz ku))
 refine Xaf (Xab ?_)
 iterate 2 refine kO hT hC ?_
 refine Vc.nil (Xap (Xab ?_))
 refine kO hT hC ?_
 refine Vc.nil ?_
 refine kL [3,6,7] [176,432] [_,_,_] [_,_] ?_
 refine kX h (fun v60 => ([(7, .sv (.int .i64 v60.1))], [(432, some (.ints .i64 v60.2))])) (fun v91 => ([(3, .any), (7, .any)], [(432, some (.ints .i64 v91)), (176, none)])) (kW hC []) (fun v60 s h => ?_) fun v91 h => ?_
 unfold Xdi at h
 refine Xap (Xab ?_)
 iterate 2 refine kO hT hC ?_
 refine Vc.nil ?_
 refine kS h ?_ ?_ <;> intro b39 h
 refine kt b39 (Xag (Xaf (Xap (Xam (Xab ?_)))))
 refine kO hT hC ?_
 refine Vc.nil ?_
 refine kL [3,6,7,8] [176,432] [_,_,_,_] [_,_] ?_
 refine kX h (fun v101 => ([(8, .sv (.int .i64 v101.1))], [(432, some (.ints .i64 v101.2))])) (fun v111 => ([(8, .any)], [(432, some (.ints .i64 v111))])) (kW hC []) (fun v101 s h => ?_) fun v111 h => ?_
 unfold Xdj at h
 refine Xap (Xab ?_)
 iterate 2 refine kO hT hC ?_
 refine Vc.nil ?_
 refine kS h ?_ ?_ <;> intro b48 h
 refine kt b48 (Xag (Xaf (Xap (Xam (Xab ?_)))))
 refine kO hT hC ?_
 refine Vc.nil (Xap (Xab ?_))
 refine kO hT hC ?_
 refine Vc.nil ?_
 refine kL [3,6,7,8,9,10] [176,432] [_,_,_,_,_,_] [_,_] ?_
 refine kX h (fun v114 => ([(9, .sv (.int .i64 v114.1)), (10, .sv (.int .i64 v114.2))], [])) (fun v117 => ([(9, .sv (.int .i64 v117)), (10, .any)], [])) (kW hC []) (fun v114 s h => ?_) fun v117 h => ?_
 unfold Xdk at h
 refine Xap (Xab ?_)
 iterate 2 refine kO hT hC ?_
 refine Vc.nil ?_
 refine kS h ?_ ?_ <;> intro b51 h
 refine kt b51 (Xag (Xaf (Xap (Xam ?_))))
 refine Xcn hm ?_
 iterate 3 refine kO hT hC ?_
 refine kC hC [] Tryz.call237 h (fun _ => Xpt) fun q118 h => ?_
 iterate 5 refine kO hT hC ?_
 iterate 2 refine kQ hT hC h fun h => ?_
 iterate 3 refine kO hT hC ?_
 refine kD (Xan (Xaf (Xac ?_)))
 iterate 3 refine kO hT hC ?_
 exact Vc.nil kG
 exact kf b51 (Xao (Xaz ku))
 refine Xaf (Xac ?_)
 iterate 3 refine kO hT hC ?_
 refine kT hT hC h fun h => ?_
 refine kO hT hC ?_
 refine Vc.nil (Xan (Xaf (Xac ?_)))
 iterate 3 refine kO hT hC ?_
 refine Vc.nil ?_
 obtain rfl := kj h
 exact Xs2 (kW hC [(432, 896)])
 exact kf b48 (Xao (Xaz ku))
 refine Xan (Xaf (Xac ?_))
 iterate 3 refine kO hT hC ?_
 exact Vc.nil kG
 exact kf b39 (Xao (Xaz ku))
 refine Xaf (Xab ?_)
 iterate 2 refine kO hT hC ?_
 refine Vc.nil (Xah ?_)
 obtain rfl := kj h
 exact Xb2 (τ := ⟨[(2, .own 16)], [(16, some (.ints .i64 v91))]⟩) (kW hC [(16, 432)]) rfl ⟨rfl, trivial⟩
def Xw9 (r : Int) : AV := .sv (.int .i64 r)
def Xw8 (r : Int) : Xa2 := []
theorem Xh9 {p0 p1 r} (h : Xdo p0 p1 = some r) : AC Tryz.prog 207 [.sv (.int .i64 p0), .sv (.int .i64 p1)] [] (Xw9 r) (Xw8 r) := by
 refine Xae hT Tryz.func207 rfl fun C hC => ?_
 unfold Xdo at h
 refine Xab ?_
 refine kO hT hC ?_
 refine kN ?_
 iterate 2 refine kO hT hC ?_
 refine kQ hT hC h fun h => ?_
 refine kO hT hC ?_
 refine Vc.nil ?_
 refine kL [0,1,5] [] [_,_,_] [] ?_
 refine kA h (fun v1 => ([(5, .sv (.int .i64 v1)), (0, .any), (1, .any)], [])) (fun v1 h => ?_) fun v1 h => ?_
 refine Xab ?_
 iterate 2 refine kO hT hC ?_
 refine kQ hT hC h fun h => ?_
 refine kO hT hC ?_
 refine Vc.nil ?_
 refine kS h ?_ ?_ <;> intro b1 h
 refine kt b1 (Xac ?_)
 iterate 3 refine kO hT hC ?_
 exact Vc.nil kM
 exact kf b1 (Xag kM)
 refine Xab ?_
 iterate 2 refine kO hT hC ?_
 exact Vc.nil (Xah kR)
def Xrw (r : (List Int)) : AV := .own 16
def Xrv (r : (List Int)) : Xa2 := [(16, .ints .i64 r)]
theorem Xtt {p0 r} (h : Xf0 p0 = some r) : AC Tryz.prog 162 [.sv (.ints .i64 p0)] [] (Xrw r) (Xrv r) := by
 refine Xae hT Tryz.func162 rfl fun C hC => ?_
 unfold Xf0 at h
 refine Xab ?_
 refine kO hT hC ?_
 refine Vc.nil (Xap (Xab ?_))
 refine kO hT hC ?_
 refine kC hC [] Tryz.call150 h (fun _ => Xbh) fun q1 h => ?_
 refine kO hT hC ?_
 refine Vc.nil ?_
 refine kS h ?_ ?_ <;> intro b1 h
 refine kt b1 (Xab ?_)
 iterate 2 refine kO hT hC ?_
 refine Vc.nil (Xah (Xas ?_))
 obtain rfl := kj h
 exact Xb2 (τ := ⟨[(2, .own 16)], [(16, some (.ints .i64 ([] : List Int)))]⟩) (kW hC [(16, 128)]) rfl ⟨rfl, trivial⟩
 refine kf b1 (Xag (Xaf (Xab ?_)))
 refine kO hT hC ?_
 refine kC hC [(16, 160)] Tryz.call201 h (fun _ => Xoj) fun q2 h => ?_
 refine kO hT hC ?_
 refine Vc.nil (Xap (Xab ?_))
 refine kO hT hC ?_
 refine Vc.nil ?_
 refine kL [3,4] [160] [_,_] [_] ?_
 refine kX h (fun v5 => ([(4, .sv (.int .i64 v5.1))], [(160, some (.ints .i64 v5.2))])) (fun v8 => ([(4, .any)], [(160, some (.ints .i64 v8))])) (kW hC []) (fun v5 s h => ?_) fun v8 h => ?_
 unfold Xc6 at h
 refine Xap (Xab ?_)
 iterate 2 refine kO hT hC ?_
 refine Vc.nil ?_
 refine kS h ?_ ?_ <;> intro b4 h
 refine kt b4 (Xag (Xaf (Xap (Xam (Xac ?_)))))
 iterate 4 refine kO hT hC ?_
 iterate 2 refine kQ hT hC h fun h => ?_
 refine kO hT hC ?_
 refine kC hC [] Tryz.call207 h (fun _ => Xh9) fun q9 h => ?_
 iterate 2 refine kQ hT hC h fun h => ?_
 refine Vc.nil (Xan (Xaf (Xac ?_)))
 iterate 3 refine kO hT hC ?_
 exact Vc.nil kG
 exact kf b4 (Xao (Xaz ku))
 refine Xaf (Xab ?_)
 iterate 2 refine kO hT hC ?_
 refine Vc.nil (Xah ?_)
 obtain rfl := kj h
 exact Xb2 (τ := ⟨[(2, .own 16)], [(16, some (.ints .i64 v8))]⟩) (kW hC [(16, 160)]) rfl ⟨rfl, trivial⟩
def Xz8 (r : Int) : AV := .sv (.int .i64 r)
def Xz7 (r : Int) : Xa2 := []
theorem Xpn {p0 r} (h : Xit p0 = some r) : AC Tryz.prog 238 [.sv (.int .i64 p0)] [] (Xz8 r) (Xz7 r) := by
 refine Xae hT Tryz.func238 rfl fun C hC => ?_
 unfold Xit at h
 refine Xab ?_
 refine kO hT hC ?_
 refine Vc.nil (Xap (Xab ?_))
 refine kO hT hC ?_
 refine kC hC [] Tryz.call53 h (fun _ => Xai) fun q1 h => ?_
 refine kO hT hC ?_
 refine Vc.nil ?_
 refine kS h ?_ ?_ <;> intro b1 h
 refine kt b1 (Xab ?_)
 refine kO hT hC ?_
 exact Vc.nil (Xah (Xas kR))
 refine kf b1 (Xag (Xaf (Xab ?_)))
 refine kO hT hC ?_
 iterate 2 refine kQ hT hC h fun h => ?_
 refine kO hT hC ?_
 refine kN ?_
 refine kO hT hC ?_
 iterate 2 refine kQ hT hC h fun h => ?_
 refine kO hT hC ?_
 refine Vc.nil (Xap ?_)
 refine kL [3,4] [] [_,_] [] ?_
 refine kA h (fun v2 => ([(19, .sv (.bool v2))], [])) (fun v2 h => ?_) fun v2 h => ?_
 refine Xac ?_
 iterate 3 refine kO hT hC ?_
 refine kS h ?_ ?_ <;> intro b2 h
 iterate 2 refine kI hT hC b2 ?_
 refine kP hC true b2 ?_
 exact Vc.nil kM
 iterate 2 refine kF hC b2 ?_
 refine kP hC false b2 ?_
 exact Vc.nil kM
 refine kS h ?_ ?_ <;> intro b3 h
 refine kt b3 (Xab ?_)
 refine kO hT hC ?_
 exact Vc.nil (Xah (Xas kR))
 refine kf b3 (Xag (Xaf (Xap ?_)))
 refine kL [3,4] [] [_,_] [] ?_
 refine kA h (fun v3 => ([(25, .sv (.bool v3)), (3, .any), (4, .any)], [])) (fun v3 h => ?_) fun v3 h => ?_
 refine Xac ?_
 iterate 3 refine kO hT hC ?_
 refine kS h ?_ ?_ <;> intro b4 h
 iterate 2 refine kI hT hC b4 ?_
 refine kP hC true b4 ?_
 exact Vc.nil kM
 iterate 2 refine kF hC b4 ?_
 refine kP hC false b4 ?_
 exact Vc.nil kM
 refine kS h ?_ ?_ <;> intro b5 h
 refine kt b5 (Xab ?_)
 refine kO hT hC ?_
 exact Vc.nil (Xah (Xas kR))
 refine kf b5 (Xag (Xaf (Xab ?_)))
 refine kO hT hC ?_
 exact Vc.nil (Xah kR)
def Xw7 (r : Int) : AV := .sv (.int .i64 r)
def Xw6 (r : Int) : Xa2 := []
theorem Xbc {p0 p1 p2 p3 r} (h : Xbe p0 p1 p2 p3 = some r) : AC Tryz.prog 239 [.sv (.int .i64 p0), .sv (.int .i64 p1), .sv (.int .i64 p2), .sv (.int .i64 p3)] [] (Xw7 r) (Xw6 r) := by
 refine Xae hT Tryz.func239 rfl fun C hC => ?_
 unfold Xbe at h
 refine Xab ?_
 refine kO hT hC ?_
 refine Vc.nil (Xap (Xab ?_))
 refine kO hT hC ?_
 refine Vc.nil (Xam (Xab ?_))
 iterate 2 refine kO hT hC ?_
 refine Vc.nil ?_
 refine kS h ?_ ?_ <;> intro b1 h
 refine kt b1 (Xab ?_)
 iterate 2 refine kO hT hC ?_
 exact Vc.nil (Xah (Xgu (Xas kR)))
 refine kf b1 (Xab ?_)
 iterate 2 refine kO hT hC ?_
 refine Vc.nil ?_
 refine kS h ?_ ?_ <;> intro b2 h
 refine kt b2 (Xab ?_)
 iterate 2 refine kO hT hC ?_
 exact Vc.nil (Xah (Xgu (Xas kR)))
 refine kf b2 (Xag (Xan (Xaf (Xab ?_))))
 iterate 2 refine kO hT hC ?_
 exact Vc.nil (Xah kR)
def Xv9 (r : Int) : AV := .sv (.int .i64 r)
def Xv8 (r : Int) : Xa2 := []
theorem Yab {p0 p1 r} (h : Xjh p0 p1 = some r) : AC Tryz.prog 208 [.sv (.int .i64 p0), .sv (.int .i64 p1)] [] (Xv9 r) (Xv8 r) := by
 refine Xae hT Tryz.func208 rfl fun C hC => ?_
 unfold Xjh at h
 refine Xab ?_
 refine kO hT hC ?_
 refine kN ?_
 refine kO hT hC ?_
 refine kC hC [] Tryz.call238 h (fun _ => Xpn) fun q1 h => ?_
 refine kO hT hC ?_
 refine Vc.nil (Xap ?_)
 refine kL [0,5] [] [_,_] [] ?_
 refine kA h (fun v2 => ([(16, .sv (.bool v2))], [])) (fun v2 h => ?_) fun v2 h => ?_
 refine Xac ?_
 refine kO hT hC ?_
 refine kC hC [] Tryz.call53 h (fun _ => Xai) fun q3 h => ?_
 iterate 2 refine kO hT hC ?_
 refine kS h ?_ ?_ <;> intro b1 h
 iterate 2 refine kI hT hC (kn b1) ?_
 refine kP hC false (kn b1) ?_
 exact Vc.nil kM
 iterate 2 refine kF hC (kn b1) ?_
 refine kP hC true (kn b1) ?_
 exact Vc.nil kM
 refine kS h ?_ ?_ <;> intro b2 h
 refine kt b2 (Xab ?_)
 refine kO hT hC ?_
 exact Vc.nil (Xah (Xas kR))
 refine kf b2 (Xag (Xaf (Xab ?_)))
 refine kO hT hC ?_
 refine Vc.nil ?_
 refine kL [0,5,6] [] [_,_,_] [] ?_
 refine kA h (fun v4 => ([(6, .sv (.int .i64 v4)), (5, .any)], [])) (fun v4 h => ?_) fun v4 h => ?_
 refine Xab ?_
 refine kO hT hC ?_
 refine kQ hT hC h fun h => ?_
 refine Vc.nil (Xam (Xab ?_))
 iterate 2 refine kO hT hC ?_
 refine Vc.nil ?_
 refine kS h ?_ ?_ <;> intro b3 h
 refine kt b3 (Xac ?_)
 refine kO hT hC ?_
 refine kC hC [] Tryz.call239 h (fun _ => Xbc) fun q5 h => ?_
 refine kO hT hC ?_
 exact Vc.nil (Xan kM)
 refine kf b3 (Xab ?_)
 iterate 2 refine kO hT hC ?_
 refine Vc.nil ?_
 refine kS h ?_ ?_ <;> intro b4 h
 refine kt b4 (Xac ?_)
 refine kO hT hC ?_
 refine kC hC [] Tryz.call239 h (fun _ => Xbc) fun q6 h => ?_
 refine kO hT hC ?_
 exact Vc.nil (Xan kM)
 refine kf b4 (Xab ?_)
 iterate 2 refine kO hT hC ?_
 refine Vc.nil ?_
 refine kS h ?_ ?_ <;> intro b5 h
 refine kt b5 (Xac ?_)
 refine kO hT hC ?_
 refine kC hC [] Tryz.call239 h (fun _ => Xbc) fun q7 h => ?_
 refine kO hT hC ?_
 exact Vc.nil (Xan kM)
 refine kf b5 (Xab ?_)
 iterate 2 refine kO hT hC ?_
 refine Vc.nil ?_
 refine kS h ?_ ?_ <;> intro b6 h
 refine kt b6 (Xac ?_)
 refine kO hT hC ?_
 refine kC hC [] Tryz.call239 h (fun _ => Xbc) fun q8 h => ?_
 refine kO hT hC ?_
 exact Vc.nil (Xan kM)
 refine kf b6 (Xab ?_)
 iterate 2 refine kO hT hC ?_
 refine Vc.nil ?_
 refine kS h ?_ ?_ <;> intro b7 h
 refine kt b7 (Xac ?_)
 refine kO hT hC ?_
 refine kC hC [] Tryz.call239 h (fun _ => Xbc) fun q9 h => ?_
 refine kO hT hC ?_
 exact Vc.nil (Xan kM)
 refine kf b7 (Xab ?_)
 iterate 2 refine kO hT hC ?_
 refine Vc.nil ?_
 refine kS h ?_ ?_ <;> intro b8 h
 refine kt b8 (Xac ?_)
 refine kO hT hC ?_
 refine kC hC [] Tryz.call239 h (fun _ => Xbc) fun q10 h => ?_
 refine kO hT hC ?_
 exact Vc.nil (Xan kM)
 exact kf b8 (Xag (Xan kM))
 refine Xap (Xab ?_)
 refine kO hT hC ?_
 refine Vc.nil ?_
 refine kL [0,6,7] [] [_,_,_] [] ?_
 refine kX h (fun v12 => ([(6, .sv (.int .i64 v12.1)), (7, .sv (.int .i64 v12.2))], [])) (fun v14 => ([(6, .sv (.int .i64 v14)), (0, .any), (7, .any)], [])) (kW hC []) (fun v12 s h => ?_) fun v14 h => ?_
 unfold Xdc at h
 refine Xap (Xab ?_)
 iterate 2 refine kO hT hC ?_
 refine kQ hT hC h fun h => ?_
 refine kO hT hC ?_
 refine Vc.nil ?_
 refine kS h ?_ ?_ <;> intro b11 h
 refine kt b11 (Xag (Xaf (Xap (Xam (Xac ?_)))))
 iterate 3 refine kO hT hC ?_
 refine Vc.nil (Xan (Xaf (Xac ?_)))
 iterate 3 refine kO hT hC ?_
 exact Vc.nil kG
 exact kf b11 (Xao (Xaz ku))
 refine Xaf (Xab ?_)
 iterate 2 refine kO hT hC ?_
 exact Vc.nil (Xah kR)
def Xr8 (r : Int) : AV := .sv (.int .i64 r)
def Xr7 (r : Int) : Xa2 := []
theorem Xt5 {p0 p1 p2 r} (h : Xf4 p0 p1 p2 = some r) : AC Tryz.prog 163 [.sv (.int .i64 p0), .sv (.int .i64 p1), .sv (.int .i64 p2)] [] (Xr8 r) (Xr7 r) := by
 refine Xae hT Tryz.func163 rfl fun C hC => ?_
 unfold Xf4 at h
 refine Xab ?_
 refine kO hT hC ?_
 refine Vc.nil (Xap (Xab ?_))
 refine kO hT hC ?_
 refine kC hC [] Tryz.call53 h (fun _ => Xai) fun q1 h => ?_
 refine kO hT hC ?_
 refine Vc.nil ?_
 refine kS h ?_ ?_ <;> intro b1 h
 refine kt b1 (Xab ?_)
 refine kO hT hC ?_
 exact Vc.nil (Xah (Xas kR))
 refine kf b1 (Xag (Xaf (Xab ?_)))
 iterate 3 refine kO hT hC ?_
 refine kC hC [] Tryz.call208 h (fun _ => Yab) fun q2 h => ?_
 iterate 2 refine kO hT hC ?_
 exact Vc.nil (Xah kR)
def Xuq (r : (List Int)) : AV := .own 16
def Xup (r : (List Int)) : Xa2 := [(16, .ints .i64 r)]
theorem Xm1 {p0 r} (h : Xfq p0 = some r) : AC Tryz.prog 209 [.sv (.ints .i64 p0)] [] (Xuq r) (Xup r) := by
 refine Xae hT Tryz.func209 rfl fun C hC => ?_
 unfold Xfq at h
 refine Xab ?_
 refine kO hT hC ?_
 refine kN ?_
 iterate 2 refine kO hT hC ?_
 refine Vc.nil (Xap (Xab ?_))
 refine kO hT hC ?_
 refine Vc.nil ?_
 refine kL [0,3,4] [208] [_,_,_] [_] ?_
 refine kX h (fun v4 => ([(4, .sv (.int .i64 v4.1))], [(208, some (.ints .i64 v4.2))])) (fun v8 => ([(0, .any), (4, .any)], [(208, some (.ints .i64 v8))])) (kW hC []) (fun v4 s h => ?_) fun v8 h => ?_
 unfold Xd5 at h
 refine Xap (Xab ?_)
 iterate 2 refine kO hT hC ?_
 refine Vc.nil ?_
 refine kS h ?_ ?_ <;> intro b3 h
 refine kt b3 (Xag (Xaf (Xap (Xam (Xab ?_)))))
 iterate 3 refine kO hT hC ?_
 refine kQ hT hC h fun h => ?_
 iterate 2 refine kO hT hC ?_
 refine kN ?_
 iterate 4 refine kO hT hC ?_
 refine kQ hT hC h fun h => ?_
 iterate 2 refine kO hT hC ?_
 refine kN ?_
 iterate 4 refine kO hT hC ?_
 refine kQ hT hC h fun h => ?_
 iterate 2 refine kO hT hC ?_
 refine kN ?_
 iterate 4 refine kO hT hC ?_
 refine kQ hT hC h fun h => ?_
 iterate 2 refine kO hT hC ?_
 refine kN ?_
 iterate 4 refine kO hT hC ?_
 refine kN ?_
 iterate 4 refine kO hT hC ?_
 refine kN ?_
 refine kO hT hC ?_
 refine kC hC [] Tryz.call207 h (fun _ => Xh9) fun q9 h => ?_
 iterate 3 refine kO hT hC ?_
 refine kN ?_
 iterate 2 refine kO hT hC ?_
 refine kC hC [] Tryz.call207 h (fun _ => Xh9) fun q10 h => ?_
 iterate 2 refine kO hT hC ?_
 refine Vc.nil (Xac ?_)
 iterate 14 refine kO hT hC ?_
 refine kT hT hC h fun h => ?_
 refine kO hT hC ?_
 refine Vc.nil (Xan (Xaf (Xac ?_)))
 iterate 3 refine kO hT hC ?_
 refine Vc.nil ?_
 obtain rfl := kj h
 exact Xs2 (kW hC [(208, 1104)])
 exact kf b3 (Xao (Xaz ku))
 refine Xaf (Xab ?_)
 iterate 2 refine kO hT hC ?_
 refine Vc.nil (Xah ?_)
 obtain rfl := kj h
 exact Xb2 (τ := ⟨[(2, .own 16)], [(16, some (.ints .i64 v8))]⟩) (kW hC [(16, 208)]) rfl ⟨rfl, trivial⟩
def Xxb (r : (List Int)) : AV := .own 16
def Xxa (r : (List Int)) : Xa2 := [(16, .ints .i64 r)]
theorem Xib {p0 r} (h : Xdp p0 = some r) : AC Tryz.prog 204 [.sv (.ints .i64 p0)] [] (Xxb r) (Xxa r) := by
 refine Xae hT Tryz.func204 rfl fun C hC => ?_
 unfold Xdp at h
 refine Xab ?_
 refine kO hT hC ?_
 refine kN ?_
 obtain ⟨hq, h⟩ := Xbm h
 refine Yej hT hC rfl rfl rfl rfl ⟨hq.1, hq.2.1, hq.2.2, by decide⟩ ?_
 refine kO hT hC ?_
 refine Vc.nil (Xap (Xab ?_))
 refine kO hT hC ?_
 refine Vc.nil ?_
 refine kL [0,3,4] [80] [_,_,_] [_] ?_
 refine kX h (fun v2 => ([(4, .sv (.int .i64 v2.1))], [(80, some (.ints .i64 v2.2))])) (fun v4 => ([(0, .any), (4, .any)], [(80, some (.ints .i64 v4))])) (kW hC []) (fun v2 s h => ?_) fun v4 h => ?_
 unfold Xe9 at h
 refine Xap (Xab ?_)
 iterate 2 refine kO hT hC ?_
 refine Vc.nil ?_
 refine kS h ?_ ?_ <;> intro b3 h
 refine kt b3 (Xag (Xaf (Xap (Xam (Xac ?_)))))
 iterate 2 refine kO hT hC ?_
 refine kQ hT hC h fun h => ?_
 iterate 2 refine kO hT hC ?_
 refine kQ hT hC h fun h => ?_
 iterate 3 refine kO hT hC ?_
 refine kQ hT hC h fun h => ?_
 refine kO hT hC ?_
 iterate 2 refine kQ hT hC h fun h => ?_
 refine Vc.nil (Xan (Xaf (Xac ?_)))
 iterate 3 refine kO hT hC ?_
 exact Vc.nil kG
 exact kf b3 (Xao (Xaz ku))
 refine Xaf (Xab ?_)
 iterate 2 refine kO hT hC ?_
 refine Vc.nil (Xah ?_)
 obtain rfl := kj h
 exact Xb2 (τ := ⟨[(2, .own 16)], [(16, some (.ints .i64 v4))]⟩) (kW hC [(16, 80)]) rfl ⟨rfl, trivial⟩
def Xtw (r : (List Int)) : AV := .own 16
def Xtv (r : (List Int)) : Xa2 := [(16, .ints .i64 r)]
theorem Xvy {p0 r} (h : Xhw p0 = some r) : AC Tryz.prog 164 [.sv (.ints .i64 p0)] [] (Xtw r) (Xtv r) := by
 refine Xae hT Tryz.func164 rfl fun C hC => ?_
 unfold Xhw at h
 refine Xab ?_
 refine kO hT hC ?_
 refine Vc.nil (Xap (Xab ?_))
 refine kO hT hC ?_
 refine kC hC [] Tryz.call150 h (fun _ => Xbh) fun q1 h => ?_
 refine kO hT hC ?_
 refine Vc.nil ?_
 refine kS h ?_ ?_ <;> intro b1 h
 refine kt b1 (Xab ?_)
 iterate 2 refine kO hT hC ?_
 refine Vc.nil (Xah (Xas ?_))
 obtain rfl := kj h
 exact Xb2 (τ := ⟨[(2, .own 16)], [(16, some (.ints .i64 ([] : List Int)))]⟩) (kW hC [(16, 128)]) rfl ⟨rfl, trivial⟩
 refine kf b1 (Xag (Xaf (Xab ?_)))
 refine kO hT hC ?_
 refine kC hC [(16, 160)] Tryz.call209 h (fun _ => Xm1) fun q2 h => ?_
 refine kC hC [(16, 176)] Tryz.call204 h (fun _ => Xib) fun q3 h => ?_
 refine kC hC [(16, 192)] Tryz.call209 h (fun _ => Xm1) fun q4 h => ?_
 refine kC hC [(16, 208)] Tryz.call204 h (fun _ => Xib) fun q5 h => ?_
 refine kO hT hC ?_
 refine Vc.nil (Xap (Xab ?_))
 refine kO hT hC ?_
 refine Vc.nil ?_
 refine kL [3,4] [208] [_,_] [_] ?_
 refine kX h (fun v8 => ([(4, .sv (.int .i64 v8.1))], [(208, some (.ints .i64 v8.2))])) (fun v11 => ([(4, .any)], [(208, some (.ints .i64 v11))])) (kW hC []) (fun v8 s h => ?_) fun v11 h => ?_
 unfold Xd1 at h
 refine Xap (Xab ?_)
 iterate 2 refine kO hT hC ?_
 refine Vc.nil ?_
 refine kS h ?_ ?_ <;> intro b4 h
 refine kt b4 (Xag (Xaf (Xap (Xam (Xac ?_)))))
 iterate 4 refine kO hT hC ?_
 iterate 2 refine kQ hT hC h fun h => ?_
 refine kO hT hC ?_
 refine kC hC [] Tryz.call207 h (fun _ => Xh9) fun q12 h => ?_
 iterate 2 refine kQ hT hC h fun h => ?_
 refine Vc.nil (Xan (Xaf (Xac ?_)))
 iterate 3 refine kO hT hC ?_
 exact Vc.nil kG
 exact kf b4 (Xao (Xaz ku))
 refine Xaf (Xab ?_)
 iterate 2 refine kO hT hC ?_
 refine Vc.nil (Xah ?_)
 obtain rfl := kj h
 exact Xb2 (τ := ⟨[(2, .own 16)], [(16, some (.ints .i64 v11))]⟩) (kW hC [(16, 208)]) rfl ⟨rfl, trivial⟩
def Xqm (r : ((List Int) × Bool)) : AV := .tup [.own 16, .sv (.bool r.2)]
def Xql (r : ((List Int) × Bool)) : Xa2 := [(16, .ints .i64 r.1)]
theorem Xlj {p0 p1 r} (h : Xc8 p0 p1 = some r) : AC Tryz.prog 106 [.sv (.ints .i64 p0), .agg [.sv (.bool p1.Key), .sv (.int .i64 p1.Qp), .sv (.bool p1.Large), .sv (.bool p1.Exact)]] [] (Xqm r) (Xql r) := by
 refine Xae hT Tryz.func106 rfl fun C hC => ?_
 unfold Xc8 at h
 refine Xab ?_
 iterate 3 refine kO hT hC ?_
 refine Vc.nil (Xap ?_)
 refine kL [0,3] [48] [_,_] [_] ?_
 refine kA h (fun v1 => ([(23, .sv (.bool v1))], [])) (fun v1 h => ?_) fun v1 h => ?_
 refine Xac ?_
 refine kO hT hC ?_
 refine kC hC [] Tryz.call52 h (fun _ => Xfy) fun q2 h => ?_
 iterate 2 refine kO hT hC ?_
 refine kS h ?_ ?_ <;> intro b1 h
 refine kI hT hC (kn b1) ?_
 refine kE hC (kn b1) [] Tryz.call150 h (fun _ => Xbh) fun q3 h => ?_
 refine kI hT hC (kn b1) ?_
 refine kP hC false (kn b1) ?_
 exact Vc.nil kM
 iterate 3 refine kF hC (kn b1) ?_
 refine kP hC true (kn b1) ?_
 exact Vc.nil kM
 refine kS h ?_ ?_ <;> intro b2 h
 refine kt b2 (Xab ?_)
 iterate 3 refine kO hT hC ?_
 refine Vc.nil (Xah (Xas ?_))
 obtain rfl := kj h
 exact Xb2 (τ := ⟨[(4, .own 16), (5, .sv (.bool false))], [(16, some (.ints .i64 ([] : List Int)))]⟩) (kW hC [(16, 384)]) rfl ⟨rfl, trivial⟩
 refine kf b2 (Xag (Xaf (Xap (Xab ?_))))
 iterate 2 refine kO hT hC ?_
 refine Vc.nil ?_
 refine kS h ?_ ?_ <;> intro b3 h
 refine kt b3 (Xab ?_)
 refine kO hT hC ?_
 refine kC hC [(16, 448)] Tryz.call160 h (fun _ => Xiz) fun q4 h => ?_
 iterate 4 refine kO hT hC ?_
 refine Vc.nil (Xah (Xas ?_))
 obtain rfl := kj h
 exact Xb2 (τ := ⟨[(4, .own 16), (5, .sv (.bool q4.2))], [(16, some (.ints .i64 q4.1))]⟩) (kW hC [(16, 448)]) rfl ⟨rfl, trivial⟩
 refine kf b3 (Xag (Xaf (Xap (Xab ?_))))
 iterate 2 refine kO hT hC ?_
 refine Vc.nil ?_
 refine kS h ?_ ?_ <;> intro b4 h
 refine kt b4 (Xab ?_)
 refine kO hT hC ?_
 refine kC hC [(16, 560)] Tryz.call160 h (fun _ => Xiz) fun q5 h => ?_
 iterate 5 refine kO hT hC ?_
 refine Vc.nil (Xap (Xab ?_))
 refine kO hT hC ?_
 refine Vc.nil ?_
 refine kL [3,6,8] [48,560] [_,_,_] [_,_] ?_
 refine kX h (fun v8 => ([(8, .sv (.int .i64 v8.1))], [(560, some (.ints .i64 v8.2))])) (fun v11 => ([(3, .any), (8, .any)], [(560, some (.ints .i64 v11)), (48, none)])) (kW hC []) (fun v8 s h => ?_) fun v11 h => ?_
 unfold Xcq at h
 refine Xap (Xab ?_)
 iterate 2 refine kO hT hC ?_
 refine Vc.nil ?_
 refine kS h ?_ ?_ <;> intro b7 h
 refine kt b7 (Xag (Xaf (Xap (Xam ?_))))
 refine Xcn hm ?_
 iterate 4 refine kO hT hC ?_
 iterate 2 refine kQ hT hC h fun h => ?_
 iterate 2 refine kO hT hC ?_
 refine kC hC [] Tryz.call161 h (fun _ => Xtx) fun q12 h => ?_
 iterate 2 refine kQ hT hC h fun h => ?_
 refine kD (Xan (Xaf (Xac ?_)))
 iterate 3 refine kO hT hC ?_
 exact Vc.nil kG
 exact kf b7 (Xao (Xaz ku))
 refine Xaf (Xab ?_)
 refine kO hT hC ?_
 refine kC hC [(16, 848)] Tryz.call162 h (fun _ => Xtt) fun q14 h => ?_
 iterate 2 refine kO hT hC ?_
 refine Vc.nil (Xah (Xas ?_))
 obtain rfl := kj h
 exact Xb2 (τ := ⟨[(4, .own 16), (5, .sv (.bool true))], [(16, some (.ints .i64 q14))]⟩) (kW hC [(16, 848)]) rfl ⟨rfl, trivial⟩
 refine kf b4 (Xag (Xaf (Xab ?_)))
 obtain ⟨hq, h⟩ := Xbm h
 refine Yej hT hC rfl rfl rfl rfl ⟨hq.1, hq.2.1, hq.2.2, by decide⟩ ?_
 refine kO hT hC ?_
 refine Vc.nil (Xap (Xab ?_))
 refine kO hT hC ?_
 refine Vc.nil ?_
 refine kL [0,3,9,10] [48,864] [_,_,_,_] [_,_] ?_
 refine kX h (fun v31 => ([(10, .sv (.int .i64 v31.1))], [(864, some (.ints .i64 v31.2))])) (fun v48 => ([(0, .any), (3, .any), (10, .any)], [(864, some (.ints .i64 v48)), (48, none)])) (kW hC []) (fun v31 s h => ?_) fun v48 h => ?_
 unfold Xcg at h
 refine Xap (Xab ?_)
 iterate 2 refine kO hT hC ?_
 refine Vc.nil ?_
 refine kS h ?_ ?_ <;> intro b22 h
 refine kt b22 (Xag (Xaf (Xap (Xam (Xab ?_)))))
 iterate 6 refine kO hT hC ?_
 refine kQ hT hC h fun h => ?_
 refine kC hC [(16, 1072)] Tryz.call160 h (fun _ => Xiz) fun q49 h => ?_
 iterate 5 refine kO hT hC ?_
 refine Vc.nil (Xap (Xab ?_))
 refine kO hT hC ?_
 refine Vc.nil ?_
 refine kL [0,3,9,10,11,13] [48,864,1072] [_,_,_,_,_,_] [_,_,_] ?_
 refine kX h (fun v52 => ([(13, .sv (.int .i64 v52.1))], [(1072, some (.ints .i64 v52.2))])) (fun v55 => ([(13, .any)], [(1072, some (.ints .i64 v55))])) (kW hC []) (fun v52 s h => ?_) fun v55 h => ?_
 unfold Xch at h
 refine Xap (Xab ?_)
 iterate 2 refine kO hT hC ?_
 refine Vc.nil ?_
 refine kS h ?_ ?_ <;> intro b25 h
 refine kt b25 (Xag (Xaf (Xap (Xam ?_))))
 refine Xcn hm ?_
 iterate 4 refine kO hT hC ?_
 iterate 2 refine kQ hT hC h fun h => ?_
 iterate 3 refine kO hT hC ?_
 refine kC hC [] Tryz.call163 h (fun _ => Xt5) fun q56 h => ?_
 iterate 2 refine kQ hT hC h fun h => ?_
 refine kD (Xan (Xaf (Xac ?_)))
 iterate 3 refine kO hT hC ?_
 exact Vc.nil kG
 exact kf b25 (Xao (Xaz ku))
 refine Xaf (Xab ?_)
 refine kO hT hC ?_
 refine kC hC [(16, 1376)] Tryz.call164 h (fun _ => Xvy) fun q58 h => ?_
 refine kO hT hC ?_
 refine kN ?_
 refine kO hT hC ?_
 refine Vc.nil ?_
 refine kL [0,3,9,10,14,15] [48,864,1376] [_,_,_,_,_,_] [_,_,_] ?_
 refine kX h (fun v60 => ([(15, .sv (.int .i64 v60.1))], [(864, some (.ints .i64 v60.2))])) (fun v62 => ([(14, .any), (15, .any)], [(864, some (.ints .i64 v62)), (1376, none)])) (kW hC []) (fun v60 s h => ?_) fun v62 h => ?_
 unfold Xci at h
 refine Xap (Xab ?_)
 iterate 2 refine kO hT hC ?_
 refine Vc.nil ?_
 refine kS h ?_ ?_ <;> intro b28 h
 refine kt b28 (Xag (Xaf (Xap (Xam (Xac ?_)))))
 iterate 2 refine kO hT hC ?_
 refine kQ hT hC h fun h => ?_
 iterate 2 refine kO hT hC ?_
 refine kQ hT hC h fun h => ?_
 iterate 3 refine kO hT hC ?_
 refine kQ hT hC h fun h => ?_
 iterate 3 refine kO hT hC ?_
 refine kQ hT hC h fun h => ?_
 iterate 3 refine kO hT hC ?_
 iterate 4 refine kQ hT hC h fun h => ?_
 refine Vc.nil (Xan (Xaf (Xac ?_)))
 iterate 3 refine kO hT hC ?_
 exact Vc.nil kG
 exact kf b28 (Xao (Xaz ku))
 refine Xan (Xaf (Xac ?_))
 iterate 3 refine kO hT hC ?_
 exact Vc.nil kG
 exact kf b22 (Xao (Xaz ku))
 refine Xaf (Xab ?_)
 iterate 3 refine kO hT hC ?_
 refine Vc.nil (Xah ?_)
 obtain rfl := kj h
 exact Xb2 (τ := ⟨[(4, .own 16), (5, .sv (.bool true))], [(16, some (.ints .i64 v48))]⟩) (kW hC [(16, 864)]) rfl ⟨rfl, trivial⟩
def Xm7 (r : Bool) : AV := .sv (.bool r)
def Xm6 (r : Bool) : Xa2 := []
theorem Xol {p0 r} (h : Xhh p0 = some r) : AC Tryz.prog 196 [.sv (.ints .i64 p0)] [] (Xm7 r) (Xm6 r) := by
 refine Xae hT Tryz.func196 rfl fun C hC => ?_
 unfold Xhh at h
 refine Xab ?_
 refine kO hT hC ?_
 refine Vc.nil (Xap ?_)
 refine kL [0] [] [_] [] ?_
 refine kA h (fun v1 => ([(11, .sv (.bool v1))], [])) (fun v1 h => ?_) fun v1 h => ?_
 refine Xac ?_
 iterate 4 refine kO hT hC ?_
 refine kS h ?_ ?_ <;> intro b1 h
 iterate 3 refine kI hT hC b1 ?_
 refine kP hC true b1 ?_
 exact Vc.nil kM
 iterate 3 refine kF hC b1 ?_
 refine kP hC false b1 ?_
 exact Vc.nil kM
 refine kS h ?_ ?_ <;> intro b2 h
 refine kt b2 (Xab ?_)
 refine kO hT hC ?_
 exact Vc.nil (Xah (Xas kR))
 refine kf b2 (Xag (Xaf (Xap (Xab ?_))))
 refine kO hT hC ?_
 refine Vc.nil ?_
 refine kL [0,3] [] [_,_] [] ?_
 obtain ⟨o9, hl, h⟩ := Xbl h
 refine Xgy (fun v4 => ([(3, .sv (.int .i64 v4))], [])) (fun v7 => ([(0, .any), (3, .any)], [])) (fun r => Xnc C T Tryz.f196.results.toList (Xm7 r) (Xm6 r)) hl ?_ ?_ ?_ ?_
 apply Xeh hC []
 exact co
 rfl
 decide
 rfl
 intro v4 s hs
 have h := hs
 unfold Xfe at h
 refine Xap (Xab ?_)
 iterate 4 refine kO hT hC ?_
 refine Vc.nil ?_
 refine kS h ?_ ?_ <;> intro b7 h
 refine kt b7 (Xag (Xaf (Xap (Xam (Xab ?_)))))
 iterate 2 refine kO hT hC ?_
 refine kQ hT hC h fun h => ?_
 refine kO hT hC ?_
 refine kC hC [] Tryz.call53 h (fun _ => Xai) fun q8 h => ?_
 refine kO hT hC ?_
 refine Vc.nil ?_
 refine kS h ?_ ?_ <;> intro b8 h
 refine kt b8 (Xab ?_)
 refine kO hT hC ?_
 refine Vc.nil (Xah (Xgu (Xas ?_)))
 obtain rfl := kj h
 refine Xpa (Xo9 ?_)
 exact Xb2 (Xgt.refl _) rfl trivial
 refine kf b8 (Xag (Xan (Xaf (Xac ?_))))
 iterate 3 refine kO hT hC ?_
 exact Vc.nil kG
 exact kf b7 (Xao (Xaz kb))
 intro v7 e
 subst e
 refine Xaf (Xab ?_)
 refine kO hT hC ?_
 exact Vc.nil (Xah kR)
 intro r' σ' e hE
 subst e
 obtain rfl := kj h
 refine Xas ?_
 exact hE
def Xvv (r : Bool) : AV := .sv (.bool r)
def Xvu (r : Bool) : Xa2 := []
theorem Xnw {p0 r} (h : Xg9 p0 = some r) : AC Tryz.prog 146 [.agg [.sv (.ints .i64 p0.Above), .sv (.ints .i64 p0.Left), .sv (.int .i64 p0.Corner)]] [] (Xvv r) (Xvu r) := by
 refine Xae hT Tryz.func146 rfl fun C hC => ?_
 unfold Xg9 at h
 refine Xab ?_
 iterate 2 refine kO hT hC ?_
 refine Vc.nil ?_
 refine kL [1,2] [16] [_,_] [_] ?_
 refine kA h (fun v1 => ([(2, .sv (.bool v1)), (1, .any)], [(16, none)])) (fun v1 h => ?_) fun v1 h => ?_
 refine Xac ?_
 iterate 2 refine kO hT hC ?_
 refine kC hC [] Tryz.call196 h (fun _ => Xol) fun q2 h => ?_
 refine kO hT hC ?_
 refine kS h ?_ ?_ <;> intro b1 h
 iterate 2 refine kI hT hC b1 ?_
 refine kE hC b1 [] Tryz.call196 h (fun _ => Xol) fun q3 h => ?_
 refine kP hC true b1 ?_
 refine kO hT hC ?_
 refine kS h ?_ ?_ <;> intro b2 h
 iterate 2 refine kI hT hC b2 ?_
 refine kE hC b2 [] Tryz.call53 h (fun _ => Xai) fun q4 h => ?_
 refine kP hC true b2 ?_
 refine kO hT hC ?_
 exact Vc.nil kM
 iterate 3 refine kF hC b2 ?_
 refine kP hC false b2 ?_
 refine kO hT hC ?_
 exact Vc.nil kM
 iterate 3 refine kF hC b1 ?_
 refine kP hC false b1 ?_
 refine kO hT hC ?_
 iterate 3 refine kF hC rfl ?_
 iterate 2 refine kO hT hC ?_
 exact Vc.nil kM
 exact Xah kR
def Xsw (r : Int) : AV := .sv (.int .i64 r)
def Xsv (r : Int) : Xa2 := []
theorem Xmh {p0 p1 r} (h : Xee p0 p1 = some r) : AC Tryz.prog 157 [.sv (.ints .i64 p0), .sv (.int .i64 p1)] [] (Xsw r) (Xsv r) := by
 refine Xae hT Tryz.func157 rfl fun C hC => ?_
 unfold Xee at h
 refine Xab ?_
 refine kO hT hC ?_
 refine Vc.nil (Xap (Xab ?_))
 iterate 3 refine kO hT hC ?_
 refine Vc.nil ?_
 refine kS h ?_ ?_ <;> intro b1 h
 refine kt b1 (Xab ?_)
 refine kO hT hC ?_
 exact Vc.nil (Xah (Xas kR))
 refine kf b1 (Xag (Xaf (Xab ?_)))
 iterate 2 refine kO hT hC ?_
 refine kQ hT hC h fun h => ?_
 iterate 2 refine kO hT hC ?_
 exact Vc.nil (Xah kR)
def Ybc (r : Int) : AV := .sv (.int .i64 r)
def Ybb (r : Int) : Xa2 := []
theorem Ydk {p0 r} (h : Xk2 p0 = some r) : AC Tryz.prog 158 [.agg [.sv (.ints .i64 p0.Above), .sv (.ints .i64 p0.Left), .sv (.int .i64 p0.Corner)]] [] (Ybc r) (Ybb r) := by
 refine Xae hT Tryz.func158 rfl fun C hC => ?_
 unfold Xk2 at h
 refine Xab ?_
 iterate 2 refine kO hT hC ?_
 refine kN ?_
 iterate 8 refine kO hT hC ?_
 refine Vc.nil (Xap (Xab ?_))
 iterate 2 refine kO hT hC ?_
 refine Vc.nil ?_
 refine kS h ?_ ?_ <;> intro b1 h
 refine kt b1 (Xab ?_)
 refine kO hT hC ?_
 exact Vc.nil (Xah (Xas kR))
 refine kf b1 (Xag (Xaf (Xab ?_)))
 refine kO hT hC ?_
 refine kQ hT hC h fun h => ?_
 refine kO hT hC ?_
 refine Vc.nil (Xap (Xab ?_))
 refine kO hT hC ?_
 refine Vc.nil ?_
 refine kL [1,3,4,5] [16] [_,_,_,_] [_] ?_
 refine kX h (fun v2 => ([(4, .sv (.int .i64 v2.1)), (5, .sv (.int .i64 v2.2))], [])) (fun v4 => ([(4, .sv (.int .i64 v4)), (5, .any)], [])) (kW hC []) (fun v2 s h => ?_) fun v4 h => ?_
 unfold Xgb at h
 refine Xap (Xab ?_)
 iterate 5 refine kO hT hC ?_
 refine Vc.nil ?_
 refine kS h ?_ ?_ <;> intro b4 h
 refine kt b4 (Xag (Xaf (Xap (Xam (Xac ?_)))))
 iterate 4 refine kO hT hC ?_
 refine kQ hT hC h fun h => ?_
 iterate 3 refine kO hT hC ?_
 refine Vc.nil (Xan (Xaf (Xac ?_)))
 iterate 3 refine kO hT hC ?_
 exact Vc.nil kG
 exact kf b4 (Xao (Xaz ku))
 refine Xaf (Xap (Xab ?_))
 refine kO hT hC ?_
 refine Vc.nil ?_
 refine kL [1,3,4,6] [16] [_,_,_,_] [_] ?_
 refine kX h (fun v7 => ([(4, .sv (.int .i64 v7.1)), (6, .sv (.int .i64 v7.2))], [])) (fun v9 => ([(4, .sv (.int .i64 v9)), (1, .any), (6, .any)], [(16, none)])) (kW hC []) (fun v7 s h => ?_) fun v9 h => ?_
 unfold Xgc at h
 refine Xap (Xab ?_)
 iterate 5 refine kO hT hC ?_
 refine Vc.nil ?_
 refine kS h ?_ ?_ <;> intro b7 h
 refine kt b7 (Xag (Xaf (Xap (Xam (Xac ?_)))))
 iterate 4 refine kO hT hC ?_
 refine kQ hT hC h fun h => ?_
 iterate 3 refine kO hT hC ?_
 refine Vc.nil (Xan (Xaf (Xac ?_)))
 iterate 3 refine kO hT hC ?_
 exact Vc.nil kG
 exact kf b7 (Xao (Xaz ku))
 refine Xaf (Xab ?_)
 iterate 2 refine kO hT hC ?_
 refine kQ hT hC h fun h => ?_
 refine kO hT hC ?_
 exact Vc.nil (Xah kR)
def Xv1 (r : (List Int)) : AV := .own 16
def Xv0 (r : (List Int)) : Xa2 := [(16, .ints .i64 r)]
theorem Xkm {p0 p1 r} (h : Xex p0 p1 = some r) : AC Tryz.prog 104 [.sv (.int .i64 p0), .agg [.sv (.ints .i64 p1.Above), .sv (.ints .i64 p1.Left), .sv (.int .i64 p1.Corner)]] [] (Xv1 r) (Xv0 r) := by
 refine Xae hT Tryz.func104 rfl fun C hC => ?_
 unfold Xex at h
 refine Xab ?_
 iterate 2 refine kO hT hC ?_
 refine kN ?_
 iterate 2 refine kO hT hC ?_
 refine Vc.nil (Xap ?_)
 refine kL [0,3,5] [48,160] [_,_,_] [_,_] ?_
 refine kA h (fun v1 => ([(18, .sv (.bool v1))], [])) (fun v1 h => ?_) fun v1 h => ?_
 refine Xac ?_
 refine kO hT hC ?_
 refine kC hC [] Tryz.call146 h (fun _ => Xnw) fun q2 h => ?_
 iterate 2 refine kO hT hC ?_
 refine kS h ?_ ?_ <;> intro b1 h
 refine kI hT hC (kn b1) ?_
 refine kE hC (kn b1) [] Tryz.call53 h (fun _ => Xai) fun q3 h => ?_
 refine kI hT hC (kn b1) ?_
 refine kP hC false (kn b1) ?_
 exact Vc.nil kM
 iterate 3 refine kF hC (kn b1) ?_
 refine kP hC true (kn b1) ?_
 exact Vc.nil kM
 refine kS h ?_ ?_ <;> intro b2 h
 refine kt b2 (Xab ?_)
 iterate 2 refine kO hT hC ?_
 refine Vc.nil (Xah (Xas ?_))
 obtain rfl := kj h
 exact Xb2 (τ := ⟨[(4, .own 16)], [(16, some (.ints .i64 ([] : List Int)))]⟩) (kW hC [(16, 160)]) rfl ⟨rfl, trivial⟩
 refine kf b2 (Xag (Xaf (Xab ?_)))
 iterate 3 refine kO hT hC ?_
 refine Vc.nil ?_
 refine kL [0,3,5,6] [48,160] [_,_,_,_] [_,_] ?_
 refine kA h (fun v4 => ([(6, .sv (.int .i64 v4))], [])) (fun v4 h => ?_) fun v4 h => ?_
 refine Xab ?_
 iterate 2 refine kO hT hC ?_
 refine Vc.nil ?_
 refine kS h ?_ ?_ <;> intro b3 h
 refine kt b3 (Xac ?_)
 refine kO hT hC ?_
 exact Vc.nil kM
 exact kf b3 (Xag kM)
 refine Xap (Xab ?_)
 refine kO hT hC ?_
 refine Vc.nil ?_
 refine kL [0,3,5,6,7] [48,160] [_,_,_,_,_] [_,_] ?_
 refine kX h (fun v11 => ([(7, .sv (.int .i64 v11.1))], [(160, some (.ints .i64 v11.2))])) (fun v18 => ([(0, .any), (3, .any), (6, .any), (7, .any)], [(160, some (.ints .i64 v18)), (48, none)])) (kW hC []) (fun v11 s h => ?_) fun v18 h => ?_
 unfold Xey at h
 refine Xap (Xab ?_)
 iterate 2 refine kO hT hC ?_
 refine Vc.nil ?_
 refine kS h ?_ ?_ <;> intro b12 h
 refine kt b12 (Xag (Xaf ?_))
 refine kL [0,3,5,6,7] [48,160] [_,_,_,_,_] [_,_] ?_
 refine kA h (fun v19 => ([(5, .own 1110)], [(1110, some (.ints .i64 v19)), (160, none)])) (fun v19 h => ?_) fun v19 h => ?_
 refine Xam (Xab ?_)
 iterate 3 refine kO hT hC ?_
 refine kQ hT hC h fun h => ?_
 refine kC hC [] Tryz.call157 h (fun _ => Xmh) fun q20 h => ?_
 refine kO hT hC ?_
 refine kN ?_
 iterate 3 refine kO hT hC ?_
 refine kQ hT hC h fun h => ?_
 refine kC hC [] Tryz.call157 h (fun _ => Xmh) fun q21 h => ?_
 refine kO hT hC ?_
 refine kN ?_
 refine kO hT hC ?_
 refine Vc.nil (Xam (Xab ?_))
 iterate 2 refine kO hT hC ?_
 refine Vc.nil ?_
 refine kS h ?_ ?_ <;> intro b13 h
 refine kt b13 (Xac ?_)
 iterate 2 refine kO hT hC ?_
 refine kC hC [] Tryz.call158 h (fun _ => Ydk) fun q22 h => ?_
 refine kO hT hC ?_
 refine kT hT hC h fun h => ?_
 refine kO hT hC ?_
 refine Vc.nil ?_
 iterate 2 refine Xan ?_
 obtain rfl := kj h
 exact Xj4 (kW hC [(1110, 864)])
 refine kf b13 (Xab ?_)
 iterate 2 refine kO hT hC ?_
 refine Vc.nil ?_
 refine kS h ?_ ?_ <;> intro b14 h
 refine kt b14 (Xac ?_)
 iterate 3 refine kO hT hC ?_
 refine kT hT hC h fun h => ?_
 refine kO hT hC ?_
 refine Vc.nil ?_
 iterate 2 refine Xan ?_
 obtain rfl := kj h
 exact Xj4 (kW hC [(1110, 960)])
 refine kf b14 (Xab ?_)
 iterate 2 refine kO hT hC ?_
 refine Vc.nil ?_
 refine kS h ?_ ?_ <;> intro b15 h
 refine kt b15 (Xac ?_)
 iterate 3 refine kO hT hC ?_
 refine kT hT hC h fun h => ?_
 refine kO hT hC ?_
 refine Vc.nil ?_
 iterate 2 refine Xan ?_
 obtain rfl := kj h
 exact Xj4 (kW hC [(1110, 1056)])
 refine kf b15 (Xac ?_)
 iterate 6 refine kO hT hC ?_
 refine kC hC [] Tryz.call159 h (fun _ => Xbn) fun q23 h => ?_
 refine kO hT hC ?_
 refine kT hT hC h fun h => ?_
 refine kO hT hC ?_
 refine Vc.nil ?_
 iterate 2 refine Xan ?_
 obtain rfl := kj h
 exact Xj4 (kW hC [(1110, 752)])
 refine Xac ?_
 iterate 3 refine kO hT hC ?_
 refine Vc.nil ?_
 obtain rfl := kj h
 exact Xs2 (kW hC [(160, 1110)])
 exact kf b12 (Xao (Xaz ku))
 refine Xaf (Xab ?_)
 iterate 2 refine kO hT hC ?_
 refine Vc.nil (Xah ?_)
 obtain rfl := kj h
 exact Xb2 (τ := ⟨[(4, .own 16)], [(16, some (.ints .i64 v18))]⟩) (kW hC [(16, 160)]) rfl ⟨rfl, trivial⟩
def Xm5 (r : Bool) : AV := .sv (.bool r)
def Xm4 (r : Bool) : Xa2 := []
theorem Xif {p0 r} (h : Xdq p0 = some r) : AC Tryz.prog 51 [.sv (.ints .i64 p0)] [] (Xm5 r) (Xm4 r) := by
 refine Xae hT Tryz.func51 rfl fun C hC => ?_
 unfold Xdq at h
 refine Xab ?_
 refine kO hT hC ?_
 refine Vc.nil (Xap (Xab ?_))
 iterate 3 refine kO hT hC ?_
 refine Vc.nil ?_
 refine kS h ?_ ?_ <;> intro b1 h
 refine kt b1 (Xab ?_)
 refine kO hT hC ?_
 exact Vc.nil (Xah (Xas kR))
 refine kf b1 (Xag (Xaf (Xap (Xab ?_))))
 refine kO hT hC ?_
 refine Vc.nil ?_
 refine kL [0,3] [] [_,_] [] ?_
 obtain ⟨o8, hl, h⟩ := Xbl h
 refine Xgy (fun v3 => ([(3, .sv (.int .i64 v3))], [])) (fun v6 => ([(0, .any), (3, .any)], [])) (fun r => Xnc C T Tryz.f51.results.toList (Xm5 r) (Xm4 r)) hl ?_ ?_ ?_ ?_
 apply Xeh hC []
 exact co
 rfl
 decide
 rfl
 intro v3 s hs
 have h := hs
 unfold Xfd at h
 refine Xap (Xab ?_)
 iterate 2 refine kO hT hC ?_
 refine Vc.nil ?_
 refine kS h ?_ ?_ <;> intro b6 h
 refine kt b6 (Xag (Xaf (Xap (Xam (Xab ?_)))))
 iterate 2 refine kO hT hC ?_
 refine kQ hT hC h fun h => ?_
 refine kO hT hC ?_
 refine kC hC [] Tryz.call53 h (fun _ => Xai) fun q7 h => ?_
 refine kO hT hC ?_
 refine Vc.nil ?_
 refine kS h ?_ ?_ <;> intro b7 h
 refine kt b7 (Xab ?_)
 refine kO hT hC ?_
 refine Vc.nil (Xah (Xgu (Xas ?_)))
 obtain rfl := kj h
 refine Xpa (Xo9 ?_)
 exact Xb2 (Xgt.refl _) rfl trivial
 refine kf b7 (Xag (Xan (Xaf (Xac ?_))))
 iterate 3 refine kO hT hC ?_
 exact Vc.nil kG
 exact kf b6 (Xao (Xaz kb))
 intro v6 e
 subst e
 refine Xaf (Xab ?_)
 refine kO hT hC ?_
 exact Vc.nil (Xah kR)
 intro r' σ' e hE
 subst e
 obtain rfl := kj h
 refine Xas ?_
 exact hE
def Xz4 (r : (List Int)) : AV := .own 16
def Xz3 (r : (List Int)) : Xa2 := [(16, .ints .i64 r)]
theorem Xpl {p0 p1 r} (h : Xis p0 p1 = some r) : AC Tryz.prog 107 [.sv (.ints .i64 p0), .sv (.ints .i64 p1)] [] (Xz4 r) (Xz3 r) := by
 refine Xae hT Tryz.func107 rfl fun C hC => ?_
 unfold Xis at h
 refine Xab ?_
 refine kO hT hC ?_
 refine kN ?_
 iterate 2 refine kO hT hC ?_
 refine Vc.nil (Xap ?_)
 refine kL [0,1,5] [112] [_,_,_] [_] ?_
 refine kA h (fun v1 => ([(15, .sv (.bool v1))], [])) (fun v1 h => ?_) fun v1 h => ?_
 refine Xac ?_
 refine kO hT hC ?_
 refine kC hC [] Tryz.call51 h (fun _ => Xif) fun q2 h => ?_
 iterate 2 refine kO hT hC ?_
 refine kS h ?_ ?_ <;> intro b1 h
 refine kI hT hC (kn b1) ?_
 refine kE hC (kn b1) [] Tryz.call150 h (fun _ => Xbh) fun q3 h => ?_
 refine kI hT hC (kn b1) ?_
 refine kP hC false (kn b1) ?_
 exact Vc.nil kM
 iterate 3 refine kF hC (kn b1) ?_
 refine kP hC true (kn b1) ?_
 exact Vc.nil kM
 refine kS h ?_ ?_ <;> intro b2 h
 refine kt b2 (Xab ?_)
 iterate 2 refine kO hT hC ?_
 refine Vc.nil (Xah (Xas ?_))
 obtain rfl := kj h
 exact Xb2 (τ := ⟨[(4, .own 16)], [(16, some (.ints .i64 ([] : List Int)))]⟩) (kW hC [(16, 112)]) rfl ⟨rfl, trivial⟩
 refine kf b2 (Xag (Xaf (Xap (Xab ?_))))
 refine kO hT hC ?_
 refine Vc.nil ?_
 refine kL [0,1,5,6] [112] [_,_,_,_] [_] ?_
 refine kX h (fun v6 => ([(6, .sv (.int .i64 v6.1))], [(112, some (.ints .i64 v6.2))])) (fun v9 => ([(0, .any), (1, .any), (6, .any)], [(112, some (.ints .i64 v9))])) (kW hC []) (fun v6 s h => ?_) fun v9 h => ?_
 unfold Xf1 at h
 refine Xap (Xab ?_)
 iterate 2 refine kO hT hC ?_
 refine Vc.nil ?_
 refine kS h ?_ ?_ <;> intro b5 h
 refine kt b5 (Xag (Xaf (Xap (Xam ?_))))
 refine Xcn hm ?_
 iterate 3 refine kO hT hC ?_
 refine kQ hT hC h fun h => ?_
 iterate 3 refine kO hT hC ?_
 refine kQ hT hC h fun h => ?_
 iterate 2 refine kO hT hC ?_
 refine kC hC [] Tryz.call159 h (fun _ => Xbn) fun q10 h => ?_
 refine kO hT hC ?_
 refine kT hT hC h fun h => ?_
 refine kO hT hC ?_
 refine kD (Xan (Xaf (Xac ?_)))
 iterate 3 refine kO hT hC ?_
 refine Vc.nil ?_
 obtain rfl := kj h
 exact Xs2 (kW hC [(112, 528)])
 exact kf b5 (Xao (Xaz ku))
 refine Xaf (Xab ?_)
 iterate 2 refine kO hT hC ?_
 refine Vc.nil (Xah ?_)
 obtain rfl := kj h
 exact Xb2 (τ := ⟨[(4, .own 16)], [(16, some (.ints .i64 v9))]⟩) (kW hC [(16, 112)]) rfl ⟨rfl, trivial⟩
def Xvp (r : (List Int)) : AV := .own 16
def Xvo (r : (List Int)) : Xa2 := [(16, .ints .i64 r)]
theorem Xet {p0 p1 p2 r} (h : Xcp p0 p1 p2 = some r) : AC Tryz.prog 99 [.agg [.sv (.int .i64 p0.Wide), .sv (.int .i64 p0.High), .sv (.str p0.Dots)], .sv (.int .i64 p1), .sv (.int .i64 p2)] [] (Xvp r) (Xvo r) := by
 refine Xae hT Tryz.func99 rfl fun C hC => ?_
 unfold Xcp at h
 refine Xab ?_
 iterate 2 refine kO hT hC ?_
 refine kN ?_
 iterate 2 refine kO hT hC ?_
 refine Vc.nil (Xap ?_)
 refine kL [1,2,3,7] [48,144] [_,_,_,_] [_,_] ?_
 refine kA h (fun v1 => ([(22, .sv (.bool v1))], [])) (fun v1 h => ?_) fun v1 h => ?_
 refine Xac ?_
 refine kO hT hC ?_
 refine kC hC [] Tryz.call96 h (fun _ => Xb4) fun q2 h => ?_
 iterate 2 refine kO hT hC ?_
 refine kS h ?_ ?_ <;> intro b1 h
 refine kI hT hC (kn b1) ?_
 refine kE hC (kn b1) [] Tryz.call53 h (fun _ => Xai) fun q3 h => ?_
 refine kI hT hC (kn b1) ?_
 refine kP hC false (kn b1) ?_
 refine kO hT hC ?_
 refine kS h ?_ ?_ <;> intro b2 h
 refine kI hT hC (kn b2) ?_
 refine kE hC (kn b2) [] Tryz.call53 h (fun _ => Xai) fun q4 h => ?_
 refine kI hT hC (kn b2) ?_
 refine kP hC false (kn b2) ?_
 exact Vc.nil kM
 iterate 3 refine kF hC (kn b2) ?_
 refine kP hC true (kn b2) ?_
 exact Vc.nil kM
 iterate 3 refine kF hC (kn b1) ?_
 refine kP hC true (kn b1) ?_
 refine kO hT hC ?_
 iterate 3 refine kF hC rfl ?_
 refine kO hT hC ?_
 exact Vc.nil kM
 refine kS h ?_ ?_ <;> intro b3 h
 refine kt b3 (Xab ?_)
 iterate 2 refine kO hT hC ?_
 refine Vc.nil (Xah (Xas ?_))
 obtain rfl := kj h
 exact Xb2 (τ := ⟨[(6, .own 16)], [(16, some (.ints .i64 ([] : List Int)))]⟩) (kW hC [(16, 144)]) rfl ⟨rfl, trivial⟩
 refine kf b3 (Xag (Xaf (Xap (Xab ?_))))
 refine kO hT hC ?_
 refine Vc.nil ?_
 refine kL [1,2,3,7,8] [48,144] [_,_,_,_,_] [_,_] ?_
 refine kX h (fun v7 => ([(8, .sv (.int .i64 v7.1))], [(144, some (.ints .i64 v7.2))])) (fun v10 => ([(1, .any), (2, .any), (3, .any), (8, .any)], [(144, some (.ints .i64 v10)), (48, none)])) (kW hC []) (fun v7 s h => ?_) fun v10 h => ?_
 unfold Xev at h
 refine Xap (Xab ?_)
 iterate 2 refine kO hT hC ?_
 refine Vc.nil ?_
 refine kS h ?_ ?_ <;> intro b6 h
 refine kt b6 (Xag (Xaf (Xap (Xam (Xac ?_)))))
 iterate 4 refine kO hT hC ?_
 refine kQ hT hC h fun h => ?_
 iterate 3 refine kO hT hC ?_
 refine kQ hT hC h fun h => ?_
 refine kO hT hC ?_
 refine kC hC [] Tryz.call145 h (fun _ => Xhu) fun q11 h => ?_
 refine kO hT hC ?_
 refine kT hT hC h fun h => ?_
 refine kO hT hC ?_
 refine Vc.nil (Xan (Xaf (Xac ?_)))
 iterate 3 refine kO hT hC ?_
 refine Vc.nil ?_
 obtain rfl := kj h
 exact Xs2 (kW hC [(144, 640)])
 exact kf b6 (Xao (Xaz ku))
 refine Xaf (Xab ?_)
 iterate 2 refine kO hT hC ?_
 refine Vc.nil (Xah ?_)
 obtain rfl := kj h
 exact Xb2 (τ := ⟨[(6, .own 16)], [(16, some (.ints .i64 v10))]⟩) (kW hC [(16, 144)]) rfl ⟨rfl, trivial⟩
def Xqu (r : ((List Int) × Bool)) : AV := .tup [.own 16, .sv (.bool r.2)]
def Xqt (r : ((List Int) × Bool)) : Xa2 := [(16, .ints .i64 r.1)]
theorem Xsh {p0 p1 p2 p3 p4 p5 p6 p7 r} (h : Xe4 p0 p1 p2 p3 p4 p5 p6 p7 = some r) : AC Tryz.prog 56 [.agg [.sv (.int .i64 p0.Wide), .sv (.int .i64 p0.High), .sv (.str p0.Dots)], .agg [.sv (.int .i64 p1.Wide), .sv (.int .i64 p1.High), .sv (.str p1.Dots)], .sv (.int .i64 p2), .sv (.int .i64 p3), .agg [.sv (.bool p4.Key), .sv (.int .i64 p4.Qp), .sv (.bool p4.Large), .sv (.bool p4.Exact)], .sv (.int .i64 p5), .sv (.int .i64 p6), .agg [.sv (.int .i64 p7.Kind), .sv (.int .i64 p7.Mode), .sv (.int .i64 p7.Dx), .sv (.int .i64 p7.Dy), .sv (.ints .i64 p7.Levels)]] [] (Xqu r) (Xqt r) := by
 refine Xae hT Tryz.func56 rfl fun C hC => ?_
 unfold Xe4 at h
 refine Xab ?_
 iterate 6 refine kO hT hC ?_
 refine Vc.nil (Xap ?_)
 refine kL [2,3,5,6,8,9,12,15] [128,144,192,240] [_,_,_,_,_,_,_,_] [_,_,_,_] ?_
 refine kA h (fun v1 => ([(49, .sv (.bool v1))], [])) (fun v1 h => ?_) fun v1 h => ?_
 refine Xac ?_
 iterate 3 refine kO hT hC ?_
 refine kC hC [] Tryz.call50 h (fun _ => Xig) fun q2 h => ?_
 iterate 2 refine kO hT hC ?_
 refine kS h ?_ ?_ <;> intro b1 h
 refine kI hT hC (kn b1) ?_
 refine kE hC (kn b1) [] Tryz.call53 h (fun _ => Xai) fun q3 h => ?_
 refine kI hT hC (kn b1) ?_
 refine kP hC false (kn b1) ?_
 refine kO hT hC ?_
 refine kS h ?_ ?_ <;> intro b2 h
 refine kI hT hC (kn b2) ?_
 refine kE hC (kn b2) [] Tryz.call53 h (fun _ => Xai) fun q4 h => ?_
 refine kI hT hC (kn b2) ?_
 refine kP hC false (kn b2) ?_
 refine kO hT hC ?_
 refine kS h ?_ ?_ <;> intro b3 h
 refine kI hT hC (kn b3) ?_
 refine kE hC (kn b3) [] Tryz.call105 h (fun _ => Xwg) fun q5 h => ?_
 refine kI hT hC (kn b3) ?_
 refine kP hC false (kn b3) ?_
 refine kO hT hC ?_
 refine kS h ?_ ?_ <;> intro b4 h
 refine kI hT hC (kn b4) ?_
 refine kE hC (kn b4) [] Tryz.call52 h (fun _ => Xfy) fun q6 h => ?_
 refine kI hT hC (kn b4) ?_
 refine kP hC false (kn b4) ?_
 exact Vc.nil kM
 iterate 3 refine kF hC (kn b4) ?_
 refine kP hC true (kn b4) ?_
 exact Vc.nil kM
 iterate 3 refine kF hC (kn b3) ?_
 refine kP hC true (kn b3) ?_
 refine kO hT hC ?_
 iterate 3 refine kF hC rfl ?_
 refine kO hT hC ?_
 exact Vc.nil kM
 iterate 3 refine kF hC (kn b2) ?_
 refine kP hC true (kn b2) ?_
 refine kO hT hC ?_
 iterate 3 refine kF hC rfl ?_
 iterate 2 refine kO hT hC ?_
 iterate 3 refine kF hC rfl ?_
 refine kO hT hC ?_
 exact Vc.nil kM
 iterate 3 refine kF hC (kn b1) ?_
 refine kP hC true (kn b1) ?_
 refine kO hT hC ?_
 iterate 3 refine kF hC rfl ?_
 iterate 2 refine kO hT hC ?_
 iterate 3 refine kF hC rfl ?_
 iterate 2 refine kO hT hC ?_
 iterate 3 refine kF hC rfl ?_
 refine kO hT hC ?_
 exact Vc.nil kM
 refine kS h ?_ ?_ <;> intro b5 h
 refine kt b5 (Xab ?_)
 iterate 3 refine kO hT hC ?_
 refine Vc.nil (Xah (Xas ?_))
 obtain rfl := kj h
 exact Xb2 (τ := ⟨[(16, .own 16), (17, .sv (.bool false))], [(16, some (.ints .i64 ([] : List Int)))]⟩) (kW hC [(16, 800)]) rfl ⟨rfl, trivial⟩
 refine kf b5 (Xag (Xaf (Xap (Xab ?_))))
 iterate 3 refine kO hT hC ?_
 refine Vc.nil ?_
 refine kS h ?_ ?_ <;> intro b6 h
 refine kt b6 (Xab ?_)
 iterate 3 refine kO hT hC ?_
 refine kC hC [(16, 928), (17, 929)] Tryz.call100 h (fun _ => Xnu) fun q7 h => ?_
 iterate 6 refine kO hT hC ?_
 refine kN ?_
 iterate 3 refine kO hT hC ?_
 refine kC hC [(16, 1040)] Tryz.call106 h (fun _ => Xlj) fun q8 h => ?_
 iterate 5 refine kO hT hC ?_
 refine kN ?_
 iterate 3 refine kO hT hC ?_
 refine kC hC [(16, 1136)] Tryz.call104 h (fun _ => Xkm) fun q9 h => ?_
 refine kO hT hC ?_
 refine kC hC [(16, 1168)] Tryz.call107 h (fun _ => Xpl) fun q10 h => ?_
 iterate 2 refine kO hT hC ?_
 refine Vc.nil (Xah (Xas ?_))
 obtain rfl := kj h
 exact Xb2 (τ := ⟨[(16, .own 16), (17, .sv (.bool true))], [(16, some (.ints .i64 q10))]⟩) (kW hC [(16, 1168)]) rfl ⟨rfl, trivial⟩
 refine kf b6 (Xag (Xaf (Xap ?_)))
 refine kL [2,3,5,6,9,12,15] [144,192,240] [_,_,_,_,_,_,_] [_,_,_] ?_
 refine kA h (fun v11 => ([(80, .sv (.bool v11))], [])) (fun v11 h => ?_) fun v11 h => ?_
 refine Xac ?_
 iterate 3 refine kO hT hC ?_
 refine kS h ?_ ?_ <;> intro b7 h
 iterate 3 refine kF hC b7 ?_
 refine kP hC true b7 ?_
 exact Vc.nil kM
 refine kI hT hC b7 ?_
 refine kE hC b7 [] Tryz.call96 h (fun _ => Xb4) fun q12 h => ?_
 refine kI hT hC b7 ?_
 refine kP hC false b7 ?_
 exact Vc.nil kM
 refine kS h ?_ ?_ <;> intro b8 h
 refine kt b8 (Xab ?_)
 iterate 3 refine kO hT hC ?_
 refine Vc.nil (Xah (Xas ?_))
 obtain rfl := kj h
 exact Xb2 (τ := ⟨[(16, .own 16), (17, .sv (.bool false))], [(16, some (.ints .i64 ([] : List Int)))]⟩) (kW hC [(16, 1296)]) rfl ⟨rfl, trivial⟩
 refine kf b8 (Xag (Xaf (Xab ?_)))
 iterate 13 refine kO hT hC ?_
 refine kC hC [(16, 1520)] Tryz.call99 h (fun _ => Xet) fun q13 h => ?_
 refine kO hT hC ?_
 refine Vc.nil (Xap (Xab ?_))
 iterate 3 refine kO hT hC ?_
 refine Vc.nil ?_
 refine kS h ?_ ?_ <;> intro b9 h
 refine kt b9 (Xab ?_)
 iterate 3 refine kO hT hC ?_
 refine Vc.nil (Xah (Xas ?_))
 obtain rfl := kj h
 exact Xb2 (τ := ⟨[(16, .own 16), (17, .sv (.bool true))], [(16, some (.ints .i64 q13))]⟩) (kW hC [(16, 1520)]) rfl ⟨rfl, trivial⟩
 refine kf b9 (Xag (Xaf (Xab ?_)))
 iterate 3 refine kO hT hC ?_
 refine kC hC [(16, 1664)] Tryz.call106 h (fun _ => Xlj) fun q14 h => ?_
 iterate 5 refine kO hT hC ?_
 refine kN ?_
 iterate 2 refine kO hT hC ?_
 refine kC hC [(16, 1744)] Tryz.call107 h (fun _ => Xpl) fun q15 h => ?_
 iterate 2 refine kO hT hC ?_
 refine Vc.nil (Xah ?_)
 obtain rfl := kj h
 exact Xb2 (τ := ⟨[(16, .own 16), (17, .sv (.bool true))], [(16, some (.ints .i64 q15))]⟩) (kW hC [(16, 1744)]) rfl ⟨rfl, trivial⟩
def Ybi (r : Pic) : AV := .agg [.sv (.int .i64 r.Wide), .sv (.int .i64 r.High), .sv (.str r.Dots)]
def Ybh (r : Pic) : Xa2 := []
theorem Ydo {p0 p1 p2 p3 r} (h : Xk4 p0 p1 p2 p3 = some r) : AC Tryz.prog 89 [.agg [.sv (.int .i64 p0.Wide), .sv (.int .i64 p0.High), .sv (.str p0.Dots)], .sv (.int .i64 p1), .sv (.int .i64 p2), .sv (.ints .i64 p3)] [] (Ybi r) (Ybh r) := by
 refine Xae hT Tryz.func89 rfl fun C hC => ?_
 unfold Xk4 at h
 refine Xab ?_
 iterate 2 refine kO hT hC ?_
 refine kN ?_
 iterate 2 refine kO hT hC ?_
 refine kQ hT hC h fun h => ?_
 refine kO hT hC ?_
 refine Vc.nil (Xap (Xab ?_))
 refine kO hT hC ?_
 refine Vc.nil ?_
 refine kL [1,2,3,4,8,9,10] [64,128,208] [_,_,_,_,_,_,_] [_,_,_] ?_
 refine kX h (fun v2 => ([(10, .sv (.int .i64 v2.1))], [(208, some (.ints .u8 v2.2))])) (fun v4 => ([(1, .any), (2, .any), (3, .any), (10, .any)], [(208, some (.ints .u8 v4))])) (kW hC []) (fun v2 s h => ?_) fun v4 h => ?_
 unfold Xgd at h
 refine Xap (Xab ?_)
 iterate 2 refine kO hT hC ?_
 refine Vc.nil ?_
 refine kS h ?_ ?_ <;> intro b3 h
 refine kt b3 (Xag (Xaf (Xap (Xam ?_))))
 refine Xcn hm ?_
 iterate 3 refine kO hT hC ?_
 refine kQ hT hC h fun h => ?_
 iterate 7 refine kO hT hC ?_
 refine kQ hT hC h fun h => ?_
 iterate 3 refine kO hT hC ?_
 refine kQ hT hC h fun h => ?_
 iterate 2 refine kO hT hC ?_
 iterate 2 refine kQ hT hC h fun h => ?_
 refine kD (Xan (Xaf (Xac ?_)))
 iterate 3 refine kO hT hC ?_
 exact Vc.nil kG
 exact kf b3 (Xao (Xaz ku))
 refine Xaf (Xab ?_)
 iterate 8 refine kO hT hC ?_
 exact Vc.nil (Xah kR)
def Xy2 (r : Bool) : AV := .sv (.bool r)
def Xy1 (r : Bool) : Xa2 := []
theorem Xi4 {p0 p1 p2 r} (h : Xeq p0 p1 p2 = some r) : AC Tryz.prog 61 [.sv (.int .i64 p0), .sv (.int .i64 p1), .sv (.int .i64 p2)] [] (Xy2 r) (Xy1 r) := by
 refine Xae hT Tryz.func61 rfl fun C hC => ?_
 unfold Xeq at h
 refine Xab ?_
 refine kO hT hC ?_
 refine Vc.nil ?_
 refine kL [0,1,2,6] [] [_,_,_,_] [] ?_
 refine kA h (fun v1 => ([(6, .sv (.bool v1)), (0, .any), (1, .any), (2, .any)], [])) (fun v1 h => ?_) fun v1 h => ?_
 refine Xac ?_
 iterate 4 refine kO hT hC ?_
 refine kS h ?_ ?_ <;> intro b1 h
 iterate 3 refine kI hT hC b1 ?_
 refine kP hC true b1 ?_
 refine kO hT hC ?_
 exact Vc.nil kM
 iterate 3 refine kF hC b1 ?_
 refine kP hC false b1 ?_
 refine kO hT hC ?_
 exact Vc.nil kM
 exact Xah kR
def Xxt (r : Bool) : AV := .sv (.bool r)
def Xxs (r : Bool) : Xa2 := []
theorem Xoo {p0 p1 r} (h : Xfi p0 p1 = some r) : AC Tryz.prog 54 [.agg [.sv (.int .i64 p0.Wide), .sv (.int .i64 p0.High), .sv (.str p0.Dots)], .agg [.sv (.int .i64 p1.Wide), .sv (.int .i64 p1.High), .sv (.str p1.Dots)]] [] (Xxt r) (Xxs r) := by
 refine Xae hT Tryz.func54 rfl fun C hC => ?_
 unfold Xfi at h
 refine Xab ?_
 iterate 3 refine kO hT hC ?_
 refine Vc.nil ?_
 refine kL [2,3,4] [32,48] [_,_,_] [_,_] ?_
 refine kA h (fun v1 => ([(4, .sv (.bool v1)), (2, .any), (3, .any)], [(32, none), (48, none)])) (fun v1 h => ?_) fun v1 h => ?_
 refine Xac ?_
 refine kO hT hC ?_
 refine kC hC [] Tryz.call96 h (fun _ => Xb4) fun q2 h => ?_
 refine kO hT hC ?_
 refine kS h ?_ ?_ <;> intro b1 h
 refine kI hT hC b1 ?_
 refine kE hC b1 [] Tryz.call96 h (fun _ => Xb4) fun q3 h => ?_
 refine kP hC true b1 ?_
 refine kO hT hC ?_
 refine kS h ?_ ?_ <;> intro b2 h
 iterate 5 refine kI hT hC b2 ?_
 refine kP hC true b2 ?_
 refine kO hT hC ?_
 refine kS h ?_ ?_ <;> intro b3 h
 iterate 5 refine kI hT hC b3 ?_
 refine kP hC true b3 ?_
 refine kO hT hC ?_
 exact Vc.nil kM
 iterate 5 refine kF hC b3 ?_
 refine kP hC false b3 ?_
 refine kO hT hC ?_
 exact Vc.nil kM
 iterate 5 refine kF hC b2 ?_
 refine kP hC false b2 ?_
 refine kO hT hC ?_
 iterate 5 refine kF hC rfl ?_
 iterate 2 refine kO hT hC ?_
 exact Vc.nil kM
 iterate 2 refine kF hC b1 ?_
 refine kP hC false b1 ?_
 refine kO hT hC ?_
 iterate 5 refine kF hC rfl ?_
 iterate 2 refine kO hT hC ?_
 iterate 5 refine kF hC rfl ?_
 iterate 2 refine kO hT hC ?_
 exact Vc.nil kM
 exact Xah kR
def Xxr (r : (List Int)) : AV := .own 16
def Xxq (r : (List Int)) : Xa2 := [(16, .ints .i64 r)]
theorem Xk6 {p0 p1 r} (h : Xfg p0 p1 = some r) : AC Tryz.prog 98 [.sv (.ints .i64 p0), .sv (.ints .i64 p1)] [] (Xxr r) (Xxq r) := by
 refine Xae hT Tryz.func98 rfl fun C hC => ?_
 unfold Xfg at h
 refine Xab ?_
 refine kO hT hC ?_
 refine kN ?_
 iterate 2 refine kO hT hC ?_
 refine Vc.nil (Xap (Xab ?_))
 refine kO hT hC ?_
 refine Vc.nil ?_
 refine kL [0,1,5,6] [112] [_,_,_,_] [_] ?_
 refine kX h (fun v2 => ([(6, .sv (.int .i64 v2.1))], [(112, some (.ints .i64 v2.2))])) (fun v4 => ([(0, .any), (1, .any), (6, .any)], [(112, some (.ints .i64 v4))])) (kW hC []) (fun v2 s h => ?_) fun v4 h => ?_
 unfold Xfh at h
 refine Xap (Xab ?_)
 iterate 2 refine kO hT hC ?_
 refine Vc.nil ?_
 refine kS h ?_ ?_ <;> intro b3 h
 refine kt b3 (Xag (Xaf (Xap (Xam ?_))))
 refine Xcn hm ?_
 iterate 3 refine kO hT hC ?_
 refine kQ hT hC h fun h => ?_
 iterate 3 refine kO hT hC ?_
 refine kQ hT hC h fun h => ?_
 iterate 3 refine kO hT hC ?_
 refine kT hT hC h fun h => ?_
 refine kO hT hC ?_
 refine kD (Xan (Xaf (Xac ?_)))
 iterate 3 refine kO hT hC ?_
 refine Vc.nil ?_
 obtain rfl := kj h
 exact Xs2 (kW hC [(112, 368)])
 exact kf b3 (Xao (Xaz ku))
 refine Xaf (Xab ?_)
 iterate 2 refine kO hT hC ?_
 refine Vc.nil (Xah ?_)
 obtain rfl := kj h
 exact Xb2 (τ := ⟨[(4, .own 16)], [(16, some (.ints .i64 v4))]⟩) (kW hC [(16, 112)]) rfl ⟨rfl, trivial⟩
def Xna (r : Bool) : AV := .sv (.bool r)
def Xm9 (r : Bool) : Xa2 := []
theorem Xoq {p0 r} (h : Xhj p0 = some r) : AC Tryz.prog 97 [.sv (.ints .i64 p0)] [] (Xna r) (Xm9 r) := by
 refine Xae hT Tryz.func97 rfl fun C hC => ?_
 unfold Xhj at h
 refine Xab ?_
 refine kO hT hC ?_
 refine Vc.nil (Xap (Xab ?_))
 refine kO hT hC ?_
 refine Vc.nil ?_
 refine kL [0,3] [] [_,_] [] ?_
 obtain ⟨o5, hl, h⟩ := Xbl h
 refine Xgy (fun v2 => ([(3, .sv (.int .i64 v2))], [])) (fun v4 => ([(0, .any), (3, .any)], [])) (fun r => Xnc C T Tryz.f97.results.toList (Xna r) (Xm9 r)) hl ?_ ?_ ?_ ?_
 apply Xeh hC []
 exact co
 rfl
 decide
 rfl
 intro v2 s hs
 have h := hs
 unfold Xdm at h
 refine Xap (Xab ?_)
 iterate 4 refine kO hT hC ?_
 refine Vc.nil ?_
 refine kS h ?_ ?_ <;> intro b5 h
 refine kt b5 (Xag (Xaf (Xap (Xam (Xab ?_)))))
 iterate 2 refine kO hT hC ?_
 refine kQ hT hC h fun h => ?_
 iterate 2 refine kO hT hC ?_
 refine Vc.nil ?_
 refine kS h ?_ ?_ <;> intro b6 h
 refine kt b6 (Xab ?_)
 refine kO hT hC ?_
 refine Vc.nil (Xah (Xgu (Xas ?_)))
 obtain rfl := kj h
 refine Xpa (Xo9 ?_)
 exact Xb2 (Xgt.refl _) rfl trivial
 refine kf b6 (Xag (Xan (Xaf (Xac ?_))))
 iterate 3 refine kO hT hC ?_
 exact Vc.nil kG
 exact kf b5 (Xao (Xaz kb))
 intro v4 e
 subst e
 refine Xaf (Xab ?_)
 refine kO hT hC ?_
 exact Vc.nil (Xah kR)
 intro r' σ' e hE
 subst e
 obtain rfl := kj h
 refine Xas ?_
 exact hE
def Xuo (r : Int) : AV := .sv (.int .i64 r)
def Xun (r : Int) : Xa2 := []
theorem Xjz {p0 r} (h : Xdw p0 = some r) : AC Tryz.prog 197 [.sv (.int .i64 p0)] [] (Xuo r) (Xun r) := by
 refine Xae hT Tryz.func197 rfl fun C hC => ?_
 unfold Xdw at h
 refine Xab ?_
 refine kO hT hC ?_
 refine Vc.nil (Xap (Xab ?_))
 iterate 2 refine kO hT hC ?_
 refine Vc.nil ?_
 refine kS h ?_ ?_ <;> intro b1 h
 refine kt b1 (Xab ?_)
 iterate 3 refine kO hT hC ?_
 exact Vc.nil (Xah (Xas kR))
 refine kf b1 (Xag (Xaf (Xab ?_)))
 iterate 2 refine kO hT hC ?_
 exact Vc.nil (Xah kR)
def Ycj (r : Int) : AV := .sv (.int .i64 r)
def Yci (r : Int) : Xa2 := []
theorem Xrx {p0 p1 r} (h : Xkc p0 p1 = some r) : AC Tryz.prog 147 [.sv (.ints .i64 p0), .sv (.ints .i64 p1)] [] (Ycj r) (Yci r) := by
 refine Xae hT Tryz.func147 rfl fun C hC => ?_
 unfold Xkc at h
 refine Xab ?_
 refine kO hT hC ?_
 refine Vc.nil (Xap ?_)
 refine kL [0,1] [] [_,_] [] ?_
 refine kA h (fun v1 => ([(14, .sv (.bool v1))], [])) (fun v1 h => ?_) fun v1 h => ?_
 refine Xac ?_
 refine kO hT hC ?_
 refine kC hC [] Tryz.call150 h (fun _ => Xbh) fun q2 h => ?_
 iterate 2 refine kO hT hC ?_
 refine kS h ?_ ?_ <;> intro b1 h
 refine kI hT hC (kn b1) ?_
 refine kE hC (kn b1) [] Tryz.call150 h (fun _ => Xbh) fun q3 h => ?_
 refine kI hT hC (kn b1) ?_
 refine kP hC false (kn b1) ?_
 exact Vc.nil kM
 iterate 3 refine kF hC (kn b1) ?_
 refine kP hC true (kn b1) ?_
 exact Vc.nil kM
 refine kS h ?_ ?_ <;> intro b2 h
 refine kt b2 (Xab ?_)
 refine kO hT hC ?_
 exact Vc.nil (Xah (Xas kR))
 refine kf b2 (Xag (Xaf (Xab ?_)))
 refine kO hT hC ?_
 refine Vc.nil (Xap (Xab ?_))
 refine kO hT hC ?_
 refine Vc.nil ?_
 refine kL [0,1,5,6] [] [_,_,_,_] [] ?_
 refine kX h (fun v6 => ([(5, .sv (.int .i64 v6.1)), (6, .sv (.int .i64 v6.2))], [])) (fun v9 => ([(5, .sv (.int .i64 v9)), (0, .any), (1, .any), (6, .any)], [])) (kW hC []) (fun v6 s h => ?_) fun v9 h => ?_
 unfold Xhx at h
 refine Xap (Xab ?_)
 iterate 2 refine kO hT hC ?_
 refine Vc.nil ?_
 refine kS h ?_ ?_ <;> intro b5 h
 refine kt b5 (Xag (Xaf (Xap (Xam ?_))))
 refine Xcn hm ?_
 iterate 3 refine kO hT hC ?_
 refine kQ hT hC h fun h => ?_
 iterate 3 refine kO hT hC ?_
 refine kQ hT hC h fun h => ?_
 iterate 2 refine kO hT hC ?_
 refine kC hC [] Tryz.call197 h (fun _ => Xjz) fun q10 h => ?_
 iterate 2 refine kO hT hC ?_
 refine kD (Xan (Xaf (Xac ?_)))
 iterate 3 refine kO hT hC ?_
 exact Vc.nil kG
 exact kf b5 (Xao (Xaz ku))
 refine Xaf (Xab ?_)
 iterate 2 refine kO hT hC ?_
 exact Vc.nil (Xah kR)
def Ydc (r : ByteArray) : AV := .sv (.str r)
def Ydb (r : ByteArray) : Xa2 := []
theorem Xbu {p0 r} (h : Xbr p0 = some r) : AC Tryz.prog 234 [.sv (.int .i64 p0)] [] (Ydc r) (Ydb r) := by
 refine Xae hT Tryz.func234 rfl fun C hC => ?_
 unfold Xbr at h
 refine Xab ?_
 refine kO hT hC ?_
 refine kN ?_
 iterate 3 refine kO hT hC ?_
 refine kN ?_
 refine kO hT hC ?_
 refine Vc.nil (Xap ?_)
 refine kL [3,4] [] [_,_] [] ?_
 refine kX h (fun v2 => ([(3, .sv (.int .i64 v2.1)), (4, .sv (.str v2.2))], [])) (fun v4 => ([(4, .sv (.str v4)), (3, .any)], [])) (kW hC []) (fun v2 s h => ?_) fun v4 h => ?_
 unfold Xfp at h
 refine Xap (Xab ?_)
 iterate 2 refine kO hT hC ?_
 refine Vc.nil ?_
 refine kS h ?_ ?_ <;> intro b3 h
 refine kt b3 (Xag (Xaf (Xam (Xab ?_))))
 refine kO hT hC ?_
 refine kQ hT hC h fun h => ?_
 iterate 5 refine kO hT hC ?_
 refine kQ hT hC h fun h => ?_
 refine kO hT hC ?_
 refine Vc.nil (Xac ?_)
 refine kO hT hC ?_
 refine kQ hT hC h fun h => ?_
 refine kO hT hC ?_
 exact Vc.nil (Xan kG)
 exact kf b3 (Xao (Xaz ku))
 refine Xaf (Xab ?_)
 iterate 3 refine kO hT hC ?_
 refine kC hC [] Tryz.call139 h (fun _ => Xn5) fun q6 h => ?_
 refine kO hT hC ?_
 refine kQ hT hC h fun h => ?_
 refine kO hT hC ?_
 exact Vc.nil (Xah kR)
def Yc0 (r : (ByteArray × Bool)) : AV := .tup [.sv (.str r.1), .sv (.bool r.2)]
def Ycz (r : (ByteArray × Bool)) : Xa2 := []
theorem Yfs {p0 r} (h : Xo6 p0 = some r) : AC Tryz.prog 198 [.sv (.int .i64 p0)] [] (Yc0 r) (Ycz r) := by
 refine Xae hT Tryz.func198 rfl fun C hC => ?_
 unfold Xo6 at h
 refine Xab ?_
 iterate 2 refine kO hT hC ?_
 refine Vc.nil (Xap (Xab ?_))
 refine kO hT hC ?_
 refine kC hC [] Tryz.call53 h (fun _ => Xai) fun q1 h => ?_
 refine kO hT hC ?_
 refine Vc.nil ?_
 refine kS h ?_ ?_ <;> intro b1 h
 refine kt b1 (Xab ?_)
 iterate 2 refine kO hT hC ?_
 exact Vc.nil (Xah (Xas kR))
 refine kf b1 (Xag (Xaf (Xab ?_)))
 refine kO hT hC ?_
 refine kC hC [] Tryz.call234 h (fun _ => Xbu) fun q2 h => ?_
 iterate 2 refine kO hT hC ?_
 exact Vc.nil (Xah kR)
def Yas (r : Int) : AV := .sv (.int .i64 r)
def Yar (r : Int) : Xa2 := []
theorem Yc1 {p0 r} (h : Xku p0 = some r) : AC Tryz.prog 148 [.sv (.int .i64 p0)] [] (Yas r) (Yar r) := by
 refine Xae hT Tryz.func148 rfl fun C hC => ?_
 unfold Xku at h
 refine Xab ?_
 refine kO hT hC ?_
 refine kN ?_
 refine kO hT hC ?_
 refine kC hC [] Tryz.call198 h (fun _ => Yfs) fun q1 h => ?_
 iterate 5 refine kO hT hC ?_
 refine kN ?_
 iterate 3 refine kO hT hC ?_
 exact Vc.nil (Xah kR)
def Xru (r : (Int × Int)) : AV := .tup [.sv (.int .i64 r.1), .sv (.int .i64 r.2)]
def Xrt (r : (Int × Int)) : Xa2 := []
theorem Xtp {p0 p1 r} (h : Xfx p0 p1 = some r) : AC Tryz.prog 101 [.sv (.ints .i64 p0), .agg [.sv (.ints .i64 p1.Above), .sv (.ints .i64 p1.Left), .sv (.int .i64 p1.Corner)]] [] (Xru r) (Xrt r) := by
 refine Xae hT Tryz.func101 rfl fun C hC => ?_
 unfold Xfx at h
 refine Xab ?_
 iterate 3 refine kO hT hC ?_
 refine Vc.nil (Xap ?_)
 refine kL [0,3] [48] [_,_] [_] ?_
 refine kA h (fun v1 => ([(17, .sv (.bool v1))], [])) (fun v1 h => ?_) fun v1 h => ?_
 refine Xac ?_
 refine kO hT hC ?_
 refine kC hC [] Tryz.call146 h (fun _ => Xnw) fun q2 h => ?_
 iterate 2 refine kO hT hC ?_
 refine kS h ?_ ?_ <;> intro b1 h
 refine kI hT hC (kn b1) ?_
 refine kE hC (kn b1) [] Tryz.call51 h (fun _ => Xif) fun q3 h => ?_
 refine kI hT hC (kn b1) ?_
 refine kP hC false (kn b1) ?_
 exact Vc.nil kM
 iterate 3 refine kF hC (kn b1) ?_
 refine kP hC true (kn b1) ?_
 exact Vc.nil kM
 refine kS h ?_ ?_ <;> intro b2 h
 refine kt b2 (Xab ?_)
 iterate 2 refine kO hT hC ?_
 exact Vc.nil (Xah (Xas kR))
 refine kf b2 (Xag (Xaf (Xab ?_)))
 refine kO hT hC ?_
 refine kN ?_
 refine kO hT hC ?_
 refine Vc.nil (Xap (Xab ?_))
 refine kO hT hC ?_
 refine Vc.nil ?_
 refine kL [0,3,6,7,8] [48] [_,_,_,_,_] [_] ?_
 refine kX h (fun v16 => ([(6, .sv (.int .i64 v16.1)), (7, .sv (.int .i64 v16.2.1)), (8, .sv (.int .i64 v16.2.2))], [])) (fun v23 => ([(6, .sv (.int .i64 v23.1)), (7, .sv (.int .i64 v23.2)), (0, .any), (3, .any), (8, .any)], [(48, none)])) (kW hC []) (fun v16 s h => ?_) fun v23 h => ?_
 unfold Xfk at h
 refine Xap (Xab ?_)
 iterate 2 refine kO hT hC ?_
 refine Vc.nil ?_
 refine kS h ?_ ?_ <;> intro b12 h
 refine kt b12 (Xag (Xaf ?_))
 refine kL [0,3,6,7,8] [48] [_,_,_,_,_] [_] ?_
 refine kA h (fun v24 => ([(6, .sv (.int .i64 v24.1)), (7, .sv (.int .i64 v24.2))], [])) (fun v24 h => ?_) fun v24 h => ?_
 refine Xam (Xab ?_)
 iterate 3 refine kO hT hC ?_
 refine kC hC [(16, 400)] Tryz.call104 h (fun _ => Xkm) fun q25 h => ?_
 refine kC hC [] Tryz.call147 h (fun _ => Xrx) fun q26 h => ?_
 refine kO hT hC ?_
 refine kC hC [] Tryz.call148 h (fun _ => Yc1) fun q27 h => ?_
 iterate 2 refine kO hT hC ?_
 refine Vc.nil ?_
 refine kL [0,3,6,7,8,9] [48] [_,_,_,_,_,_] [_] ?_
 refine kA h (fun v28 => ([(36, .sv (.bool v28))], [])) (fun v28 h => ?_) fun v28 h => ?_
 refine Xac ?_
 iterate 3 refine kO hT hC ?_
 refine kS h ?_ ?_ <;> intro b13 h
 iterate 3 refine kF hC b13 ?_
 refine kP hC true b13 ?_
 exact Vc.nil kM
 iterate 3 refine kI hT hC b13 ?_
 refine kP hC false b13 ?_
 exact Vc.nil kM
 refine kS h ?_ ?_ <;> intro b14 h
 refine kt b14 (Xab ?_)
 iterate 2 refine kO hT hC ?_
 refine Vc.nil (Xac ?_)
 iterate 2 refine kO hT hC ?_
 exact Vc.nil (Xan kM)
 exact kf b14 (Xag (Xan kM))
 refine Xac ?_
 iterate 3 refine kO hT hC ?_
 exact Vc.nil kG
 exact kf b12 (Xao (Xaz ku))
 refine Xaf (Xab ?_)
 iterate 4 refine kO hT hC ?_
 exact Vc.nil (Xah kR)
def Xzy (r : (Int × Bool)) : AV := .tup [.sv (.int .i64 r.1), .sv (.bool r.2)]
def Xzx (r : (Int × Bool)) : Xa2 := []
theorem Yce {p0 r} (h : Xkk p0 = some r) : AC Tryz.prog 254 [.sv (.int .i64 p0)] [] (Xzy r) (Xzx r) := by
 refine Xae hT Tryz.func254 rfl fun C hC => ?_
 unfold Xkk at h
 refine Xab ?_
 iterate 2 refine kO hT hC ?_
 refine Vc.nil (Xap (Xab ?_))
 refine kO hT hC ?_
 refine kC hC [] Tryz.call53 h (fun _ => Xai) fun q1 h => ?_
 refine kO hT hC ?_
 refine Vc.nil ?_
 refine kS h ?_ ?_ <;> intro b1 h
 refine kt b1 (Xab ?_)
 iterate 2 refine kO hT hC ?_
 exact Vc.nil (Xah (Xas kR))
 refine kf b1 (Xag (Xaf (Xap (Xab ?_))))
 iterate 2 refine kO hT hC ?_
 refine Vc.nil ?_
 refine kS h ?_ ?_ <;> intro b2 h
 refine kt b2 (Xab ?_)
 iterate 5 refine kO hT hC ?_
 exact Vc.nil (Xah (Xas kR))
 refine kf b2 (Xag (Xaf (Xab ?_)))
 iterate 4 refine kO hT hC ?_
 exact Vc.nil (Xah kR)
def Yda (r : ByteArray) : AV := .sv (.str r)
def Yc9 (r : ByteArray) : Xa2 := []
theorem Xh5 {p0 r} (h : Xfo p0 = some r) : AC Tryz.prog 235 [.sv (.int .i64 p0)] [] (Yda r) (Yc9 r) := by
 refine Xae hT Tryz.func235 rfl fun C hC => ?_
 unfold Xfo at h
 refine Xab ?_
 refine kO hT hC ?_
 refine kN ?_
 refine kO hT hC ?_
 refine kC hC [] Tryz.call254 h (fun _ => Yce) fun q1 h => ?_
 iterate 5 refine kO hT hC ?_
 refine kN ?_
 refine kO hT hC ?_
 refine kC hC [] Tryz.call234 h (fun _ => Xbu) fun q2 h => ?_
 refine kO hT hC ?_
 exact Vc.nil (Xah kR)
def Ycw (r : (ByteArray × Bool)) : AV := .tup [.sv (.str r.1), .sv (.bool r.2)]
def Ycv (r : (ByteArray × Bool)) : Xa2 := []
theorem Yfr {p0 r} (h : Xo5 p0 = some r) : AC Tryz.prog 199 [.sv (.int .i64 p0)] [] (Ycw r) (Ycv r) := by
 refine Xae hT Tryz.func199 rfl fun C hC => ?_
 unfold Xo5 at h
 refine Xab ?_
 iterate 2 refine kO hT hC ?_
 refine Vc.nil (Xap (Xab ?_))
 refine kO hT hC ?_
 refine kC hC [] Tryz.call53 h (fun _ => Xai) fun q1 h => ?_
 refine kO hT hC ?_
 refine Vc.nil ?_
 refine kS h ?_ ?_ <;> intro b1 h
 refine kt b1 (Xab ?_)
 iterate 2 refine kO hT hC ?_
 exact Vc.nil (Xah (Xas kR))
 refine kf b1 (Xag (Xaf (Xab ?_)))
 refine kO hT hC ?_
 refine kC hC [] Tryz.call235 h (fun _ => Xh5) fun q2 h => ?_
 iterate 2 refine kO hT hC ?_
 exact Vc.nil (Xah kR)
def Yae (r : Int) : AV := .sv (.int .i64 r)
def Yad (r : Int) : Xa2 := []
theorem Xpr {p0 r} (h : Xiv p0 = some r) : AC Tryz.prog 149 [.sv (.int .i64 p0)] [] (Yae r) (Yad r) := by
 refine Xae hT Tryz.func149 rfl fun C hC => ?_
 unfold Xiv at h
 refine Xab ?_
 refine kO hT hC ?_
 refine kN ?_
 refine kO hT hC ?_
 refine kC hC [] Tryz.call199 h (fun _ => Yfr) fun q1 h => ?_
 iterate 5 refine kO hT hC ?_
 refine kN ?_
 iterate 3 refine kO hT hC ?_
 exact Vc.nil (Xah kR)
def Xts (r : (Int × Int × Int)) : AV := .tup [.sv (.int .i64 r.1), .sv (.int .i64 r.2.1), .sv (.int .i64 r.2.2)]
def Xtr (r : (Int × Int × Int)) : Xa2 := []
theorem Xvm {p0 p1 p2 p3 p4 r} (h : Xht p0 p1 p2 p3 p4 = some r) : AC Tryz.prog 102 [.agg [.sv (.int .i64 p0.Wide), .sv (.int .i64 p0.High), .sv (.str p0.Dots)], .sv (.ints .i64 p1), .sv (.int .i64 p2), .sv (.int .i64 p3), .sv (.int .i64 p4)] [] (Xts r) (Xtr r) := by
 refine Xae hT Tryz.func102 rfl fun C hC => ?_
 unfold Xht at h
 refine Xab ?_
 iterate 4 refine kO hT hC ?_
 refine kN ?_
 refine kO hT hC ?_
 refine kN ?_
 refine kO hT hC ?_
 refine kN ?_
 refine kO hT hC ?_
 refine Vc.nil (Xap ?_)
 refine kL [1,2,3,4,5,13,14,15] [80] [_,_,_,_,_,_,_,_] [_] ?_
 refine kA h (fun v1 => ([(33, .sv (.bool v1))], [])) (fun v1 h => ?_) fun v1 h => ?_
 refine Xac ?_
 refine kO hT hC ?_
 refine kC hC [] Tryz.call51 h (fun _ => Xif) fun q2 h => ?_
 iterate 2 refine kO hT hC ?_
 refine kS h ?_ ?_ <;> intro b1 h
 refine kI hT hC (kn b1) ?_
 refine kE hC (kn b1) [] Tryz.call53 h (fun _ => Xai) fun q3 h => ?_
 refine kI hT hC (kn b1) ?_
 refine kP hC false (kn b1) ?_
 refine kO hT hC ?_
 refine kS h ?_ ?_ <;> intro b2 h
 iterate 3 refine kI hT hC (kn b2) ?_
 refine kE hC (kn b2) [] Tryz.call50 h (fun _ => Xig) fun q4 h => ?_
 refine kI hT hC (kn b2) ?_
 refine kP hC false (kn b2) ?_
 exact Vc.nil kM
 iterate 5 refine kF hC (kn b2) ?_
 refine kP hC true (kn b2) ?_
 exact Vc.nil kM
 iterate 3 refine kF hC (kn b1) ?_
 refine kP hC true (kn b1) ?_
 refine kO hT hC ?_
 iterate 5 refine kF hC rfl ?_
 refine kO hT hC ?_
 exact Vc.nil kM
 refine kS h ?_ ?_ <;> intro b3 h
 refine kt b3 (Xab ?_)
 iterate 3 refine kO hT hC ?_
 exact Vc.nil (Xah (Xas kR))
 refine kf b3 (Xag (Xaf (Xap (Xab ?_))))
 iterate 3 refine kO hT hC ?_
 refine Vc.nil ?_
 refine kL [1,2,3,4,5,13,14,15,16] [80] [_,_,_,_,_,_,_,_,_] [_] ?_
 refine kX h (fun v32 => ([(13, .sv (.int .i64 v32.1)), (14, .sv (.int .i64 v32.2.1)), (15, .sv (.int .i64 v32.2.2.1)), (16, .sv (.int .i64 v32.2.2.2))], [])) (fun v60 => ([(13, .sv (.int .i64 v60.1)), (14, .sv (.int .i64 v60.2.1)), (15, .sv (.int .i64 v60.2.2)), (1, .any), (2, .any), (3, .any), (4, .any), (5, .any), (16, .any)], [(80, none)])) (kW hC []) (fun v32 s h => ?_) fun v60 h => ?_
 unfold Xfl at h
 refine Xap (Xab ?_)
 iterate 3 refine kO hT hC ?_
 refine Vc.nil ?_
 refine kS h ?_ ?_ <;> intro b30 h
 refine kt b30 (Xag (Xaf (Xap (Xam (Xab ?_)))))
 iterate 3 refine kO hT hC ?_
 refine Vc.nil ?_
 refine kL [1,2,3,4,5,13,14,15,16,17] [80] [_,_,_,_,_,_,_,_,_,_] [_] ?_
 refine kX h (fun v69 => ([(13, .sv (.int .i64 v69.1)), (14, .sv (.int .i64 v69.2.1)), (15, .sv (.int .i64 v69.2.2.1)), (17, .sv (.int .i64 v69.2.2.2))], [])) (fun v78 => ([(13, .sv (.int .i64 v78.1)), (14, .sv (.int .i64 v78.2.1)), (15, .sv (.int .i64 v78.2.2)), (17, .any)], [])) (kW hC []) (fun v69 s h => ?_) fun v78 h => ?_
 unfold Xfm at h
 refine Xap (Xab ?_)
 iterate 3 refine kO hT hC ?_
 refine Vc.nil ?_
 refine kS h ?_ ?_ <;> intro b39 h
 refine kt b39 (Xag (Xaf ?_))
 refine kL [1,2,3,4,5,13,14,15,16,17] [80] [_,_,_,_,_,_,_,_,_,_] [_] ?_
 refine kA h (fun v79 => ([(13, .sv (.int .i64 v79.1)), (14, .sv (.int .i64 v79.2.1)), (15, .sv (.int .i64 v79.2.2))], [])) (fun v79 h => ?_) fun v79 h => ?_
 refine Xam (Xap (Xab ?_))
 iterate 7 refine kO hT hC ?_
 refine kC hC [] Tryz.call86 h (fun _ => Xmg) fun q80 h => ?_
 refine kO hT hC ?_
 refine Vc.nil ?_
 refine kS h ?_ ?_ <;> intro b40 h
 exact kt b40 (Xao (Xaz (Yd0 kM)))
 refine kf b40 (Xag (Xaf (Xab ?_)))
 iterate 8 refine kO hT hC ?_
 refine kC hC [(16, 1040)] Tryz.call99 h (fun _ => Xet) fun q81 h => ?_
 refine kC hC [] Tryz.call147 h (fun _ => Xrx) fun q82 h => ?_
 refine kO hT hC ?_
 refine kC hC [] Tryz.call149 h (fun _ => Xpr) fun q83 h => ?_
 iterate 2 refine kO hT hC ?_
 refine kC hC [] Tryz.call149 h (fun _ => Xpr) fun q84 h => ?_
 iterate 2 refine kO hT hC ?_
 refine Vc.nil ?_
 refine kL [1,2,3,4,5,13,14,15,16,17,18] [80] [_,_,_,_,_,_,_,_,_,_,_] [_] ?_
 refine kA h (fun v85 => ([(79, .sv (.bool v85))], [])) (fun v85 h => ?_) fun v85 h => ?_
 refine Xac ?_
 iterate 3 refine kO hT hC ?_
 refine kS h ?_ ?_ <;> intro b41 h
 iterate 3 refine kF hC b41 ?_
 refine kP hC true b41 ?_
 exact Vc.nil kM
 iterate 3 refine kI hT hC b41 ?_
 refine kP hC false b41 ?_
 exact Vc.nil kM
 refine kS h ?_ ?_ <;> intro b42 h
 refine kt b42 (Xab ?_)
 iterate 2 refine kO hT hC ?_
 refine kN ?_
 iterate 2 refine kO hT hC ?_
 refine Vc.nil (Xac ?_)
 iterate 2 refine kO hT hC ?_
 exact Vc.nil (Xan kM)
 exact kf b42 (Xag (Xan kM))
 refine Xac ?_
 iterate 3 refine kO hT hC ?_
 exact Vc.nil kG
 exact kf b39 (Xao (Xaz ku))
 refine Xan (Xaf (Xac ?_))
 iterate 3 refine kO hT hC ?_
 exact Vc.nil kG
 exact kf b30 (Xao (Xaz ku))
 refine Xaf (Xab ?_)
 iterate 6 refine kO hT hC ?_
 exact Vc.nil (Xah kR)
def Xwb (r : ((List Int) × Bool)) : AV := .tup [.own 16, .sv (.bool r.2)]
def Xwa (r : ((List Int) × Bool)) : Xa2 := [(16, .ints .i64 r.1)]
theorem Xks {p0 p1 r} (h : Xe0 p0 p1 = some r) : AC Tryz.prog 151 [.sv (.int .i64 p0), .sv (.ints .i64 p1)] [] (Xwb r) (Xwa r) := by
 refine Xae hT Tryz.func151 rfl fun C hC => ?_
 unfold Xe0 at h
 refine Xab ?_
 iterate 2 refine kO hT hC ?_
 refine kN ?_
 iterate 2 refine kO hT hC ?_
 refine Vc.nil (Xap ?_)
 refine kL [0,1,6] [128] [_,_,_] [_] ?_
 refine kA h (fun v1 => ([(22, .sv (.bool v1))], [])) (fun v1 h => ?_) fun v1 h => ?_
 refine Xac ?_
 iterate 3 refine kO hT hC ?_
 refine kS h ?_ ?_ <;> intro b1 h
 iterate 2 refine kI hT hC b1 ?_
 refine kP hC true b1 ?_
 refine kO hT hC ?_
 refine kS h ?_ ?_ <;> intro b2 h
 iterate 6 refine kF hC b2 ?_
 refine kP hC true b2 ?_
 exact Vc.nil kM
 iterate 6 refine kI hT hC b2 ?_
 refine kP hC false b2 ?_
 exact Vc.nil kM
 iterate 2 refine kF hC b1 ?_
 refine kP hC false b1 ?_
 refine kO hT hC ?_
 iterate 6 refine kI hT hC rfl ?_
 refine kO hT hC ?_
 exact Vc.nil kM
 refine kS h ?_ ?_ <;> intro b3 h
 refine kt b3 (Xab ?_)
 iterate 3 refine kO hT hC ?_
 refine Vc.nil (Xah (Xas ?_))
 obtain rfl := kj h
 exact Xb2 (τ := ⟨[(4, .own 16), (5, .sv (.bool false))], [(16, some (.ints .i64 ([] : List Int)))]⟩) (kW hC [(16, 128)]) rfl ⟨rfl, trivial⟩
 refine kf b3 (Xag (Xaf (Xap (Xab ?_))))
 refine kO hT hC ?_
 refine Vc.nil ?_
 refine kL [0,1,6,7] [128] [_,_,_,_] [_] ?_
 refine kX h (fun v4 => ([(7, .sv (.int .i64 v4.1))], [(128, some (.ints .i64 v4.2))])) (fun v7 => ([(0, .any), (1, .any), (7, .any)], [(128, some (.ints .i64 v7))])) (kW hC []) (fun v4 s h => ?_) fun v7 h => ?_
 unfold Xe1 at h
 refine Xap (Xab ?_)
 iterate 5 refine kO hT hC ?_
 refine Vc.nil ?_
 refine kS h ?_ ?_ <;> intro b6 h
 refine kt b6 (Xag (Xaf (Xap (Xam (Xac ?_)))))
 iterate 4 refine kO hT hC ?_
 refine kC hC [] Tryz.call200 h (fun _ => Xpp) fun q8 h => ?_
 refine kQ hT hC h fun h => ?_
 iterate 2 refine kO hT hC ?_
 refine kT hT hC h fun h => ?_
 refine kO hT hC ?_
 refine Vc.nil (Xan (Xaf (Xac ?_)))
 iterate 3 refine kO hT hC ?_
 refine Vc.nil ?_
 obtain rfl := kj h
 exact Xs2 (kW hC [(128, 624)])
 exact kf b6 (Xao (Xaz ku))
 refine Xaf (Xab ?_)
 iterate 3 refine kO hT hC ?_
 refine Vc.nil (Xah ?_)
 obtain rfl := kj h
 exact Xb2 (τ := ⟨[(4, .own 16), (5, .sv (.bool true))], [(16, some (.ints .i64 v7))]⟩) (kW hC [(16, 128)]) rfl ⟨rfl, trivial⟩
def Ycd (r : (List Int)) : AV := .own 16
def Ycc (r : (List Int)) : Xa2 := [(16, .ints .i64 r)]
theorem Yfh {p0 r} (h : Xl9 p0 = some r) : AC Tryz.prog 152 [.sv (.ints .i64 p0)] [] (Ycd r) (Ycc r) := by
 refine Xae hT Tryz.func152 rfl fun C hC => ?_
 unfold Xl9 at h
 refine Xab ?_
 refine kO hT hC ?_
 refine Vc.nil (Xap (Xab ?_))
 refine kO hT hC ?_
 refine kC hC [] Tryz.call150 h (fun _ => Xbh) fun q1 h => ?_
 refine kO hT hC ?_
 refine Vc.nil ?_
 refine kS h ?_ ?_ <;> intro b1 h
 refine kt b1 (Xab ?_)
 iterate 2 refine kO hT hC ?_
 refine Vc.nil (Xah (Xas ?_))
 obtain rfl := kj h
 exact Xb2 (τ := ⟨[(2, .own 16)], [(16, some (.ints .i64 ([] : List Int)))]⟩) (kW hC [(16, 96)]) rfl ⟨rfl, trivial⟩
 refine kf b1 (Xag (Xaf (Xab ?_)))
 refine kO hT hC ?_
 refine kC hC [(16, 128)] Tryz.call201 h (fun _ => Xoj) fun q2 h => ?_
 refine kO hT hC ?_
 refine Vc.nil (Xah ?_)
 obtain rfl := kj h
 exact Xb2 (τ := ⟨[(2, .own 16)], [(16, some (.ints .i64 q2))]⟩) (kW hC [(16, 128)]) rfl ⟨rfl, trivial⟩
def Xss (r : Int) : AV := .sv (.int .i64 r)
def Xsr (r : Int) : Xa2 := []
theorem Xme {p0 p1 r} (h : Xec p0 p1 = some r) : AC Tryz.prog 203 [.sv (.int .i64 p0), .sv (.int .i64 p1)] [] (Xss r) (Xsr r) := by
 refine Xae hT Tryz.func203 rfl fun C hC => ?_
 unfold Xec at h
 refine Xab ?_
 refine kO hT hC ?_
 refine Vc.nil (Xap (Xab ?_))
 iterate 2 refine kO hT hC ?_
 refine Vc.nil ?_
 refine kS h ?_ ?_ <;> intro b1 h
 refine kt b1 (Xab ?_)
 iterate 3 refine kO hT hC ?_
 exact Vc.nil (Xah (Xas kR))
 refine kf b1 (Xag (Xaf (Xab ?_)))
 iterate 2 refine kO hT hC ?_
 exact Vc.nil (Xah kR)
def Xqk (r : Int) : AV := .sv (.int .i64 r)
def Xqj (r : Int) : Xa2 := []
theorem Xr1 {p0 p1 r} (h : Xez p0 p1 = some r) : AC Tryz.prog 153 [.sv (.int .i64 p0), .sv (.int .i64 p1)] [] (Xqk r) (Xqj r) := by
 refine Xae hT Tryz.func153 rfl fun C hC => ?_
 unfold Xez at h
 refine Xab ?_
 refine kO hT hC ?_
 refine Vc.nil (Xap ?_)
 refine kL [0,1] [] [_,_] [] ?_
 refine kA h (fun v1 => ([(13, .sv (.bool v1))], [])) (fun v1 h => ?_) fun v1 h => ?_
 refine Xac ?_
 refine kO hT hC ?_
 refine kC hC [] Tryz.call53 h (fun _ => Xai) fun q2 h => ?_
 iterate 2 refine kO hT hC ?_
 refine kS h ?_ ?_ <;> intro b1 h
 refine kI hT hC (kn b1) ?_
 refine kE hC (kn b1) [] Tryz.call53 h (fun _ => Xai) fun q3 h => ?_
 refine kI hT hC (kn b1) ?_
 refine kP hC false (kn b1) ?_
 exact Vc.nil kM
 iterate 3 refine kF hC (kn b1) ?_
 refine kP hC true (kn b1) ?_
 exact Vc.nil kM
 refine kS h ?_ ?_ <;> intro b2 h
 refine kt b2 (Xab ?_)
 refine kO hT hC ?_
 exact Vc.nil (Xah (Xas kR))
 refine kf b2 (Xag (Xaf (Xab ?_)))
 refine kO hT hC ?_
 refine kC hC [] Tryz.call202 h (fun _ => Xpv) fun q4 h => ?_
 refine kO hT hC ?_
 refine kN ?_
 iterate 2 refine kO hT hC ?_
 refine kC hC [] Tryz.call197 h (fun _ => Xjz) fun q5 h => ?_
 refine kO hT hC ?_
 refine kQ hT hC h fun h => ?_
 iterate 2 refine kO hT hC ?_
 refine kQ hT hC h fun h => ?_
 refine kC hC [] Tryz.call203 h (fun _ => Xme) fun q6 h => ?_
 refine kO hT hC ?_
 exact Vc.nil (Xah kR)
def Xq2 (r : (List Int)) : AV := .own 16
def Xq1 (r : (List Int)) : Xa2 := [(16, .ints .i64 r)]
theorem Xsx {p0 p1 r} (h : Xff p0 p1 = some r) : AC Tryz.prog 155 [.sv (.ints .i64 p0), .sv (.int .i64 p1)] [] (Xq2 r) (Xq1 r) := by
 refine Xae hT Tryz.func155 rfl fun C hC => ?_
 unfold Xff at h
 refine Xab ?_
 refine kO hT hC ?_
 refine kN ?_
 iterate 2 refine kO hT hC ?_
 refine Vc.nil (Xap (Xab ?_))
 refine kO hT hC ?_
 refine Vc.nil ?_
 refine kL [0,1,5,6] [112] [_,_,_,_] [_] ?_
 refine kX h (fun v2 => ([(6, .sv (.int .i64 v2.1))], [(112, some (.ints .i64 v2.2))])) (fun v4 => ([(0, .any), (1, .any), (6, .any)], [(112, some (.ints .i64 v4))])) (kW hC []) (fun v2 s h => ?_) fun v4 h => ?_
 unfold Xcu at h
 refine Xap (Xab ?_)
 iterate 2 refine kO hT hC ?_
 refine Vc.nil ?_
 refine kS h ?_ ?_ <;> intro b3 h
 refine kt b3 (Xag (Xaf (Xap (Xam (Xac ?_)))))
 iterate 3 refine kO hT hC ?_
 refine kQ hT hC h fun h => ?_
 iterate 2 refine kO hT hC ?_
 refine kQ hT hC h fun h => ?_
 iterate 3 refine kO hT hC ?_
 refine kQ hT hC h fun h => ?_
 iterate 3 refine kO hT hC ?_
 refine kQ hT hC h fun h => ?_
 refine kO hT hC ?_
 refine kQ hT hC h fun h => ?_
 iterate 2 refine kO hT hC ?_
 refine kT hT hC h fun h => ?_
 refine kO hT hC ?_
 refine Vc.nil (Xan (Xaf (Xac ?_)))
 iterate 3 refine kO hT hC ?_
 refine Vc.nil ?_
 obtain rfl := kj h
 exact Xs2 (kW hC [(112, 496)])
 exact kf b3 (Xao (Xaz ku))
 refine Xaf (Xab ?_)
 iterate 2 refine kO hT hC ?_
 refine Vc.nil (Xah ?_)
 obtain rfl := kj h
 exact Xb2 (τ := ⟨[(4, .own 16)], [(16, some (.ints .i64 v4))]⟩) (kW hC [(16, 112)]) rfl ⟨rfl, trivial⟩
def Xxd (r : (List Int)) : AV := .own 16
def Xxc (r : (List Int)) : Xa2 := [(16, .ints .i64 r)]
theorem Xoh {p0 r} (h : Xhf p0 = some r) : AC Tryz.prog 205 [.sv (.ints .i64 p0)] [] (Xxd r) (Xxc r) := by
 refine Xae hT Tryz.func205 rfl fun C hC => ?_
 unfold Xhf at h
 refine Xab ?_
 refine kO hT hC ?_
 refine kN ?_
 iterate 2 refine kO hT hC ?_
 refine Vc.nil (Xap (Xab ?_))
 refine kO hT hC ?_
 refine Vc.nil ?_
 refine kL [0,3,4] [144] [_,_,_] [_] ?_
 refine kX h (fun v2 => ([(4, .sv (.int .i64 v2.1))], [(144, some (.ints .i64 v2.2))])) (fun v4 => ([(0, .any), (4, .any)], [(144, some (.ints .i64 v4))])) (kW hC []) (fun v2 s h => ?_) fun v4 h => ?_
 unfold Xfa at h
 refine Xap (Xab ?_)
 iterate 2 refine kO hT hC ?_
 refine Vc.nil ?_
 refine kS h ?_ ?_ <;> intro b3 h
 refine kt b3 (Xag (Xaf (Xap (Xam (Xab ?_)))))
 iterate 3 refine kO hT hC ?_
 refine kQ hT hC h fun h => ?_
 iterate 2 refine kO hT hC ?_
 refine kN ?_
 iterate 4 refine kO hT hC ?_
 refine kQ hT hC h fun h => ?_
 iterate 2 refine kO hT hC ?_
 refine kN ?_
 iterate 4 refine kO hT hC ?_
 refine kQ hT hC h fun h => ?_
 iterate 2 refine kO hT hC ?_
 refine kN ?_
 iterate 4 refine kO hT hC ?_
 refine kQ hT hC h fun h => ?_
 iterate 2 refine kO hT hC ?_
 refine Vc.nil (Xac ?_)
 iterate 34 refine kO hT hC ?_
 refine kT hT hC h fun h => ?_
 refine kO hT hC ?_
 refine Vc.nil (Xan (Xaf (Xac ?_)))
 iterate 3 refine kO hT hC ?_
 refine Vc.nil ?_
 obtain rfl := kj h
 exact Xs2 (kW hC [(144, 1136)])
 exact kf b3 (Xao (Xaz ku))
 refine Xaf (Xab ?_)
 iterate 2 refine kO hT hC ?_
 refine Vc.nil (Xah ?_)
 obtain rfl := kj h
 exact Xb2 (τ := ⟨[(2, .own 16)], [(16, some (.ints .i64 v4))]⟩) (kW hC [(16, 144)]) rfl ⟨rfl, trivial⟩
def Yfk (r : (List Int)) : AV := .own 16
def Yfj (r : (List Int)) : Xa2 := [(16, .ints .i64 r)]
theorem Yhe {p0 r} (h : Xnx p0 = some r) : AC Tryz.prog 154 [.sv (.ints .i64 p0)] [] (Yfk r) (Yfj r) := by
 refine Xae hT Tryz.func154 rfl fun C hC => ?_
 unfold Xnx at h
 refine Xab ?_
 refine kO hT hC ?_
 refine Vc.nil (Xap (Xab ?_))
 refine kO hT hC ?_
 refine kC hC [] Tryz.call150 h (fun _ => Xbh) fun q1 h => ?_
 refine kO hT hC ?_
 refine Vc.nil ?_
 refine kS h ?_ ?_ <;> intro b1 h
 refine kt b1 (Xab ?_)
 iterate 2 refine kO hT hC ?_
 refine Vc.nil (Xah (Xas ?_))
 obtain rfl := kj h
 exact Xb2 (τ := ⟨[(2, .own 16)], [(16, some (.ints .i64 ([] : List Int)))]⟩) (kW hC [(16, 96)]) rfl ⟨rfl, trivial⟩
 refine kf b1 (Xag (Xaf (Xab ?_)))
 refine kO hT hC ?_
 refine kC hC [(16, 128)] Tryz.call205 h (fun _ => Xoh) fun q2 h => ?_
 refine kC hC [(16, 144)] Tryz.call204 h (fun _ => Xib) fun q3 h => ?_
 refine kC hC [(16, 160)] Tryz.call205 h (fun _ => Xoh) fun q4 h => ?_
 refine kC hC [(16, 176)] Tryz.call204 h (fun _ => Xib) fun q5 h => ?_
 refine kO hT hC ?_
 refine Vc.nil (Xah ?_)
 obtain rfl := kj h
 exact Xb2 (τ := ⟨[(2, .own 16)], [(16, some (.ints .i64 q5))]⟩) (kW hC [(16, 176)]) rfl ⟨rfl, trivial⟩
def Xwf (r : Int) : AV := .sv (.int .i64 r)
def Xwe (r : Int) : Xa2 := []
theorem Yah {p0 p1 r} (h : Xjj p0 p1 = some r) : AC Tryz.prog 206 [.sv (.int .i64 p0), .sv (.int .i64 p1)] [] (Xwf r) (Xwe r) := by
 refine Xae hT Tryz.func206 rfl fun C hC => ?_
 unfold Xjj at h
 refine Xab ?_
 refine kO hT hC ?_
 refine kN ?_
 refine kO hT hC ?_
 refine kC hC [] Tryz.call238 h (fun _ => Xpn) fun q1 h => ?_
 refine kO hT hC ?_
 refine Vc.nil (Xap ?_)
 refine kL [0,5] [] [_,_] [] ?_
 refine kA h (fun v2 => ([(14, .sv (.bool v2))], [])) (fun v2 h => ?_) fun v2 h => ?_
 refine Xac ?_
 refine kO hT hC ?_
 refine kC hC [] Tryz.call53 h (fun _ => Xai) fun q3 h => ?_
 iterate 2 refine kO hT hC ?_
 refine kS h ?_ ?_ <;> intro b1 h
 iterate 2 refine kI hT hC (kn b1) ?_
 refine kP hC false (kn b1) ?_
 exact Vc.nil kM
 iterate 2 refine kF hC (kn b1) ?_
 refine kP hC true (kn b1) ?_
 exact Vc.nil kM
 refine kS h ?_ ?_ <;> intro b2 h
 refine kt b2 (Xab ?_)
 refine kO hT hC ?_
 exact Vc.nil (Xah (Xas kR))
 refine kf b2 (Xag (Xaf (Xap (Xab ?_))))
 refine kO hT hC ?_
 refine kQ hT hC h fun h => ?_
 refine Vc.nil (Xam (Xab ?_))
 iterate 2 refine kO hT hC ?_
 refine Vc.nil ?_
 refine kS h ?_ ?_ <;> intro b3 h
 refine kt b3 (Xab ?_)
 refine kO hT hC ?_
 refine kC hC [] Tryz.call239 h (fun _ => Xbc) fun q4 h => ?_
 refine kO hT hC ?_
 exact Vc.nil (Xah (Xgu (Xas kR)))
 refine kf b3 (Xab ?_)
 iterate 2 refine kO hT hC ?_
 refine Vc.nil ?_
 refine kS h ?_ ?_ <;> intro b4 h
 refine kt b4 (Xab ?_)
 refine kO hT hC ?_
 refine kC hC [] Tryz.call239 h (fun _ => Xbc) fun q5 h => ?_
 refine kO hT hC ?_
 exact Vc.nil (Xah (Xgu (Xas kR)))
 refine kf b4 (Xab ?_)
 iterate 2 refine kO hT hC ?_
 refine Vc.nil ?_
 refine kS h ?_ ?_ <;> intro b5 h
 refine kt b5 (Xab ?_)
 refine kO hT hC ?_
 refine kC hC [] Tryz.call239 h (fun _ => Xbc) fun q6 h => ?_
 refine kO hT hC ?_
 exact Vc.nil (Xah (Xgu (Xas kR)))
 refine kf b5 (Xab ?_)
 iterate 2 refine kO hT hC ?_
 refine Vc.nil ?_
 refine kS h ?_ ?_ <;> intro b6 h
 refine kt b6 (Xab ?_)
 refine kO hT hC ?_
 refine kC hC [] Tryz.call239 h (fun _ => Xbc) fun q7 h => ?_
 refine kO hT hC ?_
 exact Vc.nil (Xah (Xgu (Xas kR)))
 refine kf b6 (Xab ?_)
 iterate 2 refine kO hT hC ?_
 refine Vc.nil ?_
 refine kS h ?_ ?_ <;> intro b7 h
 refine kt b7 (Xab ?_)
 refine kO hT hC ?_
 refine kC hC [] Tryz.call239 h (fun _ => Xbc) fun q8 h => ?_
 refine kO hT hC ?_
 exact Vc.nil (Xah (Xgu (Xas kR)))
 refine kf b7 (Xag (Xan (Xaf (Xab ?_))))
 refine kO hT hC ?_
 refine kC hC [] Tryz.call239 h (fun _ => Xbc) fun q9 h => ?_
 refine kO hT hC ?_
 exact Vc.nil (Xah kR)
def Xqo (r : Int) : AV := .sv (.int .i64 r)
def Xqn (r : Int) : Xa2 := []
theorem Xr9 {p0 p1 p2 r} (h : Xe2 p0 p1 p2 = some r) : AC Tryz.prog 156 [.sv (.int .i64 p0), .sv (.int .i64 p1), .sv (.int .i64 p2)] [] (Xqo r) (Xqn r) := by
 refine Xae hT Tryz.func156 rfl fun C hC => ?_
 unfold Xe2 at h
 refine Xab ?_
 refine kO hT hC ?_
 refine Vc.nil (Xap ?_)
 refine kL [0,1,2] [] [_,_,_] [] ?_
 refine kA h (fun v1 => ([(20, .sv (.bool v1))], [])) (fun v1 h => ?_) fun v1 h => ?_
 refine Xac ?_
 refine kO hT hC ?_
 refine kC hC [] Tryz.call53 h (fun _ => Xai) fun q2 h => ?_
 iterate 2 refine kO hT hC ?_
 refine kS h ?_ ?_ <;> intro b1 h
 refine kI hT hC (kn b1) ?_
 refine kE hC (kn b1) [] Tryz.call53 h (fun _ => Xai) fun q3 h => ?_
 refine kI hT hC (kn b1) ?_
 refine kP hC false (kn b1) ?_
 refine kO hT hC ?_
 refine kS h ?_ ?_ <;> intro b2 h
 refine kI hT hC (kn b2) ?_
 refine kE hC (kn b2) [] Tryz.call53 h (fun _ => Xai) fun q4 h => ?_
 refine kI hT hC (kn b2) ?_
 refine kP hC false (kn b2) ?_
 exact Vc.nil kM
 iterate 3 refine kF hC (kn b2) ?_
 refine kP hC true (kn b2) ?_
 exact Vc.nil kM
 iterate 3 refine kF hC (kn b1) ?_
 refine kP hC true (kn b1) ?_
 refine kO hT hC ?_
 iterate 3 refine kF hC rfl ?_
 refine kO hT hC ?_
 exact Vc.nil kM
 refine kS h ?_ ?_ <;> intro b3 h
 refine kt b3 (Xab ?_)
 refine kO hT hC ?_
 exact Vc.nil (Xah (Xas kR))
 refine kf b3 (Xag (Xaf (Xab ?_)))
 refine kO hT hC ?_
 refine kQ hT hC h fun h => ?_
 iterate 2 refine kO hT hC ?_
 refine kQ hT hC h fun h => ?_
 refine kO hT hC ?_
 refine kN ?_
 iterate 2 refine kO hT hC ?_
 refine kC hC [] Tryz.call197 h (fun _ => Xjz) fun q5 h => ?_
 iterate 2 refine kO hT hC ?_
 refine kC hC [] Tryz.call206 h (fun _ => Yah) fun q6 h => ?_
 iterate 2 refine kO hT hC ?_
 refine kQ hT hC h fun h => ?_
 iterate 2 refine kO hT hC ?_
 refine kQ hT hC h fun h => ?_
 refine kC hC [] Tryz.call203 h (fun _ => Xme) fun q7 h => ?_
 refine kO hT hC ?_
 exact Vc.nil (Xah kR)
def Xt0 (r : ((List Int) × Bool)) : AV := .tup [.own 16, .sv (.bool r.2)]
def Xtz (r : ((List Int) × Bool)) : Xa2 := [(16, .ints .i64 r.1)]
theorem Xmz {p0 p1 r} (h : Xfn p0 p1 = some r) : AC Tryz.prog 103 [.sv (.ints .i64 p0), .agg [.sv (.bool p1.Key), .sv (.int .i64 p1.Qp), .sv (.bool p1.Large), .sv (.bool p1.Exact)]] [] (Xt0 r) (Xtz r) := by
 refine Xae hT Tryz.func103 rfl fun C hC => ?_
 unfold Xfn at h
 refine Xab ?_
 iterate 3 refine kO hT hC ?_
 refine Vc.nil (Xap ?_)
 refine kL [0,3] [48] [_,_] [_] ?_
 refine kA h (fun v1 => ([(21, .sv (.bool v1))], [])) (fun v1 h => ?_) fun v1 h => ?_
 refine Xac ?_
 refine kO hT hC ?_
 refine kC hC [] Tryz.call52 h (fun _ => Xfy) fun q2 h => ?_
 iterate 2 refine kO hT hC ?_
 refine kS h ?_ ?_ <;> intro b1 h
 refine kI hT hC (kn b1) ?_
 refine kE hC (kn b1) [] Tryz.call150 h (fun _ => Xbh) fun q3 h => ?_
 refine kI hT hC (kn b1) ?_
 refine kP hC false (kn b1) ?_
 exact Vc.nil kM
 iterate 3 refine kF hC (kn b1) ?_
 refine kP hC true (kn b1) ?_
 exact Vc.nil kM
 refine kS h ?_ ?_ <;> intro b2 h
 refine kt b2 (Xab ?_)
 iterate 3 refine kO hT hC ?_
 refine Vc.nil (Xah (Xas ?_))
 obtain rfl := kj h
 exact Xb2 (τ := ⟨[(4, .own 16), (5, .sv (.bool false))], [(16, some (.ints .i64 ([] : List Int)))]⟩) (kW hC [(16, 352)]) rfl ⟨rfl, trivial⟩
 refine kf b2 (Xag (Xaf (Xap (Xab ?_))))
 iterate 2 refine kO hT hC ?_
 refine Vc.nil ?_
 refine kS h ?_ ?_ <;> intro b3 h
 refine kt b3 (Xab ?_)
 refine kO hT hC ?_
 refine kC hC [(16, 416)] Tryz.call151 h (fun _ => Xks) fun q4 h => ?_
 iterate 4 refine kO hT hC ?_
 refine Vc.nil (Xah (Xas ?_))
 obtain rfl := kj h
 exact Xb2 (τ := ⟨[(4, .own 16), (5, .sv (.bool q4.2))], [(16, some (.ints .i64 q4.1))]⟩) (kW hC [(16, 416)]) rfl ⟨rfl, trivial⟩
 refine kf b3 (Xag (Xaf (Xap (Xab ?_))))
 iterate 2 refine kO hT hC ?_
 refine Vc.nil ?_
 refine kS h ?_ ?_ <;> intro b4 h
 refine kt b4 (Xab ?_)
 refine kO hT hC ?_
 refine kC hC [(16, 512)] Tryz.call152 h (fun _ => Yfh) fun q5 h => ?_
 refine kO hT hC ?_
 refine Vc.nil (Xap (Xab ?_))
 refine kO hT hC ?_
 refine Vc.nil ?_
 refine kL [3,6,7] [48,512] [_,_,_] [_,_] ?_
 refine kX h (fun v8 => ([(7, .sv (.int .i64 v8.1))], [(512, some (.ints .i64 v8.2))])) (fun v11 => ([(3, .any), (7, .any)], [(512, some (.ints .i64 v11)), (48, none)])) (kW hC []) (fun v8 s h => ?_) fun v11 h => ?_
 unfold Xd2 at h
 refine Xap (Xab ?_)
 iterate 2 refine kO hT hC ?_
 refine Vc.nil ?_
 refine kS h ?_ ?_ <;> intro b7 h
 refine kt b7 (Xag (Xaf (Xap (Xam ?_))))
 refine Xcn hm ?_
 iterate 4 refine kO hT hC ?_
 iterate 2 refine kQ hT hC h fun h => ?_
 iterate 2 refine kO hT hC ?_
 refine kC hC [] Tryz.call153 h (fun _ => Xr1) fun q12 h => ?_
 iterate 2 refine kQ hT hC h fun h => ?_
 refine kD (Xan (Xaf (Xac ?_)))
 iterate 3 refine kO hT hC ?_
 exact Vc.nil kG
 exact kf b7 (Xao (Xaz ku))
 refine Xaf (Xab ?_)
 refine kO hT hC ?_
 refine kC hC [(16, 768)] Tryz.call151 h (fun _ => Xks) fun q14 h => ?_
 iterate 4 refine kO hT hC ?_
 refine Vc.nil (Xah (Xas ?_))
 obtain rfl := kj h
 exact Xb2 (τ := ⟨[(4, .own 16), (5, .sv (.bool q14.2))], [(16, some (.ints .i64 q14.1))]⟩) (kW hC [(16, 768)]) rfl ⟨rfl, trivial⟩
 refine kf b4 (Xag (Xaf (Xab ?_)))
 iterate 2 refine kO hT hC ?_
 refine Vc.nil (Xap (Xab ?_))
 refine kO hT hC ?_
 refine Vc.nil ?_
 refine kL [0,3,8,9] [48,816] [_,_,_,_] [_,_] ?_
 refine kX h (fun v27 => ([(9, .sv (.int .i64 v27.1))], [(816, some (.ints .i64 v27.2))])) (fun v40 => ([(0, .any), (3, .any), (9, .any)], [(816, some (.ints .i64 v40)), (48, none)])) (kW hC []) (fun v27 s h => ?_) fun v40 h => ?_
 unfold Xc9 at h
 refine Xap (Xab ?_)
 iterate 2 refine kO hT hC ?_
 refine Vc.nil ?_
 refine kS h ?_ ?_ <;> intro b16 h
 refine kt b16 (Xag (Xaf (Xap (Xam (Xab ?_)))))
 iterate 2 refine kO hT hC ?_
 refine kC hC [(16, 928)] Tryz.call155 h (fun _ => Xsx) fun q41 h => ?_
 refine kC hC [(16, 944)] Tryz.call154 h (fun _ => Yhe) fun q42 h => ?_
 refine kO hT hC ?_
 refine Vc.nil (Xap (Xab ?_))
 refine kO hT hC ?_
 refine Vc.nil ?_
 refine kL [0,3,8,9,10,11] [48,816,944] [_,_,_,_,_,_] [_,_,_] ?_
 refine kX h (fun v45 => ([(11, .sv (.int .i64 v45.1))], [(944, some (.ints .i64 v45.2))])) (fun v48 => ([(11, .any)], [(944, some (.ints .i64 v48))])) (kW hC []) (fun v45 s h => ?_) fun v48 h => ?_
 unfold Xda at h
 refine Xap (Xab ?_)
 iterate 2 refine kO hT hC ?_
 refine Vc.nil ?_
 refine kS h ?_ ?_ <;> intro b19 h
 refine kt b19 (Xag (Xaf (Xap (Xam ?_))))
 refine Xcn hm ?_
 iterate 4 refine kO hT hC ?_
 iterate 2 refine kQ hT hC h fun h => ?_
 iterate 3 refine kO hT hC ?_
 refine kC hC [] Tryz.call156 h (fun _ => Xr9) fun q49 h => ?_
 iterate 2 refine kQ hT hC h fun h => ?_
 refine kD (Xan (Xaf (Xac ?_)))
 iterate 3 refine kO hT hC ?_
 exact Vc.nil kG
 exact kf b19 (Xao (Xaz ku))
 refine Xaf (Xab ?_)
 refine kO hT hC ?_
 refine kC hC [(16, 1232)] Tryz.call151 h (fun _ => Xks) fun q51 h => ?_
 iterate 5 refine kO hT hC ?_
 refine Vc.nil (Xac ?_)
 iterate 2 refine kO hT hC ?_
 refine kT hT hC h fun h => ?_
 refine kO hT hC ?_
 refine Vc.nil (Xan (Xaf (Xac ?_)))
 iterate 3 refine kO hT hC ?_
 refine Vc.nil ?_
 obtain rfl := kj h
 exact Xs2 (kW hC [(816, 1312)])
 exact kf b16 (Xao (Xaz ku))
 refine Xaf (Xab ?_)
 iterate 3 refine kO hT hC ?_
 refine Vc.nil (Xah ?_)
 obtain rfl := kj h
 exact Xb2 (τ := ⟨[(4, .own 16), (5, .sv (.bool true))], [(16, some (.ints .i64 v40))]⟩) (kW hC [(16, 816)]) rfl ⟨rfl, trivial⟩
def Xs0 (r : Xba) : AV := .agg [.sv (.int .i64 r.Kind), .sv (.int .i64 r.Mode), .sv (.int .i64 r.Dx), .sv (.int .i64 r.Dy), .own 16]
def Xsz (r : Xba) : Xa2 := [(16, .ints .i64 r.Levels)]
theorem Xut {p0 p1 p2 p3 p4 p5 p6 r} (h : Xgf p0 p1 p2 p3 p4 p5 p6 = some r) : AC Tryz.prog 55 [.agg [.sv (.int .i64 p0.Wide), .sv (.int .i64 p0.High), .sv (.str p0.Dots)], .agg [.sv (.int .i64 p1.Wide), .sv (.int .i64 p1.High), .sv (.str p1.Dots)], .sv (.ints .i64 p2), .sv (.int .i64 p3), .sv (.int .i64 p4), .agg [.sv (.bool p5.Key), .sv (.int .i64 p5.Qp), .sv (.bool p5.Large), .sv (.bool p5.Exact)], .sv (.int .i64 p6)] [] (Xs0 r) (Xsz r) := by
 refine Xae hT Tryz.func55 rfl fun C hC => ?_
 unfold Xgf at h
 refine Xab ?_
 iterate 4 refine kO hT hC ?_
 refine Vc.nil (Xap ?_)
 refine kL [2,3,4,6,7,8,12,14] [112,128,192,224] [_,_,_,_,_,_,_,_] [_,_,_,_] ?_
 refine kA h (fun v1 => ([(37, .sv (.bool v1))], [])) (fun v1 h => ?_) fun v1 h => ?_
 refine Xac ?_
 iterate 4 refine kO hT hC ?_
 refine kS h ?_ ?_ <;> intro b1 h
 iterate 7 refine kF hC (kn b1) ?_
 refine kP hC false (kn b1) ?_
 exact Vc.nil kM
 iterate 4 refine kI hT hC (kn b1) ?_
 refine kE hC (kn b1) [(16, 544)] Tryz.call99 h (fun _ => Xet) fun q2 h => ?_
 refine kE hC (kn b1) [(16, 560)] Tryz.call98 h (fun _ => Xk6) fun q3 h => ?_
 refine kE hC (kn b1) [] Tryz.call97 h (fun _ => Xoq) fun q4 h => ?_
 refine kP hC true (kn b1) ?_
 exact Vc.nil kM
 refine kS h ?_ ?_ <;> intro b2 h
 refine kt b2 (Xab ?_)
 iterate 2 refine kO hT hC ?_
 refine Vc.nil (Xah (Xas ?_))
 obtain rfl := kj h
 refine Xb2 (τ := ⟨[(14, .ptr 2000000 0)], [(16, some (.ints .i64 [])), (2000000, some (.box [.sv (.int .i64 0), .sv (.int .i64 0), .sv (.int .i64 0), .sv (.int .i64 0), .own 16]))]⟩) ?_ rfl ⟨rfl, trivial⟩
 refine Xs1 hC 224 4 1793 (.ints .i64 []) rfl rfl rfl rfl rfl trivial ?_
 apply Xeh hC [(16, 1793), (2000000, 224)]
 exact co
 rfl
 decide
 rfl
 refine kf b2 (Xag (Xaf (Xab ?_)))
 iterate 3 refine kO hT hC ?_
 refine kC hC [(16, 688), (17, 689)] Tryz.call100 h (fun _ => Xnu) fun q5 h => ?_
 iterate 6 refine kO hT hC ?_
 refine kN ?_
 iterate 2 refine kO hT hC ?_
 refine kC hC [] Tryz.call101 h (fun _ => Xtp) fun q6 h => ?_
 iterate 5 refine kO hT hC ?_
 refine Vc.nil ?_
 refine kL [2,3,4,6,8,12,14,15,17,18] [128,192,224,240,688,689] [_,_,_,_,_,_,_,_,_,_] [_,_,_,_,_,_] ?_
 refine Yen h (fun (v7 : Unit) => ([(3, .any), (4, .any), (6, .any), (8, .any), (18, .any)], [(128, none)])) (fun v7 h => ?_) (fun h => ?_)
 refine Xdn hm ?_
 iterate 3 refine kO hT hC ?_
 refine kC hC [(16, 1632)] Tryz.call104 h (fun _ => Xkm) fun q14 h => ?_
 refine kC hC [(16, 1648)] Tryz.call98 h (fun _ => Xk6) fun q15 h => ?_
 refine kO hT hC ?_
 refine kC hC [(16, 1680)] Tryz.call103 h (fun _ => Xmz) fun q16 h => ?_
 iterate 5 refine kO hT hC ?_
 refine kD (Xab ?_)
 iterate 4 refine kO hT hC ?_
 refine Vc.nil (Xah ?_)
 obtain rfl := kj h
 exact Xb2 (τ := ⟨[(14, .ptr 2000000 0)], [(16, some (.ints .i64 q16.1)), (2000000, some (.box [.sv (.int .i64 2), .sv (.int .i64 q6.1), .sv (.int .i64 0), .sv (.int .i64 0), .own 16]))]⟩) (kW hC [(16, 1680), (2000000, 224)]) rfl ⟨rfl, trivial⟩
 refine Xab ?_
 iterate 3 refine kO hT hC ?_
 refine Vc.nil ?_
 refine kS h ?_ ?_ <;> intro b3 h
 refine kt b3 (Xab ?_)
 iterate 5 refine kO hT hC ?_
 refine kC hC [] Tryz.call102 h (fun _ => Xvm) fun q8 h => ?_
 iterate 7 refine kO hT hC ?_
 refine kN ?_
 iterate 3 refine kO hT hC ?_
 refine Vc.nil ?_
 refine kS h ?_ ?_ <;> intro b4 h
 refine kt b4 ?_
 refine Xdn hm ?_
 iterate 8 refine kO hT hC ?_
 refine kC hC [(16, 1232)] Tryz.call99 h (fun _ => Xet) fun q9 h => ?_
 refine kC hC [(16, 1248)] Tryz.call98 h (fun _ => Xk6) fun q10 h => ?_
 refine kO hT hC ?_
 refine kC hC [(16, 1280)] Tryz.call103 h (fun _ => Xmz) fun q11 h => ?_
 iterate 5 refine kO hT hC ?_
 refine kD (Xap ?_)
 refine kL [14,19,20,22] [224,1280] [_,_,_,_] [_,_] ?_
 refine kA h (fun v12 => ([(92, .sv (.bool v12))], [])) (fun v12 h => ?_) fun v12 h => ?_
 refine Xac ?_
 iterate 3 refine kO hT hC ?_
 refine kS h ?_ ?_ <;> intro b5 h
 iterate 2 refine kI hT hC b5 ?_
 refine kP hC true b5 ?_
 refine kO hT hC ?_
 refine kS h ?_ ?_ <;> intro b6 h
 refine kI hT hC b6 ?_
 refine kE hC b6 [] Tryz.call97 h (fun _ => Xoq) fun q13 h => ?_
 refine kP hC true b6 ?_
 exact Vc.nil kM
 iterate 2 refine kF hC b6 ?_
 refine kP hC false b6 ?_
 exact Vc.nil kM
 iterate 2 refine kF hC b5 ?_
 refine kP hC false b5 ?_
 refine kO hT hC ?_
 iterate 2 refine kF hC rfl ?_
 refine kO hT hC ?_
 exact Vc.nil kM
 refine kS h ?_ ?_ <;> intro b7 h
 refine kt b7 (Xab ?_)
 iterate 2 refine kO hT hC ?_
 refine Vc.nil (Xah (Xas (Ypu ?_)))
 obtain rfl := kj h
 refine Xb2 (τ := ⟨[(14, .ptr 2000000 0)], [(16, some (.ints .i64 [])), (2000000, some (.box [.sv (.int .i64 0), .sv (.int .i64 0), .sv (.int .i64 0), .sv (.int .i64 0), .own 16]))]⟩) ?_ rfl ⟨rfl, trivial⟩
 refine Xs1 hC 224 4 1794 (.ints .i64 []) rfl rfl rfl rfl rfl trivial ?_
 apply Xeh hC [(16, 1794), (2000000, 224)]
 exact co
 rfl
 decide
 rfl
 refine kf b7 (Xag (Xaf (Xab ?_)))
 iterate 5 refine kO hT hC ?_
 refine Vc.nil (Xah (Ypu ?_))
 obtain rfl := kj h
 exact Xb2 (τ := ⟨[(14, .ptr 2000000 0)], [(16, some (.ints .i64 q11.1)), (2000000, some (.box [.sv (.int .i64 1), .sv (.int .i64 0), .sv (.int .i64 q8.1), .sv (.int .i64 q8.2.1), .own 16]))]⟩) (kW hC [(16, 1280), (2000000, 224)]) rfl ⟨rfl, trivial⟩
 refine kf b4 (Xag ?_)
 exact Yd6 () h (kW hC [])
 refine kf b3 (Xag ?_)
 exact Yd6 () h (kW hC [])
def Xsk (r : (Xba × (List Int) × Bool)) : AV := .tup [.agg [.sv (.int .i64 r.1.Kind), .sv (.int .i64 r.1.Mode), .sv (.int .i64 r.1.Dx), .sv (.int .i64 r.1.Dy), .own 16], .own 17, .sv (.bool r.2.2)]
def Xsj (r : (Xba × (List Int) × Bool)) : Xa2 := [(16, .ints .i64 r.1.Levels), (17, .ints .i64 r.2.1)]
theorem Xub {p0 p1 p2 p3 p4 p5 p6 r} (h : Xf6 p0 p1 p2 p3 p4 p5 p6 = some r) : AC Tryz.prog 16 [.agg [.sv (.int .i64 p0.Wide), .sv (.int .i64 p0.High), .sv (.str p0.Dots)], .agg [.sv (.int .i64 p1.Wide), .sv (.int .i64 p1.High), .sv (.str p1.Dots)], .sv (.ints .i64 p2), .sv (.int .i64 p3), .sv (.int .i64 p4), .agg [.sv (.bool p5.Key), .sv (.int .i64 p5.Qp), .sv (.bool p5.Large), .sv (.bool p5.Exact)], .sv (.int .i64 p6)] [] (Xsk r) (Xsj r) := by
 refine Xae hT Tryz.func16 rfl fun C hC => ?_
 unfold Xf6 at h
 refine Xab ?_
 iterate 6 refine kO hT hC ?_
 refine Vc.nil (Xap ?_)
 refine kL [2,3,4,6,7,8,12,14] [112,128,192,224] [_,_,_,_,_,_,_,_] [_,_,_,_] ?_
 refine kA h (fun v1 => ([(50, .sv (.bool v1))], [])) (fun v1 h => ?_) fun v1 h => ?_
 refine Xac ?_
 iterate 3 refine kO hT hC ?_
 refine kC hC [] Tryz.call50 h (fun _ => Xig) fun q2 h => ?_
 iterate 2 refine kO hT hC ?_
 refine kS h ?_ ?_ <;> intro b1 h
 refine kI hT hC (kn b1) ?_
 refine kE hC (kn b1) [] Tryz.call51 h (fun _ => Xif) fun q3 h => ?_
 refine kI hT hC (kn b1) ?_
 refine kP hC false (kn b1) ?_
 refine kO hT hC ?_
 refine kS h ?_ ?_ <;> intro b2 h
 refine kI hT hC (kn b2) ?_
 refine kE hC (kn b2) [] Tryz.call52 h (fun _ => Xfy) fun q4 h => ?_
 refine kI hT hC (kn b2) ?_
 refine kP hC false (kn b2) ?_
 refine kO hT hC ?_
 refine kS h ?_ ?_ <;> intro b3 h
 refine kI hT hC (kn b3) ?_
 refine kE hC (kn b3) [] Tryz.call53 h (fun _ => Xai) fun q5 h => ?_
 refine kI hT hC (kn b3) ?_
 refine kP hC false (kn b3) ?_
 refine kO hT hC ?_
 refine kS h ?_ ?_ <;> intro b4 h
 iterate 4 refine kI hT hC (kn b4) ?_
 refine kS h ?_ ?_ <;> intro b5 h
 iterate 4 refine kF hC (kn b5) ?_
 refine Xbz hC rfl rfl rfl rfl (kn b4) rfl rfl (b := false) (kn b5) rfl rfl rfl trivial ?_
 refine kP hC false (kn b4) ?_
 exact Vc.nil kM
 iterate 2 refine kI hT hC (kn b5) ?_
 refine kE hC (kn b5) [] Tryz.call54 h (fun _ => Xoo) fun q6 h => ?_
 refine kI hT hC (kn b5) ?_
 refine Xbz hC rfl rfl rfl rfl (kn b4) rfl rfl (b := true) (kn b5) rfl rfl rfl trivial ?_
 refine kP hC false (kn b4) ?_
 exact Vc.nil kM
 iterate 4 refine kF hC (kn b4) ?_
 iterate 4 refine Xhk hC rfl rfl rfl rfl rfl rfl ?_
 refine kF hC (kn b4) ?_
 refine kP hC true (kn b4) ?_
 exact Vc.nil kM
 iterate 3 refine kF hC (kn b3) ?_
 refine kP hC true (kn b3) ?_
 refine kO hT hC ?_
 iterate 4 refine kF hC rfl ?_
 iterate 4 refine Xhk hC rfl rfl rfl rfl rfl rfl ?_
 refine kF hC rfl ?_
 refine kO hT hC ?_
 exact Vc.nil kM
 iterate 3 refine kF hC (kn b2) ?_
 refine kP hC true (kn b2) ?_
 refine kO hT hC ?_
 iterate 3 refine kF hC rfl ?_
 iterate 2 refine kO hT hC ?_
 iterate 4 refine kF hC rfl ?_
 iterate 4 refine Xhk hC rfl rfl rfl rfl rfl rfl ?_
 refine kF hC rfl ?_
 refine kO hT hC ?_
 exact Vc.nil kM
 iterate 3 refine kF hC (kn b1) ?_
 refine kP hC true (kn b1) ?_
 refine kO hT hC ?_
 iterate 3 refine kF hC rfl ?_
 iterate 2 refine kO hT hC ?_
 iterate 3 refine kF hC rfl ?_
 iterate 2 refine kO hT hC ?_
 iterate 4 refine kF hC rfl ?_
 iterate 4 refine Xhk hC rfl rfl rfl rfl rfl rfl ?_
 refine kF hC rfl ?_
 refine kO hT hC ?_
 exact Vc.nil kM
 refine kS h ?_ ?_ <;> intro b6 h
 refine kt b6 (Xab ?_)
 iterate 5 refine kO hT hC ?_
 refine Vc.nil (Xah (Xas ?_))
 obtain rfl := kj h
 refine Xb2 (τ := ⟨[(14, .ptr 2000000 0), (15, .own 17), (16, .sv (.bool false))], [(16, some (.ints .i64 [])), (17, some (.ints .i64 ([] : List Int))), (2000000, some (.box [.sv (.int .i64 0), .sv (.int .i64 0), .sv (.int .i64 0), .sv (.int .i64 0), .own 16]))]⟩) ?_ rfl ⟨rfl, rfl, trivial⟩
 refine Xs1 hC 224 4 1185 (.ints .i64 []) rfl rfl rfl rfl rfl trivial ?_
 apply Xeh hC [(16, 1185), (17, 832), (2000000, 224)]
 exact co
 rfl
 decide
 rfl
 refine kf b6 (Xag (Xaf (Xab ?_)))
 iterate 7 refine kO hT hC ?_
 refine kC hC [(16, 960)] Tryz.call55 h (fun _ => Xut) fun q7 h => ?_
 iterate 2 refine kO hT hC ?_
 refine kN ?_
 iterate 6 refine kO hT hC ?_
 refine kC hC [(16, 1088)] Tryz.call56 h (fun _ => Xsh) fun q8 h => ?_
 iterate 5 refine kO hT hC ?_
 refine kN ?_
 iterate 5 refine kO hT hC ?_
 refine Vc.nil (Xah ?_)
 obtain rfl := kj h
 exact Xb2 (τ := ⟨[(14, .ptr 2000000 0), (15, .own 17), (16, .sv (.bool true))], [(16, some (.ints .i64 q7.Levels)), (17, some (.ints .i64 q8.1)), (2000000, some (.box [.sv (.int .i64 q7.Kind), .sv (.int .i64 q7.Mode), .sv (.int .i64 q7.Dx), .sv (.int .i64 q7.Dy), .own 16]))]⟩) (kW hC [(16, 960), (17, 1088), (2000000, 224)]) rfl ⟨rfl, rfl, trivial⟩
def Ygp (r : Bool) : AV := .sv (.bool r)
def Ygo (r : Bool) : Xa2 := []
theorem Yh5 {p0 r} (h : Xx6 p0 = some r) : AC Tryz.prog 26 [.sv (.ints .u8 p0)] [] (Ygp r) (Ygo r) := by
 refine Xae hT Tryz.func26 rfl fun C hC => ?_
 unfold Xx6 at h
 refine Xab ?_
 refine kO hT hC ?_
 refine kN ?_
 iterate 4 refine kO hT hC ?_
 exact Vc.nil (Xah kR)
def Yaw (r : Xaw) : AV := .ptr 16 0
def Yav (r : Xaw) : Xa2 := [(16, .box [.sv (.ints .u8 r.b_), .sv (.int .i64 r.i_), .sv (.int .i64 r.h_)])]
theorem Yc5 {p0 r} (h : Xkv p0 = some r) : AC Tryz.prog 72 [.sv (.ints .u8 p0)] [] (Yaw r) (Yav r) := by
 refine Xae hT Tryz.func72 rfl fun C hC => ?_
 unfold Xkv at h
 refine Xab ?_
 refine kO hT hC ?_
 refine kN ?_
 iterate 4 refine kO hT hC ?_
 refine Vc.nil (Xap (Xab ?_))
 refine kO hT hC ?_
 refine Vc.nil ?_
 refine kL [0,3,4] [] [_,_,_] [] ?_
 refine kX h (fun v3 => ([(3, .sv (.int .i64 v3.1)), (4, .sv (.int .i64 v3.2))], [])) (fun v6 => ([(3, .sv (.int .i64 v6)), (4, .any)], [])) (kW hC []) (fun v3 s h => ?_) fun v6 h => ?_
 unfold Xja at h
 refine Xap ?_
 refine kL [0,3,4] [] [_,_,_] [] ?_
 refine kA h (fun v7 => ([(15, .sv (.bool v7))], [])) (fun v7 h => ?_) fun v7 h => ?_
 refine Xac ?_
 iterate 5 refine kO hT hC ?_
 refine kS h ?_ ?_ <;> intro b5 h
 iterate 2 refine kI hT hC b5 ?_
 refine kP hC true b5 ?_
 exact Vc.nil kM
 iterate 2 refine kF hC b5 ?_
 refine kP hC false b5 ?_
 exact Vc.nil kM
 refine kS h ?_ ?_ <;> intro b6 h
 refine kt b6 (Xag (Xaf (Xap (Xam (Xac ?_)))))
 iterate 4 refine kO hT hC ?_
 refine kQ hT hC h fun h => ?_
 iterate 6 refine kO hT hC ?_
 refine Vc.nil (Xan (Xaf (Xac ?_)))
 iterate 3 refine kO hT hC ?_
 exact Vc.nil kG
 exact kf b6 (Xao (Xaz ku))
 refine Xaf (Xab ?_)
 iterate 5 refine kO hT hC ?_
 refine Vc.nil (Xah ?_)
 obtain rfl := kj h
 exact Xb2 (τ := ⟨[(2, .ptr 16 0)], [(16, some (.box [.sv (.ints .u8 p0), .sv (.int .i64 0), .sv (.int .i64 v6)]))]⟩) (kW hC [(16, 496)]) rfl ⟨rfl, trivial⟩
def Xwn (r : (Int × Xaw)) : AV := .sv (.int .i64 r.1)
def Xwm (r : (Int × Xaw)) : Xa2 := [(0, .box [.sv (.ints .u8 r.2.b_), .sv (.int .i64 r.2.i_), .sv (.int .i64 r.2.h_)])]
theorem Xby {p0 r} (h : Xbk p0 = some r) : AC Tryz.prog 73 [.ptr 0 0] [(0, .box [.sv (.ints .u8 p0.b_), .sv (.int .i64 p0.i_), .sv (.int .i64 p0.h_)])] (Xwn r) (Xwm r) := by
 refine Xae hT Tryz.func73 rfl fun C hC => ?_
 unfold Xbk at h
 refine Xab ?_
 refine kO hT hC ?_
 refine kN ?_
 iterate 10 refine kO hT hC ?_
 refine Vc.nil ?_
 refine Xdn hm ?_
 iterate 4 refine kO hT hC ?_
 refine kQ hT hC h fun h => ?_
 iterate 4 refine kO hT hC ?_
 refine kQ hT hC h fun h => ?_
 iterate 3 refine kO hT hC ?_
 refine kD ?_
 refine kL [0,3] [0] [_,_] [_] ?_
 refine kA h (fun v1 => ([(3, .sv (.int .i64 v1.1)), (0, .any)], [(0, some (.box [.sv (.ints .u8 p0.b_), .sv (.int .i64 v1.2), .sv (.int .i64 (Xaa .i64 ((Xaa .i64 (p0.h_ * 6364136223846793005)) + 1442695040888963407)))]))])) (fun v1 h => ?_) fun v1 h => ?_
 refine Xdn hm ?_
 iterate 10 refine kO hT hC ?_
 refine kD ?_
 refine kS h ?_ ?_ <;> intro b1 h
 refine kt b1 ?_
 refine Xdn hm ?_
 iterate 9 refine kO hT hC ?_
 refine kQ hT hC h fun h => ?_
 iterate 5 refine kO hT hC ?_
 refine kD (Xac ?_)
 iterate 9 refine kO hT hC ?_
 exact Vc.nil kM
 exact kf b1 (Xag kM)
 refine Xab ?_
 iterate 2 refine kO hT hC ?_
 refine Vc.nil (Xah ?_)
 obtain rfl := kj h
 exact Xb2 (Xgt.refl _) rfl ⟨rfl, trivial⟩
def Xui (r : (Int × Xaw)) : AV := .sv (.int .i64 r.1)
def Xuh (r : (Int × Xaw)) : Xa2 := [(0, .box [.sv (.ints .u8 r.2.b_), .sv (.int .i64 r.2.i_), .sv (.int .i64 r.2.h_)])]
theorem Xaq {p0 p1 r} (h : Xat p0 p1 = some r) : AC Tryz.prog 74 [.ptr 0 0, .sv (.int .i64 p1)] [(0, .box [.sv (.ints .u8 p0.b_), .sv (.int .i64 p0.i_), .sv (.int .i64 p0.h_)])] (Xui r) (Xuh r) := by
 refine Xae hT Tryz.func74 rfl fun C hC => ?_
 unfold Xat at h
 refine Xab ?_
 refine kO hT hC ?_
 refine Vc.nil (Xap (Xab ?_))
 iterate 2 refine kO hT hC ?_
 refine Vc.nil ?_
 refine kS h ?_ ?_ <;> intro b1 h
 refine kt b1 (Xab ?_)
 refine kO hT hC ?_
 refine Vc.nil (Xah (Xas ?_))
 obtain rfl := kj h
 exact Xb2 (Xgt.refl _) rfl ⟨rfl, trivial⟩
 refine kf b1 (Xag (Xaf (Xap (Xab ?_))))
 iterate 2 refine kO hT hC ?_
 refine Vc.nil ?_
 refine kS h ?_ ?_ <;> intro b2 h
 refine kt b2 (Xab ?_)
 refine kO hT hC ?_
 refine kC hC [(0, 0)] Tryz.call73 h (fun _ => Xby) fun q1 h => ?_
 refine kO hT hC ?_
 refine kQ hT hC h fun h => ?_
 refine kO hT hC ?_
 refine Vc.nil (Xah (Xas ?_))
 obtain rfl := kj h
 exact Xb2 (Xgt.refl _) rfl ⟨rfl, trivial⟩
 refine kf b2 (Xag (Xaf (Xab ?_)))
 refine kO hT hC ?_
 refine kC hC [(0, 0)] Tryz.call73 h (fun _ => Xby) fun q2 h => ?_
 refine kO hT hC ?_
 refine kN ?_
 refine kO hT hC ?_
 refine kC hC [(0, 0)] Tryz.call73 h (fun _ => Xby) fun q3 h => ?_
 refine kO hT hC ?_
 refine kN ?_
 refine kO hT hC ?_
 refine kC hC [(0, 0)] Tryz.call73 h (fun _ => Xby) fun q4 h => ?_
 refine kO hT hC ?_
 refine kN ?_
 refine kO hT hC ?_
 refine kC hC [(0, 0)] Tryz.call73 h (fun _ => Xby) fun q5 h => ?_
 refine kO hT hC ?_
 refine kN ?_
 iterate 11 refine kO hT hC ?_
 refine kQ hT hC h fun h => ?_
 refine kO hT hC ?_
 refine Vc.nil (Xah ?_)
 obtain rfl := kj h
 exact Xb2 (Xgt.refl _) rfl ⟨rfl, trivial⟩
def Xqw (r : (Int × Xaw)) : AV := .sv (.int .i64 r.1)
def Xqv (r : (Int × Xaw)) : Xa2 := [(0, .box [.sv (.ints .u8 r.2.b_), .sv (.int .i64 r.2.i_), .sv (.int .i64 r.2.h_)])]
theorem Xh2 {p0 p1 r} (h : Xck p0 p1 = some r) : AC Tryz.prog 131 [.ptr 0 0, .sv (.ints .i64 p1)] [(0, .box [.sv (.ints .u8 p0.b_), .sv (.int .i64 p0.i_), .sv (.int .i64 p0.h_)])] (Xqw r) (Xqv r) := by
 refine Xae hT Tryz.func131 rfl fun C hC => ?_
 unfold Xck at h
 refine Xab ?_
 refine kO hT hC ?_
 refine kN ?_
 iterate 4 refine kO hT hC ?_
 refine kC hC [(0, 0)] Tryz.call74 h (fun _ => Xaq) fun q1 h => ?_
 refine kQ hT hC h fun h => ?_
 iterate 2 refine kO hT hC ?_
 refine Vc.nil (Xah ?_)
 obtain rfl := kj h
 exact Xb2 (Xgt.refl _) rfl ⟨rfl, trivial⟩
def Xwr (r : (Bool × Xaw)) : AV := .sv (.bool r.1)
def Xwq (r : (Bool × Xaw)) : Xa2 := [(0, .box [.sv (.ints .u8 r.2.b_), .sv (.int .i64 r.2.i_), .sv (.int .i64 r.2.h_)])]
theorem Xdf {p0 p1 r} (h : Xb8 p0 p1 = some r) : AC Tryz.prog 127 [.ptr 0 0, .sv (.int .i64 p1)] [(0, .box [.sv (.ints .u8 p0.b_), .sv (.int .i64 p0.i_), .sv (.int .i64 p0.h_)])] (Xwr r) (Xwq r) := by
 refine Xae hT Tryz.func127 rfl fun C hC => ?_
 unfold Xb8 at h
 refine Xab ?_
 refine kO hT hC ?_
 refine kN ?_
 iterate 2 refine kO hT hC ?_
 refine kC hC [(0, 0)] Tryz.call74 h (fun _ => Xaq) fun q1 h => ?_
 iterate 2 refine kO hT hC ?_
 refine Vc.nil (Xah ?_)
 obtain rfl := kj h
 exact Xb2 (Xgt.refl _) rfl ⟨rfl, trivial⟩
def Xwv (r : (ByteArray × Xaw)) : AV := .sv (.str r.1)
def Xwu (r : (ByteArray × Xaw)) : Xa2 := [(0, .box [.sv (.ints .u8 r.2.b_), .sv (.int .i64 r.2.i_), .sv (.int .i64 r.2.h_)])]
theorem Yaz {p0 r} (h : Xjl p0 = some r) : AC Tryz.prog 180 [.ptr 0 0] [(0, .box [.sv (.ints .u8 p0.b_), .sv (.int .i64 p0.i_), .sv (.int .i64 p0.h_)])] (Xwv r) (Xwu r) := by
 refine Xae hT Tryz.func180 rfl fun C hC => ?_
 unfold Xjl at h
 refine Xab ?_
 refine kO hT hC ?_
 refine kN ?_
 iterate 2 refine kO hT hC ?_
 refine Vc.nil (Xap (Xab ?_))
 refine kO hT hC ?_
 refine Vc.nil ?_
 refine kL [0,3,4] [0,80] [_,_,_] [_,_] ?_
 refine kX h (fun v4 => ([(4, .sv (.int .i64 v4.1))], [(0, some (.box [.sv (.ints .u8 v4.2.1), .sv (.int .i64 v4.2.2.1), .sv (.int .i64 v4.2.2.2.1)])), (80, some (.ints .u8 v4.2.2.2.2))])) (fun v8 => ([(4, .any)], [(0, some (.box [.sv (.ints .u8 v8.1), .sv (.int .i64 v8.2.1), .sv (.int .i64 v8.2.2.1)])), (80, some (.ints .u8 v8.2.2.2))])) (kW hC []) (fun v4 s h => ?_) fun v8 h => ?_
 unfold Xh7 at h
 refine Xap (Xab ?_)
 iterate 2 refine kO hT hC ?_
 refine kC hC [(0, 0)] Tryz.call74 h (fun _ => Xaq) fun q9 h => ?_
 refine kO hT hC ?_
 refine Vc.nil ?_
 refine kS h ?_ ?_ <;> intro b3 h
 refine kt b3 (Xag (Xaf (Xap (Xam (Xac ?_)))))
 iterate 2 refine kO hT hC ?_
 refine Ym4 hT hC rfl rfl rfl rfl trivial rfl ?_
 refine kC hC [(0, 0)] Tryz.call131 h (fun _ => Xh2) fun q10 h => ?_
 iterate 2 refine kO hT hC ?_
 refine kT hT hC h fun h => ?_
 refine kO hT hC ?_
 refine Vc.nil (Xan (Xaf (Xac ?_)))
 iterate 3 refine kO hT hC ?_
 refine Vc.nil ?_
 obtain rfl := kj h
 exact Xs2 (kW hC [(80, 288)])
 exact kf b3 (Xao (Xaz ku))
 refine Xaf ?_
 refine kL [0,3] [0,80] [_,_] [_,_] ?_
 refine kA h (fun v12 => ([(0, .any)], [(0, some (.box [.sv (.ints .u8 v12.2.1), .sv (.int .i64 v12.2.2.1), .sv (.int .i64 v12.2.2.2)])), (80, some (.ints .u8 v12.1))])) (fun v12 h => ?_) fun v12 h => ?_
 refine Xab ?_
 refine kO hT hC ?_
 refine kC hC [(0, 0)] Tryz.call127 h (fun _ => Xdf) fun q13 h => ?_
 refine kO hT hC ?_
 refine Vc.nil ?_
 refine kS h ?_ ?_ <;> intro b4 h
 refine kt b4 (Xac ?_)
 iterate 2 refine kO hT hC ?_
 refine kC hC [(0, 0)] Tryz.call74 h (fun _ => Xaq) fun q14 h => ?_
 iterate 3 refine kO hT hC ?_
 refine kT hT hC h fun h => ?_
 refine kO hT hC ?_
 refine Vc.nil ?_
 obtain rfl := kj h
 exact Xj4 (kW hC [(80, 448)])
 exact kf b4 (Xag kM)
 refine Xab ?_
 iterate 3 refine kO hT hC ?_
 refine Vc.nil (Xah ?_)
 obtain rfl := kj h
 exact Xb2 (Xgt.refl _) rfl ⟨rfl, trivial⟩
def Xum (r : ((List ByteArray) × Xaw)) : AV := .own 16
def Xul (r : ((List ByteArray) × Xaw)) : Xa2 := [(16, .row Xau r.1), (0, .box [.sv (.ints .u8 r.2.b_), .sv (.int .i64 r.2.i_), .sv (.int .i64 r.2.h_)])]
theorem Xww {p0 r} (h : Xh8 p0 = some r) : AC Tryz.prog 126 [.ptr 0 0] [(0, .box [.sv (.ints .u8 p0.b_), .sv (.int .i64 p0.i_), .sv (.int .i64 p0.h_)])] (Xum r) (Xul r) := by
 refine Xae hT Tryz.func126 rfl fun C hC => ?_
 unfold Xh8 at h
 refine Xab ?_
 refine kO hT hC ?_
 refine kN ?_
 iterate 2 refine kO hT hC ?_
 refine Vc.nil (Xap (Xab ?_))
 refine kO hT hC ?_
 refine Vc.nil ?_
 refine kL [0,3,4] [0,80] [_,_,_] [_,_] ?_
 refine kX h (fun v4 => ([(4, .sv (.int .i64 v4.1))], [(0, some (.box [.sv (.ints .u8 v4.2.1), .sv (.int .i64 v4.2.2.1), .sv (.int .i64 v4.2.2.2.1)])), (80, some (.row Xau v4.2.2.2.2))])) (fun v8 => ([(0, .any), (4, .any)], [(0, some (.box [.sv (.ints .u8 v8.2.1), .sv (.int .i64 v8.2.2.1), .sv (.int .i64 v8.2.2.2)])), (80, some (.row Xau v8.1))])) (kW hC []) (fun v4 s h => ?_) fun v8 h => ?_
 unfold Xgp at h
 refine Xap (Xab ?_)
 iterate 2 refine kO hT hC ?_
 refine kC hC [(0, 0)] Tryz.call74 h (fun _ => Xaq) fun q9 h => ?_
 refine kO hT hC ?_
 refine Vc.nil ?_
 refine kS h ?_ ?_ <;> intro b3 h
 refine kt b3 (Xag (Xaf (Xap (Xam (Xac ?_)))))
 iterate 2 refine kO hT hC ?_
 refine kC hC [(0, 0)] Tryz.call180 h (fun _ => Yaz) fun q10 h => ?_
 refine kO hT hC ?_
 obtain ⟨hq, h⟩ := Xbm h
 refine Yej hT hC rfl rfl rfl rfl ⟨fun _ _ => rfl, by rw [Xbs]; exact hq⟩ ?_
 rw [Xbs]
 refine kO hT hC ?_
 refine Vc.nil (Xan (Xaf (Xac ?_)))
 iterate 3 refine kO hT hC ?_
 refine Vc.nil ?_
 obtain rfl := kj h
 exact Xs2 (kW hC [(80, 256)])
 exact kf b3 (Xao (Xaz ku))
 refine Xaf (Xab ?_)
 iterate 2 refine kO hT hC ?_
 refine Vc.nil (Xah ?_)
 obtain rfl := kj h
 exact Xb2 (τ := ⟨[(2, .own 16)], [(16, some (.row Xau v8.1)), (0, some (.box [.sv (.ints .u8 v8.2.1), .sv (.int .i64 v8.2.2.1), .sv (.int .i64 v8.2.2.2)]))]⟩) (kW hC [(16, 80)]) rfl ⟨rfl, rfl, trivial⟩
def Xpg (r : (Par × Xaw)) : AV := .agg [.sv (.int .i64 r.1.Qp), .sv (.bool r.1.Large), .sv (.bool r.1.Exact), .sv (.bool r.1.Confined)]
def Xpf (r : (Par × Xaw)) : Xa2 := [(0, .box [.sv (.ints .u8 r.2.b_), .sv (.int .i64 r.2.i_), .sv (.int .i64 r.2.h_)])]
theorem Xqz {p0 r} (h : Xd4 p0 = some r) : AC Tryz.prog 182 [.ptr 0 0] [(0, .box [.sv (.ints .u8 p0.b_), .sv (.int .i64 p0.i_), .sv (.int .i64 p0.h_)])] (Xpg r) (Xpf r) := by
 refine Xae hT Tryz.func182 rfl fun C hC => ?_
 unfold Xd4 at h
 refine Xab ?_
 refine kO hT hC ?_
 refine kN ?_
 refine kO hT hC ?_
 refine kC hC [(0, 0)] Tryz.call74 h (fun _ => Xaq) fun q1 h => ?_
 refine kO hT hC ?_
 refine kC hC [(0, 0)] Tryz.call127 h (fun _ => Xdf) fun q2 h => ?_
 iterate 4 refine kO hT hC ?_
 refine Vc.nil ?_
 refine kL [0,2,3] [0,32,48] [_,_,_] [_,_,_] ?_
 refine kA h (fun v3 => ([(0, .any)], [(0, some (.box [.sv (.ints .u8 v3.2.2.1), .sv (.int .i64 v3.2.2.2.1), .sv (.int .i64 v3.2.2.2.2)])), (48, some (.box [.sv (.int .i64 q1.1), .sv (.bool v3.1), .sv (.bool v3.2.1), .sv (.bool (!q2.1))]))])) (fun v3 h => ?_) fun v3 h => ?_
 refine Xab ?_
 refine kO hT hC ?_
 refine kC hC [(0, 0)] Tryz.call74 h (fun _ => Xaq) fun q4 h => ?_
 refine Vc.nil (Xam (Xab ?_))
 iterate 2 refine kO hT hC ?_
 refine Vc.nil ?_
 refine kS h ?_ ?_ <;> intro b1 h
 refine kt b1 (Xac ?_)
 iterate 2 refine kO hT hC ?_
 exact Vc.nil (Xan kM)
 refine kf b1 (Xab ?_)
 iterate 2 refine kO hT hC ?_
 refine Vc.nil ?_
 refine kS h ?_ ?_ <;> intro b2 h
 refine kt b2 (Xac ?_)
 iterate 2 refine kO hT hC ?_
 exact Vc.nil (Xan kM)
 exact kf b2 (Xag (Xan kM))
 refine Xab ?_
 iterate 2 refine kO hT hC ?_
 refine Vc.nil (Xah ?_)
 obtain rfl := kj h
 exact Xb2 (Xgt.refl _) rfl ⟨rfl, trivial⟩
def Xuw (r : (Rate × Xaw)) : AV := .agg [.sv (.int .i64 r.1.Qp), .sv (.int .i64 r.1.Target), .sv (.int .i64 r.1.Debt)]
def Xuv (r : (Rate × Xaw)) : Xa2 := [(0, .box [.sv (.ints .u8 r.2.b_), .sv (.int .i64 r.2.i_), .sv (.int .i64 r.2.h_)])]
theorem Xxw {p0 r} (h : Xij p0 = some r) : AC Tryz.prog 183 [.ptr 0 0] [(0, .box [.sv (.ints .u8 p0.b_), .sv (.int .i64 p0.i_), .sv (.int .i64 p0.h_)])] (Xuw r) (Xuv r) := by
 refine Xae hT Tryz.func183 rfl fun C hC => ?_
 unfold Xij at h
 refine Xab ?_
 refine kO hT hC ?_
 refine kN ?_
 refine kO hT hC ?_
 refine kC hC [(0, 0)] Tryz.call74 h (fun _ => Xaq) fun q1 h => ?_
 iterate 2 refine kO hT hC ?_
 refine kN ?_
 refine kO hT hC ?_
 refine kC hC [(0, 0)] Tryz.call74 h (fun _ => Xaq) fun q2 h => ?_
 iterate 5 refine kO hT hC ?_
 refine kC hC [(0, 0)] Tryz.call74 h (fun _ => Xaq) fun q3 h => ?_
 iterate 5 refine kO hT hC ?_
 refine Vc.nil (Xah ?_)
 obtain rfl := kj h
 exact Xb2 (Xgt.refl _) rfl ⟨rfl, trivial⟩
def Xoe (r : Int) : AV := .sv (.int .i64 r)
def Xod (r : Int) : Xa2 := []
theorem Xjb {p0 r} (h : Xe8 p0 = some r) : AC Tryz.prog 222 [.sv (.ints .i64 p0)] [] (Xoe r) (Xod r) := by
 refine Xae hT Tryz.func222 rfl fun C hC => ?_
 unfold Xe8 at h
 refine Xab ?_
 refine kO hT hC ?_
 refine Vc.nil (Xap ?_)
 refine kL [0] [] [_] [] ?_
 refine kA h (fun v1 => ([(12, .sv (.bool v1))], [])) (fun v1 h => ?_) fun v1 h => ?_
 refine Xac ?_
 iterate 4 refine kO hT hC ?_
 refine kS h ?_ ?_ <;> intro b1 h
 iterate 3 refine kF hC b1 ?_
 refine kP hC true b1 ?_
 exact Vc.nil kM
 iterate 3 refine kI hT hC b1 ?_
 refine kP hC false b1 ?_
 exact Vc.nil kM
 refine kS h ?_ ?_ <;> intro b2 h
 refine kt b2 (Xab ?_)
 refine kO hT hC ?_
 exact Vc.nil (Xah (Xas kR))
 refine kf b2 (Xag (Xaf (Xab ?_)))
 refine kO hT hC ?_
 refine Vc.nil (Xap (Xab ?_))
 refine kO hT hC ?_
 refine Vc.nil ?_
 refine kL [0,3,4] [] [_,_,_] [] ?_
 obtain ⟨o9, hl, h⟩ := Xbl h
 refine Xgy (fun v4 => ([(3, .sv (.int .i64 v4.1)), (4, .sv (.int .i64 v4.2))], [])) (fun v7 => ([(3, .sv (.int .i64 v7)), (0, .any), (4, .any)], [])) (fun r => Xnc C T Tryz.f222.results.toList (Xoe r) (Xod r)) hl ?_ ?_ ?_ ?_
 try dsimp only
 apply Xeh hC []
 exact co
 rfl
 decide
 rfl
 intro v4 s hs
 have h := hs
 unfold Xeb at h
 refine Xap (Xab ?_)
 iterate 4 refine kO hT hC ?_
 refine Vc.nil ?_
 refine kS h ?_ ?_ <;> intro b7 h
 refine kt b7 (Xag (Xaf (Xap (Xam (Xap (Xab ?_))))))
 iterate 2 refine kO hT hC ?_
 refine kQ hT hC h fun h => ?_
 refine kO hT hC ?_
 refine kC hC [] Tryz.call53 h (fun _ => Xai) fun q8 h => ?_
 refine kO hT hC ?_
 refine Vc.nil ?_
 refine kS h ?_ ?_ <;> intro b8 h
 refine kt b8 (Xab ?_)
 refine kO hT hC ?_
 refine Vc.nil (Xah (Xas (Xgu (Xas ?_))))
 obtain rfl := kj h
 refine Xpa (Xo9 ?_)
 exact Xb2 (Xgt.refl _) rfl trivial
 refine kf b8 (Xag (Xaf (Xac ?_)))
 iterate 3 refine kO hT hC ?_
 refine kQ hT hC h fun h => ?_
 iterate 3 refine kO hT hC ?_
 refine Vc.nil (Xan (Xaf (Xac ?_)))
 iterate 3 refine kO hT hC ?_
 exact Vc.nil kG
 exact kf b7 (Xao (Xaz kb))
 intro v7 e
 subst e
 refine Xaf (Xab ?_)
 iterate 2 refine kO hT hC ?_
 exact Vc.nil (Xah kR)
 intro r' σ' e hE
 subst e
 obtain rfl := kj h
 refine Xas ?_
 exact hE
def Xsm (r : Int) : AV := .sv (.int .i64 r)
def Xsl (r : Int) : Xa2 := []
theorem Xuf {p0 r} (h : Xf7 p0 = some r) : AC Tryz.prog 244 [.agg [.sv (.int .i64 p0.Level), .sv (.int .i64 p0.Bits), .sv (.ints .i64 p0.Cols), .sv (.ints .i64 p0.Rows)]] [] (Xsm r) (Xsl r) := by
 refine Xae hT Tryz.func244 rfl fun C hC => ?_
 unfold Xf7 at h
 refine Xab ?_
 iterate 2 refine kO hT hC ?_
 refine Vc.nil ?_
 refine Xdn hm ?_
 iterate 2 refine kO hT hC ?_
 refine kC hC [] Tryz.call222 h (fun _ => Xjb) fun q1 h => ?_
 iterate 2 refine kO hT hC ?_
 refine kC hC [] Tryz.call222 h (fun _ => Xjb) fun q2 h => ?_
 iterate 2 refine kO hT hC ?_
 exact kD (Xah kR)
def Xn2 (r : Int) : AV := .sv (.int .i64 r)
def Xn1 (r : Int) : Xa2 := []
theorem Xpd {p0 r} (h : Xc7 p0 = some r) : AC Tryz.prog 245 [.sv (.int .i64 p0)] [] (Xn2 r) (Xn1 r) := by
 refine Xae hT Tryz.func245 rfl fun C hC => ?_
 unfold Xc7 at h
 refine Xab ?_
 refine kO hT hC ?_
 refine Vc.nil (Xap (Xab ?_))
 refine kO hT hC ?_
 refine Vc.nil (Xam (Xab ?_))
 iterate 2 refine kO hT hC ?_
 refine Vc.nil ?_
 refine kS h ?_ ?_ <;> intro b1 h
 refine kt b1 (Xab ?_)
 refine kO hT hC ?_
 exact Vc.nil (Xah (Xgu (Xas kR)))
 refine kf b1 (Xab ?_)
 iterate 2 refine kO hT hC ?_
 refine Vc.nil ?_
 refine kS h ?_ ?_ <;> intro b2 h
 refine kt b2 (Xab ?_)
 refine kO hT hC ?_
 exact Vc.nil (Xah (Xgu (Xas kR)))
 refine kf b2 (Xab ?_)
 iterate 2 refine kO hT hC ?_
 refine Vc.nil ?_
 refine kS h ?_ ?_ <;> intro b3 h
 refine kt b3 (Xab ?_)
 refine kO hT hC ?_
 exact Vc.nil (Xah (Xgu (Xas kR)))
 refine kf b3 (Xag (Xan (Xaf (Xab ?_))))
 refine kO hT hC ?_
 exact Vc.nil (Xah kR)
def Ycy (r : Bool) : AV := .sv (.bool r)
def Ycx (r : Bool) : Xa2 := []
theorem Xmv {p0 r} (h : Xiw p0 = some r) : AC Tryz.prog 221 [.agg [.sv (.int .i64 p0.Level), .sv (.int .i64 p0.Bits), .sv (.ints .i64 p0.Cols), .sv (.ints .i64 p0.Rows)]] [] (Ycy r) (Ycx r) := by
 refine Xae hT Tryz.func221 rfl fun C hC => ?_
 unfold Xiw at h
 refine Xab ?_
 iterate 2 refine kO hT hC ?_
 refine Vc.nil ?_
 refine kL [1,2] [16] [_,_] [_] ?_
 refine kA h (fun v1 => ([(2, .sv (.bool v1)), (1, .any)], [(16, none)])) (fun v1 h => ?_) fun v1 h => ?_
 refine Xcn hm ?_
 refine kO hT hC ?_
 refine kC hC [] Tryz.call244 h (fun _ => Xuf) fun q2 h => ?_
 iterate 2 refine kO hT hC ?_
 refine kC hC [] Tryz.call245 h (fun _ => Xpd) fun q3 h => ?_
 refine kC hC [] Tryz.call53 h (fun _ => Xai) fun q4 h => ?_
 refine kO hT hC ?_
 refine kS h ?_ ?_ <;> intro b1 h
 iterate 2 refine kI hT hC b1 ?_
 refine kE hC b1 [] Tryz.call53 h (fun _ => Xai) fun q5 h => ?_
 refine kP hC true b1 ?_
 refine kO hT hC ?_
 exact kD kM
 iterate 3 refine kF hC b1 ?_
 refine kP hC false b1 ?_
 refine kO hT hC ?_
 exact kD kM
 exact Xah kR
def Xmb (r : Int) : AV := .sv (.int .i64 r)
def Xma (r : Int) : Xa2 := []
theorem Xv4 {p0 p1 r} (h : Xhy p0 p1 = some r) : AC Tryz.prog 219 [.sv (.ints .i64 p0), .sv (.ints .i64 p1)] [] (Xmb r) (Xma r) := by
 refine Xae hT Tryz.func219 rfl fun C hC => ?_
 unfold Xhy at h
 refine Xab ?_
 refine kO hT hC ?_
 refine Vc.nil (Xap (Xab ?_))
 refine kO hT hC ?_
 refine Vc.nil ?_
 refine kL [0,1,5] [] [_,_,_] [] ?_
 obtain ⟨o8, hl, h⟩ := Xbl h
 refine Xgy (fun v3 => ([(5, .sv (.int .i64 v3))], [])) (fun v6 => ([(0, .any), (1, .any), (5, .any)], [])) (fun r => Xnc C T Tryz.f219.results.toList (Xmb r) (Xma r)) hl ?_ ?_ ?_ ?_
 apply Xeh hC []
 exact co
 rfl
 decide
 rfl
 intro v3 s hs
 have h := hs
 unfold Xgk at h
 refine Xap (Xab ?_)
 iterate 2 refine kO hT hC ?_
 refine Vc.nil ?_
 refine kS h ?_ ?_ <;> intro b5 h
 refine kt b5 (Xag (Xaf (Xap (Xam (Xab ?_)))))
 iterate 4 refine kO hT hC ?_
 refine kC hC [] Tryz.call221 h (fun _ => Xmv) fun q7 h => ?_
 refine Vc.nil ?_
 refine kS h ?_ ?_ <;> intro b6 h
 refine kt b6 (Xab ?_)
 iterate 2 refine kO hT hC ?_
 refine Vc.nil (Xah (Xgu (Xas ?_)))
 obtain rfl := kj h
 refine Xpa (Xo9 ?_)
 exact Xb2 (Xgt.refl _) rfl trivial
 refine kf b6 (Xag (Xan (Xaf (Xac ?_))))
 iterate 3 refine kO hT hC ?_
 exact Vc.nil kG
 exact kf b5 (Xao (Xaz kb))
 intro v6 e
 subst e
 refine Xaf (Xab ?_)
 refine kO hT hC ?_
 exact Vc.nil (Xah kR)
 intro r' σ' e hE
 subst e
 obtain rfl := kj h
 refine Xas ?_
 exact hE
def Xwl (r : Int) : AV := .sv (.int .i64 r)
def Xwk (r : Int) : Xa2 := []
theorem Xn3 {p0 r} (h : Xha p0 = some r) : AC Tryz.prog 242 [.agg [.sv (.int .i64 p0.Level), .sv (.int .i64 p0.Bits), .sv (.ints .i64 p0.Cols), .sv (.ints .i64 p0.Rows)]] [] (Xwl r) (Xwk r) := by
 refine Xae hT Tryz.func242 rfl fun C hC => ?_
 unfold Xha at h
 refine Xab ?_
 iterate 2 refine kO hT hC ?_
 refine Vc.nil (Xap (Xab ?_))
 refine kO hT hC ?_
 refine kC hC [] Tryz.call221 h (fun _ => Xmv) fun q1 h => ?_
 refine kO hT hC ?_
 refine Vc.nil ?_
 refine kS h ?_ ?_ <;> intro b1 h
 refine kt b1 (Xab ?_)
 refine kO hT hC ?_
 exact Vc.nil (Xah (Xas kR))
 refine kf b1 (Xag (Xaf (Xab ?_)))
 iterate 8 refine kO hT hC ?_
 exact Vc.nil (Xah kR)
def Yaa (r : Bool) : AV := .sv (.bool r)
def Xz9 (r : Bool) : Xa2 := []
theorem Xlq {p0 r} (h : Xg0 p0 = some r) : AC Tryz.prog 243 [.agg [.sv (.int .i64 p0.Qp), .sv (.int .i64 p0.Target), .sv (.int .i64 p0.Debt)]] [] (Yaa r) (Xz9 r) := by
 refine Xae hT Tryz.func243 rfl fun C hC => ?_
 unfold Xg0 at h
 refine Xab ?_
 iterate 2 refine kO hT hC ?_
 refine Vc.nil ?_
 refine kL [1,2] [16] [_,_] [_] ?_
 refine kA h (fun v1 => ([(2, .sv (.bool v1)), (1, .any)], [(16, none)])) (fun v1 h => ?_) fun v1 h => ?_
 refine Xac ?_
 iterate 2 refine kO hT hC ?_
 refine kC hC [] Tryz.call53 h (fun _ => Xai) fun q2 h => ?_
 refine kO hT hC ?_
 refine kS h ?_ ?_ <;> intro b1 h
 iterate 2 refine kI hT hC b1 ?_
 refine kE hC b1 [] Tryz.call53 h (fun _ => Xai) fun q3 h => ?_
 refine kP hC true b1 ?_
 refine kO hT hC ?_
 refine kS h ?_ ?_ <;> intro b2 h
 iterate 8 refine kI hT hC b2 ?_
 refine kE hC b2 [] Tryz.call53 h (fun _ => Xai) fun q4 h => ?_
 refine kP hC true b2 ?_
 refine kO hT hC ?_
 exact Vc.nil kM
 iterate 9 refine kF hC b2 ?_
 refine kP hC false b2 ?_
 refine kO hT hC ?_
 exact Vc.nil kM
 iterate 3 refine kF hC b1 ?_
 refine kP hC false b1 ?_
 refine kO hT hC ?_
 iterate 9 refine kF hC rfl ?_
 iterate 2 refine kO hT hC ?_
 exact Vc.nil kM
 exact Xah kR
def Yam (r : (Int × Int)) : AV := .tup [.sv (.int .i64 r.1), .sv (.int .i64 r.2)]
def Yal (r : (Int × Int)) : Xa2 := []
theorem Xls {p0 r} (h : Xg1 p0 = some r) : AC Tryz.prog 184 [.agg [.sv (.int .i64 p0.Level), .sv (.int .i64 p0.Bits), .sv (.ints .i64 p0.Cols), .sv (.ints .i64 p0.Rows)]] [] (Yam r) (Yal r) := by
 refine Xae hT Tryz.func184 rfl fun C hC => ?_
 unfold Xg1 at h
 refine Xab ?_
 iterate 3 refine kO hT hC ?_
 refine Vc.nil (Xap (Xab ?_))
 refine kO hT hC ?_
 refine kC hC [] Tryz.call221 h (fun _ => Xmv) fun q1 h => ?_
 refine kO hT hC ?_
 refine Vc.nil ?_
 refine kS h ?_ ?_ <;> intro b1 h
 refine kt b1 (Xab ?_)
 iterate 2 refine kO hT hC ?_
 exact Vc.nil (Xah (Xas kR))
 refine kf b1 (Xag (Xaf ?_))
 refine Xdn hm ?_
 iterate 2 refine kO hT hC ?_
 refine kC hC [] Tryz.call222 h (fun _ => Xjb) fun q2 h => ?_
 iterate 3 refine kO hT hC ?_
 refine kC hC [] Tryz.call222 h (fun _ => Xjb) fun q3 h => ?_
 iterate 3 refine kO hT hC ?_
 exact kD (Xah kR)
end
end Go.Proofs.YtlebkepfhdjnmadGreat.A
