/- Contracts of the functions that the law FnExactSquareFor reaches, part 0: each comes to what its pure function tells. Written by a program of this session. Conditions: as each statement tells. -/
import Derived.Test.YtlebkepfhdjnmadGreatBFnExactSquareFor
namespace Go.Proofs.YtlebkepfhdjnmadGreat.A
open Go Go.Proofs Go.Proofs.YtlebkepfhdjnmadGreatAL Go.RowKit
set_option linter.unusedVariables false
set_option linter.unusedSimpArgs false
set_option maxRecDepth 100000
set_option maxHeartbeats 8000000
noncomputable section
def Yak (r : Int) : AV := .sv (.int .i64 r)
def Yaj (r : Int) : Xa0 := []
theorem Xrz {p0 p1 r} (h : Xkh p0 p1 = some r) : AC Tryz.prog 7 [.agg [.sv (.int .i64 p0.Wide), .sv (.int .i64 p0.High), .sv (.str p0.Dots)], .sv (.int .i64 p1)] [] (Yak r) (Yaj r) := by
 refine Xag hT Tryz.func7 rfl fun C hC => ?_
 unfold Xkh at h
 refine Xab ?_
 iterate 2 refine kO hT hC ?_
 refine kN ?_
 iterate 6 refine kO hT hC ?_
 refine Vc.nil (Xao (Xab ?_))
 iterate 2 refine kO hT hC ?_
 refine Vc.nil ?_
 refine kS h ?_ ?_ <;> intro b1 h
 refine kt b1 (Xab ?_)
 refine kO hT hC ?_
 exact Vc.nil (Xah (Xas kR))
 refine kf b1 (Xaf (Xad (Xab ?_)))
 iterate 2 refine kO hT hC ?_
 exact Vc.nil (Xah kR)
def Yan (r : Pic) : AV := .agg [.sv (.int .i64 r.Wide), .sv (.int .i64 r.High), .sv (.str r.Dots)]
def Yam (r : Pic) : Xa0 := []
theorem Xf1 {p0 r} (h : Xf0 p0 = some r) : AC Tryz.prog 10 [.agg [.sv (.int .i64 p0.Wide), .sv (.int .i64 p0.High), .sv (.str p0.Dots)]] [] (Yan r) (Yam r) := by
 refine Xag hT Tryz.func10 rfl fun C hC => ?_
 unfold Xf0 at h
 refine Xab ?_
 iterate 2 refine kO hT hC ?_
 refine kN ?_
 refine kO hT hC ?_
 refine kN ?_
 iterate 4 refine kO hT hC ?_
 refine kN ?_
 iterate 4 refine kO hT hC ?_
 refine kN ?_
 iterate 4 refine kO hT hC ?_
 refine kN ?_
 iterate 2 refine kO hT hC ?_
 exact Vc.nil (Xah kR)
def Ybc (r : Bool) : AV := .sv (.bool r)
def Ybb (r : Bool) : Xa0 := []
theorem Xal {p0 p1 p2 r} (h : Xar p0 p1 p2 = some r) : AC Tryz.prog 53 [.sv (.int .i64 p0), .sv (.int .i64 p1), .sv (.int .i64 p2)] [] (Ybc r) (Ybb r) := by
 refine Xag hT Tryz.func53 rfl fun C hC => ?_
 unfold Xar at h
 refine Xab ?_
 refine kO hT hC ?_
 refine Vc.nil ?_
 refine kL [0,1,2,6] [] [_,_,_,_] [] ?_
 refine kA h (fun v1 => ([(6, .sv (.bool v1)), (0, .any), (1, .any), (2, .any)], [])) (fun v1 h => ?_) fun v1 h => ?_
 refine Xac ?_
 iterate 4 refine kO hT hC ?_
 refine kS h ?_ ?_ <;> intro b1 h
 iterate 3 refine kI hT hC b1 ?_
 refine kP hC true b1 ?_
 refine kO hT hC ?_
 exact Vc.nil kM
 iterate 3 refine kF hC b1 ?_
 refine kP hC false b1 ?_
 refine kO hT hC ?_
 exact Vc.nil kM
 exact Xah kR
def Xyy (r : Bool) : AV := .sv (.bool r)
def Xyx (r : Bool) : Xa0 := []
theorem Xjf {p0 r} (h : Xfh p0 = some r) : AC Tryz.prog 52 [.agg [.sv (.bool p0.Key), .sv (.int .i64 p0.Qp), .sv (.bool p0.Large), .sv (.bool p0.Exact)]] [] (Xyy r) (Xyx r) := by
 refine Xag hT Tryz.func52 rfl fun C hC => ?_
 unfold Xfh at h
 refine Xab ?_
 iterate 2 refine kO hT hC ?_
 refine Vc.nil ?_
 refine kL [1,2] [16] [_,_] [_] ?_
 refine kA h (fun v1 => ([(2, .sv (.bool v1)), (1, .any)], [(16, none)])) (fun v1 h => ?_) fun v1 h => ?_
 refine Xac ?_
 iterate 2 refine kO hT hC ?_
 refine kC hC [] Tryz.call53 h (fun _ => Xal) fun q2 h => ?_
 refine kO hT hC ?_
 refine kS h ?_ ?_ <;> intro b1 h
 iterate 3 refine kI hT hC b1 ?_
 refine kS h ?_ ?_ <;> intro b2 h
 iterate 2 refine kI hT hC b2 ?_
 refine Xd5 hC rfl rfl rfl rfl b1 rfl rfl (b := true) b2 rfl rfl rfl trivial ?_
 refine kI hT hC b1 ?_
 refine kP hC true b1 ?_
 refine kO hT hC ?_
 exact Vc.nil kM
 iterate 2 refine kF hC b2 ?_
 refine Xd5 hC rfl rfl rfl rfl b1 rfl rfl (b := false) b2 rfl rfl rfl trivial ?_
 refine kI hT hC b1 ?_
 refine kP hC true b1 ?_
 refine kO hT hC ?_
 exact Vc.nil kM
 iterate 3 refine kF hC b1 ?_
 iterate 2 refine Xk6 hC rfl rfl rfl rfl rfl rfl ?_
 iterate 2 refine kF hC b1 ?_
 refine kP hC false b1 ?_
 refine kO hT hC ?_
 exact Vc.nil kM
 exact Xah kR
def Xod (r : Bool) : AV := .sv (.bool r)
def Xoc (r : Bool) : Xa0 := []
theorem Xbk {p0 p1 p2 r} (h : Xbd p0 p1 p2 = some r) : AC Tryz.prog 150 [.sv (.ints .i64 p0), .sv (.int .i64 p1), .sv (.int .i64 p2)] [] (Xod r) (Xoc r) := by
 refine Xag hT Tryz.func150 rfl fun C hC => ?_
 unfold Xbd at h
 refine Xab ?_
 refine kO hT hC ?_
 refine Vc.nil (Xao (Xab ?_))
 iterate 4 refine kO hT hC ?_
 refine Vc.nil ?_
 refine kS h ?_ ?_ <;> intro b1 h
 refine kt b1 (Xab ?_)
 refine kO hT hC ?_
 exact Vc.nil (Xah (Xas kR))
 refine kf b1 (Xaf (Xad (Xao (Xab ?_))))
 refine kO hT hC ?_
 refine Vc.nil ?_
 refine kL [0,1,2,7] [] [_,_,_,_] [] ?_
 obtain ⟨o8, hl, h⟩ := Xa4 h
 refine Xlu (fun v3 => ([(7, .sv (.int .i64 v3))], [])) (fun v6 => ([(0, .any), (1, .any), (2, .any), (7, .any)], [])) (fun r => Xuz C T Tryz.f150.results.toList (Xod r) (Xoc r)) hl ?_ ?_ ?_ ?_
 apply Xfs hC []
 exact co
 rfl
 decide
 rfl
 intro v3 s hs
 have h := hs
 unfold Xcr at h
 refine Xao (Xab ?_)
 iterate 3 refine kO hT hC ?_
 refine Vc.nil ?_
 refine kS h ?_ ?_ <;> intro b6 h
 refine kt b6 (Xaf (Xad (Xao (Xak (Xab ?_)))))
 iterate 2 refine kO hT hC ?_
 refine kQ hT hC h fun h => ?_
 iterate 4 refine kO hT hC ?_
 refine kC hC [] Tryz.call53 h (fun _ => Xal) fun q7 h => ?_
 refine kO hT hC ?_
 refine Vc.nil ?_
 refine kS h ?_ ?_ <;> intro b7 h
 refine kt b7 (Xab ?_)
 refine kO hT hC ?_
 refine Vc.nil (Xah (Xii (Xas ?_)))
 obtain rfl := kj h
 refine Yaq (Yap ?_)
 exact Xcl (Xkc.refl _) rfl trivial
 refine kf b7 (Xaf (Xan (Xad (Xac ?_))))
 iterate 3 refine kO hT hC ?_
 exact Vc.nil kG
 exact kf b6 (Xam (Xat kb))
 intro v6 e
 subst e
 refine Xad (Xab ?_)
 refine kO hT hC ?_
 exact Vc.nil (Xah kR)
 intro r' σ' e hE
 subst e
 obtain rfl := kj h
 refine Xas ?_
 exact hE
def Xud (r : Bool) : AV := .sv (.bool r)
def Xuc (r : Bool) : Xa0 := []
theorem Xwa {p0 r} (h : Xh7 p0 = some r) : AC Tryz.prog 105 [.agg [.sv (.int .i64 p0.Kind), .sv (.int .i64 p0.Mode), .sv (.int .i64 p0.Dx), .sv (.int .i64 p0.Dy), .sv (.ints .i64 p0.Levels)]] [] (Xud r) (Xuc r) := by
 refine Xag hT Tryz.func105 rfl fun C hC => ?_
 unfold Xh7 at h
 refine Xab ?_
 iterate 2 refine kO hT hC ?_
 refine Vc.nil (Xao (Xab ?_))
 iterate 2 refine kO hT hC ?_
 refine Vc.nil (Xak (Xab ?_))
 iterate 2 refine kO hT hC ?_
 refine Vc.nil ?_
 refine kS h ?_ ?_ <;> intro b1 h
 refine kt b1 ?_
 refine kL [1,2] [16] [_,_] [_] ?_
 refine kA h (fun v1 => ([(2, .sv (.bool v1)), (1, .any)], [(16, none)])) (fun v1 h => ?_) fun v1 h => ?_
 refine Xac ?_
 iterate 4 refine kO hT hC ?_
 refine kS h ?_ ?_ <;> intro b2 h
 iterate 3 refine kI hT hC b2 ?_
 refine kP hC true b2 ?_
 refine kO hT hC ?_
 refine kS h ?_ ?_ <;> intro b3 h
 iterate 3 refine kI hT hC b3 ?_
 refine kP hC true b3 ?_
 refine kO hT hC ?_
 refine kS h ?_ ?_ <;> intro b4 h
 iterate 4 refine kI hT hC b4 ?_
 refine kP hC true b4 ?_
 refine kO hT hC ?_
 exact Vc.nil kM
 iterate 4 refine kF hC b4 ?_
 refine kP hC false b4 ?_
 refine kO hT hC ?_
 exact Vc.nil kM
 iterate 3 refine kF hC b3 ?_
 refine kP hC false b3 ?_
 refine kO hT hC ?_
 iterate 4 refine kF hC rfl ?_
 iterate 2 refine kO hT hC ?_
 exact Vc.nil kM
 iterate 3 refine kF hC b2 ?_
 refine kP hC false b2 ?_
 refine kO hT hC ?_
 iterate 3 refine kF hC rfl ?_
 iterate 2 refine kO hT hC ?_
 iterate 4 refine kF hC rfl ?_
 iterate 2 refine kO hT hC ?_
 exact Vc.nil kM
 exact Xah (Xii (Xas kR))
 refine kf b1 (Xab ?_)
 iterate 2 refine kO hT hC ?_
 refine Vc.nil ?_
 refine kS h ?_ ?_ <;> intro b5 h
 refine kt b5 ?_
 refine kL [1,2] [16] [_,_] [_] ?_
 refine kA h (fun v2 => ([(2, .sv (.bool v2)), (1, .any)], [(16, none)])) (fun v2 h => ?_) fun v2 h => ?_
 refine Xac ?_
 iterate 4 refine kO hT hC ?_
 refine kS h ?_ ?_ <;> intro b6 h
 iterate 2 refine kI hT hC b6 ?_
 refine kE hC b6 [] Tryz.call53 h (fun _ => Xal) fun q3 h => ?_
 refine kP hC true b6 ?_
 refine kO hT hC ?_
 refine kS h ?_ ?_ <;> intro b7 h
 iterate 2 refine kI hT hC b7 ?_
 refine kE hC b7 [] Tryz.call53 h (fun _ => Xal) fun q4 h => ?_
 refine kP hC true b7 ?_
 refine kO hT hC ?_
 refine kS h ?_ ?_ <;> intro b8 h
 iterate 2 refine kI hT hC b8 ?_
 refine kE hC b8 [] Tryz.call150 h (fun _ => Xbk) fun q5 h => ?_
 refine kP hC true b8 ?_
 refine kO hT hC ?_
 exact Vc.nil kM
 iterate 3 refine kF hC b8 ?_
 refine kP hC false b8 ?_
 refine kO hT hC ?_
 exact Vc.nil kM
 iterate 3 refine kF hC b7 ?_
 refine kP hC false b7 ?_
 refine kO hT hC ?_
 iterate 3 refine kF hC rfl ?_
 iterate 2 refine kO hT hC ?_
 exact Vc.nil kM
 iterate 3 refine kF hC b6 ?_
 refine kP hC false b6 ?_
 refine kO hT hC ?_
 iterate 3 refine kF hC rfl ?_
 iterate 2 refine kO hT hC ?_
 iterate 3 refine kF hC rfl ?_
 iterate 2 refine kO hT hC ?_
 exact Vc.nil kM
 exact Xah (Xii (Xas kR))
 refine kf b5 (Xab ?_)
 iterate 2 refine kO hT hC ?_
 refine Vc.nil ?_
 refine kS h ?_ ?_ <;> intro b9 h
 refine kt b9 ?_
 refine kL [1,2] [16] [_,_] [_] ?_
 refine kA h (fun v6 => ([(2, .sv (.bool v6)), (1, .any)], [(16, none)])) (fun v6 h => ?_) fun v6 h => ?_
 refine Xac ?_
 iterate 2 refine kO hT hC ?_
 refine kC hC [] Tryz.call53 h (fun _ => Xal) fun q7 h => ?_
 refine kO hT hC ?_
 refine kS h ?_ ?_ <;> intro b10 h
 iterate 3 refine kI hT hC b10 ?_
 refine kP hC true b10 ?_
 refine kO hT hC ?_
 refine kS h ?_ ?_ <;> intro b11 h
 iterate 3 refine kI hT hC b11 ?_
 refine kP hC true b11 ?_
 refine kO hT hC ?_
 refine kS h ?_ ?_ <;> intro b12 h
 iterate 2 refine kI hT hC b12 ?_
 refine kE hC b12 [] Tryz.call150 h (fun _ => Xbk) fun q8 h => ?_
 refine kP hC true b12 ?_
 refine kO hT hC ?_
 exact Vc.nil kM
 iterate 3 refine kF hC b12 ?_
 refine kP hC false b12 ?_
 refine kO hT hC ?_
 exact Vc.nil kM
 iterate 3 refine kF hC b11 ?_
 refine kP hC false b11 ?_
 refine kO hT hC ?_
 iterate 3 refine kF hC rfl ?_
 iterate 2 refine kO hT hC ?_
 exact Vc.nil kM
 iterate 3 refine kF hC b10 ?_
 refine kP hC false b10 ?_
 refine kO hT hC ?_
 iterate 3 refine kF hC rfl ?_
 iterate 2 refine kO hT hC ?_
 iterate 3 refine kF hC rfl ?_
 iterate 2 refine kO hT hC ?_
 exact Vc.nil kM
 exact Xah (Xii (Xas kR))
 refine kf b9 (Xaf (Xan (Xad (Xab ?_))))
 refine kO hT hC ?_
 exact Vc.nil (Xah kR)
def Ya3 (r : Bool) : AV := .sv (.bool r)
def Ya2 (r : Bool) : Xa0 := []
theorem Xf7 {p0 r} (h : Xev p0 = some r) : AC Tryz.prog 96 [.agg [.sv (.int .i64 p0.Wide), .sv (.int .i64 p0.High), .sv (.str p0.Dots)]] [] (Ya3 r) (Ya2 r) := by
 refine Xag hT Tryz.func96 rfl fun C hC => ?_
 unfold Xev at h
 refine Xab ?_
 iterate 2 refine kO hT hC ?_
 refine Vc.nil ?_
 refine kL [1,2] [16] [_,_] [_] ?_
 refine kA h (fun v1 => ([(2, .sv (.bool v1)), (1, .any)], [(16, none)])) (fun v1 h => ?_) fun v1 h => ?_
 refine Xac ?_
 iterate 2 refine kO hT hC ?_
 refine kC hC [] Tryz.call53 h (fun _ => Xal) fun q2 h => ?_
 refine kO hT hC ?_
 refine kS h ?_ ?_ <;> intro b1 h
 iterate 2 refine kI hT hC b1 ?_
 refine kE hC b1 [] Tryz.call53 h (fun _ => Xal) fun q3 h => ?_
 refine kP hC true b1 ?_
 refine kO hT hC ?_
 refine kS h ?_ ?_ <;> intro b2 h
 iterate 9 refine kI hT hC b2 ?_
 refine kP hC true b2 ?_
 refine kO hT hC ?_
 exact Vc.nil kM
 iterate 9 refine kF hC b2 ?_
 refine kP hC false b2 ?_
 refine kO hT hC ?_
 exact Vc.nil kM
 iterate 3 refine kF hC b1 ?_
 refine kP hC false b1 ?_
 refine kO hT hC ?_
 iterate 9 refine kF hC rfl ?_
 iterate 2 refine kO hT hC ?_
 exact Vc.nil kM
 exact Xah kR
def Xss (r : Bool) : AV := .sv (.bool r)
def Xsr (r : Bool) : Xa0 := []
theorem Xml {p0 p1 p2 p3 p4 r} (h : Xdp p0 p1 p2 p3 p4 = some r) : AC Tryz.prog 86 [.agg [.sv (.int .i64 p0.Wide), .sv (.int .i64 p0.High), .sv (.str p0.Dots)], .sv (.int .i64 p1), .sv (.int .i64 p2), .sv (.int .i64 p3), .sv (.int .i64 p4)] [] (Xss r) (Xsr r) := by
 refine Xag hT Tryz.func86 rfl fun C hC => ?_
 unfold Xdp at h
 refine Xab ?_
 iterate 2 refine kO hT hC ?_
 refine Vc.nil ?_
 refine kL [1,2,3,4,5,10] [80] [_,_,_,_,_,_] [_] ?_
 refine kA h (fun v1 => ([(10, .sv (.bool v1)), (1, .any), (2, .any), (3, .any), (4, .any), (5, .any)], [(80, none)])) (fun v1 h => ?_) fun v1 h => ?_
 refine Xac ?_
 refine kO hT hC ?_
 refine kC hC [] Tryz.call96 h (fun _ => Xf7) fun q2 h => ?_
 refine kO hT hC ?_
 refine kS h ?_ ?_ <;> intro b1 h
 iterate 3 refine kI hT hC b1 ?_
 refine kE hC b1 [] Tryz.call53 h (fun _ => Xal) fun q3 h => ?_
 refine kP hC true b1 ?_
 refine kO hT hC ?_
 refine kS h ?_ ?_ <;> intro b2 h
 iterate 3 refine kI hT hC b2 ?_
 refine kE hC b2 [] Tryz.call53 h (fun _ => Xal) fun q4 h => ?_
 refine kP hC true b2 ?_
 refine kO hT hC ?_
 refine kS h ?_ ?_ <;> intro b3 h
 iterate 5 refine kI hT hC b3 ?_
 refine kE hC b3 [] Tryz.call53 h (fun _ => Xal) fun q5 h => ?_
 refine kP hC true b3 ?_
 refine kO hT hC ?_
 refine kS h ?_ ?_ <;> intro b4 h
 iterate 5 refine kI hT hC b4 ?_
 refine kE hC b4 [] Tryz.call53 h (fun _ => Xal) fun q6 h => ?_
 refine kP hC true b4 ?_
 refine kO hT hC ?_
 exact Vc.nil kM
 iterate 6 refine kF hC b4 ?_
 refine kP hC false b4 ?_
 refine kO hT hC ?_
 exact Vc.nil kM
 iterate 6 refine kF hC b3 ?_
 refine kP hC false b3 ?_
 refine kO hT hC ?_
 iterate 6 refine kF hC rfl ?_
 iterate 2 refine kO hT hC ?_
 exact Vc.nil kM
 iterate 4 refine kF hC b2 ?_
 refine kP hC false b2 ?_
 refine kO hT hC ?_
 iterate 6 refine kF hC rfl ?_
 iterate 2 refine kO hT hC ?_
 iterate 6 refine kF hC rfl ?_
 iterate 2 refine kO hT hC ?_
 exact Vc.nil kM
 iterate 4 refine kF hC b1 ?_
 refine kP hC false b1 ?_
 refine kO hT hC ?_
 iterate 4 refine kF hC rfl ?_
 iterate 2 refine kO hT hC ?_
 iterate 6 refine kF hC rfl ?_
 iterate 2 refine kO hT hC ?_
 iterate 6 refine kF hC rfl ?_
 iterate 2 refine kO hT hC ?_
 exact Vc.nil kM
 exact Xah kR
def Xwd (r : ByteArray) : AV := .sv (.str r)
def Xwc (r : ByteArray) : Xa0 := []
theorem Xzh {p0 p1 r} (h : Xjr p0 p1 = some r) : AC Tryz.prog 139 [.sv (.int .i64 p0), .sv (.int .u8 p1)] [] (Xwd r) (Xwc r) := by
 refine Xag hT Tryz.func139 rfl fun C hC => ?_
 unfold Xjr at h
 refine Xab ?_
 refine kO hT hC ?_
 refine kN ?_
 refine kO hT hC ?_
 obtain ⟨hq, h⟩ := Xau h
 refine Yhw hT hC rfl rfl rfl rfl ⟨hq.1, hq.2.1, hq.2.2, by decide⟩ ?_
 refine kO hT hC ?_
 refine Vc.nil (Xao (Xab ?_))
 refine kO hT hC ?_
 refine Vc.nil ?_
 refine kL [0,1,5,6] [128] [_,_,_,_] [_] ?_
 refine kX h (fun v2 => ([(6, .sv (.int .i64 v2.1))], [(128, some (.ints .u8 v2.2))])) (fun v4 => ([(0, .any), (1, .any), (6, .any)], [(128, some (.ints .u8 v4))])) (kW hC []) (fun v2 s h => ?_) fun v4 h => ?_
 unfold Xfo at h
 refine Xao (Xab ?_)
 iterate 3 refine kO hT hC ?_
 refine Vc.nil ?_
 refine kS h ?_ ?_ <;> intro b3 h
 refine kt b3 (Xaf (Xad (Xao (Xak (Xac ?_)))))
 iterate 3 refine kO hT hC ?_
 iterate 2 refine kQ hT hC h fun h => ?_
 refine Vc.nil (Xan (Xad (Xac ?_)))
 iterate 3 refine kO hT hC ?_
 exact Vc.nil kG
 exact kf b3 (Xam (Xat ku))
 refine Xad (Xab ?_)
 iterate 3 refine kO hT hC ?_
 exact Vc.nil (Xah kR)
def Xwp (r : Bool) : AV := .sv (.bool r)
def Xwo (r : Bool) : Xa0 := []
theorem Xie {p0 p1 p2 r} (h : Xci p0 p1 p2 = some r) : AC Tryz.prog 50 [.agg [.sv (.int .i64 p0.Wide), .sv (.int .i64 p0.High), .sv (.str p0.Dots)], .sv (.int .i64 p1), .sv (.int .i64 p2)] [] (Xwp r) (Xwo r) := by
 refine Xag hT Tryz.func50 rfl fun C hC => ?_
 unfold Xci at h
 refine Xab ?_
 iterate 2 refine kO hT hC ?_
 refine Vc.nil ?_
 refine kL [1,2,3,6] [48] [_,_,_,_] [_] ?_
 refine kA h (fun v1 => ([(6, .sv (.bool v1)), (1, .any), (2, .any), (3, .any)], [(48, none)])) (fun v1 h => ?_) fun v1 h => ?_
 refine Xac ?_
 refine kO hT hC ?_
 refine kQ hT hC h fun h => ?_
 iterate 2 refine kO hT hC ?_
 refine kS h ?_ ?_ <;> intro b1 h
 refine kI hT hC b1 ?_
 refine kJ hT hC b1 h fun h => ?_
 refine kI hT hC b1 ?_
 refine kP hC true b1 ?_
 refine kO hT hC ?_
 refine kS h ?_ ?_ <;> intro b2 h
 iterate 3 refine kI hT hC b2 ?_
 refine kE hC b2 [] Tryz.call86 h (fun _ => Xml) fun q2 h => ?_
 refine kP hC true b2 ?_
 refine kO hT hC ?_
 exact Vc.nil kM
 iterate 4 refine kF hC b2 ?_
 refine kP hC false b2 ?_
 refine kO hT hC ?_
 exact Vc.nil kM
 iterate 3 refine kF hC b1 ?_
 refine kP hC false b1 ?_
 refine kO hT hC ?_
 iterate 4 refine kF hC rfl ?_
 iterate 2 refine kO hT hC ?_
 exact Vc.nil kM
 exact Xah kR
def Xvw (r : Int) : AV := .sv (.int .i64 r)
def Xvv (r : Int) : Xa0 := []
theorem Xh2 {p0 p1 p2 r} (h : Xdb p0 p1 p2 = some r) : AC Tryz.prog 159 [.sv (.int .i64 p0), .sv (.int .i64 p1), .sv (.int .i64 p2)] [] (Xvw r) (Xvv r) := by
 refine Xag hT Tryz.func159 rfl fun C hC => ?_
 unfold Xdb at h
 refine Xab ?_
 refine kO hT hC ?_
 refine Vc.nil (Xao ?_)
 refine kL [0,1,2] [] [_,_,_] [] ?_
 refine kA h (fun v1 => ([(14, .sv (.bool v1))], [])) (fun v1 h => ?_) fun v1 h => ?_
 refine Xac ?_
 iterate 4 refine kO hT hC ?_
 refine kS h ?_ ?_ <;> intro b1 h
 iterate 3 refine kF hC b1 ?_
 refine kP hC true b1 ?_
 exact Vc.nil kM
 iterate 3 refine kI hT hC b1 ?_
 refine kP hC false b1 ?_
 exact Vc.nil kM
 refine kS h ?_ ?_ <;> intro b2 h
 refine kt b2 (Xab ?_)
 iterate 2 refine kO hT hC ?_
 exact Vc.nil (Xah (Xas kR))
 refine kf b2 (Xaf (Xad (Xao (Xab ?_))))
 iterate 3 refine kO hT hC ?_
 refine Vc.nil ?_
 refine kS h ?_ ?_ <;> intro b3 h
 refine kt b3 (Xab ?_)
 iterate 2 refine kO hT hC ?_
 exact Vc.nil (Xah (Xas kR))
 refine kf b3 (Xaf (Xad (Xab ?_)))
 iterate 2 refine kO hT hC ?_
 exact Vc.nil (Xah kR)
def Yav (r : Int) : AV := .sv (.int .i64 r)
def Yau (r : Int) : Xa0 := []
theorem Xkb {p0 p1 p2 r} (h : Xd2 p0 p1 p2 = some r) : AC Tryz.prog 145 [.agg [.sv (.int .i64 p0.Wide), .sv (.int .i64 p0.High), .sv (.str p0.Dots)], .sv (.int .i64 p1), .sv (.int .i64 p2)] [] (Yav r) (Yau r) := by
 refine Xag hT Tryz.func145 rfl fun C hC => ?_
 unfold Xd2 at h
 refine Xab ?_
 iterate 2 refine kO hT hC ?_
 refine Vc.nil (Xao (Xab ?_))
 refine kO hT hC ?_
 refine kC hC [] Tryz.call96 h (fun _ => Xf7) fun q1 h => ?_
 refine kO hT hC ?_
 refine Vc.nil ?_
 refine kS h ?_ ?_ <;> intro b1 h
 refine kt b1 (Xab ?_)
 refine kO hT hC ?_
 exact Vc.nil (Xah (Xas kR))
 refine kf b1 (Xaf (Xad ?_))
 refine Xjq hm ?_
 iterate 6 refine kO hT hC ?_
 refine kC hC [] Tryz.call159 h (fun _ => Xh2) fun q2 h => ?_
 iterate 7 refine kO hT hC ?_
 refine kC hC [] Tryz.call159 h (fun _ => Xh2) fun q3 h => ?_
 refine kO hT hC ?_
 refine kQ hT hC h fun h => ?_
 iterate 2 refine kO hT hC ?_
 exact kD (Xah kR)
def Xvy (r : (Xft × Bool)) : AV := .tup [.agg [.own 16, .own 17, .sv (.int .i64 r.1.Corner)], .sv (.bool r.2)]
def Xvx (r : (Xft × Bool)) : Xa0 := [(16, .ints .i64 r.1.Above), (17, .ints .i64 r.1.Left)]
theorem Xn9 {p0 p1 p2 r} (h : Xdc p0 p1 p2 = some r) : AC Tryz.prog 100 [.agg [.sv (.int .i64 p0.Wide), .sv (.int .i64 p0.High), .sv (.str p0.Dots)], .sv (.int .i64 p1), .sv (.int .i64 p2)] [] (Xvy r) (Xvx r) := by
 refine Xag hT Tryz.func100 rfl fun C hC => ?_
 unfold Xdc at h
 refine Xab ?_
 iterate 3 refine kO hT hC ?_
 refine Vc.nil (Xao (Xab ?_))
 iterate 3 refine kO hT hC ?_
 refine kC hC [] Tryz.call50 h (fun _ => Xie) fun q1 h => ?_
 refine kO hT hC ?_
 refine Vc.nil ?_
 refine kS h ?_ ?_ <;> intro b1 h
 refine kt b1 (Xab ?_)
 iterate 3 refine kO hT hC ?_
 refine Vc.nil (Xah (Xas ?_))
 obtain rfl := kj h
 refine Xcl (τ := ⟨[(6, .ptr 2000000 0), (7, .sv (.bool false))], [(16, some (.ints .i64 [])), (17, some (.ints .i64 [])), (2000000, some (.box [.own 16, .own 17, .sv (.int .i64 0)]))]⟩) ?_ rfl ⟨rfl, rfl, trivial⟩
 refine Xj6 hC 96 0 1025 (.ints .i64 []) rfl rfl rfl rfl rfl trivial ?_
 refine Xj6 hC 96 1 1026 (.ints .i64 []) rfl rfl rfl rfl rfl trivial ?_
 apply Xfs hC [(16, 1025), (17, 1026), (2000000, 96)]
 exact co
 rfl
 decide
 rfl
 refine kf b1 (Xaf (Xad (Xab ?_)))
 iterate 3 refine kO hT hC ?_
 refine Vc.nil (Xao (Xab ?_))
 refine kO hT hC ?_
 refine Vc.nil ?_
 refine kL [1,2,3,6,8,9] [48,96,128] [_,_,_,_,_,_] [_,_,_] ?_
 obtain ⟨v13, hl, h⟩ := Xa4 h
 refine Yjs (fun v7 => ([(9, .sv (.int .i64 v7.1))], [(128, some (.box [.own 1049, .own 1050, .sv (.int .i64 (-1))])), (1049, some (.ints .i64 v7.2.1)), (1050, some (.ints .i64 v7.2.2))])) (fun v13 => ([(9, .any)], [(128, some (.box [.own 1053, .own 1054, .sv (.int .i64 (-1))])), (1053, some (.ints .i64 v13.1)), (1054, some (.ints .i64 v13.2))])) hl ?_ ?_ ?_
 refine Xj6 hC 128 0 1055 (.ints .i64 []) rfl rfl rfl rfl rfl trivial ?_
 refine Xj6 hC 128 1 1056 (.ints .i64 []) rfl rfl rfl rfl rfl trivial ?_
 try dsimp only
 apply Xfs hC [(1049, 1055), (1050, 1056)]
 exact co
 rfl
 decide
 rfl
 intro v7 s hs
 have h := hs
 unfold Xcy at h
 refine Xao (Xab ?_)
 iterate 2 refine kO hT hC ?_
 refine Vc.nil ?_
 refine kS h ?_ ?_ <;> intro b8 h
 refine kt b8 (Xaf (Xad ?_))
 refine kL [1,2,3,6,8,9] [48,96,128,1049,1050] [_,_,_,_,_,_] [_,_,_,_,_] ?_
 refine kA h (fun v14 => ([], [(1049, some (.ints .i64 v14.1)), (1050, some (.ints .i64 v14.2))])) (fun v14 h => ?_) fun v14 h => ?_
 refine Xak ?_
 refine kL [1,2,3,6,8,9] [48,96,128,1049,1050] [_,_,_,_,_,_] [_,_,_,_,_] ?_
 refine kA h (fun v15 => ([], [(1049, some (.ints .i64 v15))])) (fun v15 h => ?_) fun v15 h => ?_
 refine Xab ?_
 iterate 2 refine kO hT hC ?_
 refine Vc.nil ?_
 refine kS h ?_ ?_ <;> intro b9 h
 refine kt b9 ?_
 refine Xdf hm ?_
 iterate 8 refine kO hT hC ?_
 refine kC hC [] Tryz.call145 h (fun _ => Xkb) fun q16 h => ?_
 refine kO hT hC ?_
 refine kT hT hC h fun h => ?_
 iterate 2 refine kO hT hC ?_
 refine kD ?_
 obtain rfl := kj h
 exact Xjo (kW hC [(1049, 528)])
 exact kf b9 (Xaf kM)
 refine Xab ?_
 iterate 2 refine kO hT hC ?_
 refine Vc.nil ?_
 refine kS h ?_ ?_ <;> intro b10 h
 refine kt b10 ?_
 refine Xdf hm ?_
 iterate 8 refine kO hT hC ?_
 refine kC hC [] Tryz.call145 h (fun _ => Xkb) fun q17 h => ?_
 refine kO hT hC ?_
 refine kT hT hC h fun h => ?_
 iterate 2 refine kO hT hC ?_
 refine kD (Xan ?_)
 obtain rfl := kj h
 exact Xjo (kW hC [(1050, 752)])
 exact kf b10 (Xaf (Xan kM))
 refine Xac ?_
 iterate 3 refine kO hT hC ?_
 exact Vc.nil kG
 refine kf b8 (Xam (Xat ?_))
 obtain rfl := kj h
 exact Yhj (Ymn (kW hC [(1053, 1049), (1054, 1050)]))
 refine Xad ?_
 refine kL [1,2,3,6,8] [48,96,128,1053,1054] [_,_,_,_,_] [_,_,_,_,_] ?_
 refine kA h (fun v19 => ([(1, .any), (2, .any), (3, .any)], [(128, some (.box [.own 1053, .own 1054, .sv (.int .i64 v19)])), (48, none)])) (fun v19 h => ?_) fun v19 h => ?_
 refine kL [1,2,3,6,8] [48,96,128,1053,1054] [_,_,_,_,_] [_,_,_,_,_] ?_
 refine kA h (fun v20 => ([(54, .sv (.bool v20))], [])) (fun v20 h => ?_) fun v20 h => ?_
 refine Xac ?_
 iterate 3 refine kO hT hC ?_
 refine kS h ?_ ?_ <;> intro b11 h
 iterate 2 refine kI hT hC b11 ?_
 refine kP hC true b11 ?_
 exact Vc.nil kM
 iterate 2 refine kF hC b11 ?_
 refine kP hC false b11 ?_
 exact Vc.nil kM
 refine kS h ?_ ?_ <;> intro b12 h
 refine kt b12 (Xac ?_)
 iterate 5 refine kO hT hC ?_
 refine kC hC [] Tryz.call145 h (fun _ => Xkb) fun q21 h => ?_
 iterate 2 refine kO hT hC ?_
 exact Vc.nil kM
 exact kf b12 (Xaf kM)
 refine Xab ?_
 iterate 3 refine kO hT hC ?_
 refine Vc.nil (Xah ?_)
 obtain rfl := kj h
 exact Xcl (τ := ⟨[(6, .ptr 2000000 0), (7, .sv (.bool true))], [(16, some (.ints .i64 v13.1)), (17, some (.ints .i64 v13.2)), (2000000, some (.box [.own 16, .own 17, .sv (.int .i64 v19)]))]⟩) (kW hC [(16, 1053), (17, 1054), (2000000, 96)]) rfl ⟨rfl, rfl, trivial⟩
def Xk1 (r : Int) : AV := .sv (.int .i64 r)
def Xk0 (r : Int) : Xa0 := []
theorem Xpi {p0 p1 r} (h : Xi0 p0 p1 = some r) : AC Tryz.prog 200 [.sv (.int .i64 p0), .sv (.int .i64 p1)] [] (Xk1 r) (Xk0 r) := by
 refine Xag hT Tryz.func200 rfl fun C hC => ?_
 unfold Xi0 at h
 refine Xab ?_
 refine kO hT hC ?_
 refine Vc.nil (Xao ?_)
 refine kL [0,1] [] [_,_] [] ?_
 refine kA h (fun v1 => ([(25, .sv (.bool v1))], [])) (fun v1 h => ?_) fun v1 h => ?_
 refine Xac ?_
 iterate 3 refine kO hT hC ?_
 refine kS h ?_ ?_ <;> intro b1 h
 iterate 2 refine kI hT hC b1 ?_
 refine kP hC true b1 ?_
 refine kO hT hC ?_
 refine kS h ?_ ?_ <;> intro b2 h
 iterate 2 refine kF hC b2 ?_
 refine kP hC true b2 ?_
 refine kO hT hC ?_
 iterate 5 refine kF hC rfl ?_
 refine kO hT hC ?_
 exact Vc.nil kM
 iterate 2 refine kI hT hC b2 ?_
 refine kP hC false b2 ?_
 refine kO hT hC ?_
 refine kS h ?_ ?_ <;> intro b3 h
 iterate 5 refine kF hC b3 ?_
 refine kP hC true b3 ?_
 exact Vc.nil kM
 iterate 5 refine kI hT hC b3 ?_
 refine kP hC false b3 ?_
 exact Vc.nil kM
 iterate 2 refine kF hC b1 ?_
 refine kP hC false b1 ?_
 refine kO hT hC ?_
 iterate 2 refine kI hT hC rfl ?_
 iterate 2 refine kO hT hC ?_
 refine kS h ?_ ?_ <;> intro b4 h
 iterate 5 refine kF hC b4 ?_
 refine kP hC true b4 ?_
 exact Vc.nil kM
 iterate 5 refine kI hT hC b4 ?_
 refine kP hC false b4 ?_
 exact Vc.nil kM
 refine kS h ?_ ?_ <;> intro b5 h
 refine kt b5 (Xab ?_)
 refine kO hT hC ?_
 exact Vc.nil (Xah (Xas kR))
 refine kf b5 (Xaf (Xad (Xab ?_)))
 refine kO hT hC ?_
 refine Vc.nil (Xao (Xab ?_))
 refine kO hT hC ?_
 refine Vc.nil ?_
 refine kL [0,1,5,6] [] [_,_,_,_] [] ?_
 obtain ⟨o48, hl, h⟩ := Xa4 h
 refine Xlu (fun v17 => ([(5, .sv (.int .i64 v17.1)), (6, .sv (.int .i64 v17.2))], [])) (fun v33 => ([(0, .any), (1, .any), (5, .any), (6, .any)], [])) (fun r => Xuz C T Tryz.f200.results.toList (Xk1 r) (Xk0 r)) hl ?_ ?_ ?_ ?_
 try dsimp only
 apply Xfs hC []
 exact co
 rfl
 decide
 rfl
 intro v17 s hs
 have h := hs
 unfold Xh6 at h
 refine Xao (Xab ?_)
 iterate 5 refine kO hT hC ?_
 refine Vc.nil ?_
 refine kS h ?_ ?_ <;> intro b32 h
 refine kt b32 (Xaf (Xad (Xao (Xak (Xab ?_)))))
 refine kO hT hC ?_
 refine Vc.nil ?_
 refine kL [0,1,5,6,7] [] [_,_,_,_,_] [] ?_
 obtain ⟨o47, hl, h⟩ := Xa4 h
 refine Xlu (fun v38 => ([(5, .sv (.int .i64 v38.1)), (7, .sv (.int .i64 v38.2))], [])) (fun v43 => ([(5, .sv (.int .i64 v43)), (7, .any)], [])) (fun r => Xuz C T Tryz.f200.results.toList (Xk1 r) (Xk0 r)) hl ?_ ?_ ?_ ?_
 try dsimp only
 apply Xfs hC []
 exact co
 rfl
 decide
 rfl
 intro v38 s hs
 have h := hs
 unfold Xkz at h
 refine Xao (Xab ?_)
 iterate 3 refine kO hT hC ?_
 refine Vc.nil ?_
 refine kS h ?_ ?_ <;> intro b41 h
 refine kt b41 (Xaf (Xad ?_))
 refine kL [0,1,5,6,7] [] [_,_,_,_,_] [] ?_
 refine Ygv h (fun (v44 : Int) => ([(5, .sv (.int .i64 v44))], [])) (fun v44 h => ?_) (fun h => ?_)
 refine Xac ?_
 iterate 3 refine kO hT hC ?_
 exact Vc.nil kG
 refine Xak (Xab ?_)
 iterate 2 refine kO hT hC ?_
 refine Vc.nil ?_
 refine kL [0,1,5,6,7,8] [] [_,_,_,_,_,_] [] ?_
 refine kA h (fun v45 => ([(8, .sv (.int .i64 v45))], [])) (fun v45 h => ?_) fun v45 h => ?_
 refine Xab ?_
 refine kO hT hC ?_
 refine kQ hT hC h fun h => ?_
 refine kO hT hC ?_
 refine Vc.nil ?_
 refine kS h ?_ ?_ <;> intro b42 h
 refine kt b42 (Xac ?_)
 iterate 5 refine kO hT hC ?_
 exact Vc.nil kM
 exact kf b42 (Xaf kM)
 refine Xao (Xab ?_)
 iterate 5 refine kO hT hC ?_
 refine kC hC [] Tryz.call53 h (fun _ => Xal) fun q46 h => ?_
 refine kO hT hC ?_
 refine Vc.nil ?_
 refine kS h ?_ ?_ <;> intro b43 h
 refine kt b43 (Xam (Xat (Yed ?_)))
 exact Yg5 v38.1 h (kW hC [])
 refine kf b43 (Xaf (Xad (Xao (Xab ?_))))
 iterate 3 refine kO hT hC ?_
 refine Vc.nil ?_
 refine kS h ?_ ?_ <;> intro b44 h
 refine kt b44 (Xab ?_)
 iterate 8 refine kO hT hC ?_
 refine Vc.nil (Xah (Xas (Xii (Ymh ?_))))
 obtain rfl := kj h
 refine Yaq (Yap ?_)
 exact Xcl (Xkc.refl _) rfl trivial
 refine kf b44 (Xaf (Xad (Xac ?_)))
 iterate 3 refine kO hT hC ?_
 refine Vc.nil (Xan ?_)
 exact Yg5 (Xaa .i64 (v38.1 + 1)) h (kW hC [])
 exact kf b41 (Xam (Xat kb))
 intro v43 e
 subst e
 refine Xan (Xad (Xac ?_))
 iterate 3 refine kO hT hC ?_
 exact Vc.nil kG
 intro r' σ' e hE
 subst e
 obtain rfl := kj h
 refine Xii (Xas (Yaq (Yap ?_)))
 exact hE
 exact kf b32 (Xam (Xat kb))
 intro v33 e
 subst e
 refine Xad (Xab ?_)
 refine kO hT hC ?_
 exact Vc.nil (Xah kR)
 intro r' σ' e hE
 subst e
 obtain rfl := kj h
 refine Xas ?_
 exact hE
def Xsn (r : ((List Int) × Bool)) : AV := .tup [.own 16, .sv (.bool r.2)]
def Xsm (r : ((List Int) × Bool)) : Xa0 := [(16, .ints .i64 r.1)]
theorem Xi2 {p0 p1 r} (h : Xb7 p0 p1 = some r) : AC Tryz.prog 160 [.sv (.int .i64 p0), .sv (.ints .i64 p1)] [] (Xsn r) (Xsm r) := by
 refine Xag hT Tryz.func160 rfl fun C hC => ?_
 unfold Xb7 at h
 refine Xab ?_
 iterate 2 refine kO hT hC ?_
 refine Vc.nil (Xao ?_)
 refine kL [0,1] [] [_,_] [] ?_
 refine kA h (fun v1 => ([(21, .sv (.bool v1))], [])) (fun v1 h => ?_) fun v1 h => ?_
 refine Xac ?_
 iterate 3 refine kO hT hC ?_
 refine kS h ?_ ?_ <;> intro b1 h
 iterate 2 refine kI hT hC b1 ?_
 refine kP hC true b1 ?_
 refine kO hT hC ?_
 refine kS h ?_ ?_ <;> intro b2 h
 iterate 6 refine kF hC b2 ?_
 refine kP hC true b2 ?_
 exact Vc.nil kM
 iterate 6 refine kI hT hC b2 ?_
 refine kP hC false b2 ?_
 exact Vc.nil kM
 iterate 2 refine kF hC b1 ?_
 refine kP hC false b1 ?_
 refine kO hT hC ?_
 iterate 6 refine kI hT hC rfl ?_
 refine kO hT hC ?_
 exact Vc.nil kM
 refine kS h ?_ ?_ <;> intro b3 h
 refine kt b3 (Xab ?_)
 iterate 3 refine kO hT hC ?_
 refine Vc.nil (Xah (Xas ?_))
 obtain rfl := kj h
 exact Xcl (τ := ⟨[(4, .own 16), (5, .sv (.bool false))], [(16, some (.ints .i64 ([] : List Int)))]⟩) (kW hC [(16, 352)]) rfl ⟨rfl, trivial⟩
 refine kf b3 (Xaf (Xad (Xab ?_)))
 iterate 2 refine kO hT hC ?_
 obtain ⟨hq, h⟩ := Xau h
 refine Yhw hT hC rfl rfl rfl rfl ⟨hq.1, hq.2.1, hq.2.2, by decide⟩ ?_
 refine kO hT hC ?_
 refine Vc.nil (Xao (Xab ?_))
 refine kO hT hC ?_
 refine Vc.nil ?_
 refine kL [0,1,6,7] [400] [_,_,_,_] [_] ?_
 refine kX h (fun v4 => ([(7, .sv (.int .i64 v4.1))], [(400, some (.ints .i64 v4.2))])) (fun v7 => ([(0, .any), (1, .any), (7, .any)], [(400, some (.ints .i64 v7))])) (kW hC []) (fun v4 s h => ?_) fun v7 h => ?_
 unfold Xbn at h
 refine Xao (Xab ?_)
 iterate 5 refine kO hT hC ?_
 refine Vc.nil ?_
 refine kS h ?_ ?_ <;> intro b6 h
 refine kt b6 (Xaf (Xad (Xao (Xak ?_))))
 refine Xdf hm ?_
 iterate 3 refine kO hT hC ?_
 refine kC hC [] Tryz.call200 h (fun _ => Xpi) fun q8 h => ?_
 iterate 2 refine kO hT hC ?_
 refine kQ hT hC h fun h => ?_
 refine kO hT hC ?_
 iterate 2 refine kQ hT hC h fun h => ?_
 refine kD (Xan (Xad (Xac ?_)))
 iterate 3 refine kO hT hC ?_
 exact Vc.nil kG
 exact kf b6 (Xam (Xat ku))
 refine Xad (Xab ?_)
 iterate 3 refine kO hT hC ?_
 refine Vc.nil (Xah ?_)
 obtain rfl := kj h
 exact Xcl (τ := ⟨[(4, .own 16), (5, .sv (.bool true))], [(16, some (.ints .i64 v7))]⟩) (kW hC [(16, 400)]) rfl ⟨rfl, trivial⟩
def Xze (r : Int) : AV := .sv (.int .i64 r)
def Xzd (r : Int) : Xa0 := []
theorem Xpo {p0 r} (h : Xel p0 = some r) : AC Tryz.prog 202 [.sv (.int .i64 p0)] [] (Xze r) (Xzd r) := by
 refine Xag hT Tryz.func202 rfl fun C hC => ?_
 unfold Xel at h
 refine Xab ?_
 refine kO hT hC ?_
 refine Vc.nil (Xao (Xab ?_))
 refine kO hT hC ?_
 refine kC hC [] Tryz.call53 h (fun _ => Xal) fun q1 h => ?_
 refine kO hT hC ?_
 refine Vc.nil ?_
 refine kS h ?_ ?_ <;> intro b1 h
 refine kt b1 (Xab ?_)
 refine kO hT hC ?_
 exact Vc.nil (Xah (Xas kR))
 refine kf b1 (Xaf (Xad (Xab ?_)))
 refine kO hT hC ?_
 refine Vc.nil ?_
 refine kL [0,3] [] [_,_] [] ?_
 refine kA h (fun v2 => ([(3, .sv (.int .i64 v2))], [])) (fun v2 h => ?_) fun v2 h => ?_
 refine Xab ?_
 refine kO hT hC ?_
 refine kQ hT hC h fun h => ?_
 refine Vc.nil (Xak (Xab ?_))
 iterate 2 refine kO hT hC ?_
 refine Vc.nil ?_
 refine kS h ?_ ?_ <;> intro b2 h
 refine kt b2 (Xac ?_)
 refine kO hT hC ?_
 exact Vc.nil (Xan kM)
 refine kf b2 (Xab ?_)
 iterate 2 refine kO hT hC ?_
 refine Vc.nil ?_
 refine kS h ?_ ?_ <;> intro b3 h
 refine kt b3 (Xac ?_)
 refine kO hT hC ?_
 exact Vc.nil (Xan kM)
 refine kf b3 (Xab ?_)
 iterate 2 refine kO hT hC ?_
 refine Vc.nil ?_
 refine kS h ?_ ?_ <;> intro b4 h
 refine kt b4 (Xac ?_)
 refine kO hT hC ?_
 exact Vc.nil (Xan kM)
 refine kf b4 (Xab ?_)
 iterate 2 refine kO hT hC ?_
 refine Vc.nil ?_
 refine kS h ?_ ?_ <;> intro b5 h
 refine kt b5 (Xac ?_)
 refine kO hT hC ?_
 exact Vc.nil (Xan kM)
 refine kf b5 (Xab ?_)
 iterate 2 refine kO hT hC ?_
 refine Vc.nil ?_
 refine kS h ?_ ?_ <;> intro b6 h
 refine kt b6 (Xac ?_)
 refine kO hT hC ?_
 exact Vc.nil (Xan kM)
 exact kf b6 (Xaf (Xan kM))
 refine Xao (Xab ?_)
 refine kO hT hC ?_
 refine Vc.nil ?_
 refine kL [0,3,4] [] [_,_,_] [] ?_
 refine kX h (fun v4 => ([(3, .sv (.int .i64 v4.1)), (4, .sv (.int .i64 v4.2))], [])) (fun v6 => ([(3, .sv (.int .i64 v6)), (0, .any), (4, .any)], [])) (kW hC []) (fun v4 s h => ?_) fun v6 h => ?_
 unfold Xgq at h
 refine Xao (Xab ?_)
 iterate 2 refine kO hT hC ?_
 refine kQ hT hC h fun h => ?_
 refine kO hT hC ?_
 refine Vc.nil ?_
 refine kS h ?_ ?_ <;> intro b9 h
 refine kt b9 (Xaf (Xad (Xao (Xak (Xac ?_)))))
 iterate 3 refine kO hT hC ?_
 refine Vc.nil (Xan (Xad (Xac ?_)))
 iterate 3 refine kO hT hC ?_
 exact Vc.nil kG
 exact kf b9 (Xam (Xat ku))
 refine Xad (Xab ?_)
 iterate 2 refine kO hT hC ?_
 exact Vc.nil (Xah kR)
def Xse (r : Int) : AV := .sv (.int .i64 r)
def Xsd (r : Int) : Xa0 := []
theorem Xt7 {p0 p1 r} (h : Xdm p0 p1 = some r) : AC Tryz.prog 161 [.sv (.int .i64 p0), .sv (.int .i64 p1)] [] (Xse r) (Xsd r) := by
 refine Xag hT Tryz.func161 rfl fun C hC => ?_
 unfold Xdm at h
 refine Xab ?_
 refine kO hT hC ?_
 refine Vc.nil (Xao (Xab ?_))
 refine kO hT hC ?_
 refine kC hC [] Tryz.call53 h (fun _ => Xal) fun q1 h => ?_
 refine kO hT hC ?_
 refine Vc.nil ?_
 refine kS h ?_ ?_ <;> intro b1 h
 refine kt b1 (Xab ?_)
 refine kO hT hC ?_
 exact Vc.nil (Xah (Xas kR))
 refine kf b1 (Xaf (Xad (Xab ?_)))
 iterate 2 refine kO hT hC ?_
 refine kC hC [] Tryz.call202 h (fun _ => Xpo) fun q2 h => ?_
 iterate 2 refine kO hT hC ?_
 exact Vc.nil (Xah kR)
def Xzc (r : Int) : AV := .sv (.int .i64 r)
def Xzb (r : Int) : Xa0 := []
theorem Xpl {p0 p1 r} (h : Xfl p0 p1 = some r) : AC Tryz.prog 237 [.sv (.int .i64 p0), .sv (.int .i64 p1)] [] (Xzc r) (Xzb r) := by
 refine Xag hT Tryz.func237 rfl fun C hC => ?_
 unfold Xfl at h
 refine Xab ?_
 refine kO hT hC ?_
 refine Vc.nil (Xao ?_)
 refine kL [0,1] [] [_,_] [] ?_
 refine kA h (fun v1 => ([(14, .sv (.bool v1))], [])) (fun v1 h => ?_) fun v1 h => ?_
 refine Xac ?_
 refine kO hT hC ?_
 refine kC hC [] Tryz.call53 h (fun _ => Xal) fun q2 h => ?_
 iterate 2 refine kO hT hC ?_
 refine kS h ?_ ?_ <;> intro b1 h
 refine kI hT hC (kn b1) ?_
 refine kE hC (kn b1) [] Tryz.call53 h (fun _ => Xal) fun q3 h => ?_
 refine kI hT hC (kn b1) ?_
 refine kP hC false (kn b1) ?_
 exact Vc.nil kM
 iterate 3 refine kF hC (kn b1) ?_
 refine kP hC true (kn b1) ?_
 exact Vc.nil kM
 refine kS h ?_ ?_ <;> intro b2 h
 refine kt b2 (Xab ?_)
 refine kO hT hC ?_
 exact Vc.nil (Xah (Xas kR))
 refine kf b2 (Xaf (Xad (Xab ?_)))
 refine kO hT hC ?_
 refine Vc.nil (Xao (Xab ?_))
 iterate 4 refine kO hT hC ?_
 refine Vc.nil ?_
 refine kL [5,6] [] [_,_] [] ?_
 refine kX h (fun v6 => ([(5, .sv (.int .i64 v6.1)), (6, .sv (.int .i64 v6.2))], [])) (fun v9 => ([(5, .sv (.int .i64 v9)), (6, .any)], [])) (kW hC []) (fun v6 s h => ?_) fun v9 h => ?_
 unfold Xgp at h
 refine Xao (Xab ?_)
 iterate 2 refine kO hT hC ?_
 refine Vc.nil ?_
 refine kS h ?_ ?_ <;> intro b7 h
 refine kt b7 (Xaf (Xad ?_))
 refine kL [5,6] [] [_,_] [] ?_
 refine kA h (fun v10 => ([(5, .sv (.int .i64 v10))], [])) (fun v10 h => ?_) fun v10 h => ?_
 refine Xak (Xab ?_)
 refine kO hT hC ?_
 refine kQ hT hC h fun h => ?_
 refine kO hT hC ?_
 refine Vc.nil ?_
 refine kS h ?_ ?_ <;> intro b8 h
 refine kt b8 (Xac ?_)
 iterate 3 refine kO hT hC ?_
 exact Vc.nil (Xan kM)
 exact kf b8 (Xaf (Xan kM))
 refine Xac ?_
 refine kO hT hC ?_
 refine kQ hT hC h fun h => ?_
 refine kO hT hC ?_
 exact Vc.nil kG
 exact kf b7 (Xam (Xat ku))
 refine Xad (Xab ?_)
 iterate 2 refine kO hT hC ?_
 exact Vc.nil (Xah kR)
def Xzk (r : Int) : AV := .sv (.int .i64 r)
def Xzj (r : Int) : Xa0 := []
theorem Ybi {p0 p1 p2 r} (h : Xg5 p0 p1 p2 = some r) : AC Tryz.prog 236 [.sv (.ints .i64 p0), .sv (.int .i64 p1), .sv (.int .i64 p2)] [] (Xzk r) (Xzj r) := by
 refine Xag hT Tryz.func236 rfl fun C hC => ?_
 unfold Xg5 at h
 refine Xab ?_
 refine kO hT hC ?_
 refine kN ?_
 refine kO hT hC ?_
 refine Vc.nil (Xao (Xab ?_))
 refine kO hT hC ?_
 refine Vc.nil ?_
 refine kL [0,1,2,7,8] [] [_,_,_,_,_] [] ?_
 refine kX h (fun v3 => ([(7, .sv (.int .i64 v3.1)), (8, .sv (.int .i64 v3.2))], [])) (fun v6 => ([(7, .sv (.int .i64 v6)), (0, .any), (1, .any), (2, .any), (8, .any)], [])) (kW hC []) (fun v3 s h => ?_) fun v6 h => ?_
 unfold Xct at h
 refine Xao (Xab ?_)
 iterate 2 refine kO hT hC ?_
 refine Vc.nil ?_
 refine kS h ?_ ?_ <;> intro b3 h
 refine kt b3 (Xaf (Xad (Xao (Xak ?_))))
 refine Xdf hm ?_
 iterate 6 refine kO hT hC ?_
 refine kQ hT hC h fun h => ?_
 iterate 3 refine kO hT hC ?_
 refine kC hC [] Tryz.call237 h (fun _ => Xpl) fun q7 h => ?_
 iterate 3 refine kO hT hC ?_
 refine kD (Xan (Xad (Xac ?_)))
 iterate 3 refine kO hT hC ?_
 exact Vc.nil kG
 exact kf b3 (Xam (Xat ku))
 refine Xad (Xab ?_)
 iterate 2 refine kO hT hC ?_
 exact Vc.nil (Xah kR)
def Xwn (r : (List Int)) : AV := .own 16
def Xwm (r : (List Int)) : Xa0 := [(16, .ints .i64 r)]
theorem Xoh {p0 r} (h : Xeb p0 = some r) : AC Tryz.prog 201 [.sv (.ints .i64 p0)] [] (Xwn r) (Xwm r) := by
 refine Xag hT Tryz.func201 rfl fun C hC => ?_
 unfold Xeb at h
 refine Xab ?_
 refine kO hT hC ?_
 refine kN ?_
 iterate 2 refine kO hT hC ?_
 refine Vc.nil (Xao (Xab ?_))
 refine kO hT hC ?_
 refine Vc.nil ?_
 refine kL [0,3,4] [176] [_,_,_] [_] ?_
 refine kX h (fun v10 => ([(4, .sv (.int .i64 v10.1))], [(176, some (.ints .i64 v10.2))])) (fun v20 => ([(0, .any), (4, .any)], [(176, some (.ints .i64 v20))])) (kW hC []) (fun v10 s h => ?_) fun v20 h => ?_
 unfold Xby at h
 refine Xao (Xab ?_)
 iterate 2 refine kO hT hC ?_
 refine Vc.nil ?_
 refine kS h ?_ ?_ <;> intro b9 h
 refine kt b9 (Xaf (Xad (Xao (Xak (Xab ?_)))))
 refine kO hT hC ?_
 refine Vc.nil ?_
 refine kL [0,3,4,5] [176] [_,_,_,_] [_] ?_
 refine kX h (fun v23 => ([(5, .sv (.int .i64 v23.1))], [(176, some (.ints .i64 v23.2))])) (fun v26 => ([(5, .any)], [(176, some (.ints .i64 v26))])) (kW hC []) (fun v23 s h => ?_) fun v26 h => ?_
 unfold Xbz at h
 refine Xao (Xab ?_)
 iterate 2 refine kO hT hC ?_
 refine Vc.nil ?_
 refine kS h ?_ ?_ <;> intro b12 h
 refine kt b12 (Xaf (Xad (Xao (Xak (Xac ?_)))))
 iterate 4 refine kO hT hC ?_
 refine kC hC [] Tryz.call236 h (fun _ => Ybi) fun q27 h => ?_
 refine kO hT hC ?_
 refine kT hT hC h fun h => ?_
 refine kO hT hC ?_
 refine Vc.nil (Xan (Xad (Xac ?_)))
 iterate 3 refine kO hT hC ?_
 refine Vc.nil ?_
 obtain rfl := kj h
 exact Yby (kW hC [(176, 416)])
 exact kf b12 (Xam (Xat ku))
 refine Xan (Xad (Xac ?_))
 iterate 3 refine kO hT hC ?_
 exact Vc.nil kG
 exact kf b9 (Xam (Xat ku))
 refine Xad (Xab ?_)
 iterate 2 refine kO hT hC ?_
 refine Vc.nil (Xao (Xab ?_))
 refine kO hT hC ?_
 refine Vc.nil ?_
 refine kL [3,6,7] [176,432] [_,_,_] [_,_] ?_
 refine kX h (fun v60 => ([(7, .sv (.int .i64 v60.1))], [(432, some (.ints .i64 v60.2))])) (fun v91 => ([(3, .any), (7, .any)], [(432, some (.ints .i64 v91)), (176, none)])) (kW hC []) (fun v60 s h => ?_) fun v91 h => ?_
 unfold Xbo at h
 refine Xao (Xab ?_)
 iterate 2 refine kO hT hC ?_
 refine Vc.nil ?_
 refine kS h ?_ ?_ <;> intro b39 h
 refine kt b39 (Xaf (Xad (Xao (Xak (Xab ?_)))))
 refine kO hT hC ?_
 refine Vc.nil ?_
 refine kL [3,6,7,8] [176,432] [_,_,_,_] [_,_] ?_
 refine kX h (fun v101 => ([(8, .sv (.int .i64 v101.1))], [(432, some (.ints .i64 v101.2))])) (fun v111 => ([(8, .any)], [(432, some (.ints .i64 v111))])) (kW hC []) (fun v101 s h => ?_) fun v111 h => ?_
 unfold Xbp at h
 refine Xao (Xab ?_)
 iterate 2 refine kO hT hC ?_
 refine Vc.nil ?_
 refine kS h ?_ ?_ <;> intro b48 h
 refine kt b48 (Xaf (Xad (Xao (Xak (Xab ?_)))))
 refine kO hT hC ?_
 refine Vc.nil (Xao (Xab ?_))
 refine kO hT hC ?_
 refine Vc.nil ?_
 refine kL [3,6,7,8,9,10] [176,432] [_,_,_,_,_,_] [_,_] ?_
 refine kX h (fun v114 => ([(9, .sv (.int .i64 v114.1)), (10, .sv (.int .i64 v114.2))], [])) (fun v117 => ([(9, .sv (.int .i64 v117)), (10, .any)], [])) (kW hC []) (fun v114 s h => ?_) fun v117 h => ?_
 unfold Xbq at h
 refine Xao (Xab ?_)
 iterate 2 refine kO hT hC ?_
 refine Vc.nil ?_
 refine kS h ?_ ?_ <;> intro b51 h
 refine kt b51 (Xaf (Xad (Xao (Xak ?_))))
 refine Xdf hm ?_
 iterate 3 refine kO hT hC ?_
 refine kC hC [] Tryz.call237 h (fun _ => Xpl) fun q118 h => ?_
 iterate 5 refine kO hT hC ?_
 iterate 2 refine kQ hT hC h fun h => ?_
 iterate 3 refine kO hT hC ?_
 refine kD (Xan (Xad (Xac ?_)))
 iterate 3 refine kO hT hC ?_
 exact Vc.nil kG
 exact kf b51 (Xam (Xat ku))
 refine Xad (Xac ?_)
 iterate 3 refine kO hT hC ?_
 refine kT hT hC h fun h => ?_
 refine kO hT hC ?_
 refine Vc.nil (Xan (Xad (Xac ?_)))
 iterate 3 refine kO hT hC ?_
 refine Vc.nil ?_
 obtain rfl := kj h
 exact Yby (kW hC [(432, 896)])
 exact kf b48 (Xam (Xat ku))
 refine Xan (Xad (Xac ?_))
 iterate 3 refine kO hT hC ?_
 exact Vc.nil kG
 exact kf b39 (Xam (Xat ku))
 refine Xad (Xab ?_)
 iterate 2 refine kO hT hC ?_
 refine Vc.nil (Xah ?_)
 obtain rfl := kj h
 exact Xcl (τ := ⟨[(2, .own 16)], [(16, some (.ints .i64 v91))]⟩) (kW hC [(16, 432)]) rfl ⟨rfl, trivial⟩
def Xwh (r : Int) : AV := .sv (.int .i64 r)
def Xwg (r : Int) : Xa0 := []
theorem Xh8 {p0 p1 r} (h : Xbx p0 p1 = some r) : AC Tryz.prog 207 [.sv (.int .i64 p0), .sv (.int .i64 p1)] [] (Xwh r) (Xwg r) := by
 refine Xag hT Tryz.func207 rfl fun C hC => ?_
 unfold Xbx at h
 refine Xab ?_
 refine kO hT hC ?_
 refine kN ?_
 iterate 2 refine kO hT hC ?_
 refine kQ hT hC h fun h => ?_
 refine kO hT hC ?_
 refine Vc.nil ?_
 refine kL [0,1,5] [] [_,_,_] [] ?_
 refine kA h (fun v1 => ([(5, .sv (.int .i64 v1)), (0, .any), (1, .any)], [])) (fun v1 h => ?_) fun v1 h => ?_
 refine Xab ?_
 iterate 2 refine kO hT hC ?_
 refine kQ hT hC h fun h => ?_
 refine kO hT hC ?_
 refine Vc.nil ?_
 refine kS h ?_ ?_ <;> intro b1 h
 refine kt b1 (Xac ?_)
 iterate 3 refine kO hT hC ?_
 exact Vc.nil kM
 exact kf b1 (Xaf kM)
 refine Xab ?_
 iterate 2 refine kO hT hC ?_
 exact Vc.nil (Xah kR)
def Xsa (r : (List Int)) : AV := .own 16
def Xr9 (r : (List Int)) : Xa0 := [(16, .ints .i64 r)]
theorem Xt3 {p0 r} (h : Xdk p0 = some r) : AC Tryz.prog 162 [.sv (.ints .i64 p0)] [] (Xsa r) (Xr9 r) := by
 refine Xag hT Tryz.func162 rfl fun C hC => ?_
 unfold Xdk at h
 refine Xab ?_
 refine kO hT hC ?_
 refine Vc.nil (Xao (Xab ?_))
 refine kO hT hC ?_
 refine kC hC [] Tryz.call150 h (fun _ => Xbk) fun q1 h => ?_
 refine kO hT hC ?_
 refine Vc.nil ?_
 refine kS h ?_ ?_ <;> intro b1 h
 refine kt b1 (Xab ?_)
 iterate 2 refine kO hT hC ?_
 refine Vc.nil (Xah (Xas ?_))
 obtain rfl := kj h
 exact Xcl (τ := ⟨[(2, .own 16)], [(16, some (.ints .i64 ([] : List Int)))]⟩) (kW hC [(16, 128)]) rfl ⟨rfl, trivial⟩
 refine kf b1 (Xaf (Xad (Xab ?_)))
 refine kO hT hC ?_
 refine kC hC [(16, 160)] Tryz.call201 h (fun _ => Xoh) fun q2 h => ?_
 refine kO hT hC ?_
 refine Vc.nil (Xao (Xab ?_))
 refine kO hT hC ?_
 refine Vc.nil ?_
 refine kL [3,4] [160] [_,_] [_] ?_
 refine kX h (fun v5 => ([(4, .sv (.int .i64 v5.1))], [(160, some (.ints .i64 v5.2))])) (fun v8 => ([(4, .any)], [(160, some (.ints .i64 v8))])) (kW hC []) (fun v5 s h => ?_) fun v8 h => ?_
 unfold Xd3 at h
 refine Xao (Xab ?_)
 iterate 2 refine kO hT hC ?_
 refine Vc.nil ?_
 refine kS h ?_ ?_ <;> intro b4 h
 refine kt b4 (Xaf (Xad (Xao (Xak (Xac ?_)))))
 iterate 4 refine kO hT hC ?_
 iterate 2 refine kQ hT hC h fun h => ?_
 refine kO hT hC ?_
 refine kC hC [] Tryz.call207 h (fun _ => Xh8) fun q9 h => ?_
 iterate 2 refine kQ hT hC h fun h => ?_
 refine Vc.nil (Xan (Xad (Xac ?_)))
 iterate 3 refine kO hT hC ?_
 exact Vc.nil kG
 exact kf b4 (Xam (Xat ku))
 refine Xad (Xab ?_)
 iterate 2 refine kO hT hC ?_
 refine Vc.nil (Xah ?_)
 obtain rfl := kj h
 exact Xcl (τ := ⟨[(2, .own 16)], [(16, some (.ints .i64 v8))]⟩) (kW hC [(16, 160)]) rfl ⟨rfl, trivial⟩
def Xy4 (r : Int) : AV := .sv (.int .i64 r)
def Xy3 (r : Int) : Xa0 := []
theorem Xph {p0 r} (h : Xg4 p0 = some r) : AC Tryz.prog 238 [.sv (.int .i64 p0)] [] (Xy4 r) (Xy3 r) := by
 refine Xag hT Tryz.func238 rfl fun C hC => ?_
 unfold Xg4 at h
 refine Xab ?_
 refine kO hT hC ?_
 refine Vc.nil (Xao (Xab ?_))
 refine kO hT hC ?_
 refine kC hC [] Tryz.call53 h (fun _ => Xal) fun q1 h => ?_
 refine kO hT hC ?_
 refine Vc.nil ?_
 refine kS h ?_ ?_ <;> intro b1 h
 refine kt b1 (Xab ?_)
 refine kO hT hC ?_
 exact Vc.nil (Xah (Xas kR))
 refine kf b1 (Xaf (Xad (Xab ?_)))
 refine kO hT hC ?_
 iterate 2 refine kQ hT hC h fun h => ?_
 refine kO hT hC ?_
 refine kN ?_
 refine kO hT hC ?_
 iterate 2 refine kQ hT hC h fun h => ?_
 refine kO hT hC ?_
 refine Vc.nil (Xao ?_)
 refine kL [3,4] [] [_,_] [] ?_
 refine kA h (fun v2 => ([(19, .sv (.bool v2))], [])) (fun v2 h => ?_) fun v2 h => ?_
 refine Xac ?_
 iterate 3 refine kO hT hC ?_
 refine kS h ?_ ?_ <;> intro b2 h
 iterate 2 refine kI hT hC b2 ?_
 refine kP hC true b2 ?_
 exact Vc.nil kM
 iterate 2 refine kF hC b2 ?_
 refine kP hC false b2 ?_
 exact Vc.nil kM
 refine kS h ?_ ?_ <;> intro b3 h
 refine kt b3 (Xab ?_)
 refine kO hT hC ?_
 exact Vc.nil (Xah (Xas kR))
 refine kf b3 (Xaf (Xad (Xao ?_)))
 refine kL [3,4] [] [_,_] [] ?_
 refine kA h (fun v3 => ([(25, .sv (.bool v3)), (3, .any), (4, .any)], [])) (fun v3 h => ?_) fun v3 h => ?_
 refine Xac ?_
 iterate 3 refine kO hT hC ?_
 refine kS h ?_ ?_ <;> intro b4 h
 iterate 2 refine kI hT hC b4 ?_
 refine kP hC true b4 ?_
 exact Vc.nil kM
 iterate 2 refine kF hC b4 ?_
 refine kP hC false b4 ?_
 exact Vc.nil kM
 refine kS h ?_ ?_ <;> intro b5 h
 refine kt b5 (Xab ?_)
 refine kO hT hC ?_
 exact Vc.nil (Xah (Xas kR))
 refine kf b5 (Xaf (Xad (Xab ?_)))
 refine kO hT hC ?_
 exact Vc.nil (Xah kR)
def Xwf (r : Int) : AV := .sv (.int .i64 r)
def Xwe (r : Int) : Xa0 := []
theorem Xa8 {p0 p1 p2 p3 r} (h : Xay p0 p1 p2 p3 = some r) : AC Tryz.prog 239 [.sv (.int .i64 p0), .sv (.int .i64 p1), .sv (.int .i64 p2), .sv (.int .i64 p3)] [] (Xwf r) (Xwe r) := by
 refine Xag hT Tryz.func239 rfl fun C hC => ?_
 unfold Xay at h
 refine Xab ?_
 refine kO hT hC ?_
 refine Vc.nil (Xao (Xab ?_))
 refine kO hT hC ?_
 refine Vc.nil (Xak (Xab ?_))
 iterate 2 refine kO hT hC ?_
 refine Vc.nil ?_
 refine kS h ?_ ?_ <;> intro b1 h
 refine kt b1 (Xab ?_)
 iterate 2 refine kO hT hC ?_
 exact Vc.nil (Xah (Xii (Xas kR)))
 refine kf b1 (Xab ?_)
 iterate 2 refine kO hT hC ?_
 refine Vc.nil ?_
 refine kS h ?_ ?_ <;> intro b2 h
 refine kt b2 (Xab ?_)
 iterate 2 refine kO hT hC ?_
 exact Vc.nil (Xah (Xii (Xas kR)))
 refine kf b2 (Xaf (Xan (Xad (Xab ?_))))
 iterate 2 refine kO hT hC ?_
 exact Vc.nil (Xah kR)
def Xv5 (r : Int) : AV := .sv (.int .i64 r)
def Xv4 (r : Int) : Xa0 := []
theorem Xy5 {p0 p1 r} (h : Xfj p0 p1 = some r) : AC Tryz.prog 208 [.sv (.int .i64 p0), .sv (.int .i64 p1)] [] (Xv5 r) (Xv4 r) := by
 refine Xag hT Tryz.func208 rfl fun C hC => ?_
 unfold Xfj at h
 refine Xab ?_
 refine kO hT hC ?_
 refine kN ?_
 refine kO hT hC ?_
 refine kC hC [] Tryz.call238 h (fun _ => Xph) fun q1 h => ?_
 refine kO hT hC ?_
 refine Vc.nil (Xao ?_)
 refine kL [0,5] [] [_,_] [] ?_
 refine kA h (fun v2 => ([(16, .sv (.bool v2))], [])) (fun v2 h => ?_) fun v2 h => ?_
 refine Xac ?_
 refine kO hT hC ?_
 refine kC hC [] Tryz.call53 h (fun _ => Xal) fun q3 h => ?_
 iterate 2 refine kO hT hC ?_
 refine kS h ?_ ?_ <;> intro b1 h
 iterate 2 refine kI hT hC (kn b1) ?_
 refine kP hC false (kn b1) ?_
 exact Vc.nil kM
 iterate 2 refine kF hC (kn b1) ?_
 refine kP hC true (kn b1) ?_
 exact Vc.nil kM
 refine kS h ?_ ?_ <;> intro b2 h
 refine kt b2 (Xab ?_)
 refine kO hT hC ?_
 exact Vc.nil (Xah (Xas kR))
 refine kf b2 (Xaf (Xad (Xab ?_)))
 refine kO hT hC ?_
 refine Vc.nil ?_
 refine kL [0,5,6] [] [_,_,_] [] ?_
 refine kA h (fun v4 => ([(6, .sv (.int .i64 v4)), (5, .any)], [])) (fun v4 h => ?_) fun v4 h => ?_
 refine Xab ?_
 refine kO hT hC ?_
 refine kQ hT hC h fun h => ?_
 refine Vc.nil (Xak (Xab ?_))
 iterate 2 refine kO hT hC ?_
 refine Vc.nil ?_
 refine kS h ?_ ?_ <;> intro b3 h
 refine kt b3 (Xac ?_)
 refine kO hT hC ?_
 refine kC hC [] Tryz.call239 h (fun _ => Xa8) fun q5 h => ?_
 refine kO hT hC ?_
 exact Vc.nil (Xan kM)
 refine kf b3 (Xab ?_)
 iterate 2 refine kO hT hC ?_
 refine Vc.nil ?_
 refine kS h ?_ ?_ <;> intro b4 h
 refine kt b4 (Xac ?_)
 refine kO hT hC ?_
 refine kC hC [] Tryz.call239 h (fun _ => Xa8) fun q6 h => ?_
 refine kO hT hC ?_
 exact Vc.nil (Xan kM)
 refine kf b4 (Xab ?_)
 iterate 2 refine kO hT hC ?_
 refine Vc.nil ?_
 refine kS h ?_ ?_ <;> intro b5 h
 refine kt b5 (Xac ?_)
 refine kO hT hC ?_
 refine kC hC [] Tryz.call239 h (fun _ => Xa8) fun q7 h => ?_
 refine kO hT hC ?_
 exact Vc.nil (Xan kM)
 refine kf b5 (Xab ?_)
 iterate 2 refine kO hT hC ?_
 refine Vc.nil ?_
 refine kS h ?_ ?_ <;> intro b6 h
 refine kt b6 (Xac ?_)
 refine kO hT hC ?_
 refine kC hC [] Tryz.call239 h (fun _ => Xa8) fun q8 h => ?_
 refine kO hT hC ?_
 exact Vc.nil (Xan kM)
 refine kf b6 (Xab ?_)
 iterate 2 refine kO hT hC ?_
 refine Vc.nil ?_
 refine kS h ?_ ?_ <;> intro b7 h
 refine kt b7 (Xac ?_)
 refine kO hT hC ?_
 refine kC hC [] Tryz.call239 h (fun _ => Xa8) fun q9 h => ?_
 refine kO hT hC ?_
 exact Vc.nil (Xan kM)
 refine kf b7 (Xab ?_)
 iterate 2 refine kO hT hC ?_
 refine Vc.nil ?_
 refine kS h ?_ ?_ <;> intro b8 h
 refine kt b8 (Xac ?_)
 refine kO hT hC ?_
 refine kC hC [] Tryz.call239 h (fun _ => Xa8) fun q10 h => ?_
 refine kO hT hC ?_
 exact Vc.nil (Xan kM)
 exact kf b8 (Xaf (Xan kM))
 refine Xao (Xab ?_)
 refine kO hT hC ?_
 refine Vc.nil ?_
 refine kL [0,6,7] [] [_,_,_] [] ?_
 refine kX h (fun v12 => ([(6, .sv (.int .i64 v12.1)), (7, .sv (.int .i64 v12.2))], [])) (fun v14 => ([(6, .sv (.int .i64 v14)), (0, .any), (7, .any)], [])) (kW hC []) (fun v12 s h => ?_) fun v14 h => ?_
 unfold Xc0 at h
 refine Xao (Xab ?_)
 iterate 2 refine kO hT hC ?_
 refine kQ hT hC h fun h => ?_
 refine kO hT hC ?_
 refine Vc.nil ?_
 refine kS h ?_ ?_ <;> intro b11 h
 refine kt b11 (Xaf (Xad (Xao (Xak (Xac ?_)))))
 iterate 3 refine kO hT hC ?_
 refine Vc.nil (Xan (Xad (Xac ?_)))
 iterate 3 refine kO hT hC ?_
 exact Vc.nil kG
 exact kf b11 (Xam (Xat ku))
 refine Xad (Xab ?_)
 iterate 2 refine kO hT hC ?_
 exact Vc.nil (Xah kR)
def Xsh (r : Int) : AV := .sv (.int .i64 r)
def Xsg (r : Int) : Xa0 := []
theorem Xua {p0 p1 p2 r} (h : Xdn p0 p1 p2 = some r) : AC Tryz.prog 163 [.sv (.int .i64 p0), .sv (.int .i64 p1), .sv (.int .i64 p2)] [] (Xsh r) (Xsg r) := by
 refine Xag hT Tryz.func163 rfl fun C hC => ?_
 unfold Xdn at h
 refine Xab ?_
 refine kO hT hC ?_
 refine Vc.nil (Xao (Xab ?_))
 refine kO hT hC ?_
 refine kC hC [] Tryz.call53 h (fun _ => Xal) fun q1 h => ?_
 refine kO hT hC ?_
 refine Vc.nil ?_
 refine kS h ?_ ?_ <;> intro b1 h
 refine kt b1 (Xab ?_)
 refine kO hT hC ?_
 exact Vc.nil (Xah (Xas kR))
 refine kf b1 (Xaf (Xad (Xab ?_)))
 iterate 3 refine kO hT hC ?_
 refine kC hC [] Tryz.call208 h (fun _ => Xy5) fun q2 h => ?_
 iterate 2 refine kO hT hC ?_
 exact Vc.nil (Xah kR)
def Xuh (r : (List Int)) : AV := .own 16
def Xug (r : (List Int)) : Xa0 := [(16, .ints .i64 r)]
theorem Xni {p0 r} (h : Xde p0 = some r) : AC Tryz.prog 209 [.sv (.ints .i64 p0)] [] (Xuh r) (Xug r) := by
 refine Xag hT Tryz.func209 rfl fun C hC => ?_
 unfold Xde at h
 refine Xab ?_
 refine kO hT hC ?_
 refine kN ?_
 iterate 2 refine kO hT hC ?_
 refine Vc.nil (Xao (Xab ?_))
 refine kO hT hC ?_
 refine Vc.nil ?_
 refine kL [0,3,4] [208] [_,_,_] [_] ?_
 refine kX h (fun v4 => ([(4, .sv (.int .i64 v4.1))], [(208, some (.ints .i64 v4.2))])) (fun v8 => ([(0, .any), (4, .any)], [(208, some (.ints .i64 v8))])) (kW hC []) (fun v4 s h => ?_) fun v8 h => ?_
 unfold Xbw at h
 refine Xao (Xab ?_)
 iterate 2 refine kO hT hC ?_
 refine Vc.nil ?_
 refine kS h ?_ ?_ <;> intro b3 h
 refine kt b3 (Xaf (Xad (Xao (Xak (Xab ?_)))))
 iterate 3 refine kO hT hC ?_
 refine kQ hT hC h fun h => ?_
 iterate 2 refine kO hT hC ?_
 refine kN ?_
 iterate 4 refine kO hT hC ?_
 refine kQ hT hC h fun h => ?_
 iterate 2 refine kO hT hC ?_
 refine kN ?_
 iterate 4 refine kO hT hC ?_
 refine kQ hT hC h fun h => ?_
 iterate 2 refine kO hT hC ?_
 refine kN ?_
 iterate 4 refine kO hT hC ?_
 refine kQ hT hC h fun h => ?_
 iterate 2 refine kO hT hC ?_
 refine kN ?_
 iterate 4 refine kO hT hC ?_
 refine kN ?_
 iterate 4 refine kO hT hC ?_
 refine kN ?_
 refine kO hT hC ?_
 refine kC hC [] Tryz.call207 h (fun _ => Xh8) fun q9 h => ?_
 iterate 3 refine kO hT hC ?_
 refine kN ?_
 iterate 2 refine kO hT hC ?_
 refine kC hC [] Tryz.call207 h (fun _ => Xh8) fun q10 h => ?_
 iterate 2 refine kO hT hC ?_
 refine Vc.nil (Xac ?_)
 iterate 14 refine kO hT hC ?_
 refine kT hT hC h fun h => ?_
 refine kO hT hC ?_
 refine Vc.nil (Xan (Xad (Xac ?_)))
 iterate 3 refine kO hT hC ?_
 refine Vc.nil ?_
 obtain rfl := kj h
 exact Yby (kW hC [(208, 1104)])
 exact kf b3 (Xam (Xat ku))
 refine Xad (Xab ?_)
 iterate 2 refine kO hT hC ?_
 refine Vc.nil (Xah ?_)
 obtain rfl := kj h
 exact Xcl (τ := ⟨[(2, .own 16)], [(16, some (.ints .i64 v8))]⟩) (kW hC [(16, 208)]) rfl ⟨rfl, trivial⟩
def Xwj (r : (List Int)) : AV := .own 16
def Xwi (r : (List Int)) : Xa0 := [(16, .ints .i64 r)]
theorem Xia {p0 r} (h : Xcs p0 = some r) : AC Tryz.prog 204 [.sv (.ints .i64 p0)] [] (Xwj r) (Xwi r) := by
 refine Xag hT Tryz.func204 rfl fun C hC => ?_
 unfold Xcs at h
 refine Xab ?_
 refine kO hT hC ?_
 refine kN ?_
 obtain ⟨hq, h⟩ := Xau h
 refine Yhw hT hC rfl rfl rfl rfl ⟨hq.1, hq.2.1, hq.2.2, by decide⟩ ?_
 refine kO hT hC ?_
 refine Vc.nil (Xao (Xab ?_))
 refine kO hT hC ?_
 refine Vc.nil ?_
 refine kL [0,3,4] [80] [_,_,_] [_] ?_
 refine kX h (fun v2 => ([(4, .sv (.int .i64 v2.1))], [(80, some (.ints .i64 v2.2))])) (fun v4 => ([(0, .any), (4, .any)], [(80, some (.ints .i64 v4))])) (kW hC []) (fun v2 s h => ?_) fun v4 h => ?_
 unfold Xcf at h
 refine Xao (Xab ?_)
 iterate 2 refine kO hT hC ?_
 refine Vc.nil ?_
 refine kS h ?_ ?_ <;> intro b3 h
 refine kt b3 (Xaf (Xad (Xao (Xak (Xac ?_)))))
 iterate 2 refine kO hT hC ?_
 refine kQ hT hC h fun h => ?_
 iterate 2 refine kO hT hC ?_
 refine kQ hT hC h fun h => ?_
 iterate 3 refine kO hT hC ?_
 refine kQ hT hC h fun h => ?_
 refine kO hT hC ?_
 iterate 2 refine kQ hT hC h fun h => ?_
 refine Vc.nil (Xan (Xad (Xac ?_)))
 iterate 3 refine kO hT hC ?_
 exact Vc.nil kG
 exact kf b3 (Xam (Xat ku))
 refine Xad (Xab ?_)
 iterate 2 refine kO hT hC ?_
 refine Vc.nil (Xah ?_)
 obtain rfl := kj h
 exact Xcl (τ := ⟨[(2, .own 16)], [(16, some (.ints .i64 v4))]⟩) (kW hC [(16, 80)]) rfl ⟨rfl, trivial⟩
def Xt6 (r : (List Int)) : AV := .own 16
def Xt5 (r : (List Int)) : Xa0 := [(16, .ints .i64 r)]
theorem Xv1 {p0 r} (h : Xej p0 = some r) : AC Tryz.prog 164 [.sv (.ints .i64 p0)] [] (Xt6 r) (Xt5 r) := by
 refine Xag hT Tryz.func164 rfl fun C hC => ?_
 unfold Xej at h
 refine Xab ?_
 refine kO hT hC ?_
 refine Vc.nil (Xao (Xab ?_))
 refine kO hT hC ?_
 refine kC hC [] Tryz.call150 h (fun _ => Xbk) fun q1 h => ?_
 refine kO hT hC ?_
 refine Vc.nil ?_
 refine kS h ?_ ?_ <;> intro b1 h
 refine kt b1 (Xab ?_)
 iterate 2 refine kO hT hC ?_
 refine Vc.nil (Xah (Xas ?_))
 obtain rfl := kj h
 exact Xcl (τ := ⟨[(2, .own 16)], [(16, some (.ints .i64 ([] : List Int)))]⟩) (kW hC [(16, 128)]) rfl ⟨rfl, trivial⟩
 refine kf b1 (Xaf (Xad (Xab ?_)))
 refine kO hT hC ?_
 refine kC hC [(16, 160)] Tryz.call209 h (fun _ => Xni) fun q2 h => ?_
 refine kC hC [(16, 176)] Tryz.call204 h (fun _ => Xia) fun q3 h => ?_
 refine kC hC [(16, 192)] Tryz.call209 h (fun _ => Xni) fun q4 h => ?_
 refine kC hC [(16, 208)] Tryz.call204 h (fun _ => Xia) fun q5 h => ?_
 refine kO hT hC ?_
 refine Vc.nil (Xao (Xab ?_))
 refine kO hT hC ?_
 refine Vc.nil ?_
 refine kL [3,4] [208] [_,_] [_] ?_
 refine kX h (fun v8 => ([(4, .sv (.int .i64 v8.1))], [(208, some (.ints .i64 v8.2))])) (fun v11 => ([(4, .any)], [(208, some (.ints .i64 v11))])) (kW hC []) (fun v8 s h => ?_) fun v11 h => ?_
 unfold Xer at h
 refine Xao (Xab ?_)
 iterate 2 refine kO hT hC ?_
 refine Vc.nil ?_
 refine kS h ?_ ?_ <;> intro b4 h
 refine kt b4 (Xaf (Xad (Xao (Xak (Xac ?_)))))
 iterate 4 refine kO hT hC ?_
 iterate 2 refine kQ hT hC h fun h => ?_
 refine kO hT hC ?_
 refine kC hC [] Tryz.call207 h (fun _ => Xh8) fun q12 h => ?_
 iterate 2 refine kQ hT hC h fun h => ?_
 refine Vc.nil (Xan (Xad (Xac ?_)))
 iterate 3 refine kO hT hC ?_
 exact Vc.nil kG
 exact kf b4 (Xam (Xat ku))
 refine Xad (Xab ?_)
 iterate 2 refine kO hT hC ?_
 refine Vc.nil (Xah ?_)
 obtain rfl := kj h
 exact Xcl (τ := ⟨[(2, .own 16)], [(16, some (.ints .i64 v11))]⟩) (kW hC [(16, 208)]) rfl ⟨rfl, trivial⟩
def Xql (r : ((List Int) × Bool)) : AV := .tup [.own 16, .sv (.bool r.2)]
def Xqk (r : ((List Int) × Bool)) : Xa0 := [(16, .ints .i64 r.1)]
theorem Xlg {p0 p1 r} (h : Xcd p0 p1 = some r) : AC Tryz.prog 106 [.sv (.ints .i64 p0), .agg [.sv (.bool p1.Key), .sv (.int .i64 p1.Qp), .sv (.bool p1.Large), .sv (.bool p1.Exact)]] [] (Xql r) (Xqk r) := by
 refine Xag hT Tryz.func106 rfl fun C hC => ?_
 unfold Xcd at h
 refine Xab ?_
 iterate 3 refine kO hT hC ?_
 refine Vc.nil (Xao ?_)
 refine kL [0,3] [48] [_,_] [_] ?_
 refine kA h (fun v1 => ([(23, .sv (.bool v1))], [])) (fun v1 h => ?_) fun v1 h => ?_
 refine Xac ?_
 refine kO hT hC ?_
 refine kC hC [] Tryz.call52 h (fun _ => Xjf) fun q2 h => ?_
 iterate 2 refine kO hT hC ?_
 refine kS h ?_ ?_ <;> intro b1 h
 refine kI hT hC (kn b1) ?_
 refine kE hC (kn b1) [] Tryz.call150 h (fun _ => Xbk) fun q3 h => ?_
 refine kI hT hC (kn b1) ?_
 refine kP hC false (kn b1) ?_
 exact Vc.nil kM
 iterate 3 refine kF hC (kn b1) ?_
 refine kP hC true (kn b1) ?_
 exact Vc.nil kM
 refine kS h ?_ ?_ <;> intro b2 h
 refine kt b2 (Xab ?_)
 iterate 3 refine kO hT hC ?_
 refine Vc.nil (Xah (Xas ?_))
 obtain rfl := kj h
 exact Xcl (τ := ⟨[(4, .own 16), (5, .sv (.bool false))], [(16, some (.ints .i64 ([] : List Int)))]⟩) (kW hC [(16, 384)]) rfl ⟨rfl, trivial⟩
 refine kf b2 (Xaf (Xad (Xao (Xab ?_))))
 iterate 2 refine kO hT hC ?_
 refine Vc.nil ?_
 refine kS h ?_ ?_ <;> intro b3 h
 refine kt b3 (Xab ?_)
 refine kO hT hC ?_
 refine kC hC [(16, 448)] Tryz.call160 h (fun _ => Xi2) fun q4 h => ?_
 iterate 4 refine kO hT hC ?_
 refine Vc.nil (Xah (Xas ?_))
 obtain rfl := kj h
 exact Xcl (τ := ⟨[(4, .own 16), (5, .sv (.bool q4.2))], [(16, some (.ints .i64 q4.1))]⟩) (kW hC [(16, 448)]) rfl ⟨rfl, trivial⟩
 refine kf b3 (Xaf (Xad (Xao (Xab ?_))))
 iterate 2 refine kO hT hC ?_
 refine Vc.nil ?_
 refine kS h ?_ ?_ <;> intro b4 h
 refine kt b4 (Xab ?_)
 refine kO hT hC ?_
 refine kC hC [(16, 560)] Tryz.call160 h (fun _ => Xi2) fun q5 h => ?_
 iterate 5 refine kO hT hC ?_
 refine Vc.nil (Xao (Xab ?_))
 refine kO hT hC ?_
 refine Vc.nil ?_
 refine kL [3,6,8] [48,560] [_,_,_] [_,_] ?_
 refine kX h (fun v8 => ([(8, .sv (.int .i64 v8.1))], [(560, some (.ints .i64 v8.2))])) (fun v11 => ([(3, .any), (8, .any)], [(560, some (.ints .i64 v11)), (48, none)])) (kW hC []) (fun v8 s h => ?_) fun v11 h => ?_
 unfold Xa2 at h
 refine Xao (Xab ?_)
 iterate 2 refine kO hT hC ?_
 refine Vc.nil ?_
 refine kS h ?_ ?_ <;> intro b7 h
 refine kt b7 (Xaf (Xad (Xao (Xak ?_))))
 refine Xdf hm ?_
 iterate 4 refine kO hT hC ?_
 iterate 2 refine kQ hT hC h fun h => ?_
 iterate 2 refine kO hT hC ?_
 refine kC hC [] Tryz.call161 h (fun _ => Xt7) fun q12 h => ?_
 iterate 2 refine kQ hT hC h fun h => ?_
 refine kD (Xan (Xad (Xac ?_)))
 iterate 3 refine kO hT hC ?_
 exact Vc.nil kG
 exact kf b7 (Xam (Xat ku))
 refine Xad (Xab ?_)
 refine kO hT hC ?_
 refine kC hC [(16, 848)] Tryz.call162 h (fun _ => Xt3) fun q14 h => ?_
 iterate 2 refine kO hT hC ?_
 refine Vc.nil (Xah (Xas ?_))
 obtain rfl := kj h
 exact Xcl (τ := ⟨[(4, .own 16), (5, .sv (.bool true))], [(16, some (.ints .i64 q14))]⟩) (kW hC [(16, 848)]) rfl ⟨rfl, trivial⟩
 refine kf b4 (Xaf (Xad (Xab ?_)))
 obtain ⟨hq, h⟩ := Xau h
 refine Yhw hT hC rfl rfl rfl rfl ⟨hq.1, hq.2.1, hq.2.2, by decide⟩ ?_
 refine kO hT hC ?_
 refine Vc.nil (Xao (Xab ?_))
 refine kO hT hC ?_
 refine Vc.nil ?_
 refine kL [0,3,9,10] [48,864] [_,_,_,_] [_,_] ?_
 refine kX h (fun v31 => ([(10, .sv (.int .i64 v31.1))], [(864, some (.ints .i64 v31.2))])) (fun v48 => ([(0, .any), (3, .any), (10, .any)], [(864, some (.ints .i64 v48)), (48, none)])) (kW hC []) (fun v31 s h => ?_) fun v48 h => ?_
 unfold Xbl at h
 refine Xao (Xab ?_)
 iterate 2 refine kO hT hC ?_
 refine Vc.nil ?_
 refine kS h ?_ ?_ <;> intro b22 h
 refine kt b22 (Xaf (Xad (Xao (Xak (Xab ?_)))))
 iterate 6 refine kO hT hC ?_
 refine kQ hT hC h fun h => ?_
 refine kC hC [(16, 1072)] Tryz.call160 h (fun _ => Xi2) fun q49 h => ?_
 iterate 5 refine kO hT hC ?_
 refine Vc.nil (Xao (Xab ?_))
 refine kO hT hC ?_
 refine Vc.nil ?_
 refine kL [0,3,9,10,11,13] [48,864,1072] [_,_,_,_,_,_] [_,_,_] ?_
 refine kX h (fun v52 => ([(13, .sv (.int .i64 v52.1))], [(1072, some (.ints .i64 v52.2))])) (fun v55 => ([(13, .any)], [(1072, some (.ints .i64 v55))])) (kW hC []) (fun v52 s h => ?_) fun v55 h => ?_
 unfold Xa1 at h
 refine Xao (Xab ?_)
 iterate 2 refine kO hT hC ?_
 refine Vc.nil ?_
 refine kS h ?_ ?_ <;> intro b25 h
 refine kt b25 (Xaf (Xad (Xao (Xak ?_))))
 refine Xdf hm ?_
 iterate 4 refine kO hT hC ?_
 iterate 2 refine kQ hT hC h fun h => ?_
 iterate 3 refine kO hT hC ?_
 refine kC hC [] Tryz.call163 h (fun _ => Xua) fun q56 h => ?_
 iterate 2 refine kQ hT hC h fun h => ?_
 refine kD (Xan (Xad (Xac ?_)))
 iterate 3 refine kO hT hC ?_
 exact Vc.nil kG
 exact kf b25 (Xam (Xat ku))
 refine Xad (Xab ?_)
 refine kO hT hC ?_
 refine kC hC [(16, 1376)] Tryz.call164 h (fun _ => Xv1) fun q58 h => ?_
 refine kO hT hC ?_
 refine kN ?_
 refine kO hT hC ?_
 refine Vc.nil ?_
 refine kL [0,3,9,10,14,15] [48,864,1376] [_,_,_,_,_,_] [_,_,_] ?_
 refine kX h (fun v60 => ([(15, .sv (.int .i64 v60.1))], [(864, some (.ints .i64 v60.2))])) (fun v62 => ([(14, .any), (15, .any)], [(864, some (.ints .i64 v62)), (1376, none)])) (kW hC []) (fun v60 s h => ?_) fun v62 h => ?_
 unfold Xa3 at h
 refine Xao (Xab ?_)
 iterate 2 refine kO hT hC ?_
 refine Vc.nil ?_
 refine kS h ?_ ?_ <;> intro b28 h
 refine kt b28 (Xaf (Xad (Xao (Xak (Xac ?_)))))
 iterate 2 refine kO hT hC ?_
 refine kQ hT hC h fun h => ?_
 iterate 2 refine kO hT hC ?_
 refine kQ hT hC h fun h => ?_
 iterate 3 refine kO hT hC ?_
 refine kQ hT hC h fun h => ?_
 iterate 3 refine kO hT hC ?_
 refine kQ hT hC h fun h => ?_
 iterate 3 refine kO hT hC ?_
 iterate 4 refine kQ hT hC h fun h => ?_
 refine Vc.nil (Xan (Xad (Xac ?_)))
 iterate 3 refine kO hT hC ?_
 exact Vc.nil kG
 exact kf b28 (Xam (Xat ku))
 refine Xan (Xad (Xac ?_))
 iterate 3 refine kO hT hC ?_
 exact Vc.nil kG
 exact kf b22 (Xam (Xat ku))
 refine Xad (Xab ?_)
 iterate 3 refine kO hT hC ?_
 refine Vc.nil (Xah ?_)
 obtain rfl := kj h
 exact Xcl (τ := ⟨[(4, .own 16), (5, .sv (.bool true))], [(16, some (.ints .i64 v48))]⟩) (kW hC [(16, 864)]) rfl ⟨rfl, trivial⟩
def Xno (r : Bool) : AV := .sv (.bool r)
def Xnn (r : Bool) : Xa0 := []
theorem Xol {p0 r} (h : Xhe p0 = some r) : AC Tryz.prog 196 [.sv (.ints .i64 p0)] [] (Xno r) (Xnn r) := by
 refine Xag hT Tryz.func196 rfl fun C hC => ?_
 unfold Xhe at h
 refine Xab ?_
 refine kO hT hC ?_
 refine Vc.nil (Xao ?_)
 refine kL [0] [] [_] [] ?_
 refine kA h (fun v1 => ([(11, .sv (.bool v1))], [])) (fun v1 h => ?_) fun v1 h => ?_
 refine Xac ?_
 iterate 4 refine kO hT hC ?_
 refine kS h ?_ ?_ <;> intro b1 h
 iterate 3 refine kI hT hC b1 ?_
 refine kP hC true b1 ?_
 exact Vc.nil kM
 iterate 3 refine kF hC b1 ?_
 refine kP hC false b1 ?_
 exact Vc.nil kM
 refine kS h ?_ ?_ <;> intro b2 h
 refine kt b2 (Xab ?_)
 refine kO hT hC ?_
 exact Vc.nil (Xah (Xas kR))
 refine kf b2 (Xaf (Xad (Xao (Xab ?_))))
 refine kO hT hC ?_
 refine Vc.nil ?_
 refine kL [0,3] [] [_,_] [] ?_
 obtain ⟨o9, hl, h⟩ := Xa4 h
 refine Xlu (fun v4 => ([(3, .sv (.int .i64 v4))], [])) (fun v7 => ([(0, .any), (3, .any)], [])) (fun r => Xuz C T Tryz.f196.results.toList (Xno r) (Xnn r)) hl ?_ ?_ ?_ ?_
 apply Xfs hC []
 exact co
 rfl
 decide
 rfl
 intro v4 s hs
 have h := hs
 unfold Xfp at h
 refine Xao (Xab ?_)
 iterate 4 refine kO hT hC ?_
 refine Vc.nil ?_
 refine kS h ?_ ?_ <;> intro b7 h
 refine kt b7 (Xaf (Xad (Xao (Xak (Xab ?_)))))
 iterate 2 refine kO hT hC ?_
 refine kQ hT hC h fun h => ?_
 refine kO hT hC ?_
 refine kC hC [] Tryz.call53 h (fun _ => Xal) fun q8 h => ?_
 refine kO hT hC ?_
 refine Vc.nil ?_
 refine kS h ?_ ?_ <;> intro b8 h
 refine kt b8 (Xab ?_)
 refine kO hT hC ?_
 refine Vc.nil (Xah (Xii (Xas ?_)))
 obtain rfl := kj h
 refine Yaq (Yap ?_)
 exact Xcl (Xkc.refl _) rfl trivial
 refine kf b8 (Xaf (Xan (Xad (Xac ?_))))
 iterate 3 refine kO hT hC ?_
 exact Vc.nil kG
 exact kf b7 (Xam (Xat kb))
 intro v7 e
 subst e
 refine Xad (Xab ?_)
 refine kO hT hC ?_
 exact Vc.nil (Xah kR)
 intro r' σ' e hE
 subst e
 obtain rfl := kj h
 refine Xas ?_
 exact hE
def Xv0 (r : Bool) : AV := .sv (.bool r)
def Xvz (r : Bool) : Xa0 := []
theorem Xob {p0 r} (h : Xhd p0 = some r) : AC Tryz.prog 146 [.agg [.sv (.ints .i64 p0.Above), .sv (.ints .i64 p0.Left), .sv (.int .i64 p0.Corner)]] [] (Xv0 r) (Xvz r) := by
 refine Xag hT Tryz.func146 rfl fun C hC => ?_
 unfold Xhd at h
 refine Xab ?_
 iterate 2 refine kO hT hC ?_
 refine Vc.nil ?_
 refine kL [1,2] [16] [_,_] [_] ?_
 refine kA h (fun v1 => ([(2, .sv (.bool v1)), (1, .any)], [(16, none)])) (fun v1 h => ?_) fun v1 h => ?_
 refine Xac ?_
 iterate 2 refine kO hT hC ?_
 refine kC hC [] Tryz.call196 h (fun _ => Xol) fun q2 h => ?_
 refine kO hT hC ?_
 refine kS h ?_ ?_ <;> intro b1 h
 iterate 2 refine kI hT hC b1 ?_
 refine kE hC b1 [] Tryz.call196 h (fun _ => Xol) fun q3 h => ?_
 refine kP hC true b1 ?_
 refine kO hT hC ?_
 refine kS h ?_ ?_ <;> intro b2 h
 iterate 2 refine kI hT hC b2 ?_
 refine kE hC b2 [] Tryz.call53 h (fun _ => Xal) fun q4 h => ?_
 refine kP hC true b2 ?_
 refine kO hT hC ?_
 exact Vc.nil kM
 iterate 3 refine kF hC b2 ?_
 refine kP hC false b2 ?_
 refine kO hT hC ?_
 exact Vc.nil kM
 iterate 3 refine kF hC b1 ?_
 refine kP hC false b1 ?_
 refine kO hT hC ?_
 iterate 3 refine kF hC rfl ?_
 iterate 2 refine kO hT hC ?_
 exact Vc.nil kM
 exact Xah kR
def Xsu (r : Int) : AV := .sv (.int .i64 r)
def Xst (r : Int) : Xa0 := []
theorem Xmm {p0 p1 r} (h : Xb8 p0 p1 = some r) : AC Tryz.prog 157 [.sv (.ints .i64 p0), .sv (.int .i64 p1)] [] (Xsu r) (Xst r) := by
 refine Xag hT Tryz.func157 rfl fun C hC => ?_
 unfold Xb8 at h
 refine Xab ?_
 refine kO hT hC ?_
 refine Vc.nil (Xao (Xab ?_))
 iterate 3 refine kO hT hC ?_
 refine Vc.nil ?_
 refine kS h ?_ ?_ <;> intro b1 h
 refine kt b1 (Xab ?_)
 refine kO hT hC ?_
 exact Vc.nil (Xah (Xas kR))
 refine kf b1 (Xaf (Xad (Xab ?_)))
 iterate 2 refine kO hT hC ?_
 refine kQ hT hC h fun h => ?_
 iterate 2 refine kO hT hC ?_
 exact Vc.nil (Xah kR)
def Xzn (r : Int) : AV := .sv (.int .i64 r)
def Xzm (r : Int) : Xa0 := []
theorem Ybl {p0 r} (h : Xg6 p0 = some r) : AC Tryz.prog 158 [.agg [.sv (.ints .i64 p0.Above), .sv (.ints .i64 p0.Left), .sv (.int .i64 p0.Corner)]] [] (Xzn r) (Xzm r) := by
 refine Xag hT Tryz.func158 rfl fun C hC => ?_
 unfold Xg6 at h
 refine Xab ?_
 iterate 2 refine kO hT hC ?_
 refine kN ?_
 iterate 8 refine kO hT hC ?_
 refine Vc.nil (Xao (Xab ?_))
 iterate 2 refine kO hT hC ?_
 refine Vc.nil ?_
 refine kS h ?_ ?_ <;> intro b1 h
 refine kt b1 (Xab ?_)
 refine kO hT hC ?_
 exact Vc.nil (Xah (Xas kR))
 refine kf b1 (Xaf (Xad (Xab ?_)))
 refine kO hT hC ?_
 refine kQ hT hC h fun h => ?_
 refine kO hT hC ?_
 refine Vc.nil (Xao (Xab ?_))
 refine kO hT hC ?_
 refine Vc.nil ?_
 refine kL [1,3,4,5] [16] [_,_,_,_] [_] ?_
 refine kX h (fun v2 => ([(4, .sv (.int .i64 v2.1)), (5, .sv (.int .i64 v2.2))], [])) (fun v4 => ([(4, .sv (.int .i64 v4)), (5, .any)], [])) (kW hC []) (fun v2 s h => ?_) fun v4 h => ?_
 unfold Xex at h
 refine Xao (Xab ?_)
 iterate 5 refine kO hT hC ?_
 refine Vc.nil ?_
 refine kS h ?_ ?_ <;> intro b4 h
 refine kt b4 (Xaf (Xad (Xao (Xak (Xac ?_)))))
 iterate 4 refine kO hT hC ?_
 refine kQ hT hC h fun h => ?_
 iterate 3 refine kO hT hC ?_
 refine Vc.nil (Xan (Xad (Xac ?_)))
 iterate 3 refine kO hT hC ?_
 exact Vc.nil kG
 exact kf b4 (Xam (Xat ku))
 refine Xad (Xao (Xab ?_))
 refine kO hT hC ?_
 refine Vc.nil ?_
 refine kL [1,3,4,6] [16] [_,_,_,_] [_] ?_
 refine kX h (fun v7 => ([(4, .sv (.int .i64 v7.1)), (6, .sv (.int .i64 v7.2))], [])) (fun v9 => ([(4, .sv (.int .i64 v9)), (1, .any), (6, .any)], [(16, none)])) (kW hC []) (fun v7 s h => ?_) fun v9 h => ?_
 unfold Xey at h
 refine Xao (Xab ?_)
 iterate 5 refine kO hT hC ?_
 refine Vc.nil ?_
 refine kS h ?_ ?_ <;> intro b7 h
 refine kt b7 (Xaf (Xad (Xao (Xak (Xac ?_)))))
 iterate 4 refine kO hT hC ?_
 refine kQ hT hC h fun h => ?_
 iterate 3 refine kO hT hC ?_
 refine Vc.nil (Xan (Xad (Xac ?_)))
 iterate 3 refine kO hT hC ?_
 exact Vc.nil kG
 exact kf b7 (Xam (Xat ku))
 refine Xad (Xab ?_)
 iterate 2 refine kO hT hC ?_
 refine kQ hT hC h fun h => ?_
 refine kO hT hC ?_
 exact Vc.nil (Xah kR)
def Xv3 (r : (List Int)) : AV := .own 16
def Xv2 (r : (List Int)) : Xa0 := [(16, .ints .i64 r)]
theorem Xky {p0 p1 r} (h : Xcb p0 p1 = some r) : AC Tryz.prog 104 [.sv (.int .i64 p0), .agg [.sv (.ints .i64 p1.Above), .sv (.ints .i64 p1.Left), .sv (.int .i64 p1.Corner)]] [] (Xv3 r) (Xv2 r) := by
 refine Xag hT Tryz.func104 rfl fun C hC => ?_
 unfold Xcb at h
 refine Xab ?_
 iterate 2 refine kO hT hC ?_
 refine kN ?_
 iterate 2 refine kO hT hC ?_
 refine Vc.nil (Xao ?_)
 refine kL [0,3,5] [48,160] [_,_,_] [_,_] ?_
 refine kA h (fun v1 => ([(18, .sv (.bool v1))], [])) (fun v1 h => ?_) fun v1 h => ?_
 refine Xac ?_
 refine kO hT hC ?_
 refine kC hC [] Tryz.call146 h (fun _ => Xob) fun q2 h => ?_
 iterate 2 refine kO hT hC ?_
 refine kS h ?_ ?_ <;> intro b1 h
 refine kI hT hC (kn b1) ?_
 refine kE hC (kn b1) [] Tryz.call53 h (fun _ => Xal) fun q3 h => ?_
 refine kI hT hC (kn b1) ?_
 refine kP hC false (kn b1) ?_
 exact Vc.nil kM
 iterate 3 refine kF hC (kn b1) ?_
 refine kP hC true (kn b1) ?_
 exact Vc.nil kM
 refine kS h ?_ ?_ <;> intro b2 h
 refine kt b2 (Xab ?_)
 iterate 2 refine kO hT hC ?_
 refine Vc.nil (Xah (Xas ?_))
 obtain rfl := kj h
 exact Xcl (τ := ⟨[(4, .own 16)], [(16, some (.ints .i64 ([] : List Int)))]⟩) (kW hC [(16, 160)]) rfl ⟨rfl, trivial⟩
 refine kf b2 (Xaf (Xad (Xab ?_)))
 iterate 3 refine kO hT hC ?_
 refine Vc.nil ?_
 refine kL [0,3,5,6] [48,160] [_,_,_,_] [_,_] ?_
 refine kA h (fun v4 => ([(6, .sv (.int .i64 v4))], [])) (fun v4 h => ?_) fun v4 h => ?_
 refine Xab ?_
 iterate 2 refine kO hT hC ?_
 refine Vc.nil ?_
 refine kS h ?_ ?_ <;> intro b3 h
 refine kt b3 (Xac ?_)
 refine kO hT hC ?_
 exact Vc.nil kM
 exact kf b3 (Xaf kM)
 refine Xao (Xab ?_)
 refine kO hT hC ?_
 refine Vc.nil ?_
 refine kL [0,3,5,6,7] [48,160] [_,_,_,_,_] [_,_] ?_
 refine kX h (fun v11 => ([(7, .sv (.int .i64 v11.1))], [(160, some (.ints .i64 v11.2))])) (fun v18 => ([(0, .any), (3, .any), (6, .any), (7, .any)], [(160, some (.ints .i64 v18)), (48, none)])) (kW hC []) (fun v11 s h => ?_) fun v18 h => ?_
 unfold Xcc at h
 refine Xao (Xab ?_)
 iterate 2 refine kO hT hC ?_
 refine Vc.nil ?_
 refine kS h ?_ ?_ <;> intro b12 h
 refine kt b12 (Xaf (Xad ?_))
 refine kL [0,3,5,6,7] [48,160] [_,_,_,_,_] [_,_] ?_
 refine kA h (fun v19 => ([(5, .own 1110)], [(1110, some (.ints .i64 v19)), (160, none)])) (fun v19 h => ?_) fun v19 h => ?_
 refine Xak (Xab ?_)
 iterate 3 refine kO hT hC ?_
 refine kQ hT hC h fun h => ?_
 refine kC hC [] Tryz.call157 h (fun _ => Xmm) fun q20 h => ?_
 refine kO hT hC ?_
 refine kN ?_
 iterate 3 refine kO hT hC ?_
 refine kQ hT hC h fun h => ?_
 refine kC hC [] Tryz.call157 h (fun _ => Xmm) fun q21 h => ?_
 refine kO hT hC ?_
 refine kN ?_
 refine kO hT hC ?_
 refine Vc.nil (Xak (Xab ?_))
 iterate 2 refine kO hT hC ?_
 refine Vc.nil ?_
 refine kS h ?_ ?_ <;> intro b13 h
 refine kt b13 (Xac ?_)
 iterate 2 refine kO hT hC ?_
 refine kC hC [] Tryz.call158 h (fun _ => Ybl) fun q22 h => ?_
 refine kO hT hC ?_
 refine kT hT hC h fun h => ?_
 refine kO hT hC ?_
 refine Vc.nil ?_
 iterate 2 refine Xan ?_
 obtain rfl := kj h
 exact Xjo (kW hC [(1110, 864)])
 refine kf b13 (Xab ?_)
 iterate 2 refine kO hT hC ?_
 refine Vc.nil ?_
 refine kS h ?_ ?_ <;> intro b14 h
 refine kt b14 (Xac ?_)
 iterate 3 refine kO hT hC ?_
 refine kT hT hC h fun h => ?_
 refine kO hT hC ?_
 refine Vc.nil ?_
 iterate 2 refine Xan ?_
 obtain rfl := kj h
 exact Xjo (kW hC [(1110, 960)])
 refine kf b14 (Xab ?_)
 iterate 2 refine kO hT hC ?_
 refine Vc.nil ?_
 refine kS h ?_ ?_ <;> intro b15 h
 refine kt b15 (Xac ?_)
 iterate 3 refine kO hT hC ?_
 refine kT hT hC h fun h => ?_
 refine kO hT hC ?_
 refine Vc.nil ?_
 iterate 2 refine Xan ?_
 obtain rfl := kj h
 exact Xjo (kW hC [(1110, 1056)])
 refine kf b15 (Xac ?_)
 iterate 6 refine kO hT hC ?_
 refine kC hC [] Tryz.call159 h (fun _ => Xh2) fun q23 h => ?_
 refine kO hT hC ?_
 refine kT hT hC h fun h => ?_
 refine kO hT hC ?_
 refine Vc.nil ?_
 iterate 2 refine Xan ?_
 obtain rfl := kj h
 exact Xjo (kW hC [(1110, 752)])
 refine Xac ?_
 iterate 3 refine kO hT hC ?_
 refine Vc.nil ?_
 obtain rfl := kj h
 exact Yby (kW hC [(160, 1110)])
 exact kf b12 (Xam (Xat ku))
 refine Xad (Xab ?_)
 iterate 2 refine kO hT hC ?_
 refine Vc.nil (Xah ?_)
 obtain rfl := kj h
 exact Xcl (τ := ⟨[(4, .own 16)], [(16, some (.ints .i64 v18))]⟩) (kW hC [(16, 160)]) rfl ⟨rfl, trivial⟩
def Xnm (r : Bool) : AV := .sv (.bool r)
def Xnl (r : Bool) : Xa0 := []
theorem Xid {p0 r} (h : Xcu p0 = some r) : AC Tryz.prog 51 [.sv (.ints .i64 p0)] [] (Xnm r) (Xnl r) := by
 refine Xag hT Tryz.func51 rfl fun C hC => ?_
 unfold Xcu at h
 refine Xab ?_
 refine kO hT hC ?_
 refine Vc.nil (Xao (Xab ?_))
 iterate 3 refine kO hT hC ?_
 refine Vc.nil ?_
 refine kS h ?_ ?_ <;> intro b1 h
 refine kt b1 (Xab ?_)
 refine kO hT hC ?_
 exact Vc.nil (Xah (Xas kR))
 refine kf b1 (Xaf (Xad (Xao (Xab ?_))))
 refine kO hT hC ?_
 refine Vc.nil ?_
 refine kL [0,3] [] [_,_] [] ?_
 obtain ⟨o8, hl, h⟩ := Xa4 h
 refine Xlu (fun v3 => ([(3, .sv (.int .i64 v3))], [])) (fun v6 => ([(0, .any), (3, .any)], [])) (fun r => Xuz C T Tryz.f51.results.toList (Xnm r) (Xnl r)) hl ?_ ?_ ?_ ?_
 apply Xfs hC []
 exact co
 rfl
 decide
 rfl
 intro v3 s hs
 have h := hs
 unfold Xch at h
 refine Xao (Xab ?_)
 iterate 2 refine kO hT hC ?_
 refine Vc.nil ?_
 refine kS h ?_ ?_ <;> intro b6 h
 refine kt b6 (Xaf (Xad (Xao (Xak (Xab ?_)))))
 iterate 2 refine kO hT hC ?_
 refine kQ hT hC h fun h => ?_
 refine kO hT hC ?_
 refine kC hC [] Tryz.call53 h (fun _ => Xal) fun q7 h => ?_
 refine kO hT hC ?_
 refine Vc.nil ?_
 refine kS h ?_ ?_ <;> intro b7 h
 refine kt b7 (Xab ?_)
 refine kO hT hC ?_
 refine Vc.nil (Xah (Xii (Xas ?_)))
 obtain rfl := kj h
 refine Yaq (Yap ?_)
 exact Xcl (Xkc.refl _) rfl trivial
 refine kf b7 (Xaf (Xan (Xad (Xac ?_))))
 iterate 3 refine kO hT hC ?_
 exact Vc.nil kG
 exact kf b6 (Xam (Xat kb))
 intro v6 e
 subst e
 refine Xad (Xab ?_)
 refine kO hT hC ?_
 exact Vc.nil (Xah kR)
 intro r' σ' e hE
 subst e
 obtain rfl := kj h
 refine Xas ?_
 exact hE
def Xy2 (r : (List Int)) : AV := .own 16
def Xy1 (r : (List Int)) : Xa0 := [(16, .ints .i64 r)]
theorem Xpf {p0 p1 r} (h : Xfi p0 p1 = some r) : AC Tryz.prog 107 [.sv (.ints .i64 p0), .sv (.ints .i64 p1)] [] (Xy2 r) (Xy1 r) := by
 refine Xag hT Tryz.func107 rfl fun C hC => ?_
 unfold Xfi at h
 refine Xab ?_
 refine kO hT hC ?_
 refine kN ?_
 iterate 2 refine kO hT hC ?_
 refine Vc.nil (Xao ?_)
 refine kL [0,1,5] [112] [_,_,_] [_] ?_
 refine kA h (fun v1 => ([(15, .sv (.bool v1))], [])) (fun v1 h => ?_) fun v1 h => ?_
 refine Xac ?_
 refine kO hT hC ?_
 refine kC hC [] Tryz.call51 h (fun _ => Xid) fun q2 h => ?_
 iterate 2 refine kO hT hC ?_
 refine kS h ?_ ?_ <;> intro b1 h
 refine kI hT hC (kn b1) ?_
 refine kE hC (kn b1) [] Tryz.call150 h (fun _ => Xbk) fun q3 h => ?_
 refine kI hT hC (kn b1) ?_
 refine kP hC false (kn b1) ?_
 exact Vc.nil kM
 iterate 3 refine kF hC (kn b1) ?_
 refine kP hC true (kn b1) ?_
 exact Vc.nil kM
 refine kS h ?_ ?_ <;> intro b2 h
 refine kt b2 (Xab ?_)
 iterate 2 refine kO hT hC ?_
 refine Vc.nil (Xah (Xas ?_))
 obtain rfl := kj h
 exact Xcl (τ := ⟨[(4, .own 16)], [(16, some (.ints .i64 ([] : List Int)))]⟩) (kW hC [(16, 112)]) rfl ⟨rfl, trivial⟩
 refine kf b2 (Xaf (Xad (Xao (Xab ?_))))
 refine kO hT hC ?_
 refine Vc.nil ?_
 refine kL [0,1,5,6] [112] [_,_,_,_] [_] ?_
 refine kX h (fun v6 => ([(6, .sv (.int .i64 v6.1))], [(112, some (.ints .i64 v6.2))])) (fun v9 => ([(0, .any), (1, .any), (6, .any)], [(112, some (.ints .i64 v9))])) (kW hC []) (fun v6 s h => ?_) fun v9 h => ?_
 unfold Xdl at h
 refine Xao (Xab ?_)
 iterate 2 refine kO hT hC ?_
 refine Vc.nil ?_
 refine kS h ?_ ?_ <;> intro b5 h
 refine kt b5 (Xaf (Xad (Xao (Xak ?_))))
 refine Xdf hm ?_
 iterate 3 refine kO hT hC ?_
 refine kQ hT hC h fun h => ?_
 iterate 3 refine kO hT hC ?_
 refine kQ hT hC h fun h => ?_
 iterate 2 refine kO hT hC ?_
 refine kC hC [] Tryz.call159 h (fun _ => Xh2) fun q10 h => ?_
 refine kO hT hC ?_
 refine kT hT hC h fun h => ?_
 refine kO hT hC ?_
 refine kD (Xan (Xad (Xac ?_)))
 iterate 3 refine kO hT hC ?_
 refine Vc.nil ?_
 obtain rfl := kj h
 exact Yby (kW hC [(112, 528)])
 exact kf b5 (Xam (Xat ku))
 refine Xad (Xab ?_)
 iterate 2 refine kO hT hC ?_
 refine Vc.nil (Xah ?_)
 obtain rfl := kj h
 exact Xcl (τ := ⟨[(4, .own 16)], [(16, some (.ints .i64 v9))]⟩) (kW hC [(16, 112)]) rfl ⟨rfl, trivial⟩
def Xvu (r : (List Int)) : AV := .own 16
def Xvt (r : (List Int)) : Xa0 := [(16, .ints .i64 r)]
theorem Xh0 {p0 p1 p2 r} (h : Xd9 p0 p1 p2 = some r) : AC Tryz.prog 99 [.agg [.sv (.int .i64 p0.Wide), .sv (.int .i64 p0.High), .sv (.str p0.Dots)], .sv (.int .i64 p1), .sv (.int .i64 p2)] [] (Xvu r) (Xvt r) := by
 refine Xag hT Tryz.func99 rfl fun C hC => ?_
 unfold Xd9 at h
 refine Xab ?_
 iterate 2 refine kO hT hC ?_
 refine kN ?_
 iterate 2 refine kO hT hC ?_
 refine Vc.nil (Xao ?_)
 refine kL [1,2,3,7] [48,144] [_,_,_,_] [_,_] ?_
 refine kA h (fun v1 => ([(22, .sv (.bool v1))], [])) (fun v1 h => ?_) fun v1 h => ?_
 refine Xac ?_
 refine kO hT hC ?_
 refine kC hC [] Tryz.call96 h (fun _ => Xf7) fun q2 h => ?_
 iterate 2 refine kO hT hC ?_
 refine kS h ?_ ?_ <;> intro b1 h
 refine kI hT hC (kn b1) ?_
 refine kE hC (kn b1) [] Tryz.call53 h (fun _ => Xal) fun q3 h => ?_
 refine kI hT hC (kn b1) ?_
 refine kP hC false (kn b1) ?_
 refine kO hT hC ?_
 refine kS h ?_ ?_ <;> intro b2 h
 refine kI hT hC (kn b2) ?_
 refine kE hC (kn b2) [] Tryz.call53 h (fun _ => Xal) fun q4 h => ?_
 refine kI hT hC (kn b2) ?_
 refine kP hC false (kn b2) ?_
 exact Vc.nil kM
 iterate 3 refine kF hC (kn b2) ?_
 refine kP hC true (kn b2) ?_
 exact Vc.nil kM
 iterate 3 refine kF hC (kn b1) ?_
 refine kP hC true (kn b1) ?_
 refine kO hT hC ?_
 iterate 3 refine kF hC rfl ?_
 refine kO hT hC ?_
 exact Vc.nil kM
 refine kS h ?_ ?_ <;> intro b3 h
 refine kt b3 (Xab ?_)
 iterate 2 refine kO hT hC ?_
 refine Vc.nil (Xah (Xas ?_))
 obtain rfl := kj h
 exact Xcl (τ := ⟨[(6, .own 16)], [(16, some (.ints .i64 ([] : List Int)))]⟩) (kW hC [(16, 144)]) rfl ⟨rfl, trivial⟩
 refine kf b3 (Xaf (Xad (Xao (Xab ?_))))
 refine kO hT hC ?_
 refine Vc.nil ?_
 refine kL [1,2,3,7,8] [48,144] [_,_,_,_,_] [_,_] ?_
 refine kX h (fun v7 => ([(8, .sv (.int .i64 v7.1))], [(144, some (.ints .i64 v7.2))])) (fun v10 => ([(1, .any), (2, .any), (3, .any), (8, .any)], [(144, some (.ints .i64 v10)), (48, none)])) (kW hC []) (fun v7 s h => ?_) fun v10 h => ?_
 unfold Xfg at h
 refine Xao (Xab ?_)
 iterate 2 refine kO hT hC ?_
 refine Vc.nil ?_
 refine kS h ?_ ?_ <;> intro b6 h
 refine kt b6 (Xaf (Xad (Xao (Xak (Xac ?_)))))
 iterate 4 refine kO hT hC ?_
 refine kQ hT hC h fun h => ?_
 iterate 3 refine kO hT hC ?_
 refine kQ hT hC h fun h => ?_
 refine kO hT hC ?_
 refine kC hC [] Tryz.call145 h (fun _ => Xkb) fun q11 h => ?_
 refine kO hT hC ?_
 refine kT hT hC h fun h => ?_
 refine kO hT hC ?_
 refine Vc.nil (Xan (Xad (Xac ?_)))
 iterate 3 refine kO hT hC ?_
 refine Vc.nil ?_
 obtain rfl := kj h
 exact Yby (kW hC [(144, 640)])
 exact kf b6 (Xam (Xat ku))
 refine Xad (Xab ?_)
 iterate 2 refine kO hT hC ?_
 refine Vc.nil (Xah ?_)
 obtain rfl := kj h
 exact Xcl (τ := ⟨[(6, .own 16)], [(16, some (.ints .i64 v10))]⟩) (kW hC [(16, 144)]) rfl ⟨rfl, trivial⟩
def Xqp (r : ((List Int) × Bool)) : AV := .tup [.own 16, .sv (.bool r.2)]
def Xqo (r : ((List Int) × Bool)) : Xa0 := [(16, .ints .i64 r.1)]
theorem Xsj {p0 p1 p2 p3 p4 p5 p6 p7 r} (h : Xfm p0 p1 p2 p3 p4 p5 p6 p7 = some r) : AC Tryz.prog 56 [.agg [.sv (.int .i64 p0.Wide), .sv (.int .i64 p0.High), .sv (.str p0.Dots)], .agg [.sv (.int .i64 p1.Wide), .sv (.int .i64 p1.High), .sv (.str p1.Dots)], .sv (.int .i64 p2), .sv (.int .i64 p3), .agg [.sv (.bool p4.Key), .sv (.int .i64 p4.Qp), .sv (.bool p4.Large), .sv (.bool p4.Exact)], .sv (.int .i64 p5), .sv (.int .i64 p6), .agg [.sv (.int .i64 p7.Kind), .sv (.int .i64 p7.Mode), .sv (.int .i64 p7.Dx), .sv (.int .i64 p7.Dy), .sv (.ints .i64 p7.Levels)]] [] (Xqp r) (Xqo r) := by
 refine Xag hT Tryz.func56 rfl fun C hC => ?_
 unfold Xfm at h
 refine Xab ?_
 iterate 6 refine kO hT hC ?_
 refine Vc.nil (Xao ?_)
 refine kL [2,3,5,6,8,9,12,15] [128,144,192,240] [_,_,_,_,_,_,_,_] [_,_,_,_] ?_
 refine kA h (fun v1 => ([(49, .sv (.bool v1))], [])) (fun v1 h => ?_) fun v1 h => ?_
 refine Xac ?_
 iterate 3 refine kO hT hC ?_
 refine kC hC [] Tryz.call50 h (fun _ => Xie) fun q2 h => ?_
 iterate 2 refine kO hT hC ?_
 refine kS h ?_ ?_ <;> intro b1 h
 refine kI hT hC (kn b1) ?_
 refine kE hC (kn b1) [] Tryz.call53 h (fun _ => Xal) fun q3 h => ?_
 refine kI hT hC (kn b1) ?_
 refine kP hC false (kn b1) ?_
 refine kO hT hC ?_
 refine kS h ?_ ?_ <;> intro b2 h
 refine kI hT hC (kn b2) ?_
 refine kE hC (kn b2) [] Tryz.call53 h (fun _ => Xal) fun q4 h => ?_
 refine kI hT hC (kn b2) ?_
 refine kP hC false (kn b2) ?_
 refine kO hT hC ?_
 refine kS h ?_ ?_ <;> intro b3 h
 refine kI hT hC (kn b3) ?_
 refine kE hC (kn b3) [] Tryz.call105 h (fun _ => Xwa) fun q5 h => ?_
 refine kI hT hC (kn b3) ?_
 refine kP hC false (kn b3) ?_
 refine kO hT hC ?_
 refine kS h ?_ ?_ <;> intro b4 h
 refine kI hT hC (kn b4) ?_
 refine kE hC (kn b4) [] Tryz.call52 h (fun _ => Xjf) fun q6 h => ?_
 refine kI hT hC (kn b4) ?_
 refine kP hC false (kn b4) ?_
 exact Vc.nil kM
 iterate 3 refine kF hC (kn b4) ?_
 refine kP hC true (kn b4) ?_
 exact Vc.nil kM
 iterate 3 refine kF hC (kn b3) ?_
 refine kP hC true (kn b3) ?_
 refine kO hT hC ?_
 iterate 3 refine kF hC rfl ?_
 refine kO hT hC ?_
 exact Vc.nil kM
 iterate 3 refine kF hC (kn b2) ?_
 refine kP hC true (kn b2) ?_
 refine kO hT hC ?_
 iterate 3 refine kF hC rfl ?_
 iterate 2 refine kO hT hC ?_
 iterate 3 refine kF hC rfl ?_
 refine kO hT hC ?_
 exact Vc.nil kM
 iterate 3 refine kF hC (kn b1) ?_
 refine kP hC true (kn b1) ?_
 refine kO hT hC ?_
 iterate 3 refine kF hC rfl ?_
 iterate 2 refine kO hT hC ?_
 iterate 3 refine kF hC rfl ?_
 iterate 2 refine kO hT hC ?_
 iterate 3 refine kF hC rfl ?_
 refine kO hT hC ?_
 exact Vc.nil kM
 refine kS h ?_ ?_ <;> intro b5 h
 refine kt b5 (Xab ?_)
 iterate 3 refine kO hT hC ?_
 refine Vc.nil (Xah (Xas ?_))
 obtain rfl := kj h
 exact Xcl (τ := ⟨[(16, .own 16), (17, .sv (.bool false))], [(16, some (.ints .i64 ([] : List Int)))]⟩) (kW hC [(16, 800)]) rfl ⟨rfl, trivial⟩
 refine kf b5 (Xaf (Xad (Xao (Xab ?_))))
 iterate 3 refine kO hT hC ?_
 refine Vc.nil ?_
 refine kS h ?_ ?_ <;> intro b6 h
 refine kt b6 (Xab ?_)
 iterate 3 refine kO hT hC ?_
 refine kC hC [(16, 928), (17, 929)] Tryz.call100 h (fun _ => Xn9) fun q7 h => ?_
 iterate 6 refine kO hT hC ?_
 refine kN ?_
 iterate 3 refine kO hT hC ?_
 refine kC hC [(16, 1040)] Tryz.call106 h (fun _ => Xlg) fun q8 h => ?_
 iterate 5 refine kO hT hC ?_
 refine kN ?_
 iterate 3 refine kO hT hC ?_
 refine kC hC [(16, 1136)] Tryz.call104 h (fun _ => Xky) fun q9 h => ?_
 refine kO hT hC ?_
 refine kC hC [(16, 1168)] Tryz.call107 h (fun _ => Xpf) fun q10 h => ?_
 iterate 2 refine kO hT hC ?_
 refine Vc.nil (Xah (Xas ?_))
 obtain rfl := kj h
 exact Xcl (τ := ⟨[(16, .own 16), (17, .sv (.bool true))], [(16, some (.ints .i64 q10))]⟩) (kW hC [(16, 1168)]) rfl ⟨rfl, trivial⟩
 refine kf b6 (Xaf (Xad (Xao ?_)))
 refine kL [2,3,5,6,9,12,15] [144,192,240] [_,_,_,_,_,_,_] [_,_,_] ?_
 refine kA h (fun v11 => ([(80, .sv (.bool v11))], [])) (fun v11 h => ?_) fun v11 h => ?_
 refine Xac ?_
 iterate 3 refine kO hT hC ?_
 refine kS h ?_ ?_ <;> intro b7 h
 iterate 3 refine kF hC b7 ?_
 refine kP hC true b7 ?_
 exact Vc.nil kM
 refine kI hT hC b7 ?_
 refine kE hC b7 [] Tryz.call96 h (fun _ => Xf7) fun q12 h => ?_
 refine kI hT hC b7 ?_
 refine kP hC false b7 ?_
 exact Vc.nil kM
 refine kS h ?_ ?_ <;> intro b8 h
 refine kt b8 (Xab ?_)
 iterate 3 refine kO hT hC ?_
 refine Vc.nil (Xah (Xas ?_))
 obtain rfl := kj h
 exact Xcl (τ := ⟨[(16, .own 16), (17, .sv (.bool false))], [(16, some (.ints .i64 ([] : List Int)))]⟩) (kW hC [(16, 1296)]) rfl ⟨rfl, trivial⟩
 refine kf b8 (Xaf (Xad (Xab ?_)))
 iterate 13 refine kO hT hC ?_
 refine kC hC [(16, 1520)] Tryz.call99 h (fun _ => Xh0) fun q13 h => ?_
 refine kO hT hC ?_
 refine Vc.nil (Xao (Xab ?_))
 iterate 3 refine kO hT hC ?_
 refine Vc.nil ?_
 refine kS h ?_ ?_ <;> intro b9 h
 refine kt b9 (Xab ?_)
 iterate 3 refine kO hT hC ?_
 refine Vc.nil (Xah (Xas ?_))
 obtain rfl := kj h
 exact Xcl (τ := ⟨[(16, .own 16), (17, .sv (.bool true))], [(16, some (.ints .i64 q13))]⟩) (kW hC [(16, 1520)]) rfl ⟨rfl, trivial⟩
 refine kf b9 (Xaf (Xad (Xab ?_)))
 iterate 3 refine kO hT hC ?_
 refine kC hC [(16, 1664)] Tryz.call106 h (fun _ => Xlg) fun q14 h => ?_
 iterate 5 refine kO hT hC ?_
 refine kN ?_
 iterate 2 refine kO hT hC ?_
 refine kC hC [(16, 1744)] Tryz.call107 h (fun _ => Xpf) fun q15 h => ?_
 iterate 2 refine kO hT hC ?_
 refine Vc.nil (Xah ?_)
 obtain rfl := kj h
 exact Xcl (τ := ⟨[(16, .own 16), (17, .sv (.bool true))], [(16, some (.ints .i64 q15))]⟩) (kW hC [(16, 1744)]) rfl ⟨rfl, trivial⟩
def Xx9 (r : Bool) : AV := .sv (.bool r)
def Xx8 (r : Bool) : Xa0 := []
theorem Xaj {p0 p1 p2 r} (h : Xap p0 p1 p2 = some r) : AC Tryz.prog 61 [.sv (.int .i64 p0), .sv (.int .i64 p1), .sv (.int .i64 p2)] [] (Xx9 r) (Xx8 r) := by
 refine Xag hT Tryz.func61 rfl fun C hC => ?_
 unfold Xap at h
 refine Xab ?_
 refine kO hT hC ?_
 refine Vc.nil ?_
 refine kL [0,1,2,6] [] [_,_,_,_] [] ?_
 refine kA h (fun v1 => ([(6, .sv (.bool v1)), (0, .any), (1, .any), (2, .any)], [])) (fun v1 h => ?_) fun v1 h => ?_
 refine Xac ?_
 iterate 4 refine kO hT hC ?_
 refine kS h ?_ ?_ <;> intro b1 h
 iterate 3 refine kI hT hC b1 ?_
 refine kP hC true b1 ?_
 refine kO hT hC ?_
 exact Vc.nil kM
 iterate 3 refine kF hC b1 ?_
 refine kP hC false b1 ?_
 refine kO hT hC ?_
 exact Vc.nil kM
 exact Xah kR
def Xxk (r : Bool) : AV := .sv (.bool r)
def Xxj (r : Bool) : Xa0 := []
theorem Xi7 {p0 r} (h : Xe3 p0 = some r) : AC Tryz.prog 60 [.agg [.sv (.bool p0.Key), .sv (.int .i64 p0.Qp), .sv (.bool p0.Large), .sv (.bool p0.Exact)]] [] (Xxk r) (Xxj r) := by
 refine Xag hT Tryz.func60 rfl fun C hC => ?_
 unfold Xe3 at h
 refine Xab ?_
 iterate 2 refine kO hT hC ?_
 refine Vc.nil ?_
 refine kL [1,2] [16] [_,_] [_] ?_
 refine kA h (fun v1 => ([(2, .sv (.bool v1)), (1, .any)], [(16, none)])) (fun v1 h => ?_) fun v1 h => ?_
 refine Xac ?_
 iterate 2 refine kO hT hC ?_
 refine kC hC [] Tryz.call61 h (fun _ => Xaj) fun q2 h => ?_
 refine kO hT hC ?_
 refine kS h ?_ ?_ <;> intro b1 h
 iterate 3 refine kI hT hC b1 ?_
 refine kS h ?_ ?_ <;> intro b2 h
 iterate 2 refine kI hT hC b2 ?_
 refine Xd5 hC rfl rfl rfl rfl b1 rfl rfl (b := true) b2 rfl rfl rfl trivial ?_
 refine kI hT hC b1 ?_
 refine kP hC true b1 ?_
 refine kO hT hC ?_
 exact Vc.nil kM
 iterate 2 refine kF hC b2 ?_
 refine Xd5 hC rfl rfl rfl rfl b1 rfl rfl (b := false) b2 rfl rfl rfl trivial ?_
 refine kI hT hC b1 ?_
 refine kP hC true b1 ?_
 refine kO hT hC ?_
 exact Vc.nil kM
 iterate 3 refine kF hC b1 ?_
 iterate 2 refine Xk6 hC rfl rfl rfl rfl rfl rfl ?_
 iterate 2 refine kF hC b1 ?_
 refine kP hC false b1 ?_
 refine kO hT hC ?_
 exact Vc.nil kM
 exact Xah kR
def Xo9 (r : Bool) : AV := .sv (.bool r)
def Xo8 (r : Bool) : Xa0 := []
theorem Xbf {p0 p1 p2 p3 r} (h : Xa7 p0 p1 p2 p3 = some r) : AC Tryz.prog 59 [.sv (.ints .i64 p0), .sv (.int .i64 p1), .sv (.int .i64 p2), .sv (.int .i64 p3)] [] (Xo9 r) (Xo8 r) := by
 refine Xag hT Tryz.func59 rfl fun C hC => ?_
 unfold Xa7 at h
 refine Xab ?_
 refine kO hT hC ?_
 refine Vc.nil (Xao (Xab ?_))
 iterate 3 refine kO hT hC ?_
 refine Vc.nil ?_
 refine kL [0,1,2,3,11,12,13] [] [_,_,_,_,_,_,_] [] ?_
 obtain ⟨o8, hl, h⟩ := Xa4 h
 refine Xlu (fun v3 => ([(13, .sv (.int .i64 v3))], [])) (fun v6 => ([(2, .any), (3, .any), (11, .any), (12, .any), (13, .any)], [])) (fun r => Xuz C T Tryz.f59.results.toList (Xo9 r) (Xo8 r)) hl ?_ ?_ ?_ ?_
 apply Xfs hC []
 exact co
 rfl
 decide
 rfl
 intro v3 s hs
 have h := hs
 unfold Xhq at h
 refine Xab ?_
 refine kO hT hC ?_
 refine Vc.nil (Xao ?_)
 refine kS h ?_ ?_ <;> intro b5 h
 refine kt b5 (Xaf (Xad (Xao (Xak (Xab ?_)))))
 refine kQ hT hC h fun h => ?_
 iterate 2 refine kO hT hC ?_
 refine kN ?_
 iterate 3 refine kO hT hC ?_
 refine kC hC [] Tryz.call61 h (fun _ => Xaj) fun q7 h => ?_
 refine kO hT hC ?_
 refine Vc.nil ?_
 refine kS h ?_ ?_ <;> intro b6 h
 refine kt b6 (Xab ?_)
 refine kO hT hC ?_
 refine Vc.nil (Xah (Xii (Xas ?_)))
 obtain rfl := kj h
 refine Yaq (Yap ?_)
 exact Xcl (Xkc.refl _) rfl trivial
 refine kf b6 (Xaf (Xan (Xad (Xac ?_))))
 iterate 2 refine kO hT hC ?_
 exact Vc.nil kG
 exact kf b5 (Xam (Xat kb))
 intro v6 e
 subst e
 refine Xad (Xab ?_)
 iterate 5 refine kO hT hC ?_
 exact Vc.nil (Xah kR)
 intro r' σ' e hE
 subst e
 obtain rfl := kj h
 refine Xas ?_
 exact hE
def Xrp (r : Bool) : AV := .sv (.bool r)
def Xro (r : Bool) : Xa0 := []
theorem Xiq {p0 r} (h : Xdh p0 = some r) : AC Tryz.prog 174 [.sv (.ints .i64 p0)] [] (Xrp r) (Xro r) := by
 refine Xag hT Tryz.func174 rfl fun C hC => ?_
 unfold Xdh at h
 refine Xab ?_
 refine kO hT hC ?_
 refine kN ?_
 refine kO hT hC ?_
 refine kC hC [] Tryz.call59 h (fun _ => Xbf) fun q1 h => ?_
 refine kO hT hC ?_
 exact Vc.nil (Xah kR)
def Xtk (r : Bool) : AV := .sv (.bool r)
def Xtj (r : Bool) : Xa0 := []
theorem Xvj {p0 r} (h : Xho p0 = some r) : AC Tryz.prog 122 [.agg [.sv (.int .i64 p0.Kind), .sv (.int .i64 p0.Mode), .sv (.int .i64 p0.Dx), .sv (.int .i64 p0.Dy), .sv (.ints .i64 p0.Levels)]] [] (Xtk r) (Xtj r) := by
 refine Xag hT Tryz.func122 rfl fun C hC => ?_
 unfold Xho at h
 refine Xab ?_
 iterate 2 refine kO hT hC ?_
 refine Vc.nil (Xao (Xab ?_))
 iterate 2 refine kO hT hC ?_
 refine Vc.nil (Xak (Xab ?_))
 iterate 2 refine kO hT hC ?_
 refine Vc.nil ?_
 refine kS h ?_ ?_ <;> intro b1 h
 refine kt b1 ?_
 refine kL [1,2] [16] [_,_] [_] ?_
 refine kA h (fun v1 => ([(2, .sv (.bool v1)), (1, .any)], [(16, none)])) (fun v1 h => ?_) fun v1 h => ?_
 refine Xac ?_
 iterate 4 refine kO hT hC ?_
 refine kS h ?_ ?_ <;> intro b2 h
 iterate 3 refine kI hT hC b2 ?_
 refine kP hC true b2 ?_
 refine kO hT hC ?_
 refine kS h ?_ ?_ <;> intro b3 h
 iterate 3 refine kI hT hC b3 ?_
 refine kP hC true b3 ?_
 refine kO hT hC ?_
 refine kS h ?_ ?_ <;> intro b4 h
 iterate 4 refine kI hT hC b4 ?_
 refine kP hC true b4 ?_
 refine kO hT hC ?_
 exact Vc.nil kM
 iterate 4 refine kF hC b4 ?_
 refine kP hC false b4 ?_
 refine kO hT hC ?_
 exact Vc.nil kM
 iterate 3 refine kF hC b3 ?_
 refine kP hC false b3 ?_
 refine kO hT hC ?_
 iterate 4 refine kF hC rfl ?_
 iterate 2 refine kO hT hC ?_
 exact Vc.nil kM
 iterate 3 refine kF hC b2 ?_
 refine kP hC false b2 ?_
 refine kO hT hC ?_
 iterate 3 refine kF hC rfl ?_
 iterate 2 refine kO hT hC ?_
 iterate 4 refine kF hC rfl ?_
 iterate 2 refine kO hT hC ?_
 exact Vc.nil kM
 exact Xah (Xii (Xas kR))
 refine kf b1 (Xab ?_)
 iterate 2 refine kO hT hC ?_
 refine Vc.nil ?_
 refine kS h ?_ ?_ <;> intro b5 h
 refine kt b5 ?_
 refine kL [1,2] [16] [_,_] [_] ?_
 refine kA h (fun v2 => ([(2, .sv (.bool v2)), (1, .any)], [(16, none)])) (fun v2 h => ?_) fun v2 h => ?_
 refine Xac ?_
 iterate 4 refine kO hT hC ?_
 refine kS h ?_ ?_ <;> intro b6 h
 iterate 2 refine kI hT hC b6 ?_
 refine kE hC b6 [] Tryz.call61 h (fun _ => Xaj) fun q3 h => ?_
 refine kP hC true b6 ?_
 refine kO hT hC ?_
 refine kS h ?_ ?_ <;> intro b7 h
 iterate 2 refine kI hT hC b7 ?_
 refine kE hC b7 [] Tryz.call61 h (fun _ => Xaj) fun q4 h => ?_
 refine kP hC true b7 ?_
 refine kO hT hC ?_
 refine kS h ?_ ?_ <;> intro b8 h
 iterate 2 refine kI hT hC b8 ?_
 refine kE hC b8 [] Tryz.call174 h (fun _ => Xiq) fun q5 h => ?_
 refine kP hC true b8 ?_
 refine kO hT hC ?_
 exact Vc.nil kM
 iterate 3 refine kF hC b8 ?_
 refine kP hC false b8 ?_
 refine kO hT hC ?_
 exact Vc.nil kM
 iterate 3 refine kF hC b7 ?_
 refine kP hC false b7 ?_
 refine kO hT hC ?_
 iterate 3 refine kF hC rfl ?_
 iterate 2 refine kO hT hC ?_
 exact Vc.nil kM
 iterate 3 refine kF hC b6 ?_
 refine kP hC false b6 ?_
 refine kO hT hC ?_
 iterate 3 refine kF hC rfl ?_
 iterate 2 refine kO hT hC ?_
 iterate 3 refine kF hC rfl ?_
 iterate 2 refine kO hT hC ?_
 exact Vc.nil kM
 exact Xah (Xii (Xas kR))
 refine kf b5 (Xab ?_)
 iterate 2 refine kO hT hC ?_
 refine Vc.nil ?_
 refine kS h ?_ ?_ <;> intro b9 h
 refine kt b9 ?_
 refine kL [1,2] [16] [_,_] [_] ?_
 refine kA h (fun v6 => ([(2, .sv (.bool v6)), (1, .any)], [(16, none)])) (fun v6 h => ?_) fun v6 h => ?_
 refine Xac ?_
 iterate 2 refine kO hT hC ?_
 refine kC hC [] Tryz.call61 h (fun _ => Xaj) fun q7 h => ?_
 refine kO hT hC ?_
 refine kS h ?_ ?_ <;> intro b10 h
 iterate 3 refine kI hT hC b10 ?_
 refine kP hC true b10 ?_
 refine kO hT hC ?_
 refine kS h ?_ ?_ <;> intro b11 h
 iterate 3 refine kI hT hC b11 ?_
 refine kP hC true b11 ?_
 refine kO hT hC ?_
 refine kS h ?_ ?_ <;> intro b12 h
 iterate 2 refine kI hT hC b12 ?_
 refine kE hC b12 [] Tryz.call174 h (fun _ => Xiq) fun q8 h => ?_
 refine kP hC true b12 ?_
 refine kO hT hC ?_
 exact Vc.nil kM
 iterate 3 refine kF hC b12 ?_
 refine kP hC false b12 ?_
 refine kO hT hC ?_
 exact Vc.nil kM
 iterate 3 refine kF hC b11 ?_
 refine kP hC false b11 ?_
 refine kO hT hC ?_
 iterate 3 refine kF hC rfl ?_
 iterate 2 refine kO hT hC ?_
 exact Vc.nil kM
 iterate 3 refine kF hC b10 ?_
 refine kP hC false b10 ?_
 refine kO hT hC ?_
 iterate 3 refine kF hC rfl ?_
 iterate 2 refine kO hT hC ?_
 iterate 3 refine kF hC rfl ?_
 iterate 2 refine kO hT hC ?_
 exact Vc.nil kM
 exact Xah (Xii (Xas kR))
 refine kf b9 (Xaf (Xan (Xad (Xab ?_))))
 refine kO hT hC ?_
 exact Vc.nil (Xah kR)
def Xz6 (r : Bool) : AV := .sv (.bool r)
def Xz5 (r : Bool) : Xa0 := []
theorem Xfw {p0 r} (h : Xdu p0 = some r) : AC Tryz.prog 57 [.agg [.sv (.int .i64 p0.Wide), .sv (.int .i64 p0.High), .sv (.str p0.Dots)]] [] (Xz6 r) (Xz5 r) := by
 refine Xag hT Tryz.func57 rfl fun C hC => ?_
 unfold Xdu at h
 refine Xab ?_
 iterate 2 refine kO hT hC ?_
 refine Vc.nil ?_
 refine kL [1,2] [16] [_,_] [_] ?_
 refine kA h (fun v1 => ([(2, .sv (.bool v1)), (1, .any)], [(16, none)])) (fun v1 h => ?_) fun v1 h => ?_
 refine Xac ?_
 iterate 2 refine kO hT hC ?_
 refine kC hC [] Tryz.call61 h (fun _ => Xaj) fun q2 h => ?_
 refine kO hT hC ?_
 refine kS h ?_ ?_ <;> intro b1 h
 iterate 2 refine kI hT hC b1 ?_
 refine kE hC b1 [] Tryz.call61 h (fun _ => Xaj) fun q3 h => ?_
 refine kP hC true b1 ?_
 refine kO hT hC ?_
 refine kS h ?_ ?_ <;> intro b2 h
 iterate 9 refine kI hT hC b2 ?_
 refine kP hC true b2 ?_
 refine kO hT hC ?_
 exact Vc.nil kM
 iterate 9 refine kF hC b2 ?_
 refine kP hC false b2 ?_
 refine kO hT hC ?_
 exact Vc.nil kM
 iterate 3 refine kF hC b1 ?_
 refine kP hC false b1 ?_
 refine kO hT hC ?_
 iterate 9 refine kF hC rfl ?_
 iterate 2 refine kO hT hC ?_
 exact Vc.nil kM
 exact Xah kR
def Xrd (r : Bool) : AV := .sv (.bool r)
def Xrc (r : Bool) : Xa0 := []
theorem Xth {p0 p1 r} (h : Xgi p0 p1 = some r) : AC Tryz.prog 92 [.agg [.sv (.int .i64 p0.Wide), .sv (.int .i64 p0.High), .sv (.str p0.Dots)], .agg [.sv (.int .i64 p1.Left), .sv (.int .i64 p1.Top), .sv (.int .i64 p1.Wide), .sv (.int .i64 p1.High)]] [] (Xrd r) (Xrc r) := by
 refine Xag hT Tryz.func92 rfl fun C hC => ?_
 unfold Xgi at h
 refine Xab ?_
 iterate 3 refine kO hT hC ?_
 refine Vc.nil ?_
 refine kL [2,3,4] [32,48] [_,_,_] [_,_] ?_
 refine kA h (fun v1 => ([(4, .sv (.bool v1)), (2, .any), (3, .any)], [(32, none), (48, none)])) (fun v1 h => ?_) fun v1 h => ?_
 refine Xac ?_
 iterate 4 refine kO hT hC ?_
 refine kC hC [] Tryz.call61 h (fun _ => Xaj) fun q2 h => ?_
 refine kO hT hC ?_
 refine kS h ?_ ?_ <;> intro b1 h
 iterate 4 refine kI hT hC b1 ?_
 refine kE hC b1 [] Tryz.call61 h (fun _ => Xaj) fun q3 h => ?_
 refine kP hC true b1 ?_
 refine kO hT hC ?_
 refine kS h ?_ ?_ <;> intro b2 h
 iterate 7 refine kI hT hC b2 ?_
 refine kE hC b2 [] Tryz.call61 h (fun _ => Xaj) fun q4 h => ?_
 refine kP hC true b2 ?_
 refine kO hT hC ?_
 refine kS h ?_ ?_ <;> intro b3 h
 iterate 7 refine kI hT hC b3 ?_
 refine kE hC b3 [] Tryz.call61 h (fun _ => Xaj) fun q5 h => ?_
 refine kP hC true b3 ?_
 refine kO hT hC ?_
 exact Vc.nil kM
 iterate 8 refine kF hC b3 ?_
 refine kP hC false b3 ?_
 refine kO hT hC ?_
 exact Vc.nil kM
 iterate 8 refine kF hC b2 ?_
 refine kP hC false b2 ?_
 refine kO hT hC ?_
 iterate 8 refine kF hC rfl ?_
 iterate 2 refine kO hT hC ?_
 exact Vc.nil kM
 iterate 5 refine kF hC b1 ?_
 refine kP hC false b1 ?_
 refine kO hT hC ?_
 iterate 8 refine kF hC rfl ?_
 iterate 2 refine kO hT hC ?_
 iterate 8 refine kF hC rfl ?_
 iterate 2 refine kO hT hC ?_
 exact Vc.nil kM
 exact Xah kR
def Xn1 (r : Bool) : AV := .sv (.bool r)
def Xn0 (r : Bool) : Xa0 := []
theorem Xdq {p0 p1 p2 r} (h : Xa6 p0 p1 p2 = some r) : AC Tryz.prog 58 [.agg [.sv (.int .i64 p0.Wide), .sv (.int .i64 p0.High), .sv (.str p0.Dots)], .sv (.int .i64 p1), .sv (.int .i64 p2)] [] (Xn1 r) (Xn0 r) := by
 refine Xag hT Tryz.func58 rfl fun C hC => ?_
 unfold Xa6 at h
 refine Xab ?_
 iterate 2 refine kO hT hC ?_
 refine Vc.nil ?_
 refine kL [1,2,3,6] [48] [_,_,_,_] [_] ?_
 refine kA h (fun v1 => ([(6, .sv (.bool v1)), (1, .any), (2, .any), (3, .any)], [(48, none)])) (fun v1 h => ?_) fun v1 h => ?_
 refine Xac ?_
 refine kO hT hC ?_
 refine kQ hT hC h fun h => ?_
 iterate 2 refine kO hT hC ?_
 refine kS h ?_ ?_ <;> intro b1 h
 refine kI hT hC b1 ?_
 refine kJ hT hC b1 h fun h => ?_
 refine kI hT hC b1 ?_
 refine kP hC true b1 ?_
 refine kO hT hC ?_
 refine kS h ?_ ?_ <;> intro b2 h
 iterate 4 refine kI hT hC b2 ?_
 refine kE hC b2 [] Tryz.call61 h (fun _ => Xaj) fun q2 h => ?_
 refine kP hC true b2 ?_
 refine kO hT hC ?_
 refine kS h ?_ ?_ <;> intro b3 h
 iterate 4 refine kI hT hC b3 ?_
 refine kE hC b3 [] Tryz.call61 h (fun _ => Xaj) fun q3 h => ?_
 refine kP hC true b3 ?_
 refine kO hT hC ?_
 exact Vc.nil kM
 iterate 5 refine kF hC b3 ?_
 refine kP hC false b3 ?_
 refine kO hT hC ?_
 exact Vc.nil kM
 iterate 5 refine kF hC b2 ?_
 refine kP hC false b2 ?_
 refine kO hT hC ?_
 iterate 5 refine kF hC rfl ?_
 iterate 2 refine kO hT hC ?_
 exact Vc.nil kM
 iterate 3 refine kF hC b1 ?_
 refine kP hC false b1 ?_
 refine kO hT hC ?_
 iterate 5 refine kF hC rfl ?_
 iterate 2 refine kO hT hC ?_
 iterate 5 refine kF hC rfl ?_
 iterate 2 refine kO hT hC ?_
 exact Vc.nil kM
 exact Xah kR
def Xp7 (r : Bool) : AV := .sv (.bool r)
def Xp6 (r : Bool) : Xa0 := []
theorem Xrk {p0 p1 r} (h : Xe8 p0 p1 = some r) : AC Tryz.prog 123 [.agg [.sv (.int .i64 p0.Kind), .sv (.int .i64 p0.Mode), .sv (.int .i64 p0.Dx), .sv (.int .i64 p0.Dy), .sv (.ints .i64 p0.Levels)], .agg [.sv (.bool p1.Key), .sv (.int .i64 p1.Qp), .sv (.bool p1.Large), .sv (.bool p1.Exact)]] [] (Xp7 r) (Xp6 r) := by
 refine Xag hT Tryz.func123 rfl fun C hC => ?_
 unfold Xe8 at h
 refine Xab ?_
 iterate 3 refine kO hT hC ?_
 refine Vc.nil ?_
 refine kL [2,3,4] [32,48] [_,_,_] [_,_] ?_
 refine kA h (fun v1 => ([(4, .sv (.bool v1)), (2, .any), (3, .any)], [(32, none), (48, none)])) (fun v1 h => ?_) fun v1 h => ?_
 refine Xac ?_
 iterate 4 refine kO hT hC ?_
 refine kS h ?_ ?_ <;> intro b1 h
 iterate 3 refine kI hT hC (kn b1) ?_
 refine kP hC false (kn b1) ?_
 refine kO hT hC ?_
 exact Vc.nil kM
 iterate 3 refine kF hC (kn b1) ?_
 refine kP hC true (kn b1) ?_
 refine kO hT hC ?_
 exact Vc.nil kM
 exact Xah kR
def Xu5 (r : Int) : AV := .sv (.int .i64 r)
def Xu4 (r : Int) : Xa0 := []
theorem Xhi {p0 p1 p2 r} (h : Xc5 p0 p1 p2 = some r) : AC Tryz.prog 119 [.sv (.int .i64 p0), .sv (.int .i64 p1), .sv (.int .i64 p2)] [] (Xu5 r) (Xu4 r) := by
 refine Xag hT Tryz.func119 rfl fun C hC => ?_
 unfold Xc5 at h
 refine Xab ?_
 refine kO hT hC ?_
 refine kN ?_
 iterate 6 refine kO hT hC ?_
 exact Vc.nil (Xah kR)
def Xvc (r : Int) : AV := .sv (.int .i64 r)
def Xvb (r : Int) : Xa0 := []
theorem Xhm {p0 p1 p2 r} (h : Xc9 p0 p1 p2 = some r) : AC Tryz.prog 108 [.agg [.sv (.int .i64 p0.Wide), .sv (.int .i64 p0.High), .sv (.str p0.Dots)], .sv (.int .i64 p1), .sv (.int .i64 p2)] [] (Xvc r) (Xvb r) := by
 refine Xag hT Tryz.func108 rfl fun C hC => ?_
 unfold Xc9 at h
 refine Xab ?_
 iterate 2 refine kO hT hC ?_
 refine Vc.nil ?_
 refine Xjq hm ?_
 iterate 6 refine kO hT hC ?_
 refine kC hC [] Tryz.call119 h (fun _ => Xhi) fun q1 h => ?_
 iterate 7 refine kO hT hC ?_
 refine kC hC [] Tryz.call119 h (fun _ => Xhi) fun q2 h => ?_
 refine kO hT hC ?_
 refine kQ hT hC h fun h => ?_
 iterate 2 refine kO hT hC ?_
 exact kD (Xah kR)
def Xrb (r : (List Int)) : AV := .own 16
def Xra (r : (List Int)) : Xa0 := [(16, .ints .i64 r)]
theorem Xdv {p0 p1 p2 r} (h : Xbi p0 p1 p2 = some r) : AC Tryz.prog 68 [.agg [.sv (.int .i64 p0.Wide), .sv (.int .i64 p0.High), .sv (.str p0.Dots)], .sv (.int .i64 p1), .sv (.int .i64 p2)] [] (Xrb r) (Xra r) := by
 refine Xag hT Tryz.func68 rfl fun C hC => ?_
 unfold Xbi at h
 refine Xab ?_
 iterate 2 refine kO hT hC ?_
 refine kN ?_
 obtain ⟨hq, h⟩ := Xau h
 refine Yhw hT hC rfl rfl rfl rfl ⟨hq.1, hq.2.1, hq.2.2, by decide⟩ ?_
 refine kO hT hC ?_
 refine Vc.nil (Xao (Xab ?_))
 refine kO hT hC ?_
 refine Vc.nil ?_
 refine kL [1,2,3,7,11] [48,160] [_,_,_,_,_] [_,_] ?_
 refine kX h (fun v10 => ([(11, .sv (.int .i64 v10.1))], [(160, some (.ints .i64 v10.2))])) (fun v20 => ([(1, .any), (2, .any), (3, .any), (11, .any)], [(160, some (.ints .i64 v20)), (48, none)])) (kW hC []) (fun v10 s h => ?_) fun v20 h => ?_
 unfold Xc7 at h
 refine Xab ?_
 refine kO hT hC ?_
 refine Vc.nil (Xao ?_)
 refine kS h ?_ ?_ <;> intro b9 h
 refine kt b9 (Xaf (Xad (Xao (Xak (Xab ?_)))))
 iterate 2 refine kO hT hC ?_
 refine kN ?_
 refine kO hT hC ?_
 refine Vc.nil ?_
 refine kL [1,2,3,7,8,11,14] [48,160] [_,_,_,_,_,_,_] [_,_] ?_
 refine kX h (fun v23 => ([(14, .sv (.int .i64 v23.1))], [(160, some (.ints .i64 v23.2))])) (fun v26 => ([(8, .any), (14, .any)], [(160, some (.ints .i64 v26))])) (kW hC []) (fun v23 s h => ?_) fun v26 h => ?_
 unfold Xc8 at h
 refine Xab ?_
 refine kO hT hC ?_
 refine Vc.nil (Xao ?_)
 refine kS h ?_ ?_ <;> intro b12 h
 refine kt b12 (Xaf (Xad (Xao (Xak (Xab ?_)))))
 iterate 2 refine kO hT hC ?_
 refine Vc.nil (Xac ?_)
 iterate 8 refine kO hT hC ?_
 refine kC hC [] Tryz.call108 h (fun _ => Xhm) fun q27 h => ?_
 refine kO hT hC ?_
 refine kT hT hC h fun h => ?_
 refine kO hT hC ?_
 refine Vc.nil (Xan (Xad (Xac ?_)))
 iterate 2 refine kO hT hC ?_
 refine Vc.nil ?_
 obtain rfl := kj h
 exact Yby (kW hC [(160, 432)])
 exact kf b12 (Xam (Xat ku))
 refine Xan (Xad (Xac ?_))
 iterate 2 refine kO hT hC ?_
 exact Vc.nil kG
 exact kf b9 (Xam (Xat ku))
 refine Xad (Xab ?_)
 iterate 2 refine kO hT hC ?_
 refine Vc.nil (Xah ?_)
 obtain rfl := kj h
 exact Xcl (τ := ⟨[(6, .own 16)], [(16, some (.ints .i64 v20))]⟩) (kW hC [(16, 160)]) rfl ⟨rfl, trivial⟩
def Xrt (r : (List Int)) : AV := .own 16
def Xrs (r : (List Int)) : Xa0 := [(16, .ints .i64 r)]
theorem Xl3 {p0 r} (h : Xeu p0 = some r) : AC Tryz.prog 166 [.sv (.int .i64 p0)] [] (Xrt r) (Xrs r) := by
 refine Xag hT Tryz.func166 rfl fun C hC => ?_
 unfold Xeu at h
 refine Xab ?_
 refine kO hT hC ?_
 refine kN ?_
 iterate 2 refine kO hT hC ?_
 refine Vc.nil (Xao (Xab ?_))
 refine kO hT hC ?_
 refine Vc.nil ?_
 refine kL [0,3,4] [128] [_,_,_] [_] ?_
 refine kX h (fun v16 => ([(4, .sv (.int .i64 v16.1))], [(128, some (.ints .i64 v16.2))])) (fun v32 => ([(0, .any), (4, .any)], [(128, some (.ints .i64 v32))])) (kW hC []) (fun v16 s h => ?_) fun v32 h => ?_
 unfold Xe1 at h
 refine Xao (Xab ?_)
 iterate 5 refine kO hT hC ?_
 refine Vc.nil ?_
 refine kS h ?_ ?_ <;> intro b27 h
 refine kt b27 (Xaf (Xad (Xao (Xak (Xab ?_)))))
 refine kO hT hC ?_
 refine Vc.nil ?_
 refine kL [0,3,4,5] [128] [_,_,_,_] [_] ?_
 refine kX h (fun v37 => ([(5, .sv (.int .i64 v37.1))], [(128, some (.ints .i64 v37.2))])) (fun v42 => ([(5, .any)], [(128, some (.ints .i64 v42))])) (kW hC []) (fun v37 s h => ?_) fun v42 h => ?_
 unfold Xhr at h
 refine Xao (Xab ?_)
 iterate 3 refine kO hT hC ?_
 refine Vc.nil ?_
 refine kS h ?_ ?_ <;> intro b36 h
 refine kt b36 (Xaf (Xad ?_))
 refine kL [0,3,4,5] [128] [_,_,_,_] [_] ?_
 refine kA h (fun v43 => ([], [(128, some (.ints .i64 v43))])) (fun v43 h => ?_) fun v43 h => ?_
 refine Xak (Xab ?_)
 iterate 2 refine kO hT hC ?_
 refine Vc.nil ?_
 refine kL [0,3,4,5,6] [128] [_,_,_,_,_] [_] ?_
 refine kA h (fun v44 => ([(6, .sv (.int .i64 v44))], [])) (fun v44 h => ?_) fun v44 h => ?_
 refine Xab ?_
 refine kO hT hC ?_
 refine kQ hT hC h fun h => ?_
 refine kO hT hC ?_
 refine Vc.nil ?_
 refine kS h ?_ ?_ <;> intro b37 h
 refine kt b37 (Xac ?_)
 iterate 4 refine kO hT hC ?_
 exact Vc.nil kM
 exact kf b37 (Xaf kM)
 refine Xab ?_
 iterate 4 refine kO hT hC ?_
 refine Vc.nil ?_
 refine kL [0,3,4,5,6,7] [128] [_,_,_,_,_,_] [_] ?_
 refine kA h (fun v45 => ([(38, .sv (.bool v45))], [])) (fun v45 h => ?_) fun v45 h => ?_
 refine Xac ?_
 iterate 4 refine kO hT hC ?_
 refine kS h ?_ ?_ <;> intro b38 h
 iterate 3 refine kI hT hC b38 ?_
 refine kP hC true b38 ?_
 exact Vc.nil kM
 iterate 3 refine kF hC b38 ?_
 refine kP hC false b38 ?_
 exact Vc.nil kM
 refine kS h ?_ ?_ <;> intro b39 h
 refine kt b39 (Xac ?_)
 iterate 7 refine kO hT hC ?_
 refine kT hT hC h fun h => ?_
 refine kO hT hC ?_
 refine Vc.nil (Xan ?_)
 obtain rfl := kj h
 exact Xjo (kW hC [(128, 736)])
 exact kf b39 (Xaf (Xan kM))
 refine Xac ?_
 iterate 3 refine kO hT hC ?_
 exact Vc.nil kG
 exact kf b36 (Xam (Xat ku))
 refine Xan (Xad (Xac ?_))
 iterate 3 refine kO hT hC ?_
 exact Vc.nil kG
 exact kf b27 (Xam (Xat ku))
 refine Xad (Xab ?_)
 iterate 2 refine kO hT hC ?_
 refine Vc.nil (Xah ?_)
 obtain rfl := kj h
 exact Xcl (τ := ⟨[(2, .own 16)], [(16, some (.ints .i64 v32))]⟩) (kW hC [(16, 128)]) rfl ⟨rfl, trivial⟩
def Xrn (r : ((List Int) × Bool)) : AV := .tup [.own 16, .sv (.bool r.2)]
def Xrm (r : ((List Int) × Bool)) : Xa0 := [(16, .ints .i64 r.1)]
theorem Xip {p0 p1 r} (h : Xdg p0 p1 = some r) : AC Tryz.prog 175 [.sv (.int .i64 p0), .sv (.ints .i64 p1)] [] (Xrn r) (Xrm r) := by
 refine Xag hT Tryz.func175 rfl fun C hC => ?_
 unfold Xdg at h
 refine Xab ?_
 iterate 2 refine kO hT hC ?_
 refine Vc.nil (Xao ?_)
 refine kL [0,1] [] [_,_] [] ?_
 refine kA h (fun v1 => ([(22, .sv (.bool v1))], [])) (fun v1 h => ?_) fun v1 h => ?_
 refine Xac ?_
 iterate 3 refine kO hT hC ?_
 refine kS h ?_ ?_ <;> intro b1 h
 iterate 2 refine kI hT hC b1 ?_
 refine kP hC true b1 ?_
 refine kO hT hC ?_
 refine kS h ?_ ?_ <;> intro b2 h
 iterate 6 refine kF hC b2 ?_
 refine kP hC true b2 ?_
 exact Vc.nil kM
 iterate 6 refine kI hT hC b2 ?_
 refine kP hC false b2 ?_
 exact Vc.nil kM
 iterate 2 refine kF hC b1 ?_
 refine kP hC false b1 ?_
 refine kO hT hC ?_
 iterate 6 refine kI hT hC rfl ?_
 refine kO hT hC ?_
 exact Vc.nil kM
 refine kS h ?_ ?_ <;> intro b3 h
 refine kt b3 (Xab ?_)
 iterate 3 refine kO hT hC ?_
 refine Vc.nil (Xah (Xas ?_))
 obtain rfl := kj h
 exact Xcl (τ := ⟨[(4, .own 16), (5, .sv (.bool false))], [(16, some (.ints .i64 ([] : List Int)))]⟩) (kW hC [(16, 368)]) rfl ⟨rfl, trivial⟩
 refine kf b3 (Xaf (Xad (Xab ?_)))
 iterate 2 refine kO hT hC ?_
 obtain ⟨hq, h⟩ := Xau h
 refine Yhw hT hC rfl rfl rfl rfl ⟨hq.1, hq.2.1, hq.2.2, by decide⟩ ?_
 refine kO hT hC ?_
 refine Vc.nil (Xao (Xab ?_))
 refine kO hT hC ?_
 refine kC hC [(16, 448)] Tryz.call166 h (fun _ => Xl3) fun q2 h => ?_
 iterate 2 refine kO hT hC ?_
 refine Vc.nil ?_
 refine kL [1,6,28,29,30] [416,448] [_,_,_,_,_] [_,_] ?_
 refine kX h (fun v4 => ([(30, .sv (.int .i64 v4.1))], [(416, some (.ints .i64 v4.2))])) (fun v6 => ([(1, .any), (28, .any), (29, .any), (30, .any)], [(416, some (.ints .i64 v6)), (448, none)])) (kW hC []) (fun v4 s h => ?_) fun v6 h => ?_
 unfold Xfx at h
 refine Xab ?_
 refine kO hT hC ?_
 refine Vc.nil (Xao ?_)
 refine kS h ?_ ?_ <;> intro b6 h
 refine kt b6 (Xaf (Xad (Xao (Xak (Xab ?_)))))
 refine kO hT hC ?_
 iterate 2 refine kQ hT hC h fun h => ?_
 iterate 2 refine kO hT hC ?_
 refine Vc.nil (Xac ?_)
 iterate 4 refine kO hT hC ?_
 refine kQ hT hC h fun h => ?_
 refine kO hT hC ?_
 iterate 2 refine kQ hT hC h fun h => ?_
 refine Vc.nil (Xan (Xad (Xac ?_)))
 iterate 2 refine kO hT hC ?_
 exact Vc.nil kG
 exact kf b6 (Xam (Xat ku))
 refine Xad (Xab ?_)
 iterate 3 refine kO hT hC ?_
 refine Vc.nil (Xah ?_)
 obtain rfl := kj h
 exact Xcl (τ := ⟨[(4, .own 16), (5, .sv (.bool true))], [(16, some (.ints .i64 v6))]⟩) (kW hC [(16, 416)]) rfl ⟨rfl, trivial⟩
def Xx0 (r : Int) : AV := .sv (.int .i64 r)
def Xxz (r : Int) : Xa0 := []
theorem Xo7 {p0 r} (h : Xg2 p0 = some r) : AC Tryz.prog 168 [.sv (.int .i64 p0)] [] (Xx0 r) (Xxz r) := by
 refine Xag hT Tryz.func168 rfl fun C hC => ?_
 unfold Xg2 at h
 refine Xab ?_
 refine kO hT hC ?_
 refine Vc.nil (Xao (Xab ?_))
 refine kO hT hC ?_
 refine kC hC [] Tryz.call61 h (fun _ => Xaj) fun q1 h => ?_
 refine kO hT hC ?_
 refine Vc.nil ?_
 refine kS h ?_ ?_ <;> intro b1 h
 refine kt b1 (Xab ?_)
 refine kO hT hC ?_
 exact Vc.nil (Xah (Xas kR))
 refine kf b1 (Xaf (Xad (Xab ?_)))
 iterate 2 refine kO hT hC ?_
 iterate 3 refine kQ hT hC h fun h => ?_
 refine kO hT hC ?_
 iterate 2 refine kQ hT hC h fun h => ?_
 refine kO hT hC ?_
 exact Vc.nil (Xah kR)
def Xq7 (r : Int) : AV := .sv (.int .i64 r)
def Xq6 (r : Int) : Xa0 := []
theorem Xte {p0 p1 r} (h : Xgh p0 p1 = some r) : AC Tryz.prog 176 [.sv (.int .i64 p0), .sv (.int .i64 p1)] [] (Xq7 r) (Xq6 r) := by
 refine Xag hT Tryz.func176 rfl fun C hC => ?_
 unfold Xgh at h
 refine Xab ?_
 refine kO hT hC ?_
 refine Vc.nil (Xao (Xab ?_))
 refine kO hT hC ?_
 refine kC hC [] Tryz.call61 h (fun _ => Xaj) fun q1 h => ?_
 refine kO hT hC ?_
 refine Vc.nil ?_
 refine kS h ?_ ?_ <;> intro b1 h
 refine kt b1 (Xab ?_)
 refine kO hT hC ?_
 exact Vc.nil (Xah (Xas kR))
 refine kf b1 (Xaf (Xad (Xab ?_)))
 iterate 2 refine kO hT hC ?_
 refine kC hC [] Tryz.call168 h (fun _ => Xo7) fun q2 h => ?_
 iterate 2 refine kO hT hC ?_
 exact Vc.nil (Xah kR)
def Xxy (r : Int) : AV := .sv (.int .i64 r)
def Xxx (r : Int) : Xa0 := []
theorem Xo6 {p0 p1 r} (h : Xin p0 p1 = some r) : AC Tryz.prog 211 [.sv (.int .i64 p0), .sv (.int .i64 p1)] [] (Xxy r) (Xxx r) := by
 refine Xag hT Tryz.func211 rfl fun C hC => ?_
 unfold Xin at h
 refine Xab ?_
 refine kO hT hC ?_
 refine Vc.nil (Xao ?_)
 refine kL [0,1] [] [_,_] [] ?_
 refine kA h (fun v1 => ([(13, .sv (.bool v1))], [])) (fun v1 h => ?_) fun v1 h => ?_
 refine Xac ?_
 refine kO hT hC ?_
 refine kC hC [] Tryz.call61 h (fun _ => Xaj) fun q2 h => ?_
 iterate 2 refine kO hT hC ?_
 refine kS h ?_ ?_ <;> intro b1 h
 refine kI hT hC (kn b1) ?_
 refine kE hC (kn b1) [] Tryz.call61 h (fun _ => Xaj) fun q3 h => ?_
 refine kI hT hC (kn b1) ?_
 refine kP hC false (kn b1) ?_
 exact Vc.nil kM
 iterate 3 refine kF hC (kn b1) ?_
 refine kP hC true (kn b1) ?_
 exact Vc.nil kM
 refine kS h ?_ ?_ <;> intro b2 h
 refine kt b2 (Xab ?_)
 refine kO hT hC ?_
 exact Vc.nil (Xah (Xas kR))
 refine kf b2 (Xaf (Xad (Xab ?_)))
 iterate 4 refine kO hT hC ?_
 refine Vc.nil (Xao (Xab ?_))
 iterate 3 refine kO hT hC ?_
 refine kQ hT hC h fun h => ?_
 iterate 3 refine kO hT hC ?_
 refine kQ hT hC h fun h => ?_
 iterate 2 refine kO hT hC ?_
 refine kQ hT hC h fun h => ?_
 refine kO hT hC ?_
 refine Vc.nil ?_
 refine kS h ?_ ?_ <;> intro b3 h
 refine kt b3 (Xab ?_)
 refine kO hT hC ?_
 exact Vc.nil (Xah (Xas kR))
 refine kf b3 (Xaf (Xad (Xab ?_)))
 refine kO hT hC ?_
 exact Vc.nil (Xah kR)
def Yc3 (r : (List Int)) : AV := .own 16
def Yc2 (r : (List Int)) : Xa0 := [(16, .ints .i64 r)]
theorem Xur {p0 r} (h : Xl6 p0 = some r) : AC Tryz.prog 167 [.sv (.ints .i64 p0)] [] (Yc3 r) (Yc2 r) := by
 refine Xag hT Tryz.func167 rfl fun C hC => ?_
 unfold Xl6 at h
 refine Xab ?_
 refine kO hT hC ?_
 refine kN ?_
 obtain ⟨hq, h⟩ := Xau h
 refine Yhw hT hC rfl rfl rfl rfl ⟨hq.1, hq.2.1, hq.2.2, by decide⟩ ?_
 refine kO hT hC ?_
 refine Vc.nil (Xao (Xab ?_))
 refine kO hT hC ?_
 refine Vc.nil ?_
 refine kL [0,3,12] [176] [_,_,_] [_] ?_
 refine kX h (fun v31 => ([(12, .sv (.int .i64 v31.1))], [(176, some (.ints .i64 v31.2))])) (fun v62 => ([(0, .any), (12, .any)], [(176, some (.ints .i64 v62))])) (kW hC []) (fun v31 s h => ?_) fun v62 h => ?_
 unfold Xmz at h
 refine Xab ?_
 refine kO hT hC ?_
 refine Vc.nil (Xao ?_)
 refine kS h ?_ ?_ <;> intro b27 h
 refine kt b27 (Xaf (Xad (Xao (Xak (Xab ?_)))))
 iterate 2 refine kO hT hC ?_
 refine kN ?_
 refine kO hT hC ?_
 refine Vc.nil ?_
 refine kL [0,3,4,12,15] [176] [_,_,_,_,_] [_] ?_
 refine kX h (fun v72 => ([(15, .sv (.int .i64 v72.1))], [(176, some (.ints .i64 v72.2))])) (fun v82 => ([(4, .any), (15, .any)], [(176, some (.ints .i64 v82))])) (kW hC []) (fun v72 s h => ?_) fun v82 h => ?_
 unfold Xm0 at h
 refine Xab ?_
 refine kO hT hC ?_
 refine Vc.nil (Xao ?_)
 refine kS h ?_ ?_ <;> intro b36 h
 refine kt b36 (Xaf (Xad (Xao (Xak (Xab ?_)))))
 iterate 2 refine kO hT hC ?_
 refine kN ?_
 refine kO hT hC ?_
 refine Vc.nil ?_
 refine kL [0,3,4,5,12,15,18] [176] [_,_,_,_,_,_,_] [_] ?_
 refine kX h (fun v85 => ([(18, .sv (.int .i64 v85.1))], [(176, some (.ints .i64 v85.2))])) (fun v88 => ([(5, .any), (18, .any)], [(176, some (.ints .i64 v88))])) (kW hC []) (fun v85 s h => ?_) fun v88 h => ?_
 unfold Xht at h
 refine Xab ?_
 refine kO hT hC ?_
 refine Vc.nil (Xao ?_)
 refine kS h ?_ ?_ <;> intro b39 h
 refine kt b39 (Xaf (Xad (Xao (Xak (Xab ?_)))))
 iterate 2 refine kO hT hC ?_
 refine Vc.nil ?_
 refine Xdf hm ?_
 iterate 10 refine kO hT hC ?_
 iterate 2 refine kQ hT hC h fun h => ?_
 iterate 2 refine kO hT hC ?_
 refine kC hC [] Tryz.call211 h (fun _ => Xo6) fun q89 h => ?_
 iterate 5 refine kO hT hC ?_
 refine kQ hT hC h fun h => ?_
 iterate 3 refine kO hT hC ?_
 iterate 2 refine kQ hT hC h fun h => ?_
 refine kD (Xan (Xad (Xac ?_)))
 iterate 2 refine kO hT hC ?_
 exact Vc.nil kG
 exact kf b39 (Xam (Xat ku))
 refine Xan (Xad (Xac ?_))
 iterate 2 refine kO hT hC ?_
 exact Vc.nil kG
 exact kf b36 (Xam (Xat ku))
 refine Xan (Xad (Xac ?_))
 iterate 2 refine kO hT hC ?_
 exact Vc.nil kG
 exact kf b27 (Xam (Xat ku))
 refine Xad (Xab ?_)
 obtain ⟨hq, h⟩ := Xau h
 refine Yhw hT hC rfl rfl rfl rfl ⟨hq.1, hq.2.1, hq.2.2, by decide⟩ ?_
 refine kO hT hC ?_
 refine Vc.nil (Xao (Xab ?_))
 refine kO hT hC ?_
 refine Vc.nil ?_
 refine kL [3,7,50] [176,784] [_,_,_] [_,_] ?_
 refine kX h (fun v123 => ([(50, .sv (.int .i64 v123.1))], [(784, some (.ints .i64 v123.2))])) (fun v154 => ([(3, .any), (50, .any)], [(784, some (.ints .i64 v154)), (176, none)])) (kW hC []) (fun v123 s h => ?_) fun v154 h => ?_
 unfold Xlm at h
 refine Xab ?_
 refine kO hT hC ?_
 refine Vc.nil (Xao ?_)
 refine kS h ?_ ?_ <;> intro b66 h
 refine kt b66 (Xaf (Xad (Xao (Xak (Xab ?_)))))
 iterate 2 refine kO hT hC ?_
 refine kN ?_
 refine kO hT hC ?_
 refine Vc.nil ?_
 refine kL [3,7,8,50,53] [176,784] [_,_,_,_,_] [_,_] ?_
 refine kX h (fun v164 => ([(53, .sv (.int .i64 v164.1))], [(784, some (.ints .i64 v164.2))])) (fun v174 => ([(8, .any), (53, .any)], [(784, some (.ints .i64 v174))])) (kW hC []) (fun v164 s h => ?_) fun v174 h => ?_
 unfold Xln at h
 refine Xab ?_
 refine kO hT hC ?_
 refine Vc.nil (Xao ?_)
 refine kS h ?_ ?_ <;> intro b75 h
 refine kt b75 (Xaf (Xad (Xao (Xak (Xab ?_)))))
 iterate 2 refine kO hT hC ?_
 refine kN ?_
 refine kO hT hC ?_
 refine Vc.nil ?_
 refine kL [3,7,8,9,50,53,56] [176,784] [_,_,_,_,_,_,_] [_,_] ?_
 refine kX h (fun v177 => ([(56, .sv (.int .i64 v177.1))], [(784, some (.ints .i64 v177.2))])) (fun v180 => ([(9, .any), (56, .any)], [(784, some (.ints .i64 v180))])) (kW hC []) (fun v177 s h => ?_) fun v180 h => ?_
 unfold Xgk at h
 refine Xab ?_
 refine kO hT hC ?_
 refine Vc.nil (Xao ?_)
 refine kS h ?_ ?_ <;> intro b78 h
 refine kt b78 (Xaf (Xad (Xao (Xak (Xab ?_)))))
 iterate 2 refine kO hT hC ?_
 refine Vc.nil ?_
 refine Xdf hm ?_
 iterate 10 refine kO hT hC ?_
 iterate 2 refine kQ hT hC h fun h => ?_
 iterate 2 refine kO hT hC ?_
 refine kC hC [] Tryz.call211 h (fun _ => Xo6) fun q181 h => ?_
 iterate 5 refine kO hT hC ?_
 iterate 2 refine kQ hT hC h fun h => ?_
 iterate 2 refine kO hT hC ?_
 iterate 2 refine kQ hT hC h fun h => ?_
 refine kD (Xan (Xad (Xac ?_)))
 iterate 2 refine kO hT hC ?_
 exact Vc.nil kG
 exact kf b78 (Xam (Xat ku))
 refine Xan (Xad (Xac ?_))
 iterate 2 refine kO hT hC ?_
 exact Vc.nil kG
 exact kf b75 (Xam (Xat ku))
 refine Xan (Xad (Xac ?_))
 iterate 2 refine kO hT hC ?_
 exact Vc.nil kG
 exact kf b66 (Xam (Xat ku))
 refine Xad (Xab ?_)
 iterate 2 refine kO hT hC ?_
 refine Vc.nil (Xah ?_)
 obtain rfl := kj h
 exact Xcl (τ := ⟨[(2, .own 16)], [(16, some (.ints .i64 v154))]⟩) (kW hC [(16, 784)]) rfl ⟨rfl, trivial⟩
def Yae (r : Int) : AV := .sv (.int .i64 r)
def Yad (r : Int) : Xa0 := []
theorem Xmw {p0 p1 r} (h : Xkg p0 p1 = some r) : AC Tryz.prog 218 [.sv (.int .i64 p0), .sv (.int .i64 p1)] [] (Yae r) (Yad r) := by
 refine Xag hT Tryz.func218 rfl fun C hC => ?_
 unfold Xkg at h
 refine Xab ?_
 refine kO hT hC ?_
 refine kN ?_
 iterate 2 refine kO hT hC ?_
 refine kQ hT hC h fun h => ?_
 refine kO hT hC ?_
 refine Vc.nil ?_
 refine kL [0,1,5] [] [_,_,_] [] ?_
 refine kA h (fun v1 => ([(5, .sv (.int .i64 v1)), (0, .any), (1, .any)], [])) (fun v1 h => ?_) fun v1 h => ?_
 refine Xab ?_
 iterate 2 refine kO hT hC ?_
 refine kQ hT hC h fun h => ?_
 refine kO hT hC ?_
 refine Vc.nil ?_
 refine kS h ?_ ?_ <;> intro b1 h
 refine kt b1 (Xac ?_)
 iterate 3 refine kO hT hC ?_
 exact Vc.nil kM
 exact kf b1 (Xaf kM)
 refine Xab ?_
 iterate 2 refine kO hT hC ?_
 exact Vc.nil (Xah kR)
def Xvo (r : ((List Int) × (List Int))) : AV := .own 0
def Xvn (r : ((List Int) × (List Int))) : Xa0 := [(0, .ints .i64 r.2)]
theorem Xn3 {p0 r} (h : Xhb p0 = some r) : AC Tryz.prog 215 [.own 0] [(0, .ints .i64 p0)] (Xvo r) (Xvn r) := by
 refine Xag hT Tryz.func215 rfl fun C hC => ?_
 unfold Xhb at h
 refine Xab ?_
 refine kO hT hC ?_
 refine Vc.nil (Xao (Xab ?_))
 iterate 3 refine kO hT hC ?_
 refine Vc.nil ?_
 refine kL [0,5,6,7] [0] [_,_,_,_] [_] ?_
 refine kX h (fun v3 => ([(7, .sv (.int .i64 v3.1))], [(0, some (.ints .i64 v3.2))])) (fun v6 => ([(5, .any), (6, .any), (7, .any)], [(0, some (.ints .i64 v6))])) (kW hC []) (fun v3 s h => ?_) fun v6 h => ?_
 unfold Xkq at h
 refine Xab ?_
 refine kO hT hC ?_
 refine Vc.nil (Xao ?_)
 refine kS h ?_ ?_ <;> intro b3 h
 refine kt b3 (Xaf (Xad (Xao (Xak (Xab ?_)))))
 refine kO hT hC ?_
 iterate 2 refine kQ hT hC h fun h => ?_
 iterate 2 refine kO hT hC ?_
 refine Vc.nil (Xac ?_)
 iterate 4 refine kO hT hC ?_
 refine kC hC [] Tryz.call218 h (fun _ => Xmw) fun q7 h => ?_
 iterate 2 refine kQ hT hC h fun h => ?_
 refine Vc.nil (Xan (Xad (Xac ?_)))
 iterate 2 refine kO hT hC ?_
 exact Vc.nil kG
 exact kf b3 (Xam (Xat ku))
 refine Xad (Xab ?_)
 iterate 2 refine kO hT hC ?_
 refine Vc.nil (Xah ?_)
 obtain rfl := kj h
 exact Xcl (Xkc.refl _) rfl ⟨rfl, trivial⟩
def Xq4 (r : (List Int)) : AV := .own 16
def Xq3 (r : (List Int)) : Xa0 := [(16, .ints .i64 r)]
theorem Xtb {p0 r} (h : Xgg p0 = some r) : AC Tryz.prog 177 [.sv (.ints .i64 p0)] [] (Xq4 r) (Xq3 r) := by
 refine Xag hT Tryz.func177 rfl fun C hC => ?_
 unfold Xgg at h
 refine Xab ?_
 refine kO hT hC ?_
 refine Vc.nil (Xao (Xab ?_))
 refine kO hT hC ?_
 refine kC hC [] Tryz.call59 h (fun _ => Xbf) fun q1 h => ?_
 refine kO hT hC ?_
 refine Vc.nil ?_
 refine kS h ?_ ?_ <;> intro b1 h
 refine kt b1 (Xab ?_)
 iterate 2 refine kO hT hC ?_
 refine Vc.nil (Xah (Xas ?_))
 obtain rfl := kj h
 exact Xcl (τ := ⟨[(2, .own 16)], [(16, some (.ints .i64 ([] : List Int)))]⟩) (kW hC [(16, 96)]) rfl ⟨rfl, trivial⟩
 refine kf b1 (Xaf (Xad (Xab ?_)))
 refine kO hT hC ?_
 refine kC hC [(16, 128)] Tryz.call167 h (fun _ => Xur) fun q2 h => ?_
 refine kC hC [(0, 128)] Tryz.call215 h (fun _ => Xn3) fun q3 h => ?_
 refine kO hT hC ?_
 refine Vc.nil (Xah ?_)
 obtain rfl := kj h
 exact Xcl (τ := ⟨[(2, .own 16)], [(16, some (.ints .i64 q3.2))]⟩) (kW hC [(16, 128)]) rfl ⟨rfl, trivial⟩
def Xxs (r : Int) : AV := .sv (.int .i64 r)
def Xxr (r : Int) : Xa0 := []
theorem Xo4 {p0 r} (h : Xmv p0 = some r) : AC Tryz.prog 213 [.sv (.int .i64 p0)] [] (Xxs r) (Xxr r) := by
 refine Xag hT Tryz.func213 rfl fun C hC => ?_
 unfold Xmv at h
 refine Xab ?_
 refine kO hT hC ?_
 refine Vc.nil (Xao (Xab ?_))
 refine kO hT hC ?_
 refine kC hC [] Tryz.call61 h (fun _ => Xaj) fun q1 h => ?_
 refine kO hT hC ?_
 refine Vc.nil ?_
 refine kS h ?_ ?_ <;> intro b1 h
 refine kt b1 (Xab ?_)
 refine kO hT hC ?_
 exact Vc.nil (Xah (Xas kR))
 refine kf b1 (Xaf (Xad (Xab ?_)))
 refine kO hT hC ?_
 iterate 2 refine kQ hT hC h fun h => ?_
 refine kO hT hC ?_
 iterate 2 refine kQ hT hC h fun h => ?_
 iterate 2 refine kO hT hC ?_
 refine Vc.nil (Xao (Xak ?_))
 refine kL [3,4] [] [_,_] [] ?_
 refine kA h (fun v2 => ([(14, .sv (.bool v2))], [])) (fun v2 h => ?_) fun v2 h => ?_
 refine Xac ?_
 iterate 3 refine kO hT hC ?_
 refine kS h ?_ ?_ <;> intro b2 h
 iterate 2 refine kI hT hC b2 ?_
 refine kP hC true b2 ?_
 refine kO hT hC ?_
 exact Vc.nil kM
 iterate 2 refine kF hC b2 ?_
 refine kP hC false b2 ?_
 refine kO hT hC ?_
 exact Vc.nil kM
 refine kS h ?_ ?_ <;> intro b3 h
 refine kt b3 (Xab ?_)
 refine kO hT hC ?_
 exact Vc.nil (Xah (Xii (Xas kR)))
 refine kf b3 ?_
 refine kL [3,4] [] [_,_] [] ?_
 refine kA h (fun v3 => ([(21, .sv (.bool v3)), (3, .any), (4, .any)], [])) (fun v3 h => ?_) fun v3 h => ?_
 refine Xac ?_
 iterate 3 refine kO hT hC ?_
 refine kS h ?_ ?_ <;> intro b4 h
 iterate 2 refine kI hT hC b4 ?_
 refine kP hC true b4 ?_
 refine kO hT hC ?_
 exact Vc.nil kM
 iterate 2 refine kF hC b4 ?_
 refine kP hC false b4 ?_
 refine kO hT hC ?_
 exact Vc.nil kM
 refine kS h ?_ ?_ <;> intro b5 h
 refine kt b5 (Xab ?_)
 refine kO hT hC ?_
 exact Vc.nil (Xah (Xii (Xas kR)))
 refine kf b5 (Xaf (Xan (Xad (Xab ?_))))
 refine kO hT hC ?_
 exact Vc.nil (Xah kR)
def Xve (r : Int) : AV := .sv (.int .i64 r)
def Xvd (r : Int) : Xa0 := []
theorem Xxt {p0 p1 r} (h : Xji p0 p1 = some r) : AC Tryz.prog 216 [.sv (.int .i64 p0), .sv (.int .i64 p1)] [] (Xve r) (Xvd r) := by
 refine Xag hT Tryz.func216 rfl fun C hC => ?_
 unfold Xji at h
 refine Xab ?_
 refine kO hT hC ?_
 refine Vc.nil (Xao ?_)
 refine kL [0,1] [] [_,_] [] ?_
 refine kA h (fun v1 => ([(13, .sv (.bool v1))], [])) (fun v1 h => ?_) fun v1 h => ?_
 refine Xac ?_
 refine kO hT hC ?_
 refine kC hC [] Tryz.call61 h (fun _ => Xaj) fun q2 h => ?_
 iterate 2 refine kO hT hC ?_
 refine kS h ?_ ?_ <;> intro b1 h
 refine kI hT hC (kn b1) ?_
 refine kE hC (kn b1) [] Tryz.call61 h (fun _ => Xaj) fun q3 h => ?_
 refine kI hT hC (kn b1) ?_
 refine kP hC false (kn b1) ?_
 exact Vc.nil kM
 iterate 3 refine kF hC (kn b1) ?_
 refine kP hC true (kn b1) ?_
 exact Vc.nil kM
 refine kS h ?_ ?_ <;> intro b2 h
 refine kt b2 (Xab ?_)
 refine kO hT hC ?_
 exact Vc.nil (Xah (Xas kR))
 refine kf b2 (Xaf (Xad (Xab ?_)))
 iterate 9 refine kO hT hC ?_
 refine Vc.nil ?_
 refine Xjq hm ?_
 refine kO hT hC ?_
 refine kQ hT hC h fun h => ?_
 refine kO hT hC ?_
 refine kC hC [] Tryz.call213 h (fun _ => Xo4) fun q4 h => ?_
 iterate 2 refine kQ hT hC h fun h => ?_
 obtain ⟨hq, h⟩ := Xau h
 refine Ynx hT hC rfl rfl rfl rfl rfl rfl hq ?_
 refine kO hT hC ?_
 iterate 2 refine kQ hT hC h fun h => ?_
 refine kO hT hC ?_
 exact kD (Xah kR)
def Xrf (r : Int) : AV := .sv (.int .i64 r)
def Xre (r : Int) : Xa0 := []
theorem Xti {p0 p1 p2 r} (h : Xgj p0 p1 p2 = some r) : AC Tryz.prog 178 [.sv (.int .i64 p0), .sv (.int .i64 p1), .sv (.int .i64 p2)] [] (Xrf r) (Xre r) := by
 refine Xag hT Tryz.func178 rfl fun C hC => ?_
 unfold Xgj at h
 refine Xab ?_
 refine kO hT hC ?_
 refine Vc.nil (Xao (Xab ?_))
 refine kO hT hC ?_
 refine kC hC [] Tryz.call61 h (fun _ => Xaj) fun q1 h => ?_
 refine kO hT hC ?_
 refine Vc.nil ?_
 refine kS h ?_ ?_ <;> intro b1 h
 refine kt b1 (Xab ?_)
 refine kO hT hC ?_
 exact Vc.nil (Xah (Xas kR))
 refine kf b1 (Xaf (Xad (Xab ?_)))
 iterate 3 refine kO hT hC ?_
 refine kC hC [] Tryz.call216 h (fun _ => Xxt) fun q2 h => ?_
 iterate 2 refine kO hT hC ?_
 exact Vc.nil (Xah kR)
def Xtm (r : (List Int)) : AV := .own 16
def Xtl (r : (List Int)) : Xa0 := [(16, .ints .i64 r)]
theorem Xnc {p0 r} (h : Xfz p0 = some r) : AC Tryz.prog 212 [.sv (.ints .i64 p0)] [] (Xtm r) (Xtl r) := by
 refine Xag hT Tryz.func212 rfl fun C hC => ?_
 unfold Xfz at h
 refine Xab ?_
 refine kO hT hC ?_
 refine kN ?_
 iterate 2 refine kO hT hC ?_
 refine kT hT hC h fun h => ?_
 refine kO hT hC ?_
 refine Vc.nil (Xah ?_)
 obtain rfl := kj h
 exact Xcl (τ := ⟨[(2, .own 16)], [(16, some (.ints .i64 (([] : List Int) ++ p0)))]⟩) (kW hC [(16, 80)]) rfl ⟨rfl, trivial⟩
def Xpx (r : (Int × Int × Int × Int)) : AV := .agg [.sv (.int .i64 r.1), .sv (.int .i64 r.2.1), .sv (.int .i64 r.2.2.1), .sv (.int .i64 r.2.2.2)]
def Xpw (r : (Int × Int × Int × Int)) : Xa0 := []
theorem Xlb {p0 p1 p2 p3 r} (h : Xcw p0 p1 p2 p3 = some r) : AC Tryz.prog 217 [.sv (.int .i64 p0), .sv (.int .i64 p1), .sv (.int .i64 p2), .sv (.int .i64 p3)] [] (Xpx r) (Xpw r) := by
 refine Xag hT Tryz.func217 rfl fun C hC => ?_
 unfold Xcw at h
 refine Xab ?_
 refine kO hT hC ?_
 refine kN ?_
 iterate 7 refine kO hT hC ?_
 refine kC hC [] Tryz.call218 h (fun _ => Xmw) fun q1 h => ?_
 iterate 4 refine kO hT hC ?_
 refine kC hC [] Tryz.call218 h (fun _ => Xmw) fun q2 h => ?_
 iterate 5 refine kO hT hC ?_
 refine kN ?_
 iterate 14 refine kO hT hC ?_
 exact Vc.nil (Xah kR)
def Xit (r : (List Int)) : AV := .own 16
def Xis (r : (List Int)) : Xa0 := [(16, .ints .i64 r)]
theorem Xjl {p0 r} (h : Xbs p0 = some r) : AC Tryz.prog 170 [.sv (.ints .i64 p0), .fn 217 []] [] (Xit r) (Xis r) := by
 refine Xag hT Tryz.func170 rfl fun C hC => ?_
 unfold Xbs at h
 refine Xab ?_
 refine kO hT hC ?_
 refine kN ?_
 refine kO hT hC ?_
 refine kC hC [(16, 208)] Tryz.call212 h (fun _ => Xnc) fun q1 h => ?_
 refine kO hT hC ?_
 refine Vc.nil (Xao (Xab ?_))
 refine kO hT hC ?_
 refine Vc.nil ?_
 refine kL [1,5,6] [208] [_,_,_] [_] ?_
 refine kX h (fun v4 => ([(6, .sv (.int .i64 v4.1))], [(208, some (.ints .i64 v4.2))])) (fun v7 => ([(6, .any)], [(208, some (.ints .i64 v7))])) (kW hC []) (fun v4 s h => ?_) fun v7 h => ?_
 unfold Xd7 at h
 refine Xao (Xab ?_)
 iterate 2 refine kO hT hC ?_
 refine Vc.nil ?_
 refine kS h ?_ ?_ <;> intro b3 h
 refine kt b3 (Xaf (Xad (Xao (Xak ?_))))
 refine Xjq hm ?_
 iterate 3 refine kO hT hC ?_
 iterate 2 refine kQ hT hC h fun h => ?_
 iterate 3 refine kO hT hC ?_
 iterate 2 refine kQ hT hC h fun h => ?_
 iterate 3 refine kO hT hC ?_
 iterate 2 refine kQ hT hC h fun h => ?_
 iterate 3 refine kO hT hC ?_
 iterate 2 refine kQ hT hC h fun h => ?_
 refine kC hC [] Tryz.call217 h (fun _ => Xlb) fun q8 h => ?_
 iterate 2 refine kO hT hC ?_
 refine kD ?_
 refine Xdf hm ?_
 iterate 4 refine kO hT hC ?_
 refine kQ hT hC h fun h => ?_
 refine Ynu hT hC rfl rfl rfl rfl rfl rfl rfl rfl rfl ?_
 obtain ⟨hq, h⟩ := Xau h
 refine Yl4 hT hC rfl rfl rfl rfl rfl rfl rfl rfl rfl ⟨⟨trivial, hq.1⟩, hq.2⟩ ?_
 refine kD (Xan (Xad (Xac ?_)))
 iterate 3 refine kO hT hC ?_
 exact Vc.nil kG
 exact kf b3 (Xam (Xat ku))
 refine Xad (Xao (Xab ?_))
 refine kO hT hC ?_
 refine Vc.nil ?_
 refine kL [1,5,46] [208] [_,_,_] [_] ?_
 refine kX h (fun v17 => ([(46, .sv (.int .i64 v17.1))], [(208, some (.ints .i64 v17.2))])) (fun v25 => ([(1, .any), (46, .any)], [(208, some (.ints .i64 v25))])) (kW hC []) (fun v17 s h => ?_) fun v25 h => ?_
 unfold Xdy at h
 refine Xab ?_
 refine kO hT hC ?_
 refine Vc.nil (Xao ?_)
 refine kS h ?_ ?_ <;> intro b12 h
 refine kt b12 (Xaf (Xad (Xao (Xak (Xab ?_)))))
 iterate 2 refine kO hT hC ?_
 refine Vc.nil ?_
 refine Xjq hm ?_
 iterate 3 refine kO hT hC ?_
 iterate 2 refine kQ hT hC h fun h => ?_
 iterate 3 refine kO hT hC ?_
 iterate 2 refine kQ hT hC h fun h => ?_
 iterate 3 refine kO hT hC ?_
 iterate 2 refine kQ hT hC h fun h => ?_
 iterate 3 refine kO hT hC ?_
 iterate 2 refine kQ hT hC h fun h => ?_
 refine kC hC [] Tryz.call217 h (fun _ => Xlb) fun q26 h => ?_
 iterate 2 refine kO hT hC ?_
 refine kD (Xab ?_)
 iterate 2 refine kO hT hC ?_
 refine Vc.nil ?_
 refine kL [1,5,8,46,70,71] [208] [_,_,_,_,_,_] [_] ?_
 refine kX h (fun v28 => ([(71, .sv (.int .i64 v28.1))], [(208, some (.ints .i64 v28.2))])) (fun v30 => ([(8, .any), (70, .any), (71, .any)], [(208, some (.ints .i64 v30))])) (kW hC []) (fun v28 s h => ?_) fun v30 h => ?_
 unfold Xdz at h
 refine Xab ?_
 refine kO hT hC ?_
 refine Vc.nil (Xao ?_)
 refine kS h ?_ ?_ <;> intro b15 h
 refine kt b15 (Xaf (Xad (Xao (Xak (Xab ?_)))))
 refine kO hT hC ?_
 obtain ⟨hq, h⟩ := Xau h
 refine Ynv hT hC rfl rfl rfl rfl rfl rfl rfl hq ?_
 iterate 2 refine kO hT hC ?_
 refine Vc.nil (Xac ?_)
 iterate 6 refine kO hT hC ?_
 iterate 2 refine kQ hT hC h fun h => ?_
 refine Vc.nil (Xan (Xad (Xac ?_)))
 iterate 2 refine kO hT hC ?_
 exact Vc.nil kG
 exact kf b15 (Xam (Xat ku))
 refine Xan (Xad (Xac ?_))
 iterate 2 refine kO hT hC ?_
 exact Vc.nil kG
 exact kf b12 (Xam (Xat ku))
 refine Xad (Xab ?_)
 iterate 2 refine kO hT hC ?_
 refine Vc.nil (Xah ?_)
 obtain rfl := kj h
 exact Xcl (τ := ⟨[(4, .own 16)], [(16, some (.ints .i64 v25))]⟩) (kW hC [(16, 208)]) rfl ⟨rfl, trivial⟩
def Xtd (r : (List Int)) : AV := .own 16
def Xtc (r : (List Int)) : Xa0 := [(16, .ints .i64 r)]
theorem Xu8 {p0 r} (h : Xhl p0 = some r) : AC Tryz.prog 179 [.sv (.ints .i64 p0)] [] (Xtd r) (Xtc r) := by
 refine Xag hT Tryz.func179 rfl fun C hC => ?_
 unfold Xhl at h
 refine Xab ?_
 refine kO hT hC ?_
 refine Vc.nil (Xao (Xab ?_))
 refine kO hT hC ?_
 refine kC hC [] Tryz.call59 h (fun _ => Xbf) fun q1 h => ?_
 refine kO hT hC ?_
 refine Vc.nil ?_
 refine kS h ?_ ?_ <;> intro b1 h
 refine kt b1 (Xab ?_)
 iterate 2 refine kO hT hC ?_
 refine Vc.nil (Xah (Xas ?_))
 obtain rfl := kj h
 exact Xcl (τ := ⟨[(2, .own 16)], [(16, some (.ints .i64 ([] : List Int)))]⟩) (kW hC [(16, 96)]) rfl ⟨rfl, trivial⟩
 refine kf b1 (Xaf (Xad (Xab ?_)))
 refine kO hT hC ?_
 refine kC hC [(16, 128)] Tryz.call170 h (fun _ => Xjl) fun q2 h => ?_
 refine kC hC [(0, 128)] Tryz.call215 h (fun _ => Xn3) fun q3 h => ?_
 refine kO hT hC ?_
 refine Vc.nil (Xah ?_)
 obtain rfl := kj h
 exact Xcl (τ := ⟨[(2, .own 16)], [(16, some (.ints .i64 q3.2))]⟩) (kW hC [(16, 128)]) rfl ⟨rfl, trivial⟩
def Xvm (r : (List Int)) : AV := .own 16
def Xvl (r : (List Int)) : Xa0 := [(16, .ints .i64 r)]
theorem Xn2 {p0 r} (h : Xha p0 = some r) : AC Tryz.prog 114 [.sv (.int .i64 p0)] [] (Xvm r) (Xvl r) := by
 refine Xag hT Tryz.func114 rfl fun C hC => ?_
 unfold Xha at h
 refine Xab ?_
 refine kO hT hC ?_
 refine kN ?_
 iterate 2 refine kO hT hC ?_
 refine Vc.nil (Xao (Xab ?_))
 refine kO hT hC ?_
 refine Vc.nil ?_
 refine kL [0,3,7] [96] [_,_,_] [_] ?_
 refine kX h (fun v7 => ([(7, .sv (.int .i64 v7.1))], [(96, some (.ints .i64 v7.2))])) (fun v14 => ([(0, .any), (7, .any)], [(96, some (.ints .i64 v14))])) (kW hC []) (fun v7 s h => ?_) fun v14 h => ?_
 unfold Xgu at h
 refine Xab ?_
 refine kO hT hC ?_
 refine Vc.nil (Xao ?_)
 refine kS h ?_ ?_ <;> intro b9 h
 refine kt b9 (Xaf (Xad (Xao (Xak (Xab ?_)))))
 iterate 2 refine kO hT hC ?_
 refine kN ?_
 refine kO hT hC ?_
 refine Vc.nil ?_
 refine kL [0,3,4,7,10] [96] [_,_,_,_,_] [_] ?_
 refine kX h (fun v16 => ([(10, .sv (.int .i64 v16.1))], [(96, some (.ints .i64 v16.2))])) (fun v18 => ([(4, .any), (10, .any)], [(96, some (.ints .i64 v18))])) (kW hC []) (fun v16 s h => ?_) fun v18 h => ?_
 unfold Xjv at h
 refine Xab ?_
 refine kO hT hC ?_
 refine Vc.nil (Xao ?_)
 refine kS h ?_ ?_ <;> intro b12 h
 refine kt b12 (Xaf (Xad (Xao (Xak (Xab ?_)))))
 iterate 2 refine kO hT hC ?_
 refine Vc.nil (Xac ?_)
 iterate 3 refine kO hT hC ?_
 refine kQ hT hC h fun h => ?_
 iterate 6 refine kO hT hC ?_
 refine kQ hT hC h fun h => ?_
 iterate 3 refine kO hT hC ?_
 refine kT hT hC h fun h => ?_
 refine kO hT hC ?_
 refine Vc.nil (Xan (Xad (Xac ?_)))
 iterate 2 refine kO hT hC ?_
 refine Vc.nil ?_
 obtain rfl := kj h
 exact Yby (kW hC [(96, 432)])
 exact kf b12 (Xam (Xat ku))
 refine Xan (Xad (Xac ?_))
 iterate 2 refine kO hT hC ?_
 exact Vc.nil kG
 exact kf b9 (Xam (Xat ku))
 refine Xad (Xab ?_)
 iterate 2 refine kO hT hC ?_
 refine Vc.nil (Xah ?_)
 obtain rfl := kj h
 exact Xcl (τ := ⟨[(2, .own 16)], [(16, some (.ints .i64 v14))]⟩) (kW hC [(16, 96)]) rfl ⟨rfl, trivial⟩
def Xp1 (r : ((List Int) × Bool)) : AV := .tup [.own 16, .sv (.bool r.2)]
def Xp0 (r : ((List Int) × Bool)) : Xa0 := [(16, .ints .i64 r.1)]
theorem Xq9 {p0 p1 r} (h : Xe5 p0 p1 = some r) : AC Tryz.prog 124 [.sv (.ints .i64 p0), .agg [.sv (.bool p1.Key), .sv (.int .i64 p1.Qp), .sv (.bool p1.Large), .sv (.bool p1.Exact)]] [] (Xp1 r) (Xp0 r) := by
 refine Xag hT Tryz.func124 rfl fun C hC => ?_
 unfold Xe5 at h
 refine Xab ?_
 iterate 3 refine kO hT hC ?_
 refine Vc.nil (Xao ?_)
 refine kL [0,3] [48] [_,_] [_] ?_
 refine kA h (fun v1 => ([(26, .sv (.bool v1))], [])) (fun v1 h => ?_) fun v1 h => ?_
 refine Xac ?_
 refine kO hT hC ?_
 refine kC hC [] Tryz.call174 h (fun _ => Xiq) fun q2 h => ?_
 iterate 2 refine kO hT hC ?_
 refine kS h ?_ ?_ <;> intro b1 h
 refine kI hT hC (kn b1) ?_
 refine kE hC (kn b1) [] Tryz.call60 h (fun _ => Xi7) fun q3 h => ?_
 refine kI hT hC (kn b1) ?_
 refine kP hC false (kn b1) ?_
 exact Vc.nil kM
 iterate 3 refine kF hC (kn b1) ?_
 refine kP hC true (kn b1) ?_
 exact Vc.nil kM
 refine kS h ?_ ?_ <;> intro b2 h
 refine kt b2 (Xab ?_)
 iterate 3 refine kO hT hC ?_
 refine Vc.nil (Xah (Xas ?_))
 obtain rfl := kj h
 exact Xcl (τ := ⟨[(4, .own 16), (5, .sv (.bool false))], [(16, some (.ints .i64 ([] : List Int)))]⟩) (kW hC [(16, 432)]) rfl ⟨rfl, trivial⟩
 refine kf b2 (Xaf (Xad (Xao (Xab ?_))))
 iterate 2 refine kO hT hC ?_
 refine Vc.nil ?_
 refine kS h ?_ ?_ <;> intro b3 h
 refine kt b3 (Xab ?_)
 refine kO hT hC ?_
 refine kC hC [(16, 496)] Tryz.call175 h (fun _ => Xip) fun q4 h => ?_
 iterate 4 refine kO hT hC ?_
 refine Vc.nil (Xah (Xas ?_))
 obtain rfl := kj h
 exact Xcl (τ := ⟨[(4, .own 16), (5, .sv (.bool q4.2))], [(16, some (.ints .i64 q4.1))]⟩) (kW hC [(16, 496)]) rfl ⟨rfl, trivial⟩
 refine kf b3 (Xaf (Xad (Xao (Xab ?_))))
 iterate 2 refine kO hT hC ?_
 refine Vc.nil ?_
 refine kS h ?_ ?_ <;> intro b4 h
 refine kt b4 (Xab ?_)
 refine kO hT hC ?_
 refine kC hC [(16, 608)] Tryz.call175 h (fun _ => Xip) fun q5 h => ?_
 iterate 5 refine kO hT hC ?_
 refine Vc.nil (Xao (Xab ?_))
 iterate 3 refine kO hT hC ?_
 refine Vc.nil ?_
 refine kL [3,6,41,42,43] [48,608] [_,_,_,_,_] [_,_] ?_
 refine kX h (fun v8 => ([(43, .sv (.int .i64 v8.1))], [(608, some (.ints .i64 v8.2))])) (fun v11 => ([(3, .any), (41, .any), (42, .any), (43, .any)], [(608, some (.ints .i64 v11)), (48, none)])) (kW hC []) (fun v8 s h => ?_) fun v11 h => ?_
 unfold Xc6 at h
 refine Xab ?_
 refine kO hT hC ?_
 refine Vc.nil (Xao ?_)
 refine kS h ?_ ?_ <;> intro b7 h
 refine kt b7 (Xaf (Xad (Xao (Xak (Xab ?_)))))
 refine kO hT hC ?_
 iterate 2 refine kQ hT hC h fun h => ?_
 iterate 2 refine kO hT hC ?_
 refine Vc.nil (Xac ?_)
 iterate 5 refine kO hT hC ?_
 refine kC hC [] Tryz.call176 h (fun _ => Xte) fun q12 h => ?_
 iterate 2 refine kQ hT hC h fun h => ?_
 refine Vc.nil (Xan (Xad (Xac ?_)))
 iterate 2 refine kO hT hC ?_
 exact Vc.nil kG
 exact kf b7 (Xam (Xat ku))
 refine Xad (Xab ?_)
 refine kO hT hC ?_
 refine kC hC [(16, 912)] Tryz.call177 h (fun _ => Xtb) fun q14 h => ?_
 iterate 2 refine kO hT hC ?_
 refine Vc.nil (Xah (Xas ?_))
 obtain rfl := kj h
 exact Xcl (τ := ⟨[(4, .own 16), (5, .sv (.bool true))], [(16, some (.ints .i64 q14))]⟩) (kW hC [(16, 912)]) rfl ⟨rfl, trivial⟩
 refine kf b4 (Xaf (Xad (Xab ?_)))
 obtain ⟨hq, h⟩ := Xau h
 refine Yhw hT hC rfl rfl rfl rfl ⟨hq.1, hq.2.1, hq.2.2, by decide⟩ ?_
 refine kO hT hC ?_
 refine Vc.nil (Xao (Xab ?_))
 refine kO hT hC ?_
 refine Vc.nil ?_
 refine kL [0,3,10,59] [48,928] [_,_,_,_] [_,_] ?_
 refine kX h (fun v32 => ([(59, .sv (.int .i64 v32.1))], [(928, some (.ints .i64 v32.2))])) (fun v50 => ([(0, .any), (3, .any), (59, .any)], [(928, some (.ints .i64 v50)), (48, none)])) (kW hC []) (fun v32 s h => ?_) fun v50 h => ?_
 unfold Xg1 at h
 refine Xab ?_
 refine kO hT hC ?_
 refine Vc.nil (Xao ?_)
 refine kS h ?_ ?_ <;> intro b22 h
 refine kt b22 (Xaf (Xad (Xao (Xak (Xab ?_)))))
 iterate 2 refine kO hT hC ?_
 refine kN ?_
 iterate 6 refine kO hT hC ?_
 refine kQ hT hC h fun h => ?_
 refine kC hC [(16, 1120)] Tryz.call175 h (fun _ => Xip) fun q51 h => ?_
 iterate 5 refine kO hT hC ?_
 refine Vc.nil (Xao (Xab ?_))
 iterate 3 refine kO hT hC ?_
 refine Vc.nil ?_
 refine kL [0,3,10,11,12,59,73,74,75] [48,928,1120] [_,_,_,_,_,_,_,_,_] [_,_,_] ?_
 refine kX h (fun v54 => ([(75, .sv (.int .i64 v54.1))], [(1120, some (.ints .i64 v54.2))])) (fun v57 => ([(73, .any), (74, .any), (75, .any)], [(1120, some (.ints .i64 v57))])) (kW hC []) (fun v54 s h => ?_) fun v57 h => ?_
 unfold Xcx at h
 refine Xab ?_
 refine kO hT hC ?_
 refine Vc.nil (Xao ?_)
 refine kS h ?_ ?_ <;> intro b25 h
 refine kt b25 (Xaf (Xad (Xao (Xak (Xab ?_)))))
 refine kO hT hC ?_
 iterate 2 refine kQ hT hC h fun h => ?_
 iterate 2 refine kO hT hC ?_
 refine Vc.nil (Xac ?_)
 iterate 6 refine kO hT hC ?_
 refine kC hC [] Tryz.call178 h (fun _ => Xti) fun q58 h => ?_
 iterate 2 refine kQ hT hC h fun h => ?_
 refine Vc.nil (Xan (Xad (Xac ?_)))
 iterate 2 refine kO hT hC ?_
 exact Vc.nil kG
 exact kf b25 (Xam (Xat ku))
 refine Xad (Xab ?_)
 refine kO hT hC ?_
 refine kC hC [(16, 1440)] Tryz.call179 h (fun _ => Xu8) fun q60 h => ?_
 refine kO hT hC ?_
 refine kN ?_
 refine kO hT hC ?_
 refine kC hC [(16, 1472)] Tryz.call114 h (fun _ => Xn2) fun q61 h => ?_
 iterate 2 refine kO hT hC ?_
 refine Vc.nil ?_
 refine kL [0,3,10,16,59,92,93,94] [48,928,1440,1472] [_,_,_,_,_,_,_,_] [_,_,_,_] ?_
 refine kX h (fun v63 => ([(94, .sv (.int .i64 v63.1))], [(928, some (.ints .i64 v63.2))])) (fun v65 => ([(16, .any), (92, .any), (93, .any), (94, .any)], [(928, some (.ints .i64 v65)), (1440, none), (1472, none)])) (kW hC []) (fun v63 s h => ?_) fun v65 h => ?_
 unfold Xec at h
 refine Xab ?_
 refine kO hT hC ?_
 refine Vc.nil (Xao ?_)
 refine kS h ?_ ?_ <;> intro b28 h
 refine kt b28 (Xaf (Xad (Xao (Xak (Xab ?_)))))
 refine kO hT hC ?_
 iterate 2 refine kQ hT hC h fun h => ?_
 iterate 2 refine kO hT hC ?_
 refine Vc.nil (Xac ?_)
 iterate 4 refine kO hT hC ?_
 iterate 4 refine kQ hT hC h fun h => ?_
 refine Vc.nil (Xan (Xad (Xac ?_)))
 iterate 2 refine kO hT hC ?_
 exact Vc.nil kG
 exact kf b28 (Xam (Xat ku))
 refine Xan (Xad (Xac ?_))
 iterate 2 refine kO hT hC ?_
 exact Vc.nil kG
 exact kf b22 (Xam (Xat ku))
 refine Xad (Xab ?_)
 iterate 3 refine kO hT hC ?_
 refine Vc.nil (Xah ?_)
 obtain rfl := kj h
 exact Xcl (τ := ⟨[(4, .own 16), (5, .sv (.bool true))], [(16, some (.ints .i64 v50))]⟩) (kW hC [(16, 928)]) rfl ⟨rfl, trivial⟩
def Xxq (r : (List Int)) : AV := .own 16
def Xxp (r : (List Int)) : Xa0 := [(16, .ints .i64 r)]
theorem Xo3 {p0 p1 r} (h : Xik p0 p1 = some r) : AC Tryz.prog 125 [.sv (.ints .i64 p0), .sv (.ints .i64 p1)] [] (Xxq r) (Xxp r) := by
 refine Xag hT Tryz.func125 rfl fun C hC => ?_
 unfold Xik at h
 refine Xab ?_
 refine kO hT hC ?_
 refine kN ?_
 iterate 2 refine kO hT hC ?_
 refine Vc.nil (Xao ?_)
 refine kL [0,1,5] [128] [_,_,_] [_] ?_
 refine kA h (fun v1 => ([(16, .sv (.bool v1))], [])) (fun v1 h => ?_) fun v1 h => ?_
 refine Xac ?_
 refine kO hT hC ?_
 refine kC hC [] Tryz.call59 h (fun _ => Xbf) fun q2 h => ?_
 iterate 2 refine kO hT hC ?_
 refine kS h ?_ ?_ <;> intro b1 h
 refine kI hT hC (kn b1) ?_
 refine kE hC (kn b1) [] Tryz.call59 h (fun _ => Xbf) fun q3 h => ?_
 refine kI hT hC (kn b1) ?_
 refine kP hC false (kn b1) ?_
 exact Vc.nil kM
 iterate 3 refine kF hC (kn b1) ?_
 refine kP hC true (kn b1) ?_
 exact Vc.nil kM
 refine kS h ?_ ?_ <;> intro b2 h
 refine kt b2 (Xab ?_)
 iterate 2 refine kO hT hC ?_
 refine Vc.nil (Xah (Xas ?_))
 obtain rfl := kj h
 exact Xcl (τ := ⟨[(4, .own 16)], [(16, some (.ints .i64 ([] : List Int)))]⟩) (kW hC [(16, 128)]) rfl ⟨rfl, trivial⟩
 refine kf b2 (Xaf (Xad (Xao (Xab ?_))))
 iterate 3 refine kO hT hC ?_
 refine Vc.nil ?_
 refine kL [1,5,18,19,20] [128] [_,_,_,_,_] [_] ?_
 refine kX h (fun v6 => ([(20, .sv (.int .i64 v6.1))], [(128, some (.ints .i64 v6.2))])) (fun v9 => ([(1, .any), (18, .any), (19, .any), (20, .any)], [(128, some (.ints .i64 v9))])) (kW hC []) (fun v6 s h => ?_) fun v9 h => ?_
 unfold Xi8 at h
 refine Xab ?_
 refine kO hT hC ?_
 refine Vc.nil (Xao ?_)
 refine kS h ?_ ?_ <;> intro b5 h
 refine kt b5 (Xaf (Xad (Xao (Xak (Xab ?_)))))
 refine kO hT hC ?_
 refine kQ hT hC h fun h => ?_
 iterate 3 refine kO hT hC ?_
 refine Vc.nil (Xac ?_)
 iterate 4 refine kO hT hC ?_
 refine kQ hT hC h fun h => ?_
 iterate 2 refine kO hT hC ?_
 refine kC hC [] Tryz.call119 h (fun _ => Xhi) fun q10 h => ?_
 refine kO hT hC ?_
 refine kT hT hC h fun h => ?_
 refine kO hT hC ?_
 refine Vc.nil (Xan (Xad (Xac ?_)))
 iterate 2 refine kO hT hC ?_
 refine Vc.nil ?_
 obtain rfl := kj h
 exact Yby (kW hC [(128, 544)])
 exact kf b5 (Xam (Xat ku))
 refine Xad (Xab ?_)
 iterate 2 refine kO hT hC ?_
 refine Vc.nil (Xah ?_)
 obtain rfl := kj h
 exact Xcl (τ := ⟨[(4, .own 16)], [(16, some (.ints .i64 v9))]⟩) (kW hC [(16, 128)]) rfl ⟨rfl, trivial⟩
def Xu7 (r : (Xft × Bool)) : AV := .tup [.agg [.own 16, .own 17, .sv (.int .i64 r.1.Corner)], .sv (.bool r.2)]
def Xu6 (r : (Xft × Bool)) : Xa0 := [(16, .ints .i64 r.1.Above), (17, .ints .i64 r.1.Left)]
theorem Xnx {p0 p1 p2 r} (h : Xg8 p0 p1 p2 = some r) : AC Tryz.prog 62 [.agg [.sv (.int .i64 p0.Wide), .sv (.int .i64 p0.High), .sv (.str p0.Dots)], .sv (.int .i64 p1), .sv (.int .i64 p2)] [] (Xu7 r) (Xu6 r) := by
 refine Xag hT Tryz.func62 rfl fun C hC => ?_
 unfold Xg8 at h
 refine Xab ?_
 iterate 3 refine kO hT hC ?_
 refine Vc.nil (Xao ?_)
 refine kL [1,2,3,6] [48,96] [_,_,_,_] [_,_] ?_
 refine kA h (fun v1 => ([(19, .sv (.bool v1))], [])) (fun v1 h => ?_) fun v1 h => ?_
 refine Xac ?_
 refine kO hT hC ?_
 refine kC hC [] Tryz.call57 h (fun _ => Xfw) fun q2 h => ?_
 iterate 2 refine kO hT hC ?_
 refine kS h ?_ ?_ <;> intro b1 h
 iterate 3 refine kI hT hC (kn b1) ?_
 refine kE hC (kn b1) [] Tryz.call58 h (fun _ => Xdq) fun q3 h => ?_
 refine kI hT hC (kn b1) ?_
 refine kP hC false (kn b1) ?_
 exact Vc.nil kM
 iterate 5 refine kF hC (kn b1) ?_
 refine kP hC true (kn b1) ?_
 exact Vc.nil kM
 refine kS h ?_ ?_ <;> intro b2 h
 refine kt b2 (Xab ?_)
 iterate 3 refine kO hT hC ?_
 refine Vc.nil (Xah (Xas ?_))
 obtain rfl := kj h
 refine Xcl (τ := ⟨[(6, .ptr 2000000 0), (7, .sv (.bool false))], [(16, some (.ints .i64 [])), (17, some (.ints .i64 [])), (2000000, some (.box [.own 16, .own 17, .sv (.int .i64 0)]))]⟩) ?_ rfl ⟨rfl, rfl, trivial⟩
 refine Xj6 hC 96 0 1105 (.ints .i64 []) rfl rfl rfl rfl rfl trivial ?_
 refine Xj6 hC 96 1 1106 (.ints .i64 []) rfl rfl rfl rfl rfl trivial ?_
 apply Xfs hC [(16, 1105), (17, 1106), (2000000, 96)]
 exact co
 rfl
 decide
 rfl
 refine kf b2 (Xaf (Xad (Xab ?_)))
 iterate 3 refine kO hT hC ?_
 refine Vc.nil (Xao (Xab ?_))
 refine kO hT hC ?_
 refine Vc.nil ?_
 refine kL [1,2,3,6,8,22] [48,96,128] [_,_,_,_,_,_] [_,_,_] ?_
 obtain ⟨v15, hl, h⟩ := Xa4 h
 refine Yjs (fun v9 => ([(22, .sv (.int .i64 v9.1))], [(128, some (.box [.own 1129, .own 1130, .sv (.int .i64 (-1))])), (1129, some (.ints .i64 v9.2.1)), (1130, some (.ints .i64 v9.2.2))])) (fun v15 => ([(22, .any)], [(128, some (.box [.own 1133, .own 1134, .sv (.int .i64 (-1))])), (1133, some (.ints .i64 v15.1)), (1134, some (.ints .i64 v15.2))])) hl ?_ ?_ ?_
 refine Xj6 hC 128 0 1135 (.ints .i64 []) rfl rfl rfl rfl rfl trivial ?_
 refine Xj6 hC 128 1 1136 (.ints .i64 []) rfl rfl rfl rfl rfl trivial ?_
 try dsimp only
 apply Xfs hC [(1129, 1135), (1130, 1136)]
 exact co
 rfl
 decide
 rfl
 intro v9 s hs
 have h := hs
 unfold Xhk at h
 refine Xab ?_
 refine kO hT hC ?_
 refine Vc.nil (Xao ?_)
 refine kS h ?_ ?_ <;> intro b9 h
 refine kt b9 (Xaf (Xad ?_))
 refine kL [1,2,3,6,8,22] [48,96,128,1129,1130] [_,_,_,_,_,_] [_,_,_,_,_] ?_
 refine kA h (fun v16 => ([], [(1129, some (.ints .i64 v16.1)), (1130, some (.ints .i64 v16.2))])) (fun v16 h => ?_) fun v16 h => ?_
 refine Xak (Xab ?_)
 iterate 2 refine kO hT hC ?_
 refine Vc.nil ?_
 refine kL [1,2,3,6,8,9,22] [48,96,128,1129,1130] [_,_,_,_,_,_,_] [_,_,_,_,_] ?_
 refine kA h (fun v17 => ([], [(1129, some (.ints .i64 v17))])) (fun v17 h => ?_) fun v17 h => ?_
 refine Xab ?_
 iterate 2 refine kO hT hC ?_
 refine Vc.nil ?_
 refine kS h ?_ ?_ <;> intro b10 h
 refine kt b10 ?_
 refine Xdf hm ?_
 iterate 8 refine kO hT hC ?_
 refine kC hC [] Tryz.call108 h (fun _ => Xhm) fun q18 h => ?_
 refine kO hT hC ?_
 refine kT hT hC h fun h => ?_
 iterate 2 refine kO hT hC ?_
 refine kD ?_
 obtain rfl := kj h
 exact Xjo (kW hC [(1129, 592)])
 exact kf b10 (Xaf kM)
 refine Xab ?_
 iterate 2 refine kO hT hC ?_
 refine Vc.nil ?_
 refine kS h ?_ ?_ <;> intro b11 h
 refine kt b11 ?_
 refine Xdf hm ?_
 iterate 8 refine kO hT hC ?_
 refine kC hC [] Tryz.call108 h (fun _ => Xhm) fun q19 h => ?_
 refine kO hT hC ?_
 refine kT hT hC h fun h => ?_
 iterate 2 refine kO hT hC ?_
 refine kD (Xan ?_)
 obtain rfl := kj h
 exact Xjo (kW hC [(1130, 816)])
 exact kf b11 (Xaf (Xan kM))
 refine Xac ?_
 iterate 2 refine kO hT hC ?_
 exact Vc.nil kG
 refine kf b9 (Xam (Xat ?_))
 obtain rfl := kj h
 exact Yhj (Ymn (kW hC [(1133, 1129), (1134, 1130)]))
 refine Xad ?_
 refine kL [1,2,3,6,8] [48,96,128,1133,1134] [_,_,_,_,_] [_,_,_,_,_] ?_
 refine kA h (fun v21 => ([(1, .any), (2, .any), (3, .any)], [(128, some (.box [.own 1133, .own 1134, .sv (.int .i64 v21)])), (48, none)])) (fun v21 h => ?_) fun v21 h => ?_
 refine kL [1,2,3,6,8] [48,96,128,1133,1134] [_,_,_,_,_] [_,_,_,_,_] ?_
 refine kA h (fun v22 => ([(59, .sv (.bool v22))], [])) (fun v22 h => ?_) fun v22 h => ?_
 refine Xac ?_
 iterate 3 refine kO hT hC ?_
 refine kS h ?_ ?_ <;> intro b12 h
 iterate 2 refine kI hT hC b12 ?_
 refine kP hC true b12 ?_
 exact Vc.nil kM
 iterate 2 refine kF hC b12 ?_
 refine kP hC false b12 ?_
 exact Vc.nil kM
 refine kS h ?_ ?_ <;> intro b13 h
 refine kt b13 (Xac ?_)
 iterate 5 refine kO hT hC ?_
 refine kC hC [] Tryz.call108 h (fun _ => Xhm) fun q23 h => ?_
 iterate 2 refine kO hT hC ?_
 exact Vc.nil kM
 exact kf b13 (Xaf kM)
 refine Xab ?_
 iterate 3 refine kO hT hC ?_
 refine Vc.nil (Xah ?_)
 obtain rfl := kj h
 exact Xcl (τ := ⟨[(6, .ptr 2000000 0), (7, .sv (.bool true))], [(16, some (.ints .i64 v15.1)), (17, some (.ints .i64 v15.2)), (2000000, some (.box [.own 16, .own 17, .sv (.int .i64 v21)]))]⟩) (kW hC [(16, 1133), (17, 1134), (2000000, 96)]) rfl ⟨rfl, rfl, trivial⟩
def Xna (r : Bool) : AV := .sv (.bool r)
def Xm9 (r : Bool) : Xa0 := []
theorem Xny {p0 r} (h : Xg9 p0 = some r) : AC Tryz.prog 109 [.agg [.sv (.ints .i64 p0.Above), .sv (.ints .i64 p0.Left), .sv (.int .i64 p0.Corner)]] [] (Xna r) (Xm9 r) := by
 refine Xag hT Tryz.func109 rfl fun C hC => ?_
 unfold Xg9 at h
 refine Xab ?_
 iterate 2 refine kO hT hC ?_
 refine Vc.nil (Xao (Xab ?_))
 iterate 7 refine kO hT hC ?_
 refine Vc.nil ?_
 refine kL [1,9,10,11] [16,144] [_,_,_,_] [_,_] ?_
 obtain ⟨o11, hl, h⟩ := Xa4 h
 refine Xlu (fun v4 => ([(11, .sv (.int .i64 v4))], [])) (fun v8 => ([(9, .any), (10, .any), (11, .any)], [(144, none)])) (fun r => Xuz C T Tryz.f109.results.toList (Xna r) (Xm9 r)) hl ?_ ?_ ?_ ?_
 apply Xfs hC []
 exact co
 rfl
 decide
 rfl
 intro v4 s hs
 have h := hs
 unfold Xds at h
 refine Xab ?_
 refine kO hT hC ?_
 refine Vc.nil (Xao ?_)
 refine kS h ?_ ?_ <;> intro b7 h
 refine kt b7 (Xaf (Xad (Xao (Xak (Xab ?_)))))
 iterate 2 refine kQ hT hC h fun h => ?_
 refine kO hT hC ?_
 refine Vc.nil ?_
 refine kL [1,4,9,10,11] [16,144] [_,_,_,_,_] [_,_] ?_
 refine kA h (fun v9 => ([(22, .sv (.bool v9)), (4, .any)], [])) (fun v9 h => ?_) fun v9 h => ?_
 refine Xac ?_
 iterate 4 refine kO hT hC ?_
 refine kS h ?_ ?_ <;> intro b8 h
 refine kI hT hC b8 ?_
 refine kE hC b8 [] Tryz.call59 h (fun _ => Xbf) fun q10 h => ?_
 refine kI hT hC b8 ?_
 refine kP hC true b8 ?_
 exact Vc.nil kM
 iterate 3 refine kF hC b8 ?_
 refine kP hC false b8 ?_
 exact Vc.nil kM
 refine kS h ?_ ?_ <;> intro b9 h
 refine kt b9 (Xab ?_)
 refine kO hT hC ?_
 refine Vc.nil (Xah (Xii (Xas ?_)))
 obtain rfl := kj h
 refine Yaq (Yap ?_)
 exact Xcl (Xkc.refl _) rfl trivial
 refine kf b9 (Xaf (Xan (Xad (Xac ?_))))
 iterate 2 refine kO hT hC ?_
 exact Vc.nil kG
 exact kf b7 (Xam (Xat kb))
 intro v8 e
 subst e
 refine Xad (Xab ?_)
 iterate 2 refine kO hT hC ?_
 refine kC hC [] Tryz.call61 h (fun _ => Xaj) fun q12 h => ?_
 refine kO hT hC ?_
 exact Vc.nil (Xah kR)
 intro r' σ' e hE
 subst e
 obtain rfl := kj h
 refine Xas ?_
 exact hE
def Yai (r : Int) : AV := .sv (.int .i64 r)
def Yah (r : Int) : Xa0 := []
theorem Xru {p0 r} (h : Xhc p0 = some r) : AC Tryz.prog 117 [.sv (.ints .i64 p0)] [] (Yai r) (Yah r) := by
 refine Xag hT Tryz.func117 rfl fun C hC => ?_
 unfold Xhc at h
 refine Xab ?_
 refine kO hT hC ?_
 refine kN ?_
 refine kO hT hC ?_
 refine Vc.nil (Xao (Xab ?_))
 iterate 3 refine kO hT hC ?_
 refine Vc.nil ?_
 refine kL [3,6,7,8] [] [_,_,_,_] [] ?_
 refine kX h (fun v2 => ([(3, .sv (.int .i64 v2.1)), (8, .sv (.int .i64 v2.2))], [])) (fun v4 => ([(3, .sv (.int .i64 v4)), (6, .any), (7, .any), (8, .any)], [])) (kW hC []) (fun v2 s h => ?_) fun v4 h => ?_
 unfold Xmy at h
 refine Xab ?_
 refine kO hT hC ?_
 refine Vc.nil (Xao ?_)
 refine kS h ?_ ?_ <;> intro b3 h
 refine kt b3 (Xaf (Xad (Xao (Xak (Xab ?_)))))
 refine kQ hT hC h fun h => ?_
 iterate 2 refine kO hT hC ?_
 refine Vc.nil (Xac ?_)
 iterate 4 refine kO hT hC ?_
 refine Vc.nil (Xan (Xad (Xac ?_)))
 iterate 2 refine kO hT hC ?_
 exact Vc.nil kG
 exact kf b3 (Xam (Xat ku))
 refine Xad (Xab ?_)
 iterate 2 refine kO hT hC ?_
 exact Vc.nil (Xah kR)
def Xx5 (r : (List Int)) : AV := .sv (.ints .i64 r)
def Xx4 (r : (List Int)) : Xa0 := []
theorem Xpa {p0 r} (h : Xir p0 = some r) : AC Tryz.prog 118 [.sv (.ints .i64 p0)] [] (Xx5 r) (Xx4 r) := by
 refine Xag hT Tryz.func118 rfl fun C hC => ?_
 unfold Xir at h
 refine Xab ?_
 refine kO hT hC ?_
 refine Vc.nil (Xao (Xab ?_))
 iterate 3 refine kO hT hC ?_
 refine Vc.nil ?_
 refine kS h ?_ ?_ <;> intro b1 h
 refine kt b1 (Xab ?_)
 iterate 2 refine kO hT hC ?_
 refine Vc.nil (Xah (Xas ?_))
 obtain rfl := kj h
 exact Xcl (τ := ⟨[(2, .sv (.ints .i64 ([128, 128, 128, 128, 128, 128, 128, 128])))], []⟩) (kW hC []) rfl trivial
 refine kf b1 (Xaf (Xad (Xab ?_)))
 iterate 2 refine kO hT hC ?_
 exact Vc.nil (Xah kR)
def Xva (r : (List Int)) : AV := .own 16
def Xu9 (r : (List Int)) : Xa0 := [(16, .ints .i64 r)]
theorem Xkm {p0 p1 r} (h : Xd6 p0 p1 = some r) : AC Tryz.prog 66 [.sv (.int .i64 p0), .agg [.sv (.ints .i64 p1.Above), .sv (.ints .i64 p1.Left), .sv (.int .i64 p1.Corner)]] [] (Xva r) (Xu9 r) := by
 refine Xag hT Tryz.func66 rfl fun C hC => ?_
 unfold Xd6 at h
 refine Xab ?_
 iterate 2 refine kO hT hC ?_
 refine kN ?_
 iterate 2 refine kO hT hC ?_
 refine Vc.nil (Xao ?_)
 refine kL [0,3,5] [48,208] [_,_,_] [_,_] ?_
 refine kA h (fun v1 => ([(21, .sv (.bool v1))], [])) (fun v1 h => ?_) fun v1 h => ?_
 refine Xac ?_
 refine kO hT hC ?_
 refine kC hC [] Tryz.call109 h (fun _ => Xny) fun q2 h => ?_
 iterate 2 refine kO hT hC ?_
 refine kS h ?_ ?_ <;> intro b1 h
 refine kI hT hC (kn b1) ?_
 refine kE hC (kn b1) [] Tryz.call61 h (fun _ => Xaj) fun q3 h => ?_
 refine kI hT hC (kn b1) ?_
 refine kP hC false (kn b1) ?_
 exact Vc.nil kM
 iterate 3 refine kF hC (kn b1) ?_
 refine kP hC true (kn b1) ?_
 exact Vc.nil kM
 refine kS h ?_ ?_ <;> intro b2 h
 refine kt b2 (Xab ?_)
 iterate 2 refine kO hT hC ?_
 refine Vc.nil (Xah (Xas ?_))
 obtain rfl := kj h
 exact Xcl (τ := ⟨[(4, .own 16)], [(16, some (.ints .i64 ([] : List Int)))]⟩) (kW hC [(16, 208)]) rfl ⟨rfl, trivial⟩
 refine kf b2 (Xaf (Xad (Xab ?_)))
 refine kO hT hC ?_
 refine Vc.nil ?_
 refine kL [0,3,5,6] [48,208] [_,_,_,_] [_,_] ?_
 refine kA h (fun v4 => ([(6, .sv (.int .i64 v4))], [])) (fun v4 h => ?_) fun v4 h => ?_
 refine Xab ?_
 iterate 8 refine kO hT hC ?_
 refine kN ?_
 iterate 2 refine kO hT hC ?_
 refine Vc.nil ?_
 refine kS h ?_ ?_ <;> intro b3 h
 refine kt b3 ?_
 refine Xdf hm ?_
 iterate 2 refine kO hT hC ?_
 refine kC hC [] Tryz.call117 h (fun _ => Xru) fun q5 h => ?_
 iterate 2 refine kO hT hC ?_
 refine kC hC [] Tryz.call117 h (fun _ => Xru) fun q6 h => ?_
 iterate 2 refine kO hT hC ?_
 refine kQ hT hC h fun h => ?_
 iterate 2 refine kO hT hC ?_
 refine kQ hT hC h fun h => ?_
 refine kO hT hC ?_
 exact kD kM
 exact kf b3 (Xaf kM)
 refine Xjq hm ?_
 iterate 2 refine kO hT hC ?_
 refine kC hC [] Tryz.call118 h (fun _ => Xpa) fun q7 h => ?_
 iterate 2 refine kO hT hC ?_
 refine kC hC [] Tryz.call118 h (fun _ => Xpa) fun q8 h => ?_
 iterate 5 refine kO hT hC ?_
 refine kD ?_
 refine kL [0,5,6,8,9,10] [208] [_,_,_,_,_,_] [_] ?_
 refine kA h (fun v9 => ([(10, .sv (.int .i64 v9))], [])) (fun v9 h => ?_) fun v9 h => ?_
 refine Xab ?_
 iterate 2 refine kO hT hC ?_
 refine Vc.nil ?_
 refine kS h ?_ ?_ <;> intro b4 h
 refine kt b4 (Xac ?_)
 refine kO hT hC ?_
 exact Vc.nil kM
 exact kf b4 (Xaf kM)
 refine Xao (Xab ?_)
 refine kO hT hC ?_
 refine Vc.nil ?_
 refine kL [0,5,6,8,9,10,54] [208] [_,_,_,_,_,_,_] [_] ?_
 refine kX h (fun v22 => ([(54, .sv (.int .i64 v22.1))], [(208, some (.ints .i64 v22.2))])) (fun v35 => ([(0, .any), (6, .any), (8, .any), (9, .any), (10, .any), (54, .any)], [(208, some (.ints .i64 v35))])) (kW hC []) (fun v22 s h => ?_) fun v35 h => ?_
 unfold Xjt at h
 refine Xab ?_
 refine kO hT hC ?_
 refine Vc.nil (Xao ?_)
 refine kS h ?_ ?_ <;> intro b31 h
 refine kt b31 (Xaf (Xad (Xao (Xak (Xab ?_)))))
 iterate 2 refine kO hT hC ?_
 refine kN ?_
 refine kO hT hC ?_
 refine Vc.nil ?_
 refine kL [0,5,6,8,9,10,11,54,57] [208] [_,_,_,_,_,_,_,_,_] [_] ?_
 refine kX h (fun v39 => ([(57, .sv (.int .i64 v39.1))], [(208, some (.ints .i64 v39.2))])) (fun v43 => ([(11, .any), (57, .any)], [(208, some (.ints .i64 v43))])) (kW hC []) (fun v39 s h => ?_) fun v43 h => ?_
 unfold Xen at h
 refine Xab ?_
 refine kO hT hC ?_
 refine Vc.nil (Xao ?_)
 refine kS h ?_ ?_ <;> intro b40 h
 refine kt b40 (Xaf (Xad ?_))
 refine kL [0,5,6,8,9,10,11,54,57] [208] [_,_,_,_,_,_,_,_,_] [_] ?_
 refine kA h (fun v44 => ([(5, .own 1700)], [(1700, some (.ints .i64 v44)), (208, none)])) (fun v44 h => ?_) fun v44 h => ?_
 refine Xak (Xab ?_)
 iterate 2 refine kO hT hC ?_
 refine kN ?_
 refine kO hT hC ?_
 refine Vc.nil (Xak (Xab ?_))
 iterate 2 refine kO hT hC ?_
 refine Vc.nil ?_
 refine kS h ?_ ?_ <;> intro b41 h
 refine kt b41 (Xac ?_)
 iterate 3 refine kO hT hC ?_
 refine kT hT hC h fun h => ?_
 refine kO hT hC ?_
 refine Vc.nil ?_
 iterate 2 refine Xan ?_
 obtain rfl := kj h
 exact Xjo (kW hC [(1700, 1296)])
 refine kf b41 (Xab ?_)
 iterate 2 refine kO hT hC ?_
 refine Vc.nil ?_
 refine kS h ?_ ?_ <;> intro b42 h
 refine kt b42 (Xac ?_)
 iterate 3 refine kO hT hC ?_
 refine kQ hT hC h fun h => ?_
 iterate 2 refine kO hT hC ?_
 refine kT hT hC h fun h => ?_
 refine kO hT hC ?_
 refine Vc.nil ?_
 iterate 2 refine Xan ?_
 obtain rfl := kj h
 exact Xjo (kW hC [(1700, 1440)])
 refine kf b42 (Xab ?_)
 iterate 2 refine kO hT hC ?_
 refine Vc.nil ?_
 refine kS h ?_ ?_ <;> intro b43 h
 refine kt b43 (Xac ?_)
 iterate 3 refine kO hT hC ?_
 refine kQ hT hC h fun h => ?_
 iterate 2 refine kO hT hC ?_
 refine kT hT hC h fun h => ?_
 refine kO hT hC ?_
 refine Vc.nil ?_
 iterate 2 refine Xan ?_
 obtain rfl := kj h
 exact Xjo (kW hC [(1700, 1584)])
 refine kf b43 ?_
 refine Xdf hm ?_
 iterate 3 refine kO hT hC ?_
 refine kQ hT hC h fun h => ?_
 iterate 3 refine kO hT hC ?_
 refine kQ hT hC h fun h => ?_
 iterate 4 refine kO hT hC ?_
 refine kC hC [] Tryz.call119 h (fun _ => Xhi) fun q45 h => ?_
 refine kO hT hC ?_
 refine kT hT hC h fun h => ?_
 refine kO hT hC ?_
 refine kD ?_
 iterate 2 refine Xan ?_
 obtain rfl := kj h
 exact Xjo (kW hC [(1700, 1200)])
 refine Xac ?_
 iterate 2 refine kO hT hC ?_
 refine Vc.nil ?_
 obtain rfl := kj h
 exact Yby (kW hC [(208, 1700)])
 exact kf b40 (Xam (Xat ku))
 refine Xan (Xad (Xac ?_))
 iterate 2 refine kO hT hC ?_
 exact Vc.nil kG
 exact kf b31 (Xam (Xat ku))
 refine Xad (Xab ?_)
 iterate 2 refine kO hT hC ?_
 refine Vc.nil (Xah ?_)
 obtain rfl := kj h
 exact Xcl (τ := ⟨[(4, .own 16)], [(16, some (.ints .i64 v35))]⟩) (kW hC [(16, 208)]) rfl ⟨rfl, trivial⟩
def Xp5 (r : ((List Int) × Bool)) : AV := .tup [.own 16, .sv (.bool r.2)]
def Xp4 (r : ((List Int) × Bool)) : Xa0 := [(16, .ints .i64 r.1)]
theorem Xrh {p0 p1 p2 p3 p4 p5 p6 p7 r} (h : Xdw p0 p1 p2 p3 p4 p5 p6 p7 = some r) : AC Tryz.prog 70 [.agg [.sv (.int .i64 p0.Wide), .sv (.int .i64 p0.High), .sv (.str p0.Dots)], .agg [.sv (.int .i64 p1.Wide), .sv (.int .i64 p1.High), .sv (.str p1.Dots)], .sv (.int .i64 p2), .sv (.int .i64 p3), .agg [.sv (.bool p4.Key), .sv (.int .i64 p4.Qp), .sv (.bool p4.Large), .sv (.bool p4.Exact)], .sv (.int .i64 p5), .sv (.int .i64 p6), .agg [.sv (.int .i64 p7.Kind), .sv (.int .i64 p7.Mode), .sv (.int .i64 p7.Dx), .sv (.int .i64 p7.Dy), .sv (.ints .i64 p7.Levels)]] [] (Xp5 r) (Xp4 r) := by
 refine Xag hT Tryz.func70 rfl fun C hC => ?_
 unfold Xdw at h
 refine Xab ?_
 iterate 6 refine kO hT hC ?_
 refine Vc.nil (Xao ?_)
 refine kL [2,3,5,6,8,9,12,15] [128,144,192,240] [_,_,_,_,_,_,_,_] [_,_,_,_] ?_
 refine kA h (fun v1 => ([(67, .sv (.bool v1))], [])) (fun v1 h => ?_) fun v1 h => ?_
 refine Xac ?_
 refine kO hT hC ?_
 refine kC hC [] Tryz.call57 h (fun _ => Xfw) fun q2 h => ?_
 iterate 2 refine kO hT hC ?_
 refine kS h ?_ ?_ <;> intro b1 h
 iterate 3 refine kI hT hC (kn b1) ?_
 refine kE hC (kn b1) [] Tryz.call58 h (fun _ => Xdq) fun q3 h => ?_
 refine kI hT hC (kn b1) ?_
 refine kP hC false (kn b1) ?_
 refine kO hT hC ?_
 refine kS h ?_ ?_ <;> intro b2 h
 refine kI hT hC (kn b2) ?_
 refine kE hC (kn b2) [] Tryz.call61 h (fun _ => Xaj) fun q4 h => ?_
 refine kI hT hC (kn b2) ?_
 refine kP hC false (kn b2) ?_
 refine kO hT hC ?_
 refine kS h ?_ ?_ <;> intro b3 h
 refine kI hT hC (kn b3) ?_
 refine kE hC (kn b3) [] Tryz.call61 h (fun _ => Xaj) fun q5 h => ?_
 refine kI hT hC (kn b3) ?_
 refine kP hC false (kn b3) ?_
 refine kO hT hC ?_
 refine kS h ?_ ?_ <;> intro b4 h
 refine kI hT hC (kn b4) ?_
 refine kE hC (kn b4) [] Tryz.call122 h (fun _ => Xvj) fun q6 h => ?_
 refine kI hT hC (kn b4) ?_
 refine kP hC false (kn b4) ?_
 refine kO hT hC ?_
 refine kS h ?_ ?_ <;> intro b5 h
 refine kI hT hC (kn b5) ?_
 refine kE hC (kn b5) [] Tryz.call60 h (fun _ => Xi7) fun q7 h => ?_
 refine kI hT hC (kn b5) ?_
 refine kP hC false (kn b5) ?_
 refine kO hT hC ?_
 refine kS h ?_ ?_ <;> intro b6 h
 iterate 2 refine kI hT hC (kn b6) ?_
 refine kE hC (kn b6) [] Tryz.call123 h (fun _ => Xrk) fun q8 h => ?_
 refine kI hT hC (kn b6) ?_
 refine kP hC false (kn b6) ?_
 refine kO hT hC ?_
 refine kS h ?_ ?_ <;> intro b7 h
 iterate 4 refine kI hT hC (kn b7) ?_
 refine kS h ?_ ?_ <;> intro b8 h
 refine kI hT hC b8 ?_
 refine kE hC b8 [] Tryz.call57 h (fun _ => Xfw) fun q9 h => ?_
 refine kI hT hC b8 ?_
 refine Xd5 hC rfl rfl rfl rfl (kn b7) rfl rfl (b := true) b8 rfl rfl rfl trivial ?_
 refine kP hC false (kn b7) ?_
 exact Vc.nil kM
 iterate 3 refine kF hC b8 ?_
 refine Xd5 hC rfl rfl rfl rfl (kn b7) rfl rfl (b := false) b8 rfl rfl rfl trivial ?_
 refine kP hC false (kn b7) ?_
 exact Vc.nil kM
 iterate 4 refine kF hC (kn b7) ?_
 iterate 3 refine Xk6 hC rfl rfl rfl rfl rfl rfl ?_
 refine kF hC (kn b7) ?_
 refine kP hC true (kn b7) ?_
 exact Vc.nil kM
 iterate 4 refine kF hC (kn b6) ?_
 refine kP hC true (kn b6) ?_
 refine kO hT hC ?_
 iterate 4 refine kF hC rfl ?_
 iterate 3 refine Xk6 hC rfl rfl rfl rfl rfl rfl ?_
 refine kF hC rfl ?_
 refine kO hT hC ?_
 exact Vc.nil kM
 iterate 3 refine kF hC (kn b5) ?_
 refine kP hC true (kn b5) ?_
 refine kO hT hC ?_
 iterate 4 refine kF hC rfl ?_
 iterate 2 refine kO hT hC ?_
 iterate 4 refine kF hC rfl ?_
 iterate 3 refine Xk6 hC rfl rfl rfl rfl rfl rfl ?_
 refine kF hC rfl ?_
 refine kO hT hC ?_
 exact Vc.nil kM
 iterate 3 refine kF hC (kn b4) ?_
 refine kP hC true (kn b4) ?_
 refine kO hT hC ?_
 iterate 3 refine kF hC rfl ?_
 iterate 2 refine kO hT hC ?_
 iterate 4 refine kF hC rfl ?_
 iterate 2 refine kO hT hC ?_
 iterate 4 refine kF hC rfl ?_
 iterate 3 refine Xk6 hC rfl rfl rfl rfl rfl rfl ?_
 refine kF hC rfl ?_
 refine kO hT hC ?_
 exact Vc.nil kM
 iterate 3 refine kF hC (kn b3) ?_
 refine kP hC true (kn b3) ?_
 refine kO hT hC ?_
 iterate 3 refine kF hC rfl ?_
 iterate 2 refine kO hT hC ?_
 iterate 3 refine kF hC rfl ?_
 iterate 2 refine kO hT hC ?_
 iterate 4 refine kF hC rfl ?_
 iterate 2 refine kO hT hC ?_
 iterate 4 refine kF hC rfl ?_
 iterate 3 refine Xk6 hC rfl rfl rfl rfl rfl rfl ?_
 refine kF hC rfl ?_
 refine kO hT hC ?_
 exact Vc.nil kM
 iterate 3 refine kF hC (kn b2) ?_
 refine kP hC true (kn b2) ?_
 refine kO hT hC ?_
 iterate 3 refine kF hC rfl ?_
 iterate 2 refine kO hT hC ?_
 iterate 3 refine kF hC rfl ?_
 iterate 2 refine kO hT hC ?_
 iterate 3 refine kF hC rfl ?_
 iterate 2 refine kO hT hC ?_
 iterate 4 refine kF hC rfl ?_
 iterate 2 refine kO hT hC ?_
 iterate 4 refine kF hC rfl ?_
 iterate 3 refine Xk6 hC rfl rfl rfl rfl rfl rfl ?_
 refine kF hC rfl ?_
 refine kO hT hC ?_
 exact Vc.nil kM
 iterate 5 refine kF hC (kn b1) ?_
 refine kP hC true (kn b1) ?_
 refine kO hT hC ?_
 iterate 3 refine kF hC rfl ?_
 iterate 2 refine kO hT hC ?_
 iterate 3 refine kF hC rfl ?_
 iterate 2 refine kO hT hC ?_
 iterate 3 refine kF hC rfl ?_
 iterate 2 refine kO hT hC ?_
 iterate 3 refine kF hC rfl ?_
 iterate 2 refine kO hT hC ?_
 iterate 4 refine kF hC rfl ?_
 iterate 2 refine kO hT hC ?_
 iterate 4 refine kF hC rfl ?_
 iterate 3 refine Xk6 hC rfl rfl rfl rfl rfl rfl ?_
 refine kF hC rfl ?_
 refine kO hT hC ?_
 exact Vc.nil kM
 refine kS h ?_ ?_ <;> intro b9 h
 refine kt b9 (Xab ?_)
 iterate 3 refine kO hT hC ?_
 refine Vc.nil (Xah (Xas ?_))
 obtain rfl := kj h
 exact Xcl (τ := ⟨[(16, .own 16), (17, .sv (.bool false))], [(16, some (.ints .i64 ([] : List Int)))]⟩) (kW hC [(16, 1088)]) rfl ⟨rfl, trivial⟩
 refine kf b9 (Xaf (Xad (Xao (Xab ?_))))
 iterate 3 refine kO hT hC ?_
 refine Vc.nil ?_
 refine kS h ?_ ?_ <;> intro b10 h
 refine kt b10 (Xab ?_)
 iterate 7 refine kO hT hC ?_
 refine kC hC [(16, 1264)] Tryz.call68 h (fun _ => Xdv) fun q10 h => ?_
 iterate 2 refine kO hT hC ?_
 refine Vc.nil (Xah (Xas ?_))
 obtain rfl := kj h
 exact Xcl (τ := ⟨[(16, .own 16), (17, .sv (.bool true))], [(16, some (.ints .i64 q10))]⟩) (kW hC [(16, 1264)]) rfl ⟨rfl, trivial⟩
 refine kf b10 (Xaf (Xad (Xab ?_)))
 iterate 3 refine kO hT hC ?_
 refine kC hC [(16, 1344)] Tryz.call124 h (fun _ => Xq9) fun q11 h => ?_
 iterate 5 refine kO hT hC ?_
 refine Vc.nil (Xao (Xab ?_))
 iterate 3 refine kO hT hC ?_
 refine Vc.nil ?_
 refine kS h ?_ ?_ <;> intro b11 h
 refine kt b11 (Xab ?_)
 iterate 13 refine kO hT hC ?_
 refine kC hC [(16, 1648)] Tryz.call68 h (fun _ => Xdv) fun q12 h => ?_
 refine kO hT hC ?_
 refine kC hC [(16, 1680)] Tryz.call125 h (fun _ => Xo3) fun q13 h => ?_
 iterate 2 refine kO hT hC ?_
 refine Vc.nil (Xah (Xas ?_))
 obtain rfl := kj h
 exact Xcl (τ := ⟨[(16, .own 16), (17, .sv (.bool true))], [(16, some (.ints .i64 q13))]⟩) (kW hC [(16, 1680)]) rfl ⟨rfl, trivial⟩
 refine kf b11 (Xaf (Xad (Xab ?_)))
 iterate 3 refine kO hT hC ?_
 refine kC hC [(16, 1760), (17, 1761)] Tryz.call62 h (fun _ => Xnx) fun q14 h => ?_
 iterate 6 refine kO hT hC ?_
 refine kN ?_
 iterate 3 refine kO hT hC ?_
 refine kC hC [(16, 1856)] Tryz.call66 h (fun _ => Xkm) fun q15 h => ?_
 refine kO hT hC ?_
 refine kC hC [(16, 1888)] Tryz.call125 h (fun _ => Xo3) fun q16 h => ?_
 iterate 2 refine kO hT hC ?_
 refine Vc.nil (Xah ?_)
 obtain rfl := kj h
 exact Xcl (τ := ⟨[(16, .own 16), (17, .sv (.bool true))], [(16, some (.ints .i64 q16))]⟩) (kW hC [(16, 1888)]) rfl ⟨rfl, trivial⟩
def Xyd (r : (List Int)) : AV := .own 16
def Xyc (r : (List Int)) : Xa0 := [(16, .ints .i64 r)]
theorem Xjb {p0 r} (h : Xfc p0 = some r) : AC Tryz.prog 17 [.sv (.ints .i64 p0)] [] (Xyd r) (Xyc r) := by
 refine Xag hT Tryz.func17 rfl fun C hC => ?_
 unfold Xfc at h
 refine Xab ?_
 refine kO hT hC ?_
 refine kN ?_
 iterate 2 refine kO hT hC ?_
 obtain ⟨hq, h⟩ := Xau h
 refine Yhw hT hC rfl rfl rfl rfl ⟨hq.1, hq.2.1, hq.2.2, by decide⟩ ?_
 refine kO hT hC ?_
 refine Vc.nil (Xao (Xab ?_))
 refine kO hT hC ?_
 refine Vc.nil ?_
 refine kL [0,3,4] [112] [_,_,_] [_] ?_
 refine kX h (fun v2 => ([(4, .sv (.int .i64 v2.1))], [(112, some (.ints .i64 v2.2))])) (fun v4 => ([(0, .any), (4, .any)], [(112, some (.ints .i64 v4))])) (kW hC []) (fun v2 s h => ?_) fun v4 h => ?_
 unfold Xgn at h
 refine Xao (Xab ?_)
 iterate 4 refine kO hT hC ?_
 refine Vc.nil ?_
 refine kS h ?_ ?_ <;> intro b3 h
 refine kt b3 (Xaf (Xad (Xao (Xak (Xac ?_)))))
 iterate 4 refine kO hT hC ?_
 refine kQ hT hC h fun h => ?_
 refine kO hT hC ?_
 iterate 2 refine kQ hT hC h fun h => ?_
 refine Vc.nil (Xan (Xad (Xac ?_)))
 iterate 3 refine kO hT hC ?_
 exact Vc.nil kG
 exact kf b3 (Xam (Xat ku))
 refine Xad (Xab ?_)
 iterate 2 refine kO hT hC ?_
 refine Vc.nil (Xah ?_)
 obtain rfl := kj h
 exact Xcl (τ := ⟨[(2, .own 16)], [(16, some (.ints .i64 v4))]⟩) (kW hC [(16, 112)]) rfl ⟨rfl, trivial⟩
def Xyb (r : Cond) : AV := .agg [.sv (.bool r.Key), .sv (.int .i64 r.Qp), .sv (.bool r.Large), .sv (.bool r.Exact)]
def Xya (r : Cond) : Xa0 := []
theorem Xlr {p0 r} (h : Xiv p0 = some r) : AC Tryz.prog 18 [.agg [.sv (.bool p0.Key), .sv (.int .i64 p0.Qp), .sv (.bool p0.Large), .sv (.bool p0.Exact)]] [] (Xyb r) (Xya r) := by
 refine Xag hT Tryz.func18 rfl fun C hC => ?_
 unfold Xiv at h
 refine Xab ?_
 iterate 2 refine kO hT hC ?_
 refine kN ?_
 refine kO hT hC ?_
 refine kN ?_
 iterate 4 refine kO hT hC ?_
 refine kN ?_
 iterate 4 refine kO hT hC ?_
 refine kN ?_
 iterate 4 refine kO hT hC ?_
 refine kN ?_
 iterate 4 refine kO hT hC ?_
 refine kN ?_
 iterate 2 refine kO hT hC ?_
 exact Vc.nil (Xah kR)
def Xwt (r : Bool) : AV := .sv (.bool r)
def Xws (r : Bool) : Xa0 := []
theorem Xzo {p0 p1 r} (h : Xhf p0 p1 = some r) : AC Tryz.prog 54 [.agg [.sv (.int .i64 p0.Wide), .sv (.int .i64 p0.High), .sv (.str p0.Dots)], .agg [.sv (.int .i64 p1.Wide), .sv (.int .i64 p1.High), .sv (.str p1.Dots)]] [] (Xwt r) (Xws r) := by
 refine Xag hT Tryz.func54 rfl fun C hC => ?_
 unfold Xhf at h
 refine Xab ?_
 iterate 3 refine kO hT hC ?_
 refine Vc.nil ?_
 refine kL [2,3,4] [32,48] [_,_,_] [_,_] ?_
 refine kA h (fun v1 => ([(4, .sv (.bool v1)), (2, .any), (3, .any)], [(32, none), (48, none)])) (fun v1 h => ?_) fun v1 h => ?_
 refine Xac ?_
 refine kO hT hC ?_
 refine kC hC [] Tryz.call96 h (fun _ => Xf7) fun q2 h => ?_
 refine kO hT hC ?_
 refine kS h ?_ ?_ <;> intro b1 h
 refine kI hT hC b1 ?_
 refine kE hC b1 [] Tryz.call96 h (fun _ => Xf7) fun q3 h => ?_
 refine kP hC true b1 ?_
 refine kO hT hC ?_
 refine kS h ?_ ?_ <;> intro b2 h
 iterate 5 refine kI hT hC b2 ?_
 refine kP hC true b2 ?_
 refine kO hT hC ?_
 refine kS h ?_ ?_ <;> intro b3 h
 iterate 5 refine kI hT hC b3 ?_
 refine kP hC true b3 ?_
 refine kO hT hC ?_
 exact Vc.nil kM
 iterate 5 refine kF hC b3 ?_
 refine kP hC false b3 ?_
 refine kO hT hC ?_
 exact Vc.nil kM
 iterate 5 refine kF hC b2 ?_
 refine kP hC false b2 ?_
 refine kO hT hC ?_
 iterate 5 refine kF hC rfl ?_
 iterate 2 refine kO hT hC ?_
 exact Vc.nil kM
 iterate 2 refine kF hC b1 ?_
 refine kP hC false b1 ?_
 refine kO hT hC ?_
 iterate 5 refine kF hC rfl ?_
 iterate 2 refine kO hT hC ?_
 iterate 5 refine kF hC rfl ?_
 iterate 2 refine kO hT hC ?_
 exact Vc.nil kM
 exact Xah kR
end
end Go.Proofs.YtlebkepfhdjnmadGreat.A
