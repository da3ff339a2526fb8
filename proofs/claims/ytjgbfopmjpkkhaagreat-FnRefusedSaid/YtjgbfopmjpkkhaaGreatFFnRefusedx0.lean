/- Contracts of the functions that the law FnRefused reaches, part 0: each comes to what its pure function tells. Written by a program of this session. Conditions: as each statement tells. -/
import Derived.Test.YtjgbfopmjpkkhaaGreatBFnRefused
namespace Go.Proofs.YtjgbfopmjpkkhaaGreat.A
open Go Go.Proofs Go.Proofs.YtjgbfopmjpkkhaaGreatAL Go.RowKit
set_option linter.unusedVariables false
set_option linter.unusedSimpArgs false
set_option maxRecDepth 100000
set_option maxHeartbeats 2000000
noncomputable section
def Yfu (r : Bool) : AV := .sv (.bool r)
def Yft (r : Bool) : Xbb := []
theorem Xix {p0 r} (h : Xfp p0 = some r) : AC Tryz.prog 97 [.agg [.sv (.int .i64 p0.Wide), .sv (.int .i64 p0.High), .sv (.str p0.Dots)]] [] (Yfu r) (Yft r) := by
 refine Xaf hT Tryz.func97 rfl fun C hC => ?_
 unfold Xfp at h
 refine Xad ?_
 iterate 2 refine kO hT hC ?_
 refine Vc.nil ?_
 refine kL [1,2] [16] [_,_] [_] ?_
 refine kA h (fun v1 => ([(2, .sv (.bool v1)), (1, .any)], [(16, none)])) (fun v1 h => ?_) fun v1 h => ?_
 refine Xac ?_
 iterate 4 refine kO hT hC ?_
 refine kS h ?_ ?_ <;> intro b1 h
 iterate 3 refine kI hT hC b1 ?_
 refine kP hC true b1 ?_
 refine kO hT hC ?_
 refine kS h ?_ ?_ <;> intro b2 h
 iterate 4 refine kI hT hC b2 ?_
 refine kP hC true b2 ?_
 refine kO hT hC ?_
 exact Vc.nil kM
 iterate 4 refine kF hC b2 ?_
 refine kP hC false b2 ?_
 refine kO hT hC ?_
 exact Vc.nil kM
 iterate 3 refine kF hC b1 ?_
 refine kP hC false b1 ?_
 refine kO hT hC ?_
 iterate 4 refine kF hC rfl ?_
 iterate 2 refine kO hT hC ?_
 exact Vc.nil kM
 exact Xah kR
def Yms (r : Bool) : AV := .sv (.bool r)
def Ymr (r : Bool) : Xbb := []
theorem Xat {p0 p1 p2 r} (h : Xaw p0 p1 p2 = some r) : AC Tryz.prog 136 [.sv (.int .i64 p0), .sv (.int .i64 p1), .sv (.int .i64 p2)] [] (Yms r) (Ymr r) := by
 refine Xaf hT Tryz.func136 rfl fun C hC => ?_
 unfold Xaw at h
 refine Xad ?_
 refine kO hT hC ?_
 refine Vc.nil ?_
 refine kL [0,1,2,6] [] [_,_,_,_] [] ?_
 refine kA h (fun v1 => ([(6, .sv (.bool v1)), (0, .any), (1, .any), (2, .any)], [])) (fun v1 h => ?_) fun v1 h => ?_
 refine Xac ?_
 iterate 4 refine kO hT hC ?_
 refine kS h ?_ ?_ <;> intro b1 h
 iterate 3 refine kI hT hC b1 ?_
 refine kP hC true b1 ?_
 refine kO hT hC ?_
 exact Vc.nil kM
 iterate 3 refine kF hC b1 ?_
 refine kP hC false b1 ?_
 refine kO hT hC ?_
 exact Vc.nil kM
 exact Xah kR
def Xto (r : Int) : AV := .sv (.int .i64 r)
def Xtn (r : Int) : Xbb := []
theorem Xm4 {p0 r} (h : Xio p0 = some r) : AC Tryz.prog 153 [.sv (.ints .i64 p0)] [] (Xto r) (Xtn r) := by
 refine Xaf hT Tryz.func153 rfl fun C hC => ?_
 unfold Xio at h
 refine Xad ?_
 refine kO hT hC ?_
 refine Vc.nil (Xap ?_)
 refine kL [0] [] [_] [] ?_
 refine kA h (fun v1 => ([(12, .sv (.bool v1))], [])) (fun v1 h => ?_) fun v1 h => ?_
 refine Xac ?_
 iterate 4 refine kO hT hC ?_
 refine kS h ?_ ?_ <;> intro b1 h
 iterate 3 refine kF hC b1 ?_
 refine kP hC true b1 ?_
 exact Vc.nil kM
 iterate 3 refine kI hT hC b1 ?_
 refine kP hC false b1 ?_
 exact Vc.nil kM
 refine kS h ?_ ?_ <;> intro b2 h
 refine kt b2 (Xad ?_)
 refine kO hT hC ?_
 exact Vc.nil (Xah (Xao kR))
 refine kf b2 (Xag (Xae (Xad ?_)))
 refine kO hT hC ?_
 refine Vc.nil (Xap (Xad ?_))
 refine kO hT hC ?_
 refine Vc.nil ?_
 refine kL [0,3,4] [] [_,_,_] [] ?_
 obtain ⟨o9, hl, h⟩ := Xbo h
 refine Xf6 (fun v4 => ([(3, .sv (.int .i64 v4.1)), (4, .sv (.int .i64 v4.2))], [])) (fun v7 => ([(3, .sv (.int .i64 v7)), (0, .any), (4, .any)], [])) (fun r => Xpi C T Tryz.f153.results.toList (Xto r) (Xtn r)) hl ?_ ?_ ?_ ?_
 try dsimp only
 apply Xcj hC []
 exact co
 rfl
 decide
 rfl
 intro v4 s hs
 have h := hs
 unfold Xhi at h
 refine Xap (Xad ?_)
 iterate 4 refine kO hT hC ?_
 refine Vc.nil ?_
 refine kS h ?_ ?_ <;> intro b7 h
 refine kt b7 (Xag (Xae (Xap (Xan (Xap (Xad ?_))))))
 iterate 2 refine kO hT hC ?_
 refine kQ hT hC h fun h => ?_
 refine kO hT hC ?_
 refine kC hC [] Tryz.call136 h (fun _ => Xat) fun q8 h => ?_
 refine kO hT hC ?_
 refine Vc.nil ?_
 refine kS h ?_ ?_ <;> intro b8 h
 refine kt b8 (Xad ?_)
 refine kO hT hC ?_
 refine Vc.nil (Xah (Xao (Xdj (Xao ?_))))
 obtain rfl := kj h
 refine Xpk (Xpj ?_)
 exact Xb8 (Xiz.refl _) rfl trivial
 refine kf b8 (Xag (Xae (Xac ?_)))
 iterate 3 refine kO hT hC ?_
 refine kQ hT hC h fun h => ?_
 iterate 3 refine kO hT hC ?_
 refine Vc.nil (Xaq (Xae (Xac ?_)))
 iterate 3 refine kO hT hC ?_
 exact Vc.nil kG
 exact kf b7 (Xas (Xaz kb))
 intro v7 e
 subst e
 refine Xae (Xad ?_)
 iterate 2 refine kO hT hC ?_
 exact Vc.nil (Xah kR)
 intro r' σ' e hE
 subst e
 obtain rfl := kj h
 refine Xao ?_
 exact hE
def Xzk (r : Int) : AV := .sv (.int .i64 r)
def Xzj (r : Int) : Xbb := []
theorem Ybl {p0 r} (h : Xjz p0 = some r) : AC Tryz.prog 137 [.agg [.sv (.int .i64 p0.Level), .sv (.int .i64 p0.Bits), .sv (.ints .i64 p0.Cols), .sv (.ints .i64 p0.Rows)]] [] (Xzk r) (Xzj r) := by
 refine Xaf hT Tryz.func137 rfl fun C hC => ?_
 unfold Xjz at h
 refine Xad ?_
 iterate 2 refine kO hT hC ?_
 refine Vc.nil ?_
 refine Xcq hm ?_
 iterate 2 refine kO hT hC ?_
 refine kC hC [] Tryz.call153 h (fun _ => Xm4) fun q1 h => ?_
 iterate 2 refine kO hT hC ?_
 refine kC hC [] Tryz.call153 h (fun _ => Xm4) fun q2 h => ?_
 iterate 2 refine kO hT hC ?_
 exact kD (Xah kR)
def Xtf (r : Int) : AV := .sv (.int .i64 r)
def Xte (r : Int) : Xbb := []
theorem Xu2 {p0 r} (h : Xgb p0 = some r) : AC Tryz.prog 138 [.sv (.int .i64 p0)] [] (Xtf r) (Xte r) := by
 refine Xaf hT Tryz.func138 rfl fun C hC => ?_
 unfold Xgb at h
 refine Xad ?_
 refine kO hT hC ?_
 refine Vc.nil (Xap (Xad ?_))
 refine kO hT hC ?_
 refine Vc.nil (Xan (Xad ?_))
 iterate 2 refine kO hT hC ?_
 refine Vc.nil ?_
 refine kS h ?_ ?_ <;> intro b1 h
 refine kt b1 (Xad ?_)
 refine kO hT hC ?_
 exact Vc.nil (Xah (Xdj (Xao kR)))
 refine kf b1 (Xad ?_)
 iterate 2 refine kO hT hC ?_
 refine Vc.nil ?_
 refine kS h ?_ ?_ <;> intro b2 h
 refine kt b2 (Xad ?_)
 refine kO hT hC ?_
 exact Vc.nil (Xah (Xdj (Xao kR)))
 refine kf b2 (Xad ?_)
 iterate 2 refine kO hT hC ?_
 refine Vc.nil ?_
 refine kS h ?_ ?_ <;> intro b3 h
 refine kt b3 (Xad ?_)
 refine kO hT hC ?_
 exact Vc.nil (Xah (Xdj (Xao kR)))
 refine kf b3 (Xag (Xaq (Xae (Xad ?_))))
 refine kO hT hC ?_
 exact Vc.nil (Xah kR)
def Ymm (r : Bool) : AV := .sv (.bool r)
def Yml (r : Bool) : Xbb := []
theorem Xlu {p0 r} (h : Xje p0 = some r) : AC Tryz.prog 98 [.agg [.sv (.int .i64 p0.Level), .sv (.int .i64 p0.Bits), .sv (.ints .i64 p0.Cols), .sv (.ints .i64 p0.Rows)]] [] (Ymm r) (Yml r) := by
 refine Xaf hT Tryz.func98 rfl fun C hC => ?_
 unfold Xje at h
 refine Xad ?_
 iterate 2 refine kO hT hC ?_
 refine Vc.nil ?_
 refine kL [1,2] [16] [_,_] [_] ?_
 refine kA h (fun v1 => ([(2, .sv (.bool v1)), (1, .any)], [(16, none)])) (fun v1 h => ?_) fun v1 h => ?_
 refine Xcu hm ?_
 refine kO hT hC ?_
 refine kC hC [] Tryz.call137 h (fun _ => Ybl) fun q2 h => ?_
 iterate 2 refine kO hT hC ?_
 refine kC hC [] Tryz.call138 h (fun _ => Xu2) fun q3 h => ?_
 refine kC hC [] Tryz.call136 h (fun _ => Xat) fun q4 h => ?_
 refine kO hT hC ?_
 refine kS h ?_ ?_ <;> intro b1 h
 iterate 2 refine kI hT hC b1 ?_
 refine kE hC b1 [] Tryz.call136 h (fun _ => Xat) fun q5 h => ?_
 refine kP hC true b1 ?_
 refine kO hT hC ?_
 exact kD kM
 iterate 3 refine kF hC b1 ?_
 refine kP hC false b1 ?_
 refine kO hT hC ?_
 exact kD kM
 exact Xah kR
def Yme (r : Bool) : AV := .sv (.bool r)
def Ymd (r : Bool) : Xbb := []
theorem Xof {p0 r} (h : Xkw p0 = some r) : AC Tryz.prog 99 [.agg [.sv (.int .i64 p0.Qp), .sv (.bool p0.Large), .sv (.bool p0.Exact), .sv (.bool p0.Confined)]] [] (Yme r) (Ymd r) := by
 refine Xaf hT Tryz.func99 rfl fun C hC => ?_
 unfold Xkw at h
 refine Xad ?_
 iterate 2 refine kO hT hC ?_
 refine Vc.nil ?_
 refine kL [1,2] [16] [_,_] [_] ?_
 refine kA h (fun v1 => ([(2, .sv (.bool v1)), (1, .any)], [(16, none)])) (fun v1 h => ?_) fun v1 h => ?_
 refine Xac ?_
 iterate 2 refine kO hT hC ?_
 refine kC hC [] Tryz.call136 h (fun _ => Xat) fun q2 h => ?_
 refine kO hT hC ?_
 refine kS h ?_ ?_ <;> intro b1 h
 iterate 3 refine kI hT hC b1 ?_
 refine kS h ?_ ?_ <;> intro b2 h
 iterate 2 refine kI hT hC b2 ?_
 refine Xa1 hC rfl rfl rfl rfl b1 rfl rfl (b := true) b2 rfl rfl rfl trivial ?_
 refine kI hT hC b1 ?_
 refine kP hC true b1 ?_
 refine kO hT hC ?_
 exact Vc.nil kM
 iterate 2 refine kF hC b2 ?_
 refine Xa1 hC rfl rfl rfl rfl b1 rfl rfl (b := false) b2 rfl rfl rfl trivial ?_
 refine kI hT hC b1 ?_
 refine kP hC true b1 ?_
 refine kO hT hC ?_
 exact Vc.nil kM
 iterate 3 refine kF hC b1 ?_
 iterate 2 refine Xd7 hC rfl rfl rfl rfl rfl rfl ?_
 iterate 2 refine kF hC b1 ?_
 refine kP hC false b1 ?_
 refine kO hT hC ?_
 exact Vc.nil kM
 exact Xah kR
def Yet (r : Int) : AV := .sv (.int .i64 r)
def Yes (r : Int) : Xbb := []
theorem Xih {p0 r} (h : Xfm p0 = some r) : AC Tryz.prog 100 [.agg [.sv (.int .i64 p0.Level), .sv (.int .i64 p0.Bits), .sv (.ints .i64 p0.Cols), .sv (.ints .i64 p0.Rows)]] [] (Yet r) (Yes r) := by
 refine Xaf hT Tryz.func100 rfl fun C hC => ?_
 unfold Xfm at h
 refine Xad ?_
 iterate 2 refine kO hT hC ?_
 refine Vc.nil (Xap (Xad ?_))
 refine kO hT hC ?_
 refine kC hC [] Tryz.call98 h (fun _ => Xlu) fun q1 h => ?_
 refine kO hT hC ?_
 refine Vc.nil ?_
 refine kS h ?_ ?_ <;> intro b1 h
 refine kt b1 (Xad ?_)
 refine kO hT hC ?_
 exact Vc.nil (Xah (Xao kR))
 refine kf b1 (Xag (Xae (Xad ?_)))
 iterate 8 refine kO hT hC ?_
 exact Vc.nil (Xah kR)
def Yjs (r : (Int × Int)) : AV := .tup [.sv (.int .i64 r.1), .sv (.int .i64 r.2)]
def Yjr (r : (Int × Int)) : Xbb := []
theorem Xvy {p0 r} (h : Xif p0 = some r) : AC Tryz.prog 112 [.agg [.sv (.int .i64 p0.Level), .sv (.int .i64 p0.Bits), .sv (.ints .i64 p0.Cols), .sv (.ints .i64 p0.Rows)]] [] (Yjs r) (Yjr r) := by
 refine Xaf hT Tryz.func112 rfl fun C hC => ?_
 unfold Xif at h
 refine Xad ?_
 iterate 3 refine kO hT hC ?_
 refine Vc.nil (Xap (Xad ?_))
 refine kO hT hC ?_
 refine kC hC [] Tryz.call98 h (fun _ => Xlu) fun q1 h => ?_
 refine kO hT hC ?_
 refine Vc.nil ?_
 refine kS h ?_ ?_ <;> intro b1 h
 refine kt b1 (Xad ?_)
 iterate 2 refine kO hT hC ?_
 exact Vc.nil (Xah (Xao kR))
 refine kf b1 (Xag (Xae ?_))
 refine Xcq hm ?_
 iterate 2 refine kO hT hC ?_
 refine kC hC [] Tryz.call153 h (fun _ => Xm4) fun q2 h => ?_
 iterate 3 refine kO hT hC ?_
 refine kC hC [] Tryz.call153 h (fun _ => Xm4) fun q3 h => ?_
 iterate 3 refine kO hT hC ?_
 exact kD (Xah kR)
def Ymh (r : Bool) : AV := .sv (.bool r)
def Ymg (r : Bool) : Xbb := []
theorem Xjd {p0 r} (h : Xhg p0 = some r) : AC Tryz.prog 139 [.agg [.sv (.int .i64 p0.Wide), .sv (.int .i64 p0.High), .sv (.str p0.Dots)]] [] (Ymh r) (Ymg r) := by
 refine Xaf hT Tryz.func139 rfl fun C hC => ?_
 unfold Xhg at h
 refine Xad ?_
 iterate 2 refine kO hT hC ?_
 refine Vc.nil ?_
 refine kL [1,2] [16] [_,_] [_] ?_
 refine kA h (fun v1 => ([(2, .sv (.bool v1)), (1, .any)], [(16, none)])) (fun v1 h => ?_) fun v1 h => ?_
 refine Xac ?_
 iterate 2 refine kO hT hC ?_
 refine kC hC [] Tryz.call136 h (fun _ => Xat) fun q2 h => ?_
 refine kO hT hC ?_
 refine kS h ?_ ?_ <;> intro b1 h
 iterate 2 refine kI hT hC b1 ?_
 refine kE hC b1 [] Tryz.call136 h (fun _ => Xat) fun q3 h => ?_
 refine kP hC true b1 ?_
 refine kO hT hC ?_
 refine kS h ?_ ?_ <;> intro b2 h
 iterate 9 refine kI hT hC b2 ?_
 refine kP hC true b2 ?_
 refine kO hT hC ?_
 exact Vc.nil kM
 iterate 9 refine kF hC b2 ?_
 refine kP hC false b2 ?_
 refine kO hT hC ?_
 exact Vc.nil kM
 iterate 3 refine kF hC b1 ?_
 refine kP hC false b1 ?_
 refine kO hT hC ?_
 iterate 9 refine kF hC rfl ?_
 iterate 2 refine kO hT hC ?_
 exact Vc.nil kM
 exact Xah kR
def Yb0 (r : Bool) : AV := .sv (.bool r)
def Ybz (r : Bool) : Xbb := []
theorem Xsr {p0 p1 r} (h : Xjj p0 p1 = some r) : AC Tryz.prog 101 [.agg [.sv (.int .i64 p0.Wide), .sv (.int .i64 p0.High), .sv (.str p0.Dots)], .agg [.sv (.int .i64 p1.Level), .sv (.int .i64 p1.Bits), .sv (.ints .i64 p1.Cols), .sv (.ints .i64 p1.Rows)]] [] (Yb0 r) (Ybz r) := by
 refine Xaf hT Tryz.func101 rfl fun C hC => ?_
 unfold Xjj at h
 refine Xad ?_
 iterate 3 refine kO hT hC ?_
 refine kN ?_
 refine kO hT hC ?_
 refine kC hC [] Tryz.call112 h (fun _ => Xvy) fun q1 h => ?_
 iterate 5 refine kO hT hC ?_
 refine Vc.nil ?_
 refine kL [2,4,5,6] [32] [_,_,_,_] [_] ?_
 refine kA h (fun v2 => ([(4, .sv (.bool v2)), (2, .any), (5, .any), (6, .any)], [(32, none)])) (fun v2 h => ?_) fun v2 h => ?_
 refine Xac ?_
 refine kO hT hC ?_
 refine kC hC [] Tryz.call139 h (fun _ => Xjd) fun q3 h => ?_
 refine kO hT hC ?_
 refine kS h ?_ ?_ <;> intro b1 h
 iterate 4 refine kI hT hC b1 ?_
 refine kP hC true b1 ?_
 refine kO hT hC ?_
 refine kS h ?_ ?_ <;> intro b2 h
 iterate 4 refine kI hT hC b2 ?_
 refine kP hC true b2 ?_
 refine kO hT hC ?_
 exact Vc.nil kM
 iterate 4 refine kF hC b2 ?_
 refine kP hC false b2 ?_
 refine kO hT hC ?_
 exact Vc.nil kM
 iterate 4 refine kF hC b1 ?_
 refine kP hC false b1 ?_
 refine kO hT hC ?_
 iterate 4 refine kF hC rfl ?_
 iterate 2 refine kO hT hC ?_
 exact Vc.nil kM
 exact Xah kR
def Yl6 (r : Bool) : AV := .sv (.bool r)
def Yl5 (r : Bool) : Xbb := []
theorem Yp7 {p0 r} (h : Xqv p0 = some r) : AC Tryz.prog 68 [.agg [.sv (.bool p0.HasSeq), .sv (.bool p0.HasPar), .sv (.bool p0.HasRef), .sv (.int .i64 p0.Seq.Level), .sv (.int .i64 p0.Seq.Bits), .sv (.ints .i64 p0.Seq.Cols), .sv (.ints .i64 p0.Seq.Rows), .sv (.int .i64 p0.Par.Qp), .sv (.bool p0.Par.Large), .sv (.bool p0.Par.Exact), .sv (.bool p0.Par.Confined), .sv (.int .i64 p0.Frame), .sv (.int .i64 p0.Got), .sv (.int .i64 p0.Now.Wide), .sv (.int .i64 p0.Now.High), .sv (.str p0.Now.Dots), .sv (.int .i64 p0.Ref.Wide), .sv (.int .i64 p0.Ref.High), .sv (.str p0.Ref.Dots)]] [] (Yl6 r) (Yl5 r) := by
 refine Xaf hT Tryz.func68 rfl fun C hC => ?_
 unfold Xqv at h
 refine Xad ?_
 iterate 2 refine kO hT hC ?_
 refine Vc.nil (Xap (Xad ?_))
 iterate 3 refine kO hT hC ?_
 refine Vc.nil ?_
 refine kS h ?_ ?_ <;> intro b1 h
 refine kt b1 ?_
 refine kL [1,2] [16] [_,_] [_] ?_
 refine kA h (fun v1 => ([(2, .sv (.bool v1)), (1, .any)], [(16, none)])) (fun v1 h => ?_) fun v1 h => ?_
 refine Xac ?_
 iterate 4 refine kO hT hC ?_
 refine kS h ?_ ?_ <;> intro b2 h
 iterate 3 refine kF hC (kn b2) ?_
 refine kP hC false (kn b2) ?_
 refine kO hT hC ?_
 iterate 4 refine kF hC rfl ?_
 iterate 2 refine kO hT hC ?_
 iterate 4 refine kF hC rfl ?_
 iterate 2 refine kO hT hC ?_
 iterate 5 refine kF hC rfl ?_
 iterate 2 refine kO hT hC ?_
 iterate 5 refine kF hC rfl ?_
 iterate 2 refine kO hT hC ?_
 iterate 4 refine kF hC rfl ?_
 iterate 2 refine kO hT hC ?_
 iterate 3 refine kF hC rfl ?_
 iterate 2 refine kO hT hC ?_
 iterate 3 refine kF hC rfl ?_
 iterate 2 refine kO hT hC ?_
 iterate 3 refine kF hC rfl ?_
 iterate 2 refine kO hT hC ?_
 iterate 3 refine kF hC rfl ?_
 iterate 2 refine kO hT hC ?_
 exact Vc.nil kM
 iterate 3 refine kI hT hC (kn b2) ?_
 refine kP hC true (kn b2) ?_
 refine kO hT hC ?_
 refine kS h ?_ ?_ <;> intro b3 h
 iterate 4 refine kF hC (kn b3) ?_
 refine kP hC false (kn b3) ?_
 refine kO hT hC ?_
 iterate 4 refine kF hC rfl ?_
 iterate 2 refine kO hT hC ?_
 iterate 5 refine kF hC rfl ?_
 iterate 2 refine kO hT hC ?_
 iterate 5 refine kF hC rfl ?_
 iterate 2 refine kO hT hC ?_
 iterate 4 refine kF hC rfl ?_
 iterate 2 refine kO hT hC ?_
 iterate 3 refine kF hC rfl ?_
 iterate 2 refine kO hT hC ?_
 iterate 3 refine kF hC rfl ?_
 iterate 2 refine kO hT hC ?_
 iterate 3 refine kF hC rfl ?_
 iterate 2 refine kO hT hC ?_
 iterate 3 refine kF hC rfl ?_
 iterate 2 refine kO hT hC ?_
 exact Vc.nil kM
 iterate 4 refine kI hT hC (kn b3) ?_
 refine kP hC true (kn b3) ?_
 refine kO hT hC ?_
 refine kS h ?_ ?_ <;> intro b4 h
 iterate 4 refine kI hT hC b4 ?_
 refine kP hC true b4 ?_
 refine kO hT hC ?_
 refine kS h ?_ ?_ <;> intro b5 h
 iterate 5 refine kI hT hC b5 ?_
 refine kP hC true b5 ?_
 refine kO hT hC ?_
 refine kS h ?_ ?_ <;> intro b6 h
 iterate 5 refine kI hT hC b6 ?_
 refine kP hC true b6 ?_
 refine kO hT hC ?_
 refine kS h ?_ ?_ <;> intro b7 h
 iterate 3 refine kI hT hC b7 ?_
 refine Xn2 hC rfl rfl rfl rfl b7 rfl rfl rfl Yq7 rfl rfl ?_
 refine kP hC true b7 ?_
 refine kO hT hC ?_
 refine kS h ?_ ?_ <;> intro b8 h
 iterate 3 refine kI hT hC b8 ?_
 refine kP hC true b8 ?_
 refine kO hT hC ?_
 refine kS h ?_ ?_ <;> intro b9 h
 iterate 3 refine kI hT hC b9 ?_
 refine kP hC true b9 ?_
 refine kO hT hC ?_
 refine kS h ?_ ?_ <;> intro b10 h
 iterate 2 refine kI hT hC b10 ?_
 refine kE hC b10 [] Tryz.call97 h (fun _ => Xix) fun q2 h => ?_
 refine kP hC true b10 ?_
 refine kO hT hC ?_
 refine kS h ?_ ?_ <;> intro b11 h
 iterate 2 refine kI hT hC b11 ?_
 refine kE hC b11 [] Tryz.call97 h (fun _ => Xix) fun q3 h => ?_
 refine kP hC true b11 ?_
 refine kO hT hC ?_
 exact Vc.nil kM
 iterate 3 refine kF hC b11 ?_
 refine kP hC false b11 ?_
 refine kO hT hC ?_
 exact Vc.nil kM
 iterate 3 refine kF hC b10 ?_
 refine kP hC false b10 ?_
 refine kO hT hC ?_
 iterate 3 refine kF hC rfl ?_
 iterate 2 refine kO hT hC ?_
 exact Vc.nil kM
 iterate 3 refine kF hC b9 ?_
 refine kP hC false b9 ?_
 refine kO hT hC ?_
 iterate 3 refine kF hC rfl ?_
 iterate 2 refine kO hT hC ?_
 iterate 3 refine kF hC rfl ?_
 iterate 2 refine kO hT hC ?_
 exact Vc.nil kM
 iterate 3 refine kF hC b8 ?_
 refine kP hC false b8 ?_
 refine kO hT hC ?_
 iterate 3 refine kF hC rfl ?_
 iterate 2 refine kO hT hC ?_
 iterate 3 refine kF hC rfl ?_
 iterate 2 refine kO hT hC ?_
 iterate 3 refine kF hC rfl ?_
 iterate 2 refine kO hT hC ?_
 exact Vc.nil kM
 iterate 4 refine kF hC b7 ?_
 refine kP hC false b7 ?_
 refine kO hT hC ?_
 iterate 3 refine kF hC rfl ?_
 iterate 2 refine kO hT hC ?_
 iterate 3 refine kF hC rfl ?_
 iterate 2 refine kO hT hC ?_
 iterate 3 refine kF hC rfl ?_
 iterate 2 refine kO hT hC ?_
 iterate 3 refine kF hC rfl ?_
 iterate 2 refine kO hT hC ?_
 exact Vc.nil kM
 iterate 5 refine kF hC b6 ?_
 refine kP hC false b6 ?_
 refine kO hT hC ?_
 iterate 4 refine kF hC rfl ?_
 iterate 2 refine kO hT hC ?_
 iterate 3 refine kF hC rfl ?_
 iterate 2 refine kO hT hC ?_
 iterate 3 refine kF hC rfl ?_
 iterate 2 refine kO hT hC ?_
 iterate 3 refine kF hC rfl ?_
 iterate 2 refine kO hT hC ?_
 iterate 3 refine kF hC rfl ?_
 iterate 2 refine kO hT hC ?_
 exact Vc.nil kM
 iterate 5 refine kF hC b5 ?_
 refine kP hC false b5 ?_
 refine kO hT hC ?_
 iterate 5 refine kF hC rfl ?_
 iterate 2 refine kO hT hC ?_
 iterate 4 refine kF hC rfl ?_
 iterate 2 refine kO hT hC ?_
 iterate 3 refine kF hC rfl ?_
 iterate 2 refine kO hT hC ?_
 iterate 3 refine kF hC rfl ?_
 iterate 2 refine kO hT hC ?_
 iterate 3 refine kF hC rfl ?_
 iterate 2 refine kO hT hC ?_
 iterate 3 refine kF hC rfl ?_
 iterate 2 refine kO hT hC ?_
 exact Vc.nil kM
 iterate 4 refine kF hC b4 ?_
 refine kP hC false b4 ?_
 refine kO hT hC ?_
 iterate 5 refine kF hC rfl ?_
 iterate 2 refine kO hT hC ?_
 iterate 5 refine kF hC rfl ?_
 iterate 2 refine kO hT hC ?_
 iterate 4 refine kF hC rfl ?_
 iterate 2 refine kO hT hC ?_
 iterate 3 refine kF hC rfl ?_
 iterate 2 refine kO hT hC ?_
 iterate 3 refine kF hC rfl ?_
 iterate 2 refine kO hT hC ?_
 iterate 3 refine kF hC rfl ?_
 iterate 2 refine kO hT hC ?_
 iterate 3 refine kF hC rfl ?_
 iterate 2 refine kO hT hC ?_
 exact Vc.nil kM
 exact Xah (Xao kR)
 refine kf b1 (Xag (Xae (Xap ?_)))
 refine kL [1] [16] [_] [_] ?_
 refine kA h (fun v4 => ([(90, .sv (.bool v4))], [])) (fun v4 h => ?_) fun v4 h => ?_
 refine Xac ?_
 iterate 2 refine kO hT hC ?_
 refine kC hC [] Tryz.call98 h (fun _ => Xlu) fun q5 h => ?_
 iterate 2 refine kO hT hC ?_
 refine kS h ?_ ?_ <;> intro b12 h
 iterate 3 refine kI hT hC (kn b12) ?_
 refine kS h ?_ ?_ <;> intro b13 h
 iterate 2 refine kI hT hC b13 ?_
 refine kE hC b13 [] Tryz.call99 h (fun _ => Xof) fun q6 h => ?_
 refine kI hT hC b13 ?_
 refine Xa1 hC rfl rfl rfl rfl (kn b12) rfl rfl (b := true) b13 rfl rfl rfl trivial ?_
 refine kP hC false (kn b12) ?_
 refine kO hT hC ?_
 refine kS h ?_ ?_ <;> intro b14 h
 iterate 4 refine kI hT hC (kn b14) ?_
 iterate 4 refine kF hC (kn b13) ?_
 refine Xa1 hC rfl rfl rfl rfl (kn b14) rfl rfl (b := false) (kn b13) rfl rfl rfl trivial ?_
 refine kP hC false (kn b14) ?_
 exact Vc.nil kM
 iterate 4 refine kF hC (kn b14) ?_
 iterate 4 refine Xd7 hC rfl rfl rfl rfl rfl rfl ?_
 refine kF hC (kn b14) ?_
 refine kP hC true (kn b14) ?_
 exact Vc.nil kM
 iterate 4 refine kF hC b13 ?_
 refine Xa1 hC rfl rfl rfl rfl (kn b12) rfl rfl (b := false) b13 rfl rfl rfl trivial ?_
 refine kP hC false (kn b12) ?_
 refine kO hT hC ?_
 iterate 4 refine kI hT hC rfl ?_
 iterate 3 refine kI hT hC (kn b13) ?_
 refine Xn2 hC rfl rfl rfl rfl (kn b13) rfl rfl rfl Yq7 rfl rfl ?_
 refine Xa1 hC rfl rfl rfl rfl rfl rfl rfl (b := true) (kn b13) rfl rfl rfl trivial ?_
 refine kO hT hC ?_
 exact Vc.nil kM
 iterate 3 refine kF hC (kn b12) ?_
 iterate 4 refine Xd7 hC rfl rfl rfl rfl rfl rfl ?_
 refine kF hC (kn b12) ?_
 refine kP hC true (kn b12) ?_
 refine kO hT hC ?_
 iterate 4 refine kF hC rfl ?_
 iterate 4 refine Xd7 hC rfl rfl rfl rfl rfl rfl ?_
 refine kF hC rfl ?_
 refine kO hT hC ?_
 exact Vc.nil kM
 refine kS h ?_ ?_ <;> intro b15 h
 refine kt b15 (Xad ?_)
 refine kO hT hC ?_
 exact Vc.nil (Xah (Xao kR))
 refine kf b15 (Xag (Xae (Xap ?_)))
 refine kL [1] [16] [_] [_] ?_
 refine kA h (fun v7 => ([(130, .sv (.bool v7))], [])) (fun v7 h => ?_) fun v7 h => ?_
 refine Xcu hm ?_
 iterate 4 refine kO hT hC ?_
 refine kS h ?_ ?_ <;> intro b16 h
 iterate 8 refine kF hC b16 ?_
 refine kP hC true b16 ?_
 refine kO hT hC ?_
 iterate 3 refine kF hC rfl ?_
 iterate 2 refine kO hT hC ?_
 iterate 6 refine kF hC rfl ?_
 iterate 2 refine kO hT hC ?_
 iterate 4 refine kF hC rfl ?_
 iterate 7 refine Xd7 hC rfl rfl rfl rfl rfl rfl ?_
 refine kF hC rfl ?_
 refine kO hT hC ?_
 exact kD kM
 iterate 6 refine kI hT hC b16 ?_
 refine kJ hT hC b16 h fun h => ?_
 refine kI hT hC b16 ?_
 refine kP hC false b16 ?_
 refine kO hT hC ?_
 refine kS h ?_ ?_ <;> intro b17 h
 iterate 3 refine kF hC b17 ?_
 refine kP hC true b17 ?_
 refine kO hT hC ?_
 iterate 6 refine kF hC rfl ?_
 iterate 2 refine kO hT hC ?_
 iterate 4 refine kF hC rfl ?_
 iterate 7 refine Xd7 hC rfl rfl rfl rfl rfl rfl ?_
 refine kF hC rfl ?_
 refine kO hT hC ?_
 exact kD kM
 iterate 3 refine kI hT hC b17 ?_
 refine kP hC false b17 ?_
 refine kO hT hC ?_
 refine kS h ?_ ?_ <;> intro b18 h
 iterate 6 refine kF hC b18 ?_
 refine kP hC true b18 ?_
 refine kO hT hC ?_
 iterate 4 refine kF hC rfl ?_
 iterate 7 refine Xd7 hC rfl rfl rfl rfl rfl rfl ?_
 refine kF hC rfl ?_
 refine kO hT hC ?_
 exact kD kM
 iterate 4 refine kI hT hC b18 ?_
 refine kE hC b18 [] Tryz.call100 h (fun _ => Xih) fun q8 h => ?_
 refine kI hT hC b18 ?_
 refine kP hC false b18 ?_
 refine kO hT hC ?_
 refine kS h ?_ ?_ <;> intro b19 h
 iterate 4 refine kF hC b19 ?_
 iterate 7 refine Xd7 hC rfl rfl rfl rfl rfl rfl ?_
 refine kF hC b19 ?_
 refine kP hC true b19 ?_
 exact kD kM
 iterate 4 refine kI hT hC b19 ?_
 refine kS h ?_ ?_ <;> intro b20 h
 iterate 4 refine kF hC (kn b20) ?_
 iterate 2 refine Xd7 hC rfl rfl rfl rfl rfl rfl ?_
 refine kF hC (kn b20) ?_
 refine Xa1 hC rfl rfl rfl rfl b19 rfl rfl (b := false) (kn b20) rfl rfl rfl trivial ?_
 refine kP hC false b19 ?_
 exact kD kM
 iterate 4 refine kI hT hC (kn b20) ?_
 refine kS h ?_ ?_ <;> intro b21 h
 iterate 2 refine kF hC b21 ?_
 refine Xa1 hC rfl rfl rfl rfl (kn b20) rfl rfl (b := true) b21 rfl rfl rfl trivial ?_
 refine Xa1 hC rfl rfl rfl rfl b19 rfl rfl (b := true) (kn b20) rfl rfl rfl trivial ?_
 refine kP hC false b19 ?_
 exact kD kM
 iterate 2 refine kI hT hC b21 ?_
 refine Xa1 hC rfl rfl rfl rfl (kn b20) rfl rfl (b := false) b21 rfl rfl rfl trivial ?_
 refine Xa1 hC rfl rfl rfl rfl b19 rfl rfl (b := true) (kn b20) rfl rfl rfl trivial ?_
 refine kP hC false b19 ?_
 exact kD kM
 refine kS h ?_ ?_ <;> intro b22 h
 refine kt b22 (Xad ?_)
 refine kO hT hC ?_
 exact Vc.nil (Xah (Xao kR))
 refine kf b22 (Xag (Xae (Xap ?_)))
 refine kL [1] [16] [_] [_] ?_
 refine kA h (fun v9 => ([(157, .sv (.bool v9))], [])) (fun v9 h => ?_) fun v9 h => ?_
 refine Xac ?_
 iterate 4 refine kO hT hC ?_
 refine kS h ?_ ?_ <;> intro b23 h
 iterate 4 refine kI hT hC b23 ?_
 refine kS h ?_ ?_ <;> intro b24 h
 iterate 6 refine kF hC b24 ?_
 refine Xa1 hC rfl rfl rfl rfl b23 rfl rfl (b := true) b24 rfl rfl rfl trivial ?_
 refine kP hC true b23 ?_
 refine kO hT hC ?_
 iterate 4 refine kF hC rfl ?_
 iterate 4 refine Xd7 hC rfl rfl rfl rfl rfl rfl ?_
 refine kF hC rfl ?_
 refine kO hT hC ?_
 exact Vc.nil kM
 iterate 4 refine kI hT hC b24 ?_
 refine kE hC b24 [] Tryz.call101 h (fun _ => Xsr) fun q10 h => ?_
 refine kI hT hC b24 ?_
 refine Xa1 hC rfl rfl rfl rfl b23 rfl rfl (b := false) b24 rfl rfl rfl trivial ?_
 refine kP hC true b23 ?_
 refine kO hT hC ?_
 refine kS h ?_ ?_ <;> intro b25 h
 iterate 4 refine kI hT hC (kn b25) ?_
 refine kS h ?_ ?_ <;> intro b26 h
 iterate 2 refine kI hT hC b26 ?_
 refine kE hC b26 [] Tryz.call97 h (fun _ => Xix) fun q11 h => ?_
 refine kI hT hC b26 ?_
 refine Xa1 hC rfl rfl rfl rfl (kn b25) rfl rfl (b := true) b26 rfl rfl rfl trivial ?_
 refine kP hC false (kn b25) ?_
 exact Vc.nil kM
 iterate 4 refine kF hC b26 ?_
 refine Xa1 hC rfl rfl rfl rfl (kn b25) rfl rfl (b := false) b26 rfl rfl rfl trivial ?_
 refine kP hC false (kn b25) ?_
 exact Vc.nil kM
 iterate 4 refine kF hC (kn b25) ?_
 iterate 4 refine Xd7 hC rfl rfl rfl rfl rfl rfl ?_
 refine kF hC (kn b25) ?_
 refine kP hC true (kn b25) ?_
 exact Vc.nil kM
 iterate 4 refine kF hC b23 ?_
 iterate 6 refine Xd7 hC rfl rfl rfl rfl rfl rfl ?_
 refine kF hC b23 ?_
 refine kP hC false b23 ?_
 refine kO hT hC ?_
 iterate 4 refine kI hT hC rfl ?_
 refine kS h ?_ ?_ <;> intro b27 h
 iterate 2 refine kI hT hC b27 ?_
 refine kE hC b27 [] Tryz.call97 h (fun _ => Xix) fun q12 h => ?_
 refine kI hT hC b27 ?_
 refine Xa1 hC rfl rfl rfl rfl rfl rfl rfl (b := true) b27 rfl rfl rfl trivial ?_
 refine kO hT hC ?_
 exact Vc.nil kM
 iterate 4 refine kF hC b27 ?_
 refine Xa1 hC rfl rfl rfl rfl rfl rfl rfl (b := false) b27 rfl rfl rfl trivial ?_
 refine kO hT hC ?_
 exact Vc.nil kM
 refine kS h ?_ ?_ <;> intro b28 h
 refine kt b28 (Xad ?_)
 refine kO hT hC ?_
 exact Vc.nil (Xah (Xao kR))
 refine kf b28 (Xag (Xae ?_))
 refine kL [1] [16] [_] [_] ?_
 refine kA h (fun v13 => ([(2, .sv (.bool v13)), (1, .any)], [(16, none)])) (fun v13 h => ?_) fun v13 h => ?_
 refine Xac ?_
 iterate 3 refine kO hT hC ?_
 refine kS h ?_ ?_ <;> intro b29 h
 iterate 4 refine kI hT hC b29 ?_
 refine kE hC b29 [] Tryz.call101 h (fun _ => Xsr) fun q14 h => ?_
 refine kP hC true b29 ?_
 refine kO hT hC ?_
 refine kS h ?_ ?_ <;> intro b30 h
 iterate 4 refine kF hC b30 ?_
 iterate 3 refine Xd7 hC rfl rfl rfl rfl rfl rfl ?_
 refine kF hC b30 ?_
 refine kP hC true b30 ?_
 refine kO hT hC ?_
 exact Vc.nil kM
 iterate 4 refine kI hT hC b30 ?_
 iterate 3 refine kF hC (kn b29) ?_
 refine Xa1 hC rfl rfl rfl rfl b30 rfl rfl (b := false) (kn b29) rfl rfl rfl trivial ?_
 refine kP hC false b30 ?_
 refine kO hT hC ?_
 exact Vc.nil kM
 iterate 5 refine kF hC b29 ?_
 refine kP hC false b29 ?_
 refine kO hT hC ?_
 iterate 4 refine kI hT hC rfl ?_
 iterate 2 refine kI hT hC (kn b29) ?_
 refine kE hC (kn b29) [] Tryz.call97 h (fun _ => Xix) fun q15 h => ?_
 refine Xa1 hC rfl rfl rfl rfl rfl rfl rfl (b := true) (kn b29) rfl rfl rfl trivial ?_
 iterate 2 refine kO hT hC ?_
 exact Vc.nil kM
 exact Xah kR
def Yfb (r : Bool) : AV := .sv (.bool r)
def Yfa (r : Bool) : Xbb := []
theorem Xtp {p0 r} (h : Xk1 p0 = some r) : AC Tryz.prog 102 [.sv (.int .i64 p0)] [] (Yfb r) (Yfa r) := by
 refine Xaf hT Tryz.func102 rfl fun C hC => ?_
 unfold Xk1 at h
 refine Xad ?_
 refine kO hT hC ?_
 refine Vc.nil ?_
 refine kL [0,2] [] [_,_] [] ?_
 refine kA h (fun v1 => ([(2, .sv (.bool v1)), (0, .any)], [])) (fun v1 h => ?_) fun v1 h => ?_
 refine Xac ?_
 iterate 3 refine kO hT hC ?_
 refine kS h ?_ ?_ <;> intro b1 h
 iterate 2 refine kF hC b1 ?_
 refine kP hC true b1 ?_
 refine kO hT hC ?_
 iterate 2 refine kF hC rfl ?_
 iterate 2 refine kO hT hC ?_
 iterate 2 refine kF hC rfl ?_
 iterate 2 refine kO hT hC ?_
 exact Vc.nil kM
 iterate 2 refine kI hT hC b1 ?_
 refine kP hC false b1 ?_
 refine kO hT hC ?_
 refine kS h ?_ ?_ <;> intro b2 h
 iterate 2 refine kF hC b2 ?_
 refine kP hC true b2 ?_
 refine kO hT hC ?_
 iterate 2 refine kF hC rfl ?_
 iterate 2 refine kO hT hC ?_
 exact Vc.nil kM
 iterate 2 refine kI hT hC b2 ?_
 refine kP hC false b2 ?_
 refine kO hT hC ?_
 refine kS h ?_ ?_ <;> intro b3 h
 iterate 2 refine kF hC b3 ?_
 refine kP hC true b3 ?_
 refine kO hT hC ?_
 exact Vc.nil kM
 iterate 2 refine kI hT hC b3 ?_
 refine kP hC false b3 ?_
 refine kO hT hC ?_
 exact Vc.nil kM
 exact Xah kR
def Yj2 (r : ByteArray) : AV := .sv (.str r)
def Yj1 (r : ByteArray) : Xbb := []
theorem Xm2 {p0 p1 r} (h : Xik p0 p1 = some r) : AC Tryz.prog 140 [.sv (.int .i64 p0), .sv (.int .i64 p1)] [] (Yj2 r) (Yj1 r) := by
 refine Xaf hT Tryz.func140 rfl fun C hC => ?_
 unfold Xik at h
 refine Xad ?_
 refine kO hT hC ?_
 refine kN ?_
 refine kO hT hC ?_
 obtain ⟨hq, h⟩ := Xba h
 refine Yf3 hT hC rfl rfl rfl rfl ⟨hq.1, hq.2.1, hq.2.2, by decide⟩ ?_
 refine kO hT hC ?_
 refine Vc.nil (Xap (Xad ?_))
 iterate 3 refine kO hT hC ?_
 refine Vc.nil ?_
 refine kL [0,5,6] [128] [_,_,_] [_] ?_
 refine kX h (fun v2 => ([(0, .sv (.int .i64 v2.1)), (6, .sv (.int .i64 v2.2.1))], [(128, some (.ints .u8 v2.2.2))])) (fun v4 => ([(0, .any), (6, .any)], [(128, some (.ints .u8 v4))])) (kW hC []) (fun v2 s h => ?_) fun v4 h => ?_
 unfold Xj1 at h
 refine Xap (Xad ?_)
 iterate 2 refine kO hT hC ?_
 refine Vc.nil ?_
 refine kS h ?_ ?_ <;> intro b3 h
 refine kt b3 (Xag (Xae (Xap (Xan (Xad ?_)))))
 iterate 3 refine kO hT hC ?_
 refine kQ hT hC h fun h => ?_
 iterate 2 refine kO hT hC ?_
 iterate 2 refine kQ hT hC h fun h => ?_
 refine Vc.nil (Xac ?_)
 refine kO hT hC ?_
 refine kQ hT hC h fun h => ?_
 refine kO hT hC ?_
 refine Vc.nil (Xaq (Xae (Xac ?_)))
 iterate 3 refine kO hT hC ?_
 exact Vc.nil kG
 exact kf b3 (Xas (Xaz ku))
 refine Xae (Xad ?_)
 iterate 3 refine kO hT hC ?_
 exact Vc.nil (Xah kR)
def Yba (r : (ByteArray × Bool)) : AV := .tup [.sv (.str r.1), .sv (.bool r.2)]
def Ya9 (r : (ByteArray × Bool)) : Xbb := []
theorem Yeb {p0 r} (h : Xjb p0 = some r) : AC Tryz.prog 103 [.sv (.str p0)] [] (Yba r) (Ya9 r) := by
 refine Xaf hT Tryz.func103 rfl fun C hC => ?_
 unfold Xjb at h
 refine Xad ?_
 iterate 2 refine kO hT hC ?_
 refine Vc.nil (Xap ?_)
 refine kL [0] [] [_] [] ?_
 refine kA h (fun v1 => ([(22, .sv (.bool v1))], [])) (fun v1 h => ?_) fun v1 h => ?_
 refine Xac ?_
 iterate 4 refine kO hT hC ?_
 refine kS h ?_ ?_ <;> intro b1 h
 iterate 3 refine kF hC b1 ?_
 refine kP hC true b1 ?_
 refine kO hT hC ?_
 iterate 6 refine kF hC rfl ?_
 refine kO hT hC ?_
 exact Vc.nil kM
 iterate 3 refine kI hT hC b1 ?_
 refine kP hC false b1 ?_
 refine kO hT hC ?_
 refine kS h ?_ ?_ <;> intro b2 h
 iterate 6 refine kF hC b2 ?_
 refine kP hC true b2 ?_
 exact Vc.nil kM
 iterate 4 refine kI hT hC b2 ?_
 refine kJ hT hC b2 h fun h => ?_
 refine kI hT hC b2 ?_
 refine kP hC false b2 ?_
 exact Vc.nil kM
 refine kS h ?_ ?_ <;> intro b3 h
 refine kt b3 (Xad ?_)
 iterate 2 refine kO hT hC ?_
 exact Vc.nil (Xah (Xao kR))
 refine kf b3 (Xag (Xae (Xad ?_)))
 iterate 2 refine kO hT hC ?_
 refine Vc.nil (Xap (Xad ?_))
 refine kO hT hC ?_
 refine Vc.nil ?_
 refine kL [0,4,5] [368] [_,_,_] [_] ?_
 refine kX h (fun v4 => ([(5, .sv (.int .i64 v4.1))], [(368, some (.ints .u8 v4.2))])) (fun v7 => ([(0, .any), (5, .any)], [(368, some (.ints .u8 v7))])) (kW hC []) (fun v4 s h => ?_) fun v7 h => ?_
 unfold Xe5 at h
 refine Xap (Xad ?_)
 iterate 4 refine kO hT hC ?_
 refine Vc.nil ?_
 refine kS h ?_ ?_ <;> intro b6 h
 refine kt b6 (Xag (Xae (Xap (Xan (Xac ?_)))))
 iterate 3 refine kO hT hC ?_
 refine kQ hT hC h fun h => ?_
 refine kO hT hC ?_
 refine kC hC [] Tryz.call140 h (fun _ => Xm2) fun q8 h => ?_
 refine kT hT hC h fun h => ?_
 refine kO hT hC ?_
 refine Vc.nil (Xaq (Xae (Xac ?_)))
 iterate 3 refine kO hT hC ?_
 refine Vc.nil ?_
 obtain rfl := kj h
 exact Xy0 (kW hC [(368, 576)])
 exact kf b6 (Xas (Xaz ku))
 refine Xae (Xad ?_)
 iterate 3 refine kO hT hC ?_
 refine Vc.nil (Xap ?_)
 refine kL [4,6] [368] [_,_] [_] ?_
 refine kX h (fun v12 => ([(6, .sv (.int .i64 v12))], [])) (fun v15 => ([(6, .sv (.int .i64 v15))], [])) (kW hC []) (fun v12 s h => ?_) fun v15 h => ?_
 unfold Xe6 at h
 refine Xap ?_
 refine kL [4,6] [368] [_,_] [_] ?_
 refine kA h (fun v16 => ([(48, .sv (.bool v16))], [])) (fun v16 h => ?_) fun v16 h => ?_
 refine Xac ?_
 iterate 3 refine kO hT hC ?_
 refine kS h ?_ ?_ <;> intro b11 h
 iterate 3 refine kI hT hC b11 ?_
 iterate 2 refine kJ hT hC b11 h fun h => ?_
 refine kI hT hC b11 ?_
 refine kP hC true b11 ?_
 exact Vc.nil kM
 iterate 6 refine kF hC b11 ?_
 refine kP hC false b11 ?_
 exact Vc.nil kM
 refine kS h ?_ ?_ <;> intro b12 h
 refine kt b12 (Xag (Xae (Xan (Xac ?_))))
 iterate 3 refine kO hT hC ?_
 exact Vc.nil (Xaq kG)
 exact kf b12 (Xas (Xaz ku))
 refine Xae (Xap (Xad ?_))
 iterate 3 refine kO hT hC ?_
 refine Vc.nil ?_
 refine kS h ?_ ?_ <;> intro b13 h
 refine kt b13 (Xad ?_)
 iterate 2 refine kO hT hC ?_
 exact Vc.nil (Xah (Xao kR))
 refine kf b13 (Xag (Xae (Xad ?_)))
 iterate 3 refine kO hT hC ?_
 iterate 2 refine kQ hT hC h fun h => ?_
 iterate 2 refine kO hT hC ?_
 exact Vc.nil (Xah kR)
def Yjw (r : (Int × ByteArray × Bool)) : AV := .tup [.sv (.int .i64 r.1), .sv (.str r.2.1), .sv (.bool r.2.2)]
def Yjv (r : (Int × ByteArray × Bool)) : Xbb := []
theorem Ymq {p0 r} (h : Xkj p0 = some r) : AC Tryz.prog 69 [.sv (.str p0)] [] (Yjw r) (Yjv r) := by
 refine Xaf hT Tryz.func69 rfl fun C hC => ?_
 unfold Xkj at h
 refine Xad ?_
 iterate 3 refine kO hT hC ?_
 refine Vc.nil (Xap ?_)
 refine kL [0] [] [_] [] ?_
 refine kA h (fun v1 => ([(16, .sv (.bool v1))], [])) (fun v1 h => ?_) fun v1 h => ?_
 refine Xac ?_
 iterate 4 refine kO hT hC ?_
 refine kS h ?_ ?_ <;> intro b1 h
 iterate 5 refine kF hC b1 ?_
 refine kP hC true b1 ?_
 exact Vc.nil kM
 refine kI hT hC b1 ?_
 refine kJ hT hC b1 h fun h => ?_
 refine kI hT hC b1 ?_
 refine kE hC b1 [] Tryz.call102 h (fun _ => Xtp) fun q2 h => ?_
 refine kI hT hC b1 ?_
 refine kP hC false b1 ?_
 exact Vc.nil kM
 refine kS h ?_ ?_ <;> intro b2 h
 refine kt b2 (Xad ?_)
 iterate 3 refine kO hT hC ?_
 exact Vc.nil (Xah (Xao kR))
 refine kf b2 (Xag (Xae (Xad ?_)))
 refine kO hT hC ?_
 refine kQ hT hC h fun h => ?_
 refine kC hC [] Tryz.call103 h (fun _ => Yeb) fun q3 h => ?_
 iterate 5 refine kO hT hC ?_
 refine Vc.nil (Xap (Xad ?_))
 iterate 2 refine kO hT hC ?_
 refine Vc.nil ?_
 refine kS h ?_ ?_ <;> intro b3 h
 refine kt b3 (Xad ?_)
 iterate 3 refine kO hT hC ?_
 exact Vc.nil (Xah (Xao kR))
 refine kf b3 (Xag (Xae (Xad ?_)))
 refine kO hT hC ?_
 refine kQ hT hC h fun h => ?_
 iterate 5 refine kO hT hC ?_
 exact Vc.nil (Xah kR)
def Ye3 (r : (Int × Int × Bool)) : AV := .tup [.sv (.int .i64 r.1), .sv (.int .i64 r.2.1), .sv (.bool r.2.2)]
def Ye2 (r : (Int × Int × Bool)) : Xbb := []
theorem Xlx {p0 p1 p2 r} (h : Xci p0 p1 p2 = some r) : AC Tryz.prog 105 [.sv (.str p0), .sv (.int .i64 p1), .sv (.int .i64 p2)] [] (Ye3 r) (Ye2 r) := by
 refine Xaf hT Tryz.func105 rfl fun C hC => ?_
 unfold Xci at h
 refine Xad ?_
 iterate 3 refine kO hT hC ?_
 refine Vc.nil (Xap (Xad ?_))
 iterate 6 refine kO hT hC ?_
 refine Vc.nil ?_
 refine kS h ?_ ?_ <;> intro b1 h
 refine kt b1 (Xad ?_)
 iterate 3 refine kO hT hC ?_
 exact Vc.nil (Xah (Xao kR))
 refine kf b1 (Xag (Xae (Xad ?_)))
 refine kO hT hC ?_
 refine Vc.nil (Xap (Xad ?_))
 iterate 2 refine kO hT hC ?_
 refine Vc.nil ?_
 refine kL [0,1,2,9,10] [] [_,_,_,_,_] [] ?_
 refine kX h (fun v2 => ([(9, .sv (.int .i64 v2.1)), (10, .sv (.int .i64 v2.2))], [])) (fun v4 => ([(9, .sv (.int .i64 v4)), (0, .any), (10, .any)], [])) (kW hC []) (fun v2 s h => ?_) fun v4 h => ?_
 unfold Xil at h
 refine Xap (Xad ?_)
 iterate 5 refine kO hT hC ?_
 refine Vc.nil ?_
 refine kS h ?_ ?_ <;> intro b4 h
 refine kt b4 (Xag (Xae (Xap (Xan (Xac ?_)))))
 iterate 4 refine kO hT hC ?_
 refine kQ hT hC h fun h => ?_
 iterate 4 refine kO hT hC ?_
 refine Vc.nil (Xaq (Xae (Xac ?_)))
 iterate 3 refine kO hT hC ?_
 exact Vc.nil kG
 exact kf b4 (Xas (Xaz ku))
 refine Xae (Xad ?_)
 iterate 7 refine kO hT hC ?_
 exact Vc.nil (Xah kR)
def Xzq (r : (Int × Int × Bool)) : AV := .tup [.sv (.int .i64 r.1), .sv (.int .i64 r.2.1), .sv (.bool r.2.2)]
def Xzp (r : (Int × Int × Bool)) : Xbb := []
theorem Xch {p0 p1 r} (h : Xbh p0 p1 = some r) : AC Tryz.prog 104 [.sv (.str p0), .sv (.int .i64 p1)] [] (Xzq r) (Xzp r) := by
 refine Xaf hT Tryz.func104 rfl fun C hC => ?_
 unfold Xbh at h
 refine Xad ?_
 iterate 3 refine kO hT hC ?_
 refine kN ?_
 refine kO hT hC ?_
 refine Vc.nil (Xap ?_)
 refine kL [0,1,7] [] [_,_,_] [] ?_
 refine kX h (fun v3 => ([(7, .sv (.int .i64 v3))], [])) (fun v6 => ([(7, .sv (.int .i64 v6))], [])) (kW hC []) (fun v3 s h => ?_) fun v6 h => ?_
 unfold Xer at h
 refine Xap ?_
 refine kL [0,1,7] [] [_,_,_] [] ?_
 refine kA h (fun v7 => ([(28, .sv (.bool v7))], [])) (fun v7 h => ?_) fun v7 h => ?_
 refine Xac ?_
 iterate 7 refine kO hT hC ?_
 refine kS h ?_ ?_ <;> intro b7 h
 iterate 4 refine kI hT hC b7 ?_
 refine kJ hT hC b7 h fun h => ?_
 refine kI hT hC b7 ?_
 refine kP hC true b7 ?_
 refine kO hT hC ?_
 refine kS h ?_ ?_ <;> intro b8 h
 iterate 2 refine kI hT hC b8 ?_
 refine kP hC true b8 ?_
 exact Vc.nil kM
 iterate 2 refine kF hC b8 ?_
 refine kP hC false b8 ?_
 exact Vc.nil kM
 iterate 6 refine kF hC b7 ?_
 refine kP hC false b7 ?_
 refine kO hT hC ?_
 iterate 2 refine kF hC rfl ?_
 refine kO hT hC ?_
 exact Vc.nil kM
 refine kS h ?_ ?_ <;> intro b9 h
 refine kt b9 (Xag (Xae (Xan (Xac ?_))))
 iterate 3 refine kO hT hC ?_
 exact Vc.nil (Xaq kG)
 exact kf b9 (Xas (Xaz ku))
 refine Xae (Xad ?_)
 iterate 6 refine kO hT hC ?_
 refine kC hC [] Tryz.call105 h (fun _ => Xlx) fun q9 h => ?_
 iterate 7 refine kO hT hC ?_
 refine Vc.nil (Xap ?_)
 refine kL [7,8,9,10] [] [_,_,_,_] [] ?_
 refine kA h (fun v10 => ([(55, .sv (.bool v10)), (7, .any), (10, .any)], [])) (fun v10 h => ?_) fun v10 h => ?_
 refine Xac ?_
 iterate 3 refine kO hT hC ?_
 refine kS h ?_ ?_ <;> intro b10 h
 iterate 3 refine kI hT hC (kn b10) ?_
 refine kJ hT hC (kn b10) h fun h => ?_
 refine kI hT hC (kn b10) ?_
 refine kP hC false (kn b10) ?_
 refine kO hT hC ?_
 refine kS h ?_ ?_ <;> intro b11 h
 iterate 3 refine kF hC b11 ?_
 refine kP hC true b11 ?_
 exact Vc.nil kM
 iterate 3 refine kI hT hC b11 ?_
 refine kP hC false b11 ?_
 exact Vc.nil kM
 iterate 5 refine kF hC (kn b10) ?_
 refine kP hC true (kn b10) ?_
 refine kO hT hC ?_
 iterate 3 refine kF hC rfl ?_
 refine kO hT hC ?_
 exact Vc.nil kM
 refine kS h ?_ ?_ <;> intro b12 h
 refine kt b12 (Xad ?_)
 iterate 3 refine kO hT hC ?_
 exact Vc.nil (Xah (Xao kR))
 refine kf b12 (Xag (Xae (Xad ?_)))
 iterate 6 refine kO hT hC ?_
 exact Vc.nil (Xah kR)
def Xn5 (r : ((List Int) × Int × Bool)) : AV := .tup [.own 16, .sv (.int .i64 r.2.1), .sv (.bool r.2.2)]
def Xn4 (r : ((List Int) × Int × Bool)) : Xbb := [(16, .ints .i64 r.1)]
theorem Xpc {p0 p1 r} (h : Xea p0 p1 = some r) : AC Tryz.prog 106 [.sv (.str p0), .sv (.int .i64 p1)] [] (Xn5 r) (Xn4 r) := by
 refine Xaf hT Tryz.func106 rfl fun C hC => ?_
 unfold Xea at h
 refine Xad ?_
 iterate 3 refine kO hT hC ?_
 refine kN ?_
 iterate 2 refine kO hT hC ?_
 refine kN ?_
 iterate 2 refine kO hT hC ?_
 refine kC hC [] Tryz.call104 h (fun _ => Xch) fun q1 h => ?_
 iterate 7 refine kO hT hC ?_
 refine Vc.nil (Xap ?_)
 refine kL [0,7,8,9,10] [240] [_,_,_,_,_] [_] ?_
 refine kA h (fun v2 => ([(28, .sv (.bool v2)), (10, .any)], [])) (fun v2 h => ?_) fun v2 h => ?_
 refine Xac ?_
 iterate 3 refine kO hT hC ?_
 refine kS h ?_ ?_ <;> intro b1 h
 iterate 2 refine kI hT hC (kn b1) ?_
 refine kP hC false (kn b1) ?_
 exact Vc.nil kM
 iterate 2 refine kF hC (kn b1) ?_
 refine kP hC true (kn b1) ?_
 exact Vc.nil kM
 refine kS h ?_ ?_ <;> intro b2 h
 refine kt b2 (Xad ?_)
 iterate 4 refine kO hT hC ?_
 refine Vc.nil (Xah (Xao ?_))
 obtain rfl := kj h
 exact Xb8 (τ := ⟨[(4, .own 16), (5, .sv (.int .i64 0)), (6, .sv (.bool false))], [(16, some (.ints .i64 ([] : List Int)))]⟩) (kW hC [(16, 240)]) rfl ⟨rfl, trivial⟩
 refine kf b2 (Xag (Xae (Xap (Xad ?_))))
 refine kO hT hC ?_
 refine Vc.nil ?_
 refine kL [0,7,8,9,11] [240] [_,_,_,_,_] [_] ?_
 obtain ⟨o10, hl, h⟩ := Xbo h
 refine Xf6 (fun v5 => ([(9, .sv (.int .i64 v5.1)), (11, .sv (.int .i64 v5.2.1))], [(240, some (.ints .i64 v5.2.2))])) (fun v8 => ([(9, .sv (.int .i64 v8.1)), (0, .any), (8, .any), (11, .any)], [(240, some (.ints .i64 v8.2))])) (fun r => Xpi C T Tryz.f106.results.toList (Xn5 r) (Xn4 r)) hl ?_ ?_ ?_ ?_
 try dsimp only
 apply Xcj hC []
 exact co
 rfl
 decide
 rfl
 intro v5 s hs
 have h := hs
 unfold Xb0 at h
 refine Xap (Xad ?_)
 iterate 3 refine kO hT hC ?_
 refine Vc.nil ?_
 refine kS h ?_ ?_ <;> intro b7 h
 refine kt b7 (Xag (Xae (Xap (Xan (Xad ?_)))))
 iterate 2 refine kO hT hC ?_
 refine kC hC [] Tryz.call104 h (fun _ => Xch) fun q9 h => ?_
 iterate 7 refine kO hT hC ?_
 refine Vc.nil (Xap (Xad ?_))
 iterate 2 refine kO hT hC ?_
 refine Vc.nil ?_
 refine kS h ?_ ?_ <;> intro b8 h
 refine kt b8 (Xad ?_)
 iterate 4 refine kO hT hC ?_
 refine Vc.nil (Xah (Xao (Xdj (Xao ?_))))
 obtain rfl := kj h
 refine Xpk (Xpj ?_)
 refine Xb8 (τ := ⟨[(4, .own 16), (5, .sv (.int .i64 0)), (6, .sv (.bool false))], [(16, some (.ints .i64 ([] : List Int)))]⟩) ?_ rfl ⟨rfl, trivial⟩
 apply Xcj hC [(16, 704)]
 exact co
 rfl
 decide
 rfl
 refine kf b8 (Xag (Xae (Xad ?_)))
 iterate 3 refine kO hT hC ?_
 refine kT hT hC h fun h => ?_
 refine kO hT hC ?_
 refine Vc.nil (Xac ?_)
 iterate 2 refine kO hT hC ?_
 refine Vc.nil (Xaq (Xae (Xac ?_)))
 iterate 3 refine kO hT hC ?_
 refine Vc.nil ?_
 obtain rfl := kj h
 exact Xy0 (kW hC [(240, 768)])
 exact kf b7 (Xas (Xaz kb))
 intro v8 e
 subst e
 refine Xae (Xad ?_)
 iterate 5 refine kO hT hC ?_
 refine Vc.nil (Xah ?_)
 obtain rfl := kj h
 exact Xb8 (τ := ⟨[(4, .own 16), (5, .sv (.int .i64 v8.1)), (6, .sv (.bool true))], [(16, some (.ints .i64 v8.2))]⟩) (kW hC [(16, 240)]) rfl ⟨rfl, trivial⟩
 intro r' σ' e hE
 subst e
 obtain rfl := kj h
 refine Xao ?_
 exact hE
def Xxd (r : (Seq × Int × Bool)) : AV := .tup [.agg [.sv (.int .i64 r.1.Level), .sv (.int .i64 r.1.Bits), .own 16, .own 17], .sv (.int .i64 r.2.1), .sv (.bool r.2.2)]
def Xxc (r : (Seq × Int × Bool)) : Xbb := [(16, .ints .i64 r.1.Cols), (17, .ints .i64 r.1.Rows)]
theorem Xzs {p0 p1 r} (h : Xd1 p0 p1 = some r) : AC Tryz.prog 70 [.sv (.str p0), .sv (.int .i64 p1)] [] (Xxd r) (Xxc r) := by
 refine Xaf hT Tryz.func70 rfl fun C hC => ?_
 unfold Xd1 at h
 refine Xad ?_
 iterate 3 refine kO hT hC ?_
 refine kN ?_
 iterate 2 refine kO hT hC ?_
 refine kC hC [] Tryz.call104 h (fun _ => Xch) fun q1 h => ?_
 iterate 7 refine kO hT hC ?_
 refine Vc.nil (Xap (Xad ?_))
 iterate 2 refine kO hT hC ?_
 refine Vc.nil ?_
 refine kS h ?_ ?_ <;> intro b1 h
 refine kt b1 (Xad ?_)
 iterate 4 refine kO hT hC ?_
 refine Vc.nil (Xah (Xao ?_))
 obtain rfl := kj h
 refine Xb8 (τ := ⟨[(4, .ptr 2000000 0), (5, .sv (.int .i64 0)), (6, .sv (.bool false))], [(16, some (.ints .i64 [])), (17, some (.ints .i64 [])), (2000000, some (.box [.sv (.int .i64 0), .sv (.int .i64 0), .own 16, .own 17]))]⟩) ?_ rfl ⟨rfl, rfl, trivial⟩
 refine Xgs hC 64 2 1169 (.ints .i64 []) rfl rfl rfl rfl rfl trivial ?_
 refine Xgs hC 64 3 1170 (.ints .i64 []) rfl rfl rfl rfl rfl trivial ?_
 apply Xcj hC [(16, 1169), (17, 1170), (2000000, 64)]
 exact co
 rfl
 decide
 rfl
 refine kf b1 (Xag (Xae (Xad ?_)))
 iterate 2 refine kO hT hC ?_
 refine kC hC [] Tryz.call105 h (fun _ => Xlx) fun q2 h => ?_
 iterate 7 refine kO hT hC ?_
 refine Vc.nil (Xap (Xad ?_))
 iterate 2 refine kO hT hC ?_
 refine Vc.nil ?_
 refine kS h ?_ ?_ <;> intro b2 h
 refine kt b2 (Xad ?_)
 iterate 4 refine kO hT hC ?_
 refine Vc.nil (Xah (Xao ?_))
 obtain rfl := kj h
 refine Xb8 (τ := ⟨[(4, .ptr 2000000 0), (5, .sv (.int .i64 0)), (6, .sv (.bool false))], [(16, some (.ints .i64 [])), (17, some (.ints .i64 [])), (2000000, some (.box [.sv (.int .i64 0), .sv (.int .i64 0), .own 16, .own 17]))]⟩) ?_ rfl ⟨rfl, rfl, trivial⟩
 refine Xgs hC 64 2 1171 (.ints .i64 []) rfl rfl rfl rfl rfl trivial ?_
 refine Xgs hC 64 3 1172 (.ints .i64 []) rfl rfl rfl rfl rfl trivial ?_
 apply Xcj hC [(16, 1171), (17, 1172), (2000000, 64)]
 exact co
 rfl
 decide
 rfl
 refine kf b2 (Xag (Xae (Xad ?_)))
 iterate 2 refine kO hT hC ?_
 refine kC hC [(16, 688)] Tryz.call106 h (fun _ => Xpc) fun q3 h => ?_
 iterate 7 refine kO hT hC ?_
 refine Vc.nil (Xap (Xad ?_))
 iterate 2 refine kO hT hC ?_
 refine Vc.nil ?_
 refine kS h ?_ ?_ <;> intro b3 h
 refine kt b3 (Xad ?_)
 iterate 4 refine kO hT hC ?_
 refine Vc.nil (Xah (Xao ?_))
 obtain rfl := kj h
 refine Xb8 (τ := ⟨[(4, .ptr 2000000 0), (5, .sv (.int .i64 0)), (6, .sv (.bool false))], [(16, some (.ints .i64 [])), (17, some (.ints .i64 [])), (2000000, some (.box [.sv (.int .i64 0), .sv (.int .i64 0), .own 16, .own 17]))]⟩) ?_ rfl ⟨rfl, rfl, trivial⟩
 refine Xgs hC 64 2 1173 (.ints .i64 []) rfl rfl rfl rfl rfl trivial ?_
 refine Xgs hC 64 3 1174 (.ints .i64 []) rfl rfl rfl rfl rfl trivial ?_
 apply Xcj hC [(16, 1173), (17, 1174), (2000000, 64)]
 exact co
 rfl
 decide
 rfl
 refine kf b3 (Xag (Xae (Xad ?_)))
 iterate 2 refine kO hT hC ?_
 refine kC hC [(16, 848)] Tryz.call106 h (fun _ => Xpc) fun q4 h => ?_
 iterate 7 refine kO hT hC ?_
 refine kN ?_
 iterate 7 refine kO hT hC ?_
 refine Vc.nil (Xap ?_)
 refine kL [4,17,18,19] [64,304,688,848] [_,_,_,_] [_,_,_,_] ?_
 refine kA h (fun v5 => ([(68, .sv (.bool v5)), (18, .any)], [])) (fun v5 h => ?_) fun v5 h => ?_
 refine Xac ?_
 iterate 3 refine kO hT hC ?_
 refine kS h ?_ ?_ <;> intro b4 h
 refine kI hT hC (kn b4) ?_
 refine kE hC (kn b4) [] Tryz.call98 h (fun _ => Xlu) fun q6 h => ?_
 refine kI hT hC (kn b4) ?_
 refine kP hC false (kn b4) ?_
 exact Vc.nil kM
 iterate 3 refine kF hC (kn b4) ?_
 refine kP hC true (kn b4) ?_
 exact Vc.nil kM
 refine kS h ?_ ?_ <;> intro b5 h
 refine kt b5 (Xad ?_)
 iterate 4 refine kO hT hC ?_
 refine Vc.nil (Xah (Xao ?_))
 obtain rfl := kj h
 refine Xb8 (τ := ⟨[(4, .ptr 2000000 0), (5, .sv (.int .i64 0)), (6, .sv (.bool false))], [(16, some (.ints .i64 [])), (17, some (.ints .i64 [])), (2000000, some (.box [.sv (.int .i64 0), .sv (.int .i64 0), .own 16, .own 17]))]⟩) ?_ rfl ⟨rfl, rfl, trivial⟩
 refine Xgs hC 64 2 1175 (.ints .i64 []) rfl rfl rfl rfl rfl trivial ?_
 refine Xgs hC 64 3 1176 (.ints .i64 []) rfl rfl rfl rfl rfl trivial ?_
 apply Xcj hC [(16, 1175), (17, 1176), (2000000, 64)]
 exact co
 rfl
 decide
 rfl
 refine kf b5 (Xag (Xae (Xad ?_)))
 iterate 5 refine kO hT hC ?_
 refine Vc.nil (Xah ?_)
 obtain rfl := kj h
 exact Xb8 (τ := ⟨[(4, .ptr 2000000 0), (5, .sv (.int .i64 q4.2.1)), (6, .sv (.bool true))], [(16, some (.ints .i64 q3.1)), (17, some (.ints .i64 q4.1)), (2000000, some (.box [.sv (.int .i64 q1.1), .sv (.int .i64 q2.1), .own 16, .own 17]))]⟩) (kW hC [(16, 688), (17, 848), (2000000, 64)]) rfl ⟨rfl, rfl, trivial⟩
def Xxb (r : (Par × Int × Bool)) : AV := .tup [.agg [.sv (.int .i64 r.1.Qp), .sv (.bool r.1.Large), .sv (.bool r.1.Exact), .sv (.bool r.1.Confined)], .sv (.int .i64 r.2.1), .sv (.bool r.2.2)]
def Xxa (r : (Par × Int × Bool)) : Xbb := []
theorem Xzr {p0 p1 r} (h : Xd0 p0 p1 = some r) : AC Tryz.prog 71 [.sv (.str p0), .sv (.int .i64 p1)] [] (Xxb r) (Xxa r) := by
 refine Xaf hT Tryz.func71 rfl fun C hC => ?_
 unfold Xd0 at h
 refine Xad ?_
 iterate 3 refine kO hT hC ?_
 refine kN ?_
 iterate 2 refine kO hT hC ?_
 refine kC hC [] Tryz.call105 h (fun _ => Xlx) fun q1 h => ?_
 iterate 7 refine kO hT hC ?_
 refine Vc.nil (Xap ?_)
 refine kL [0,4,7,8,9] [64] [_,_,_,_,_] [_] ?_
 refine kA h (fun v2 => ([(26, .sv (.bool v2)), (9, .any)], [])) (fun v2 h => ?_) fun v2 h => ?_
 refine Xac ?_
 iterate 3 refine kO hT hC ?_
 refine kS h ?_ ?_ <;> intro b1 h
 iterate 5 refine kI hT hC (kn b1) ?_
 refine kP hC false (kn b1) ?_
 exact Vc.nil kM
 iterate 5 refine kF hC (kn b1) ?_
 refine kP hC true (kn b1) ?_
 exact Vc.nil kM
 refine kS h ?_ ?_ <;> intro b2 h
 refine kt b2 (Xad ?_)
 iterate 4 refine kO hT hC ?_
 exact Vc.nil (Xah (Xao kR))
 refine kf b2 (Xag (Xae ?_))
 refine Xcq hm ?_
 iterate 3 refine kO hT hC ?_
 refine kQ hT hC h fun h => ?_
 iterate 4 refine kO hT hC ?_
 refine kQ hT hC h fun h => ?_
 iterate 4 refine kO hT hC ?_
 refine kQ hT hC h fun h => ?_
 iterate 4 refine kO hT hC ?_
 refine kD (Xap (Xad ?_))
 refine kO hT hC ?_
 refine kC hC [] Tryz.call99 h (fun _ => Xof) fun q3 h => ?_
 refine kO hT hC ?_
 refine Vc.nil ?_
 refine kS h ?_ ?_ <;> intro b3 h
 refine kt b3 (Xad ?_)
 iterate 4 refine kO hT hC ?_
 exact Vc.nil (Xah (Xao kR))
 refine kf b3 (Xag (Xae (Xad ?_)))
 iterate 6 refine kO hT hC ?_
 exact Vc.nil (Xah kR)
def Xtj (r : Bool) : AV := .sv (.bool r)
def Xti (r : Bool) : Xbb := []
theorem Ymt {p0 r} (h : Xmn p0 = some r) : AC Tryz.prog 173 [.sv (.str p0)] [] (Xtj r) (Xti r) := by
 refine Xaf hT Tryz.func173 rfl fun C hC => ?_
 unfold Xmn at h
 refine Xad ?_
 refine kO hT hC ?_
 refine Vc.nil (Xap (Xad ?_))
 refine kO hT hC ?_
 refine Vc.nil ?_
 refine kL [0,3] [] [_,_] [] ?_
 obtain ⟨o8, hl, h⟩ := Xbo h
 refine Xf6 (fun v3 => ([(3, .sv (.int .i64 v3))], [])) (fun v6 => ([(0, .any), (3, .any)], [])) (fun r => Xpi C T Tryz.f173.results.toList (Xtj r) (Xti r)) hl ?_ ?_ ?_ ?_
 apply Xcj hC []
 exact co
 rfl
 decide
 rfl
 intro v3 s hs
 have h := hs
 unfold Xdp at h
 refine Xap (Xad ?_)
 iterate 4 refine kO hT hC ?_
 refine Vc.nil ?_
 refine kS h ?_ ?_ <;> intro b7 h
 refine kt b7 (Xag (Xae (Xap (Xan ?_))))
 refine kL [0,3] [] [_,_] [] ?_
 refine kA h (fun v7 => ([(19, .sv (.bool v7))], [])) (fun v7 h => ?_) fun v7 h => ?_
 refine Xac ?_
 iterate 2 refine kO hT hC ?_
 refine kQ hT hC h fun h => ?_
 iterate 2 refine kO hT hC ?_
 refine kS h ?_ ?_ <;> intro b8 h
 iterate 2 refine kI hT hC b8 ?_
 refine kJ hT hC b8 h fun h => ?_
 refine kI hT hC b8 ?_
 refine kP hC true b8 ?_
 exact Vc.nil kM
 iterate 4 refine kF hC b8 ?_
 refine kP hC false b8 ?_
 exact Vc.nil kM
 refine kS h ?_ ?_ <;> intro b9 h
 refine kt b9 (Xad ?_)
 refine kO hT hC ?_
 refine Vc.nil (Xah (Xdj (Xao ?_)))
 obtain rfl := kj h
 refine Xpk (Xpj ?_)
 exact Xb8 (Xiz.refl _) rfl trivial
 refine kf b9 (Xag (Xaq (Xae (Xac ?_))))
 iterate 3 refine kO hT hC ?_
 exact Vc.nil kG
 exact kf b7 (Xas (Xaz kb))
 intro v6 e
 subst e
 refine Xae (Xad ?_)
 refine kO hT hC ?_
 exact Vc.nil (Xah kR)
 intro r' σ' e hE
 subst e
 obtain rfl := kj h
 refine Xao ?_
 exact hE
def Ymj (r : Bool) : AV := .sv (.bool r)
def Ymi (r : Bool) : Xbb := []
theorem Xrz {p0 r} (h : Xhh p0 = some r) : AC Tryz.prog 141 [.sv (.str p0)] [] (Ymj r) (Ymi r) := by
 refine Xaf hT Tryz.func141 rfl fun C hC => ?_
 unfold Xhh at h
 refine Xad ?_
 refine kO hT hC ?_
 refine Vc.nil ?_
 refine kL [0,2] [] [_,_] [] ?_
 refine kA h (fun v1 => ([(2, .sv (.bool v1)), (0, .any)], [])) (fun v1 h => ?_) fun v1 h => ?_
 refine Xac ?_
 iterate 4 refine kO hT hC ?_
 refine kS h ?_ ?_ <;> intro b1 h
 refine kI hT hC b1 ?_
 refine kE hC b1 [] Tryz.call173 h (fun _ => Ymt) fun q2 h => ?_
 refine kP hC true b1 ?_
 refine kO hT hC ?_
 exact Vc.nil kM
 iterate 2 refine kF hC b1 ?_
 refine kP hC false b1 ?_
 refine kO hT hC ?_
 exact Vc.nil kM
 exact Xah kR
def Yjk (r : (Int × Bool)) : AV := .tup [.sv (.int .i64 r.1), .sv (.bool r.2)]
def Yjj (r : (Int × Bool)) : Xbb := []
theorem Ymc {p0 r} (h : Xo3 p0 = some r) : AC Tryz.prog 174 [.sv (.int .i64 p0)] [] (Yjk r) (Yjj r) := by
 refine Xaf hT Tryz.func174 rfl fun C hC => ?_
 unfold Xo3 at h
 refine Xad ?_
 iterate 2 refine kO hT hC ?_
 refine Vc.nil (Xap (Xad ?_))
 refine kO hT hC ?_
 refine kC hC [] Tryz.call136 h (fun _ => Xat) fun q1 h => ?_
 refine kO hT hC ?_
 refine Vc.nil ?_
 refine kS h ?_ ?_ <;> intro b1 h
 refine kt b1 (Xad ?_)
 iterate 2 refine kO hT hC ?_
 exact Vc.nil (Xah (Xao kR))
 refine kf b1 (Xag (Xae (Xap (Xad ?_))))
 refine kO hT hC ?_
 refine kQ hT hC h fun h => ?_
 refine kO hT hC ?_
 refine Vc.nil ?_
 refine kS h ?_ ?_ <;> intro b2 h
 refine kt b2 (Xad ?_)
 iterate 2 refine kO hT hC ?_
 refine kQ hT hC h fun h => ?_
 iterate 2 refine kO hT hC ?_
 exact Vc.nil (Xah (Xao kR))
 refine kf b2 (Xag (Xae (Xad ?_)))
 refine kO hT hC ?_
 refine kQ hT hC h fun h => ?_
 iterate 3 refine kO hT hC ?_
 exact Vc.nil (Xah kR)
def Xzo (r : (Int × Int × Bool)) : AV := .tup [.sv (.int .i64 r.1), .sv (.int .i64 r.2.1), .sv (.bool r.2.2)]
def Xzn (r : (Int × Int × Bool)) : Xbb := []
theorem Xjf {p0 p1 r} (h : Xcg p0 p1 = some r) : AC Tryz.prog 142 [.sv (.str p0), .sv (.int .i64 p1)] [] (Xzo r) (Xzn r) := by
 refine Xaf hT Tryz.func142 rfl fun C hC => ?_
 unfold Xcg at h
 refine Xad ?_
 iterate 3 refine kO hT hC ?_
 refine kN ?_
 iterate 2 refine kO hT hC ?_
 refine kC hC [] Tryz.call104 h (fun _ => Xch) fun q1 h => ?_
 iterate 7 refine kO hT hC ?_
 refine Vc.nil (Xap (Xad ?_))
 iterate 2 refine kO hT hC ?_
 refine Vc.nil ?_
 refine kS h ?_ ?_ <;> intro b1 h
 refine kt b1 (Xad ?_)
 iterate 3 refine kO hT hC ?_
 exact Vc.nil (Xah (Xao kR))
 refine kf b1 (Xag (Xae (Xad ?_)))
 refine kO hT hC ?_
 refine kC hC [] Tryz.call174 h (fun _ => Ymc) fun q2 h => ?_
 iterate 5 refine kO hT hC ?_
 refine kN ?_
 iterate 5 refine kO hT hC ?_
 exact Vc.nil (Xah kR)
def Yjc (r : Bool) : AV := .sv (.bool r)
def Yjb (r : Bool) : Xbb := []
theorem Xvq {p0 p1 p2 r} (h : Xmj p0 p1 p2 = some r) : AC Tryz.prog 143 [.agg [.sv (.int .i64 p0.Level), .sv (.int .i64 p0.Bits), .sv (.ints .i64 p0.Cols), .sv (.ints .i64 p0.Rows)], .agg [.sv (.int .i64 p1.Qp), .sv (.bool p1.Large), .sv (.bool p1.Exact), .sv (.bool p1.Confined)], .agg [.sv (.int .i64 p2.Tile), .sv (.int .i64 p2.Frame), .sv (.int .i64 p2.Qp)]] [] (Yjc r) (Yjb r) := by
 refine Xaf hT Tryz.func143 rfl fun C hC => ?_
 unfold Xmj at h
 refine Xad ?_
 iterate 4 refine kO hT hC ?_
 refine Vc.nil ?_
 refine kL [3,4,5,6] [48,64,80] [_,_,_,_] [_,_,_] ?_
 refine kA h (fun v1 => ([(6, .sv (.bool v1)), (3, .any), (4, .any), (5, .any)], [(48, none), (64, none), (80, none)])) (fun v1 h => ?_) fun v1 h => ?_
 refine Xcu hm ?_
 refine kO hT hC ?_
 refine kC hC [] Tryz.call99 h (fun _ => Xof) fun q2 h => ?_
 refine kO hT hC ?_
 refine kS h ?_ ?_ <;> intro b1 h
 iterate 3 refine kI hT hC b1 ?_
 refine kP hC true b1 ?_
 refine kO hT hC ?_
 refine kS h ?_ ?_ <;> intro b2 h
 iterate 3 refine kI hT hC b2 ?_
 refine kE hC b2 [] Tryz.call100 h (fun _ => Xih) fun q3 h => ?_
 refine kI hT hC b2 ?_
 refine kP hC true b2 ?_
 refine kO hT hC ?_
 refine kS h ?_ ?_ <;> intro b3 h
 iterate 3 refine kI hT hC b3 ?_
 refine kP hC true b3 ?_
 refine kO hT hC ?_
 refine kS h ?_ ?_ <;> intro b4 h
 iterate 5 refine kI hT hC b4 ?_
 refine kJ hT hC b4 h fun h => ?_
 refine kI hT hC b4 ?_
 refine kP hC true b4 ?_
 refine kO hT hC ?_
 refine kS h ?_ ?_ <;> intro b5 h
 iterate 2 refine kI hT hC b5 ?_
 refine kE hC b5 [] Tryz.call136 h (fun _ => Xat) fun q4 h => ?_
 refine kP hC true b5 ?_
 refine kO hT hC ?_
 exact kD kM
 iterate 3 refine kF hC b5 ?_
 refine kP hC false b5 ?_
 refine kO hT hC ?_
 exact kD kM
 iterate 7 refine kF hC b4 ?_
 refine kP hC false b4 ?_
 refine kO hT hC ?_
 iterate 3 refine kF hC rfl ?_
 iterate 2 refine kO hT hC ?_
 exact kD kM
 iterate 3 refine kF hC b3 ?_
 refine kP hC false b3 ?_
 refine kO hT hC ?_
 iterate 7 refine kF hC rfl ?_
 iterate 2 refine kO hT hC ?_
 iterate 3 refine kF hC rfl ?_
 iterate 2 refine kO hT hC ?_
 exact kD kM
 iterate 5 refine kF hC b2 ?_
 refine kP hC false b2 ?_
 refine kO hT hC ?_
 iterate 3 refine kF hC rfl ?_
 iterate 2 refine kO hT hC ?_
 iterate 7 refine kF hC rfl ?_
 iterate 2 refine kO hT hC ?_
 iterate 3 refine kF hC rfl ?_
 iterate 2 refine kO hT hC ?_
 exact kD kM
 iterate 3 refine kF hC b1 ?_
 refine kP hC false b1 ?_
 refine kO hT hC ?_
 iterate 5 refine kF hC rfl ?_
 iterate 2 refine kO hT hC ?_
 iterate 3 refine kF hC rfl ?_
 iterate 2 refine kO hT hC ?_
 iterate 7 refine kF hC rfl ?_
 iterate 2 refine kO hT hC ?_
 iterate 3 refine kF hC rfl ?_
 iterate 2 refine kO hT hC ?_
 exact kD kM
 exact Xah kR
def Ybh (r : (Xq8 × Int × Bool)) : AV := .tup [.agg [.sv (.int .i64 r.1.Tile), .sv (.int .i64 r.1.Frame), .sv (.int .i64 r.1.Qp)], .sv (.int .i64 r.2.1), .sv (.bool r.2.2)]
def Ybg (r : (Xq8 × Int × Bool)) : Xbb := []
theorem Yen {p0 p1 p2 r} (h : Xfl p0 p1 p2 = some r) : AC Tryz.prog 107 [.agg [.sv (.int .i64 p0.Level), .sv (.int .i64 p0.Bits), .sv (.ints .i64 p0.Cols), .sv (.ints .i64 p0.Rows)], .agg [.sv (.int .i64 p1.Qp), .sv (.bool p1.Large), .sv (.bool p1.Exact), .sv (.bool p1.Confined)], .sv (.str p2)] [] (Ybh r) (Ybg r) := by
 refine Xaf hT Tryz.func107 rfl fun C hC => ?_
 unfold Xfl at h
 refine Xad ?_
 iterate 5 refine kO hT hC ?_
 refine Vc.nil (Xap ?_)
 refine kL [2,3,4,6] [48,64,96] [_,_,_,_] [_,_,_] ?_
 refine kA h (fun v1 => ([(31, .sv (.bool v1))], [])) (fun v1 h => ?_) fun v1 h => ?_
 refine Xac ?_
 refine kO hT hC ?_
 refine kC hC [] Tryz.call141 h (fun _ => Xrz) fun q2 h => ?_
 iterate 2 refine kO hT hC ?_
 refine kS h ?_ ?_ <;> intro b1 h
 refine kI hT hC (kn b1) ?_
 refine kE hC (kn b1) [] Tryz.call98 h (fun _ => Xlu) fun q3 h => ?_
 refine kI hT hC (kn b1) ?_
 refine kP hC false (kn b1) ?_
 refine kO hT hC ?_
 refine kS h ?_ ?_ <;> intro b2 h
 refine kI hT hC (kn b2) ?_
 refine kE hC (kn b2) [] Tryz.call99 h (fun _ => Xof) fun q4 h => ?_
 refine kI hT hC (kn b2) ?_
 refine kP hC false (kn b2) ?_
 exact Vc.nil kM
 iterate 3 refine kF hC (kn b2) ?_
 refine kP hC true (kn b2) ?_
 exact Vc.nil kM
 iterate 3 refine kF hC (kn b1) ?_
 refine kP hC true (kn b1) ?_
 refine kO hT hC ?_
 iterate 3 refine kF hC rfl ?_
 refine kO hT hC ?_
 exact Vc.nil kM
 refine kS h ?_ ?_ <;> intro b3 h
 refine kt b3 (Xad ?_)
 iterate 4 refine kO hT hC ?_
 exact Vc.nil (Xah (Xao kR))
 refine kf b3 (Xag (Xae (Xad ?_)))
 refine kO hT hC ?_
 refine kC hC [] Tryz.call104 h (fun _ => Xch) fun q5 h => ?_
 iterate 7 refine kO hT hC ?_
 refine Vc.nil (Xap (Xad ?_))
 iterate 2 refine kO hT hC ?_
 refine Vc.nil ?_
 refine kS h ?_ ?_ <;> intro b4 h
 refine kt b4 (Xad ?_)
 iterate 4 refine kO hT hC ?_
 exact Vc.nil (Xah (Xao kR))
 refine kf b4 (Xag (Xae (Xad ?_)))
 iterate 4 refine kO hT hC ?_
 refine kC hC [] Tryz.call105 h (fun _ => Xlx) fun q6 h => ?_
 iterate 7 refine kO hT hC ?_
 refine Vc.nil (Xap (Xad ?_))
 iterate 2 refine kO hT hC ?_
 refine Vc.nil ?_
 refine kS h ?_ ?_ <;> intro b5 h
 refine kt b5 (Xad ?_)
 iterate 4 refine kO hT hC ?_
 exact Vc.nil (Xah (Xao kR))
 refine kf b5 (Xag (Xae (Xad ?_)))
 iterate 2 refine kO hT hC ?_
 refine kC hC [] Tryz.call142 h (fun _ => Xjf) fun q7 h => ?_
 iterate 7 refine kO hT hC ?_
 refine kN ?_
 iterate 9 refine kO hT hC ?_
 refine Vc.nil (Xap ?_)
 refine kL [3,4,6,16,17,18] [48,64,96,288] [_,_,_,_,_,_] [_,_,_,_] ?_
 refine kA h (fun v8 => ([(76, .sv (.bool v8)), (3, .any), (4, .any), (17, .any)], [(48, none), (64, none)])) (fun v8 h => ?_) fun v8 h => ?_
 refine Xac ?_
 iterate 3 refine kO hT hC ?_
 refine kS h ?_ ?_ <;> intro b6 h
 iterate 3 refine kI hT hC (kn b6) ?_
 refine kE hC (kn b6) [] Tryz.call143 h (fun _ => Xvq) fun q9 h => ?_
 refine kI hT hC (kn b6) ?_
 refine kP hC false (kn b6) ?_
 exact Vc.nil kM
 iterate 5 refine kF hC (kn b6) ?_
 refine kP hC true (kn b6) ?_
 exact Vc.nil kM
 refine kS h ?_ ?_ <;> intro b7 h
 refine kt b7 (Xad ?_)
 iterate 4 refine kO hT hC ?_
 exact Vc.nil (Xah (Xao kR))
 refine kf b7 (Xag (Xae (Xad ?_)))
 iterate 5 refine kO hT hC ?_
 exact Vc.nil (Xah kR)
def Xzu (r : Int) : AV := .sv (.int .i64 r)
def Xzt (r : Int) : Xbb := []
theorem Xq1 {p0 p1 r} (h : Xj2 p0 p1 = some r) : AC Tryz.prog 146 [.sv (.ints .i64 p0), .sv (.int .i64 p1)] [] (Xzu r) (Xzt r) := by
 refine Xaf hT Tryz.func146 rfl fun C hC => ?_
 unfold Xj2 at h
 refine Xad ?_
 refine kO hT hC ?_
 refine kN ?_
 refine kO hT hC ?_
 refine Vc.nil (Xap (Xad ?_))
 refine kO hT hC ?_
 refine Vc.nil ?_
 refine kL [0,1,5,6] [] [_,_,_,_] [] ?_
 refine kX h (fun v2 => ([(5, .sv (.int .i64 v2.1)), (6, .sv (.int .i64 v2.2))], [])) (fun v4 => ([(5, .sv (.int .i64 v4)), (0, .any), (1, .any), (6, .any)], [])) (kW hC []) (fun v2 s h => ?_) fun v4 h => ?_
 unfold Xgf at h
 refine Xap (Xad ?_)
 iterate 3 refine kO hT hC ?_
 refine Vc.nil ?_
 refine kS h ?_ ?_ <;> intro b3 h
 refine kt b3 (Xag (Xae (Xap (Xan (Xac ?_)))))
 iterate 3 refine kO hT hC ?_
 refine kQ hT hC h fun h => ?_
 iterate 3 refine kO hT hC ?_
 refine Vc.nil (Xaq (Xae (Xac ?_)))
 iterate 3 refine kO hT hC ?_
 exact Vc.nil kG
 exact kf b3 (Xas (Xaz ku))
 refine Xae (Xad ?_)
 iterate 2 refine kO hT hC ?_
 exact Vc.nil (Xah kR)
def Ybq (r : (Xpw × Bool)) : AV := .tup [.agg [.sv (.int .i64 r.1.Left), .sv (.int .i64 r.1.Top), .sv (.int .i64 r.1.Wide), .sv (.int .i64 r.1.High)], .sv (.bool r.2)]
def Ybp (r : (Xpw × Bool)) : Xbb := []
theorem Xsd {p0 p1 r} (h : Xdn p0 p1 = some r) : AC Tryz.prog 110 [.agg [.sv (.int .i64 p0.Level), .sv (.int .i64 p0.Bits), .sv (.ints .i64 p0.Cols), .sv (.ints .i64 p0.Rows)], .sv (.int .i64 p1)] [] (Ybq r) (Ybp r) := by
 refine Xaf hT Tryz.func110 rfl fun C hC => ?_
 unfold Xdn at h
 refine Xad ?_
 iterate 3 refine kO hT hC ?_
 refine Vc.nil (Xap ?_)
 refine kL [1,2,4] [32,64] [_,_,_] [_,_] ?_
 refine kA h (fun v1 => ([(15, .sv (.bool v1))], [])) (fun v1 h => ?_) fun v1 h => ?_
 refine Xac ?_
 iterate 3 refine kO hT hC ?_
 refine kS h ?_ ?_ <;> intro b1 h
 iterate 4 refine kF hC b1 ?_
 refine kP hC true b1 ?_
 exact Vc.nil kM
 iterate 2 refine kI hT hC b1 ?_
 refine kE hC b1 [] Tryz.call100 h (fun _ => Xih) fun q2 h => ?_
 refine kI hT hC b1 ?_
 refine kP hC false b1 ?_
 exact Vc.nil kM
 refine kS h ?_ ?_ <;> intro b2 h
 refine kt b2 (Xad ?_)
 iterate 3 refine kO hT hC ?_
 exact Vc.nil (Xah (Xao kR))
 refine kf b2 (Xag (Xae (Xad ?_)))
 iterate 4 refine kO hT hC ?_
 refine kQ hT hC h fun h => ?_
 refine kO hT hC ?_
 refine kN ?_
 iterate 4 refine kO hT hC ?_
 refine kQ hT hC h fun h => ?_
 refine kO hT hC ?_
 refine Vc.nil ?_
 refine Xcq hm ?_
 iterate 3 refine kO hT hC ?_
 refine kC hC [] Tryz.call146 h (fun _ => Xq1) fun q3 h => ?_
 iterate 4 refine kO hT hC ?_
 refine kC hC [] Tryz.call146 h (fun _ => Xq1) fun q4 h => ?_
 iterate 4 refine kO hT hC ?_
 refine kQ hT hC h fun h => ?_
 iterate 5 refine kO hT hC ?_
 refine kQ hT hC h fun h => ?_
 iterate 5 refine kO hT hC ?_
 exact kD (Xah kR)
def Xu5 (r : Int) : AV := .sv (.int .i64 r)
def Xu4 (r : Int) : Xbb := []
theorem Xo8 {p0 p1 r} (h : Xb2 p0 p1 = some r) : AC Tryz.prog 109 [.agg [.sv (.int .i64 p0.Level), .sv (.int .i64 p0.Bits), .sv (.ints .i64 p0.Cols), .sv (.ints .i64 p0.Rows)], .sv (.int .i64 p1)] [] (Xu5 r) (Xu4 r) := by
 refine Xaf hT Tryz.func109 rfl fun C hC => ?_
 unfold Xb2 at h
 refine Xad ?_
 iterate 2 refine kO hT hC ?_
 refine kN ?_
 iterate 2 refine kO hT hC ?_
 refine kC hC [] Tryz.call110 h (fun _ => Xsd) fun q1 h => ?_
 iterate 6 refine kO hT hC ?_
 refine kN ?_
 iterate 2 refine kO hT hC ?_
 refine kQ hT hC h fun h => ?_
 iterate 2 refine kO hT hC ?_
 refine kQ hT hC h fun h => ?_
 iterate 2 refine kO hT hC ?_
 exact Vc.nil (Xah kR)
def Yiz (r : Bool) : AV := .sv (.bool r)
def Yiy (r : Bool) : Xbb := []
theorem Xm0 {p0 r} (h : Xh8 p0 = some r) : AC Tryz.prog 144 [.agg [.sv (.bool p0.Key), .sv (.int .i64 p0.Qp), .sv (.bool p0.Large), .sv (.bool p0.Exact)]] [] (Yiz r) (Yiy r) := by
 refine Xaf hT Tryz.func144 rfl fun C hC => ?_
 unfold Xh8 at h
 refine Xad ?_
 iterate 2 refine kO hT hC ?_
 refine Vc.nil ?_
 refine kL [1,2] [16] [_,_] [_] ?_
 refine kA h (fun v1 => ([(2, .sv (.bool v1)), (1, .any)], [(16, none)])) (fun v1 h => ?_) fun v1 h => ?_
 refine Xac ?_
 iterate 2 refine kO hT hC ?_
 refine kC hC [] Tryz.call136 h (fun _ => Xat) fun q2 h => ?_
 refine kO hT hC ?_
 refine kS h ?_ ?_ <;> intro b1 h
 iterate 3 refine kI hT hC b1 ?_
 refine kS h ?_ ?_ <;> intro b2 h
 iterate 2 refine kI hT hC b2 ?_
 refine Xa1 hC rfl rfl rfl rfl b1 rfl rfl (b := true) b2 rfl rfl rfl trivial ?_
 refine kI hT hC b1 ?_
 refine kP hC true b1 ?_
 refine kO hT hC ?_
 exact Vc.nil kM
 iterate 2 refine kF hC b2 ?_
 refine Xa1 hC rfl rfl rfl rfl b1 rfl rfl (b := false) b2 rfl rfl rfl trivial ?_
 refine kI hT hC b1 ?_
 refine kP hC true b1 ?_
 refine kO hT hC ?_
 exact Vc.nil kM
 iterate 3 refine kF hC b1 ?_
 iterate 2 refine Xd7 hC rfl rfl rfl rfl rfl rfl ?_
 iterate 2 refine kF hC b1 ?_
 refine kP hC false b1 ?_
 refine kO hT hC ?_
 exact Vc.nil kM
 exact Xah kR
def Xsi (r : ((List Int) × Int × Bool)) : AV := .tup [.own 16, .sv (.int .i64 r.2.1), .sv (.bool r.2.2)]
def Xsh (r : ((List Int) × Int × Bool)) : Xbb := [(16, .ints .i64 r.1)]
theorem Xtw {p0 p1 p2 r} (h : Xiq p0 p1 p2 = some r) : AC Tryz.prog 199 [.sv (.str p0), .sv (.int .i64 p1), .sv (.int .i64 p2)] [] (Xsi r) (Xsh r) := by
 refine Xaf hT Tryz.func199 rfl fun C hC => ?_
 unfold Xiq at h
 refine Xad ?_
 iterate 3 refine kO hT hC ?_
 refine kN ?_
 refine kO hT hC ?_
 obtain ⟨hq, h⟩ := Xba h
 refine Yf3 hT hC rfl rfl rfl rfl ⟨hq.1, hq.2.1, hq.2.2, by decide⟩ ?_
 refine kO hT hC ?_
 refine kN ?_
 iterate 2 refine kO hT hC ?_
 refine kC hC [] Tryz.call104 h (fun _ => Xch) fun q1 h => ?_
 iterate 7 refine kO hT hC ?_
 refine Vc.nil (Xap ?_)
 refine kL [0,2,9,10,11,12] [352] [_,_,_,_,_,_] [_] ?_
 refine kA h (fun v2 => ([(36, .sv (.bool v2)), (12, .any)], [])) (fun v2 h => ?_) fun v2 h => ?_
 refine Xac ?_
 iterate 3 refine kO hT hC ?_
 refine kS h ?_ ?_ <;> intro b1 h
 iterate 3 refine kI hT hC (kn b1) ?_
 refine kP hC false (kn b1) ?_
 exact Vc.nil kM
 iterate 3 refine kF hC (kn b1) ?_
 refine kP hC true (kn b1) ?_
 exact Vc.nil kM
 refine kS h ?_ ?_ <;> intro b2 h
 refine kt b2 (Xad ?_)
 iterate 4 refine kO hT hC ?_
 refine Vc.nil (Xah (Xao ?_))
 obtain rfl := kj h
 exact Xb8 (τ := ⟨[(6, .own 16), (7, .sv (.int .i64 0)), (8, .sv (.bool false))], [(16, some (.ints .i64 ([] : List Int)))]⟩) (kW hC [(16, 592)]) rfl ⟨rfl, trivial⟩
 refine kf b2 (Xag (Xae (Xad ?_)))
 refine kO hT hC ?_
 refine Vc.nil (Xap (Xad ?_))
 refine kO hT hC ?_
 refine Vc.nil ?_
 refine kL [0,2,9,10,11,13,14] [352] [_,_,_,_,_,_,_] [_] ?_
 obtain ⟨o22, hl, h⟩ := Xbo h
 refine Xf6 (fun v9 => ([(11, .sv (.int .i64 v9.1)), (13, .sv (.int .i64 v9.2.1)), (14, .sv (.int .i64 v9.2.2.1))], [(352, some (.ints .i64 v9.2.2.2))])) (fun v16 => ([(11, .sv (.int .i64 v16.1)), (0, .any), (2, .any), (10, .any), (13, .any), (14, .any)], [(352, some (.ints .i64 v16.2))])) (fun r => Xpi C T Tryz.f199.results.toList (Xsi r) (Xsh r)) hl ?_ ?_ ?_ ?_
 try dsimp only
 apply Xcj hC []
 exact co
 rfl
 decide
 rfl
 intro v9 s hs
 have h := hs
 unfold Xcr at h
 refine Xap (Xad ?_)
 iterate 3 refine kO hT hC ?_
 refine Vc.nil ?_
 refine kS h ?_ ?_ <;> intro b15 h
 refine kt b15 (Xag (Xae (Xap (Xan (Xad ?_)))))
 iterate 2 refine kO hT hC ?_
 refine kC hC [] Tryz.call104 h (fun _ => Xch) fun q17 h => ?_
 iterate 7 refine kO hT hC ?_
 refine Vc.nil (Xap ?_)
 refine kL [0,2,9,10,13,14,15,16,17] [352] [_,_,_,_,_,_,_,_,_] [_] ?_
 refine kA h (fun v18 => ([(59, .sv (.bool v18)), (17, .any)], [])) (fun v18 h => ?_) fun v18 h => ?_
 refine Xac ?_
 iterate 3 refine kO hT hC ?_
 refine kS h ?_ ?_ <;> intro b16 h
 iterate 6 refine kI hT hC (kn b16) ?_
 refine kP hC false (kn b16) ?_
 exact Vc.nil kM
 iterate 6 refine kF hC (kn b16) ?_
 refine kP hC true (kn b16) ?_
 exact Vc.nil kM
 refine kS h ?_ ?_ <;> intro b17 h
 refine kt b17 (Xad ?_)
 iterate 4 refine kO hT hC ?_
 refine Vc.nil (Xah (Xao (Xdj (Xao ?_))))
 obtain rfl := kj h
 refine Xpk (Xpj ?_)
 refine Xb8 (τ := ⟨[(6, .own 16), (7, .sv (.int .i64 0)), (8, .sv (.bool false))], [(16, some (.ints .i64 ([] : List Int)))]⟩) ?_ rfl ⟨rfl, trivial⟩
 apply Xcj hC [(16, 960)]
 exact co
 rfl
 decide
 rfl
 refine kf b17 (Xag (Xae (Xad ?_)))
 iterate 2 refine kO hT hC ?_
 refine kC hC [] Tryz.call142 h (fun _ => Xjf) fun q19 h => ?_
 iterate 7 refine kO hT hC ?_
 refine Vc.nil (Xap ?_)
 refine kL [0,2,9,10,13,14,15,18,19,20] [352] [_,_,_,_,_,_,_,_,_,_] [_] ?_
 refine kA h (fun v20 => ([(78, .sv (.bool v20)), (20, .any)], [])) (fun v20 h => ?_) fun v20 h => ?_
 refine Xac ?_
 iterate 3 refine kO hT hC ?_
 refine kS h ?_ ?_ <;> intro b18 h
 iterate 2 refine kI hT hC (kn b18) ?_
 refine kP hC false (kn b18) ?_
 refine kO hT hC ?_
 refine kS h ?_ ?_ <;> intro b19 h
 iterate 3 refine kF hC b19 ?_
 refine kP hC true b19 ?_
 exact Vc.nil kM
 refine kI hT hC b19 ?_
 refine kE hC b19 [] Tryz.call136 h (fun _ => Xat) fun q21 h => ?_
 refine kI hT hC b19 ?_
 refine kP hC false b19 ?_
 exact Vc.nil kM
 iterate 2 refine kF hC (kn b18) ?_
 refine kP hC true (kn b18) ?_
 refine kO hT hC ?_
 iterate 3 refine kF hC rfl ?_
 refine kO hT hC ?_
 exact Vc.nil kM
 refine kS h ?_ ?_ <;> intro b20 h
 refine kt b20 (Xad ?_)
 iterate 4 refine kO hT hC ?_
 refine Vc.nil (Xah (Xao (Xdj (Xao ?_))))
 obtain rfl := kj h
 refine Xpk (Xpj ?_)
 refine Xb8 (τ := ⟨[(6, .own 16), (7, .sv (.int .i64 0)), (8, .sv (.bool false))], [(16, some (.ints .i64 ([] : List Int)))]⟩) ?_ rfl ⟨rfl, trivial⟩
 apply Xcj hC [(16, 1264)]
 exact co
 rfl
 decide
 rfl
 refine kf b20 (Xag (Xae (Xad ?_)))
 iterate 4 refine kO hT hC ?_
 refine kN ?_
 iterate 3 refine kO hT hC ?_
 iterate 2 refine kQ hT hC h fun h => ?_
 refine kN ?_
 iterate 3 refine kO hT hC ?_
 refine Vc.nil (Xac ?_)
 iterate 2 refine kO hT hC ?_
 refine Vc.nil (Xaq (Xae (Xac ?_)))
 iterate 3 refine kO hT hC ?_
 exact Vc.nil kG
 exact kf b15 (Xas (Xaz kb))
 intro v16 e
 subst e
 refine Xae (Xad ?_)
 iterate 5 refine kO hT hC ?_
 refine Vc.nil (Xah ?_)
 obtain rfl := kj h
 exact Xb8 (τ := ⟨[(6, .own 16), (7, .sv (.int .i64 v16.1)), (8, .sv (.bool true))], [(16, some (.ints .i64 v16.2))]⟩) (kW hC [(16, 352)]) rfl ⟨rfl, trivial⟩
 intro r' σ' e hE
 subst e
 obtain rfl := kj h
 refine Xao ?_
 exact hE
def Xsq (r : ((List Int) × Int × Bool)) : AV := .tup [.own 16, .sv (.int .i64 r.2.1), .sv (.bool r.2.2)]
def Xsp (r : ((List Int) × Int × Bool)) : Xbb := [(16, .ints .i64 r.1)]
theorem Ykf {p0 p1 p2 r} (h : Xgr p0 p1 p2 = some r) : AC Tryz.prog 175 [.sv (.str p0), .sv (.int .i64 p1), .agg [.sv (.bool p2.Key), .sv (.int .i64 p2.Qp), .sv (.bool p2.Large), .sv (.bool p2.Exact)]] [] (Xsq r) (Xsp r) := by
 refine Xaf hT Tryz.func175 rfl fun C hC => ?_
 unfold Xgr at h
 refine Xad ?_
 iterate 4 refine kO hT hC ?_
 refine Vc.nil (Xap ?_)
 refine kL [0,1,5] [80] [_,_,_] [_] ?_
 refine kA h (fun v1 => ([(19, .sv (.bool v1)), (5, .any)], [(80, none)])) (fun v1 h => ?_) fun v1 h => ?_
 refine Xac ?_
 iterate 3 refine kO hT hC ?_
 refine kS h ?_ ?_ <;> intro b1 h
 iterate 2 refine kF hC b1 ?_
 refine kP hC true b1 ?_
 exact Vc.nil kM
 iterate 2 refine kI hT hC b1 ?_
 refine kP hC false b1 ?_
 exact Vc.nil kM
 refine kS h ?_ ?_ <;> intro b2 h
 refine kt b2 (Xad ?_)
 iterate 2 refine kO hT hC ?_
 refine kC hC [(16, 352)] Tryz.call199 h (fun _ => Xtw) fun q2 h => ?_
 iterate 6 refine kO hT hC ?_
 refine Vc.nil (Xah (Xao ?_))
 obtain rfl := kj h
 exact Xb8 (τ := ⟨[(6, .own 16), (7, .sv (.int .i64 q2.2.1)), (8, .sv (.bool q2.2.2))], [(16, some (.ints .i64 q2.1))]⟩) (kW hC [(16, 352)]) rfl ⟨rfl, trivial⟩
 refine kf b2 (Xag (Xae (Xad ?_)))
 iterate 2 refine kO hT hC ?_
 refine Vc.nil (Xap (Xad ?_))
 refine kO hT hC ?_
 refine Vc.nil ?_
 refine kL [0,1,9,10] [416] [_,_,_,_] [_] ?_
 obtain ⟨o10, hl, h⟩ := Xbo h
 refine Xf6 (fun v5 => ([(1, .sv (.int .i64 v5.1)), (10, .sv (.int .i64 v5.2.1))], [(416, some (.ints .i64 v5.2.2))])) (fun v8 => ([(1, .sv (.int .i64 v8.1)), (0, .any), (10, .any)], [(416, some (.ints .i64 v8.2))])) (fun r => Xpi C T Tryz.f175.results.toList (Xsq r) (Xsp r)) hl ?_ ?_ ?_ ?_
 try dsimp only
 apply Xcj hC []
 exact co
 rfl
 decide
 rfl
 intro v5 s hs
 have h := hs
 unfold Xd3 at h
 refine Xap (Xad ?_)
 iterate 2 refine kO hT hC ?_
 refine Vc.nil ?_
 refine kS h ?_ ?_ <;> intro b7 h
 refine kt b7 (Xag (Xae (Xap (Xan (Xad ?_)))))
 iterate 2 refine kO hT hC ?_
 refine kC hC [(16, 544)] Tryz.call199 h (fun _ => Xtw) fun q9 h => ?_
 iterate 7 refine kO hT hC ?_
 refine Vc.nil (Xap (Xad ?_))
 iterate 2 refine kO hT hC ?_
 refine Vc.nil ?_
 refine kS h ?_ ?_ <;> intro b8 h
 refine kt b8 (Xad ?_)
 iterate 4 refine kO hT hC ?_
 refine Vc.nil (Xah (Xao (Xdj (Xao ?_))))
 obtain rfl := kj h
 refine Xpk (Xpj ?_)
 refine Xb8 (τ := ⟨[(6, .own 16), (7, .sv (.int .i64 0)), (8, .sv (.bool false))], [(16, some (.ints .i64 ([] : List Int)))]⟩) ?_ rfl ⟨rfl, trivial⟩
 apply Xcj hC [(16, 640)]
 exact co
 rfl
 decide
 rfl
 refine kf b8 (Xag (Xae (Xad ?_)))
 iterate 2 refine kO hT hC ?_
 refine kT hT hC h fun h => ?_
 refine kO hT hC ?_
 refine Vc.nil (Xac ?_)
 iterate 2 refine kO hT hC ?_
 refine Vc.nil (Xaq (Xae (Xac ?_)))
 iterate 3 refine kO hT hC ?_
 refine Vc.nil ?_
 obtain rfl := kj h
 exact Xy0 (kW hC [(416, 688)])
 exact kf b7 (Xas (Xaz kb))
 intro v8 e
 subst e
 refine Xae (Xad ?_)
 iterate 5 refine kO hT hC ?_
 refine Vc.nil (Xah ?_)
 obtain rfl := kj h
 exact Xb8 (τ := ⟨[(6, .own 16), (7, .sv (.int .i64 v8.1)), (8, .sv (.bool true))], [(16, some (.ints .i64 v8.2))]⟩) (kW hC [(16, 416)]) rfl ⟨rfl, trivial⟩
 intro r' σ' e hE
 subst e
 obtain rfl := kj h
 refine Xao ?_
 exact hE
def Xts (r : Bool) : AV := .sv (.bool r)
def Xtr (r : Bool) : Xbb := []
theorem Xhj {p0 p1 p2 r} (h : Xeb p0 p1 p2 = some r) : AC Tryz.prog 200 [.sv (.ints .i64 p0), .sv (.int .i64 p1), .sv (.int .i64 p2)] [] (Xts r) (Xtr r) := by
 refine Xaf hT Tryz.func200 rfl fun C hC => ?_
 unfold Xeb at h
 refine Xad ?_
 refine kO hT hC ?_
 refine Vc.nil (Xap (Xad ?_))
 iterate 4 refine kO hT hC ?_
 refine Vc.nil ?_
 refine kS h ?_ ?_ <;> intro b1 h
 refine kt b1 (Xad ?_)
 refine kO hT hC ?_
 exact Vc.nil (Xah (Xao kR))
 refine kf b1 (Xag (Xae (Xap (Xad ?_))))
 refine kO hT hC ?_
 refine Vc.nil ?_
 refine kL [0,1,2,7] [] [_,_,_,_] [] ?_
 obtain ⟨o8, hl, h⟩ := Xbo h
 refine Xf6 (fun v3 => ([(7, .sv (.int .i64 v3))], [])) (fun v6 => ([(0, .any), (1, .any), (2, .any), (7, .any)], [])) (fun r => Xpi C T Tryz.f200.results.toList (Xts r) (Xtr r)) hl ?_ ?_ ?_ ?_
 apply Xcj hC []
 exact co
 rfl
 decide
 rfl
 intro v3 s hs
 have h := hs
 unfold Xel at h
 refine Xap (Xad ?_)
 iterate 3 refine kO hT hC ?_
 refine Vc.nil ?_
 refine kS h ?_ ?_ <;> intro b6 h
 refine kt b6 (Xag (Xae (Xap (Xan (Xad ?_)))))
 iterate 2 refine kO hT hC ?_
 refine kQ hT hC h fun h => ?_
 iterate 4 refine kO hT hC ?_
 refine kC hC [] Tryz.call136 h (fun _ => Xat) fun q7 h => ?_
 refine kO hT hC ?_
 refine Vc.nil ?_
 refine kS h ?_ ?_ <;> intro b7 h
 refine kt b7 (Xad ?_)
 refine kO hT hC ?_
 refine Vc.nil (Xah (Xdj (Xao ?_)))
 obtain rfl := kj h
 refine Xpk (Xpj ?_)
 exact Xb8 (Xiz.refl _) rfl trivial
 refine kf b7 (Xag (Xaq (Xae (Xac ?_))))
 iterate 3 refine kO hT hC ?_
 exact Vc.nil kG
 exact kf b6 (Xas (Xaz kb))
 intro v6 e
 subst e
 refine Xae (Xad ?_)
 refine kO hT hC ?_
 exact Vc.nil (Xah kR)
 intro r' σ' e hE
 subst e
 obtain rfl := kj h
 refine Xao ?_
 exact hE
def Ybk (r : Bool) : AV := .sv (.bool r)
def Ybj (r : Bool) : Xbb := []
theorem Xnz {p0 r} (h : Xef p0 = some r) : AC Tryz.prog 176 [.agg [.sv (.int .i64 p0.Kind), .sv (.int .i64 p0.Mode), .sv (.int .i64 p0.Dx), .sv (.int .i64 p0.Dy), .sv (.ints .i64 p0.Levels)]] [] (Ybk r) (Ybj r) := by
 refine Xaf hT Tryz.func176 rfl fun C hC => ?_
 unfold Xef at h
 refine Xad ?_
 iterate 2 refine kO hT hC ?_
 refine Vc.nil (Xap (Xad ?_))
 iterate 2 refine kO hT hC ?_
 refine Vc.nil (Xan (Xad ?_))
 iterate 2 refine kO hT hC ?_
 refine Vc.nil ?_
 refine kS h ?_ ?_ <;> intro b1 h
 refine kt b1 ?_
 refine kL [1,2] [16] [_,_] [_] ?_
 refine kA h (fun v1 => ([(2, .sv (.bool v1)), (1, .any)], [(16, none)])) (fun v1 h => ?_) fun v1 h => ?_
 refine Xac ?_
 iterate 4 refine kO hT hC ?_
 refine kS h ?_ ?_ <;> intro b2 h
 iterate 3 refine kI hT hC b2 ?_
 refine kP hC true b2 ?_
 refine kO hT hC ?_
 refine kS h ?_ ?_ <;> intro b3 h
 iterate 3 refine kI hT hC b3 ?_
 refine kP hC true b3 ?_
 refine kO hT hC ?_
 refine kS h ?_ ?_ <;> intro b4 h
 iterate 4 refine kI hT hC b4 ?_
 refine kP hC true b4 ?_
 refine kO hT hC ?_
 exact Vc.nil kM
 iterate 4 refine kF hC b4 ?_
 refine kP hC false b4 ?_
 refine kO hT hC ?_
 exact Vc.nil kM
 iterate 3 refine kF hC b3 ?_
 refine kP hC false b3 ?_
 refine kO hT hC ?_
 iterate 4 refine kF hC rfl ?_
 iterate 2 refine kO hT hC ?_
 exact Vc.nil kM
 iterate 3 refine kF hC b2 ?_
 refine kP hC false b2 ?_
 refine kO hT hC ?_
 iterate 3 refine kF hC rfl ?_
 iterate 2 refine kO hT hC ?_
 iterate 4 refine kF hC rfl ?_
 iterate 2 refine kO hT hC ?_
 exact Vc.nil kM
 exact Xah (Xdj (Xao kR))
 refine kf b1 (Xad ?_)
 iterate 2 refine kO hT hC ?_
 refine Vc.nil ?_
 refine kS h ?_ ?_ <;> intro b5 h
 refine kt b5 ?_
 refine kL [1,2] [16] [_,_] [_] ?_
 refine kA h (fun v2 => ([(2, .sv (.bool v2)), (1, .any)], [(16, none)])) (fun v2 h => ?_) fun v2 h => ?_
 refine Xac ?_
 iterate 4 refine kO hT hC ?_
 refine kS h ?_ ?_ <;> intro b6 h
 iterate 2 refine kI hT hC b6 ?_
 refine kE hC b6 [] Tryz.call136 h (fun _ => Xat) fun q3 h => ?_
 refine kP hC true b6 ?_
 refine kO hT hC ?_
 refine kS h ?_ ?_ <;> intro b7 h
 iterate 2 refine kI hT hC b7 ?_
 refine kE hC b7 [] Tryz.call136 h (fun _ => Xat) fun q4 h => ?_
 refine kP hC true b7 ?_
 refine kO hT hC ?_
 refine kS h ?_ ?_ <;> intro b8 h
 iterate 2 refine kI hT hC b8 ?_
 refine kE hC b8 [] Tryz.call200 h (fun _ => Xhj) fun q5 h => ?_
 refine kP hC true b8 ?_
 refine kO hT hC ?_
 exact Vc.nil kM
 iterate 3 refine kF hC b8 ?_
 refine kP hC false b8 ?_
 refine kO hT hC ?_
 exact Vc.nil kM
 iterate 3 refine kF hC b7 ?_
 refine kP hC false b7 ?_
 refine kO hT hC ?_
 iterate 3 refine kF hC rfl ?_
 iterate 2 refine kO hT hC ?_
 exact Vc.nil kM
 iterate 3 refine kF hC b6 ?_
 refine kP hC false b6 ?_
 refine kO hT hC ?_
 iterate 3 refine kF hC rfl ?_
 iterate 2 refine kO hT hC ?_
 iterate 3 refine kF hC rfl ?_
 iterate 2 refine kO hT hC ?_
 exact Vc.nil kM
 exact Xah (Xdj (Xao kR))
 refine kf b5 (Xad ?_)
 iterate 2 refine kO hT hC ?_
 refine Vc.nil ?_
 refine kS h ?_ ?_ <;> intro b9 h
 refine kt b9 ?_
 refine kL [1,2] [16] [_,_] [_] ?_
 refine kA h (fun v6 => ([(2, .sv (.bool v6)), (1, .any)], [(16, none)])) (fun v6 h => ?_) fun v6 h => ?_
 refine Xac ?_
 iterate 2 refine kO hT hC ?_
 refine kC hC [] Tryz.call136 h (fun _ => Xat) fun q7 h => ?_
 refine kO hT hC ?_
 refine kS h ?_ ?_ <;> intro b10 h
 iterate 3 refine kI hT hC b10 ?_
 refine kP hC true b10 ?_
 refine kO hT hC ?_
 refine kS h ?_ ?_ <;> intro b11 h
 iterate 3 refine kI hT hC b11 ?_
 refine kP hC true b11 ?_
 refine kO hT hC ?_
 refine kS h ?_ ?_ <;> intro b12 h
 iterate 2 refine kI hT hC b12 ?_
 refine kE hC b12 [] Tryz.call200 h (fun _ => Xhj) fun q8 h => ?_
 refine kP hC true b12 ?_
 refine kO hT hC ?_
 exact Vc.nil kM
 iterate 3 refine kF hC b12 ?_
 refine kP hC false b12 ?_
 refine kO hT hC ?_
 exact Vc.nil kM
 iterate 3 refine kF hC b11 ?_
 refine kP hC false b11 ?_
 refine kO hT hC ?_
 iterate 3 refine kF hC rfl ?_
 iterate 2 refine kO hT hC ?_
 exact Vc.nil kM
 iterate 3 refine kF hC b10 ?_
 refine kP hC false b10 ?_
 refine kO hT hC ?_
 iterate 3 refine kF hC rfl ?_
 iterate 2 refine kO hT hC ?_
 iterate 3 refine kF hC rfl ?_
 iterate 2 refine kO hT hC ?_
 exact Vc.nil kM
 exact Xah (Xdj (Xao kR))
 refine kf b9 (Xag (Xaq (Xae (Xad ?_))))
 refine kO hT hC ?_
 exact Vc.nil (Xah kR)
def Yfq (r : (Xar × Int × Bool)) : AV := .tup [.agg [.sv (.int .i64 r.1.Kind), .sv (.int .i64 r.1.Mode), .sv (.int .i64 r.1.Dx), .sv (.int .i64 r.1.Dy), .own 16], .sv (.int .i64 r.2.1), .sv (.bool r.2.2)]
def Yfp (r : (Xar × Int × Bool)) : Xbb := [(16, .ints .i64 r.1.Levels)]
theorem Yki {p0 p1 p2 r} (h : Xk4 p0 p1 p2 = some r) : AC Tryz.prog 145 [.sv (.str p0), .sv (.int .i64 p1), .agg [.sv (.bool p2.Key), .sv (.int .i64 p2.Qp), .sv (.bool p2.Large), .sv (.bool p2.Exact)]] [] (Yfq r) (Yfp r) := by
 refine Xaf hT Tryz.func145 rfl fun C hC => ?_
 unfold Xk4 at h
 refine Xad ?_
 iterate 4 refine kO hT hC ?_
 refine kN ?_
 iterate 3 refine kO hT hC ?_
 refine kN ?_
 refine kO hT hC ?_
 refine Vc.nil ?_
 refine kL [0,1,5,6,9] [80,96,144] [_,_,_,_,_] [_,_,_] ?_
 refine Yok h (fun (v1 : (Int × Int)) => ([(1, .sv (.int .i64 v1.1))], [(144, some (.box [.sv (.int .i64 v1.2), .sv (.int .i64 0), .sv (.int .i64 0), .sv (.int .i64 0), .sv .nil]))])) (fun v1 h => ?_) (fun h => ?_)
 refine kL [0,1,5,6,9] [80,96,144] [_,_,_,_,_] [_,_,_] ?_
 refine Yok h (fun (v4 : (Int × Bool × Int × Int × Int)) => ([(1, .sv (.int .i64 v4.1)), (10, .sv (.bool v4.2.1))], [(144, some (.box [.sv (.int .i64 v1.2), .sv (.int .i64 v4.2.2.1), .sv (.int .i64 v4.2.2.2.1), .sv (.int .i64 v4.2.2.2.2), .sv .nil]))])) (fun v4 h => ?_) (fun h => ?_)
 refine Xap (Xad ?_)
 iterate 2 refine kO hT hC ?_
 refine Vc.nil ?_
 refine kS h ?_ ?_ <;> intro b7 h
 refine kt b7 (Xad ?_)
 iterate 4 refine kO hT hC ?_
 refine Vc.nil (Xah (Xao ?_))
 obtain rfl := kj h
 refine Xb8 (τ := ⟨[(6, .ptr 2000000 0), (7, .sv (.int .i64 0)), (8, .sv (.bool false))], [(16, some (.ints .i64 [])), (2000000, some (.box [.sv (.int .i64 0), .sv (.int .i64 0), .sv (.int .i64 0), .sv (.int .i64 0), .own 16]))]⟩) ?_ rfl ⟨rfl, trivial⟩
 refine Xgs hC 96 4 1428 (.ints .i64 []) rfl rfl rfl rfl rfl trivial ?_
 apply Xcj hC [(16, 1428), (2000000, 96)]
 exact co
 rfl
 decide
 rfl
 refine kf b7 (Xag (Xae (Xad ?_)))
 iterate 3 refine kO hT hC ?_
 refine kC hC [(16, 1168)] Tryz.call175 h (fun _ => Ykf) fun q8 h => ?_
 iterate 8 refine kO hT hC ?_
 refine Vc.nil (Xap ?_)
 refine kL [1,6,9,10] [96,144,1168] [_,_,_,_] [_,_,_] ?_
 refine kA h (fun v9 => ([(84, .sv (.bool v9)), (10, .any)], [])) (fun v9 h => ?_) fun v9 h => ?_
 refine Xac ?_
 iterate 3 refine kO hT hC ?_
 refine kS h ?_ ?_ <;> intro b8 h
 refine kI hT hC (kn b8) ?_
 refine kE hC (kn b8) [] Tryz.call176 h (fun _ => Xnz) fun q10 h => ?_
 refine kI hT hC (kn b8) ?_
 refine kP hC false (kn b8) ?_
 exact Vc.nil kM
 iterate 3 refine kF hC (kn b8) ?_
 refine kP hC true (kn b8) ?_
 exact Vc.nil kM
 refine kS h ?_ ?_ <;> intro b9 h
 refine kt b9 (Xad ?_)
 iterate 4 refine kO hT hC ?_
 refine Vc.nil (Xah (Xao ?_))
 obtain rfl := kj h
 refine Xb8 (τ := ⟨[(6, .ptr 2000000 0), (7, .sv (.int .i64 0)), (8, .sv (.bool false))], [(16, some (.ints .i64 [])), (2000000, some (.box [.sv (.int .i64 0), .sv (.int .i64 0), .sv (.int .i64 0), .sv (.int .i64 0), .own 16]))]⟩) ?_ rfl ⟨rfl, trivial⟩
 refine Xgs hC 96 4 1429 (.ints .i64 []) rfl rfl rfl rfl rfl trivial ?_
 apply Xcj hC [(16, 1429), (2000000, 96)]
 exact co
 rfl
 decide
 rfl
 refine kf b9 (Xag (Xae (Xad ?_)))
 iterate 5 refine kO hT hC ?_
 refine Vc.nil (Xah ?_)
 obtain rfl := kj h
 exact Xb8 (τ := ⟨[(6, .ptr 2000000 0), (7, .sv (.int .i64 q8.2.1)), (8, .sv (.bool true))], [(16, some (.ints .i64 q8.1)), (2000000, some (.box [.sv (.int .i64 v1.2), .sv (.int .i64 v4.2.2.1), .sv (.int .i64 v4.2.2.2.1), .sv (.int .i64 v4.2.2.2.2), .own 16]))]⟩) (kW hC [(16, 1168), (2000000, 96)]) rfl ⟨rfl, trivial⟩
 refine Xad ?_
 iterate 2 refine kO hT hC ?_
 refine Vc.nil (Xan (Xad ?_))
 iterate 2 refine kO hT hC ?_
 refine Vc.nil ?_
 refine kS h ?_ ?_ <;> intro b4 h
 refine kt b4 (Xad ?_)
 iterate 5 refine kO hT hC ?_
 refine Vc.nil (Xah (Xdj (Yzy ?_)))
 obtain rfl := kj h
 refine Xb8 (τ := ⟨[(6, .ptr 2000000 0), (7, .sv (.int .i64 v1.1)), (8, .sv (.bool true))], [(16, some (.ints .i64 [])), (2000000, some (.box [.sv (.int .i64 v1.2), .sv (.int .i64 0), .sv (.int .i64 0), .sv (.int .i64 0), .own 16]))]⟩) ?_ rfl ⟨rfl, trivial⟩
 refine Xgs hC 96 4 1426 (.ints .i64 []) rfl rfl rfl rfl rfl trivial ?_
 apply Xcj hC [(16, 1426), (2000000, 96)]
 exact co
 rfl
 decide
 rfl
 refine kf b4 (Xad ?_)
 iterate 2 refine kO hT hC ?_
 refine Vc.nil ?_
 refine kS h ?_ ?_ <;> intro b5 h
 refine kt b5 (Xad ?_)
 iterate 2 refine kO hT hC ?_
 refine kC hC [] Tryz.call142 h (fun _ => Xjf) fun q5 h => ?_
 iterate 8 refine kO hT hC ?_
 refine Vc.nil (Xap (Xad ?_))
 iterate 2 refine kO hT hC ?_
 refine Vc.nil ?_
 refine kS h ?_ ?_ <;> intro b6 h
 refine kt b6 (Xad ?_)
 iterate 4 refine kO hT hC ?_
 refine Vc.nil (Xah (Xao (Xdj (Yzy ?_))))
 obtain rfl := kj h
 refine Xb8 (τ := ⟨[(6, .ptr 2000000 0), (7, .sv (.int .i64 0)), (8, .sv (.bool false))], [(16, some (.ints .i64 [])), (2000000, some (.box [.sv (.int .i64 0), .sv (.int .i64 0), .sv (.int .i64 0), .sv (.int .i64 0), .own 16]))]⟩) ?_ rfl ⟨rfl, trivial⟩
 refine Xgs hC 96 4 1427 (.ints .i64 []) rfl rfl rfl rfl rfl trivial ?_
 apply Xcj hC [(16, 1427), (2000000, 96)]
 exact co
 rfl
 decide
 rfl
 refine kf b6 (Xag (Xae (Xac ?_)))
 iterate 2 refine kO hT hC ?_
 refine kC hC [] Tryz.call142 h (fun _ => Xjf) fun q6 h => ?_
 iterate 8 refine kO hT hC ?_
 refine Vc.nil (Xaq ?_)
 exact Ynt (q6.2.1, q6.2.2, 0, q5.1, q6.1) h (kW hC [])
 refine kf b5 (Xac ?_)
 iterate 2 refine kO hT hC ?_
 refine kC hC [] Tryz.call104 h (fun _ => Xch) fun q7 h => ?_
 iterate 8 refine kO hT hC ?_
 refine Vc.nil (Xaq ?_)
 exact Ynt (q7.2.1, q7.2.2, q7.1, 0, 0) h (kW hC [])
 refine Xad ?_
 iterate 3 refine kO hT hC ?_
 refine Vc.nil ?_
 refine kS h ?_ ?_ <;> intro b1 h
 refine kt b1 (Xad ?_)
 iterate 2 refine kO hT hC ?_
 refine kC hC [] Tryz.call104 h (fun _ => Xch) fun q2 h => ?_
 iterate 8 refine kO hT hC ?_
 refine Vc.nil ?_
 refine kL [0,1,5,6,9,10] [80,96,144] [_,_,_,_,_,_] [_,_,_] ?_
 refine kA h (fun v3 => ([(29, .sv (.bool v3)), (10, .any)], [])) (fun v3 h => ?_) fun v3 h => ?_
 refine Xac ?_
 iterate 3 refine kO hT hC ?_
 refine kS h ?_ ?_ <;> intro b2 h
 iterate 3 refine kI hT hC (kn b2) ?_
 refine kP hC false (kn b2) ?_
 exact Vc.nil kM
 iterate 3 refine kF hC (kn b2) ?_
 refine kP hC true (kn b2) ?_
 exact Vc.nil kM
 refine kS h ?_ ?_ <;> intro b3 h
 refine kt b3 (Xad ?_)
 iterate 4 refine kO hT hC ?_
 refine Vc.nil (Xah (Yzy ?_))
 obtain rfl := kj h
 refine Xb8 (τ := ⟨[(6, .ptr 2000000 0), (7, .sv (.int .i64 0)), (8, .sv (.bool false))], [(16, some (.ints .i64 [])), (2000000, some (.box [.sv (.int .i64 0), .sv (.int .i64 0), .sv (.int .i64 0), .sv (.int .i64 0), .own 16]))]⟩) ?_ rfl ⟨rfl, trivial⟩
 refine Xgs hC 96 4 1425 (.ints .i64 []) rfl rfl rfl rfl rfl trivial ?_
 apply Xcj hC [(16, 1425), (2000000, 96)]
 exact co
 rfl
 decide
 rfl
 refine kf b3 (Xag ?_)
 exact Ynt (q2.2.1, q2.1) h (kW hC [])
 refine kf b1 (Xag ?_)
 exact Ynt (p1, 2) h (kW hC [])
def Xqz (r : ((List Xar) × Bool)) : AV := .tup [.own 16, .sv (.bool r.2)]
def Xqy (r : ((List Xar) × Bool)) : Xbb := [(16, .row Xc2 r.1)]
theorem Yeo {p0 p1 p2 p3 r} (h : Xgz p0 p1 p2 p3 = some r) : AC Tryz.prog 108 [.sv (.str p0), .sv (.int .i64 p1), .sv (.int .i64 p2), .agg [.sv (.bool p3.Key), .sv (.int .i64 p3.Qp), .sv (.bool p3.Large), .sv (.bool p3.Exact)]] [] (Xqz r) (Xqy r) := by
 refine Xaf hT Tryz.func108 rfl fun C hC => ?_
 unfold Xgz at h
 refine Xad ?_
 iterate 3 refine kO hT hC ?_
 refine kN ?_
 iterate 2 refine kO hT hC ?_
 refine Vc.nil (Xap ?_)
 refine kL [0,1,2,7,10] [112,240] [_,_,_,_,_] [_,_] ?_
 refine kA h (fun v1 => ([(35, .sv (.bool v1))], [])) (fun v1 h => ?_) fun v1 h => ?_
 refine Xac ?_
 refine kO hT hC ?_
 refine kC hC [] Tryz.call141 h (fun _ => Xrz) fun q2 h => ?_
 iterate 2 refine kO hT hC ?_
 refine kS h ?_ ?_ <;> intro b1 h
 iterate 3 refine kI hT hC (kn b1) ?_
 refine kE hC (kn b1) [] Tryz.call136 h (fun _ => Xat) fun q3 h => ?_
 refine kI hT hC (kn b1) ?_
 refine kP hC false (kn b1) ?_
 refine kO hT hC ?_
 refine kS h ?_ ?_ <;> intro b2 h
 refine kI hT hC (kn b2) ?_
 refine kE hC (kn b2) [] Tryz.call144 h (fun _ => Xm0) fun q4 h => ?_
 refine kI hT hC (kn b2) ?_
 refine kP hC false (kn b2) ?_
 refine kO hT hC ?_
 refine kS h ?_ ?_ <;> intro b3 h
 refine kI hT hC (kn b3) ?_
 refine kE hC (kn b3) [] Tryz.call136 h (fun _ => Xat) fun q5 h => ?_
 refine kI hT hC (kn b3) ?_
 refine kP hC false (kn b3) ?_
 exact Vc.nil kM
 iterate 3 refine kF hC (kn b3) ?_
 refine kP hC true (kn b3) ?_
 exact Vc.nil kM
 iterate 3 refine kF hC (kn b2) ?_
 refine kP hC true (kn b2) ?_
 refine kO hT hC ?_
 iterate 3 refine kF hC rfl ?_
 refine kO hT hC ?_
 exact Vc.nil kM
 iterate 5 refine kF hC (kn b1) ?_
 refine kP hC true (kn b1) ?_
 refine kO hT hC ?_
 iterate 3 refine kF hC rfl ?_
 iterate 2 refine kO hT hC ?_
 iterate 3 refine kF hC rfl ?_
 refine kO hT hC ?_
 exact Vc.nil kM
 refine kS h ?_ ?_ <;> intro b4 h
 refine kt b4 (Xad ?_)
 iterate 3 refine kO hT hC ?_
 refine Vc.nil (Xah (Xao ?_))
 obtain rfl := kj h
 exact Xb8 (τ := ⟨[(8, .own 16), (9, .sv (.bool false))], [(16, some (.row Xc2 ([] : List Xar)))]⟩) (kW hC [(16, 240)]) rfl ⟨rfl, trivial⟩
 refine kf b4 (Xag (Xae (Xap (Xad ?_))))
 refine kO hT hC ?_
 refine Vc.nil ?_
 refine kL [0,1,2,7,10,11] [112,240] [_,_,_,_,_,_] [_,_] ?_
 obtain ⟨o13, hl, h⟩ := Xbo h
 refine Xf6 (fun v8 => ([(1, .sv (.int .i64 v8.1)), (11, .sv (.int .i64 v8.2.1))], [(240, some (.row Xc2 v8.2.2))])) (fun v11 => ([(1, .sv (.int .i64 v11.1)), (2, .any), (7, .any), (11, .any)], [(240, some (.row Xc2 v11.2)), (112, none)])) (fun r => Xpi C T Tryz.f108.results.toList (Xqz r) (Xqy r)) hl ?_ ?_ ?_ ?_
 try dsimp only
 apply Xcj hC []
 exact co
 rfl
 decide
 rfl
 intro v8 s hs
 have h := hs
 unfold Xcf at h
 refine Xap (Xad ?_)
 iterate 3 refine kO hT hC ?_
 refine Vc.nil ?_
 refine kS h ?_ ?_ <;> intro b9 h
 refine kt b9 (Xag (Xae (Xap (Xan (Xad ?_)))))
 iterate 3 refine kO hT hC ?_
 refine kC hC [(16, 736)] Tryz.call145 h (fun _ => Yki) fun q12 h => ?_
 iterate 8 refine kO hT hC ?_
 refine Vc.nil (Xap (Xad ?_))
 iterate 2 refine kO hT hC ?_
 refine Vc.nil ?_
 refine kS h ?_ ?_ <;> intro b10 h
 refine kt b10 (Xad ?_)
 iterate 3 refine kO hT hC ?_
 refine Vc.nil (Xah (Xao (Xdj (Xao ?_))))
 obtain rfl := kj h
 refine Xpk (Xpj ?_)
 refine Xb8 (τ := ⟨[(8, .own 16), (9, .sv (.bool false))], [(16, some (.row Xc2 ([] : List Xar)))]⟩) ?_ rfl ⟨rfl, trivial⟩
 apply Xcj hC [(16, 832)]
 exact co
 rfl
 decide
 rfl
 refine kf b10 (Xag (Xae (Xad ?_)))
 iterate 3 refine kO hT hC ?_
 obtain ⟨hq, h⟩ := Xba h
 refine Yf3 hT hC rfl rfl rfl rfl ⟨fun _ _ => rfl, by rw [Xol]; exact hq⟩ ?_
 rw [Xol]
 refine kO hT hC ?_
 refine Vc.nil (Xac ?_)
 iterate 2 refine kO hT hC ?_
 refine Vc.nil (Xaq (Xae (Xac ?_)))
 iterate 3 refine kO hT hC ?_
 refine Vc.nil ?_
 obtain rfl := kj h
 exact Xy0 (kW hC [(240, 896)])
 exact kf b9 (Xas (Xaz kb))
 intro v11 e
 subst e
 refine Xae (Xap (Xad ?_))
 iterate 4 refine kO hT hC ?_
 refine Vc.nil ?_
 refine kS h ?_ ?_ <;> intro b11 h
 refine kt b11 (Xad ?_)
 iterate 3 refine kO hT hC ?_
 refine Vc.nil (Xah (Xao ?_))
 obtain rfl := kj h
 exact Xb8 (τ := ⟨[(8, .own 16), (9, .sv (.bool false))], [(16, some (.row Xc2 ([] : List Xar)))]⟩) (kW hC [(16, 992)]) rfl ⟨rfl, trivial⟩
 refine kf b11 (Xag (Xae (Xad ?_)))
 iterate 3 refine kO hT hC ?_
 refine Vc.nil (Xah ?_)
 obtain rfl := kj h
 exact Xb8 (τ := ⟨[(8, .own 16), (9, .sv (.bool true))], [(16, some (.row Xc2 v11.2))]⟩) (kW hC [(16, 240)]) rfl ⟨rfl, trivial⟩
 intro r' σ' e hE
 subst e
 obtain rfl := kj h
 refine Xao ?_
 exact hE
def Yfs (r : Bool) : AV := .sv (.bool r)
def Yfr (r : Bool) : Xbb := []
theorem Xtz {p0 r} (h : Xk5 p0 = some r) : AC Tryz.prog 147 [.sv (.int .i64 p0)] [] (Yfs r) (Yfr r) := by
 refine Xaf hT Tryz.func147 rfl fun C hC => ?_
 unfold Xk5 at h
 refine Xad ?_
 refine kO hT hC ?_
 refine Vc.nil ?_
 refine kL [0,2] [] [_,_] [] ?_
 refine kA h (fun v1 => ([(2, .sv (.bool v1)), (0, .any)], [])) (fun v1 h => ?_) fun v1 h => ?_
 refine Xac ?_
 refine kO hT hC ?_
 refine kQ hT hC h fun h => ?_
 iterate 2 refine kO hT hC ?_
 refine kS h ?_ ?_ <;> intro b1 h
 refine kI hT hC b1 ?_
 refine kE hC b1 [] Tryz.call136 h (fun _ => Xat) fun q2 h => ?_
 refine kP hC true b1 ?_
 refine kO hT hC ?_
 exact Vc.nil kM
 iterate 2 refine kF hC b1 ?_
 refine kP hC false b1 ?_
 refine kO hT hC ?_
 exact Vc.nil kM
 exact Xah kR
def Xv5 (r : Bool) : AV := .sv (.bool r)
def Xv4 (r : Bool) : Xbb := []
theorem Yqa {p0 p1 r} (h : Xq6 p0 p1 = some r) : AC Tryz.prog 148 [.sv (Xc2.sv p0), .agg [.sv (.bool p1.Key), .sv (.int .i64 p1.Qp), .sv (.bool p1.Large), .sv (.bool p1.Exact)]] [] (Xv5 r) (Xv4 r) := by
 refine Xaf hT Tryz.func148 rfl fun C hC => ?_
 unfold Xq6 at h
 refine Xad ?_
 iterate 2 refine kO hT hC ?_
 refine Vc.nil (Xap ?_)
 refine kL [0,3] [48] [_,_] [_] ?_
 refine kA h (fun v1 => ([(14, .sv (.bool v1))], [])) (fun v1 h => ?_) fun v1 h => ?_
 refine Xac ?_
 refine kO hT hC ?_
 refine kC hC [] Tryz.call144 h (fun _ => Xm0) fun q2 h => ?_
 iterate 2 refine kO hT hC ?_
 refine kS h ?_ ?_ <;> intro b1 h
 iterate 2 refine kI hT hC (kn b1) ?_
 refine kE hC (kn b1) [] Tryz.call136 h (fun _ => Xat) fun q3 h => ?_
 refine kI hT hC (kn b1) ?_
 refine kP hC false (kn b1) ?_
 exact Vc.nil kM
 iterate 4 refine kF hC (kn b1) ?_
 refine kP hC true (kn b1) ?_
 exact Vc.nil kM
 refine kS h ?_ ?_ <;> intro b2 h
 refine kt b2 (Xad ?_)
 refine kO hT hC ?_
 exact Vc.nil (Xah (Xao kR))
 refine kf b2 (Xag (Xae (Xap (Xad ?_))))
 refine kO hT hC ?_
 refine Vc.nil ?_
 refine kL [0,3,5] [48] [_,_,_] [_] ?_
 obtain ⟨o14, hl, h⟩ := Xbo h
 refine Xf6 (fun v7 => ([(5, .sv (.int .i64 v7))], [])) (fun v11 => ([(0, .any), (3, .any), (5, .any)], [(48, none)])) (fun r => Xpi C T Tryz.f148.results.toList (Xv5 r) (Xv4 r)) hl ?_ ?_ ?_ ?_
 apply Xcj hC []
 exact co
 rfl
 decide
 rfl
 intro v7 s hs
 have h := hs
 unfold Xg1 at h
 refine Xap (Xad ?_)
 iterate 4 refine kO hT hC ?_
 refine Vc.nil ?_
 refine kS h ?_ ?_ <;> intro b11 h
 refine kt b11 (Xag (Xae (Xap (Xan ?_))))
 refine kL [0,3,5] [48] [_,_,_] [_] ?_
 refine kA h (fun v12 => ([(38, .sv (.bool v12))], [])) (fun v12 h => ?_) fun v12 h => ?_
 refine Xac ?_
 iterate 2 refine kO hT hC ?_
 refine kQ hT hC h fun h => ?_
 refine kO hT hC ?_
 refine kC hC [] Tryz.call176 h (fun _ => Xnz) fun q13 h => ?_
 iterate 2 refine kO hT hC ?_
 refine kS h ?_ ?_ <;> intro b12 h
 iterate 3 refine kI hT hC (kn b12) ?_
 refine kS h ?_ ?_ <;> intro b13 h
 iterate 2 refine kI hT hC b13 ?_
 refine kJ hT hC b13 h fun h => ?_
 iterate 3 refine kI hT hC b13 ?_
 refine Xa1 hC rfl rfl rfl rfl (kn b12) rfl rfl (b := true) b13 rfl rfl rfl trivial ?_
 refine kP hC false (kn b12) ?_
 exact Vc.nil kM
 iterate 6 refine kF hC b13 ?_
 refine Xa1 hC rfl rfl rfl rfl (kn b12) rfl rfl (b := false) b13 rfl rfl rfl trivial ?_
 refine kP hC false (kn b12) ?_
 exact Vc.nil kM
 iterate 3 refine kF hC (kn b12) ?_
 iterate 6 refine Xd7 hC rfl rfl rfl rfl rfl rfl ?_
 refine kF hC (kn b12) ?_
 refine kP hC true (kn b12) ?_
 exact Vc.nil kM
 refine kS h ?_ ?_ <;> intro b14 h
 refine kt b14 (Xad ?_)
 refine kO hT hC ?_
 refine Vc.nil (Xah (Xdj (Xao ?_)))
 obtain rfl := kj h
 refine Xpk (Xpj ?_)
 exact Xb8 (Xiz.refl _) rfl trivial
 refine kf b14 (Xag (Xaq (Xae (Xac ?_))))
 iterate 3 refine kO hT hC ?_
 exact Vc.nil kG
 exact kf b11 (Xas (Xaz kb))
 intro v11 e
 subst e
 refine Xae (Xad ?_)
 refine kO hT hC ?_
 exact Vc.nil (Xah kR)
 intro r' σ' e hE
 subst e
 obtain rfl := kj h
 refine Xao ?_
 exact hE
def Xzy (r : Bool) : AV := .sv (.bool r)
def Xzx (r : Bool) : Xbb := []
theorem Xji {p0 p1 p2 p3 p4 r} (h : Xcs p0 p1 p2 p3 p4 = some r) : AC Tryz.prog 149 [.agg [.sv (.int .i64 p0.Wide), .sv (.int .i64 p0.High), .sv (.str p0.Dots)], .sv (.int .i64 p1), .sv (.int .i64 p2), .sv (.int .i64 p3), .sv (.int .i64 p4)] [] (Xzy r) (Xzx r) := by
 refine Xaf hT Tryz.func149 rfl fun C hC => ?_
 unfold Xcs at h
 refine Xad ?_
 iterate 2 refine kO hT hC ?_
 refine Vc.nil ?_
 refine kL [1,2,3,4,5,10] [80] [_,_,_,_,_,_] [_] ?_
 refine kA h (fun v1 => ([(10, .sv (.bool v1)), (1, .any), (2, .any), (3, .any), (4, .any), (5, .any)], [(80, none)])) (fun v1 h => ?_) fun v1 h => ?_
 refine Xac ?_
 refine kO hT hC ?_
 refine kC hC [] Tryz.call139 h (fun _ => Xjd) fun q2 h => ?_
 refine kO hT hC ?_
 refine kS h ?_ ?_ <;> intro b1 h
 iterate 3 refine kI hT hC b1 ?_
 refine kE hC b1 [] Tryz.call136 h (fun _ => Xat) fun q3 h => ?_
 refine kP hC true b1 ?_
 refine kO hT hC ?_
 refine kS h ?_ ?_ <;> intro b2 h
 iterate 3 refine kI hT hC b2 ?_
 refine kE hC b2 [] Tryz.call136 h (fun _ => Xat) fun q4 h => ?_
 refine kP hC true b2 ?_
 refine kO hT hC ?_
 refine kS h ?_ ?_ <;> intro b3 h
 iterate 5 refine kI hT hC b3 ?_
 refine kE hC b3 [] Tryz.call136 h (fun _ => Xat) fun q5 h => ?_
 refine kP hC true b3 ?_
 refine kO hT hC ?_
 refine kS h ?_ ?_ <;> intro b4 h
 iterate 5 refine kI hT hC b4 ?_
 refine kE hC b4 [] Tryz.call136 h (fun _ => Xat) fun q6 h => ?_
 refine kP hC true b4 ?_
 refine kO hT hC ?_
 exact Vc.nil kM
 iterate 6 refine kF hC b4 ?_
 refine kP hC false b4 ?_
 refine kO hT hC ?_
 exact Vc.nil kM
 iterate 6 refine kF hC b3 ?_
 refine kP hC false b3 ?_
 refine kO hT hC ?_
 iterate 6 refine kF hC rfl ?_
 iterate 2 refine kO hT hC ?_
 exact Vc.nil kM
 iterate 4 refine kF hC b2 ?_
 refine kP hC false b2 ?_
 refine kO hT hC ?_
 iterate 6 refine kF hC rfl ?_
 iterate 2 refine kO hT hC ?_
 iterate 6 refine kF hC rfl ?_
 iterate 2 refine kO hT hC ?_
 exact Vc.nil kM
 iterate 4 refine kF hC b1 ?_
 refine kP hC false b1 ?_
 refine kO hT hC ?_
 iterate 4 refine kF hC rfl ?_
 iterate 2 refine kO hT hC ?_
 iterate 6 refine kF hC rfl ?_
 iterate 2 refine kO hT hC ?_
 iterate 6 refine kF hC rfl ?_
 iterate 2 refine kO hT hC ?_
 exact Vc.nil kM
 exact Xah kR
def Yl1 (r : (Pic × Bool)) : AV := .tup [.agg [.sv (.int .i64 r.1.Wide), .sv (.int .i64 r.1.High), .sv (.str r.1.Dots)], .sv (.bool r.2)]
def Yl0 (r : (Pic × Bool)) : Xbb := []
theorem Yp5 {p0 p1 r} (h : Xoq p0 p1 = some r) : AC Tryz.prog 150 [.agg [.sv (.int .i64 p0.Wide), .sv (.int .i64 p0.High), .sv (.str p0.Dots)], .agg [.sv (.int .i64 p1.Left), .sv (.int .i64 p1.Top), .sv (.int .i64 p1.Wide), .sv (.int .i64 p1.High)]] [] (Yl1 r) (Yl0 r) := by
 refine Xaf hT Tryz.func150 rfl fun C hC => ?_
 unfold Xoq at h
 refine Xad ?_
 iterate 4 refine kO hT hC ?_
 refine Vc.nil (Xap (Xad ?_))
 iterate 9 refine kO hT hC ?_
 refine kC hC [] Tryz.call149 h (fun _ => Xji) fun q1 h => ?_
 refine kO hT hC ?_
 refine Vc.nil ?_
 refine kS h ?_ ?_ <;> intro b1 h
 refine kt b1 (Xad ?_)
 iterate 3 refine kO hT hC ?_
 exact Vc.nil (Xah (Xao kR))
 refine kf b1 (Xag (Xae (Xad ?_)))
 iterate 2 refine kO hT hC ?_
 refine Vc.nil (Xap (Xad ?_))
 iterate 3 refine kO hT hC ?_
 refine Vc.nil ?_
 refine kL [2,3,4,6,7] [32,48,64,320] [_,_,_,_,_] [_,_,_,_] ?_
 refine kX h (fun v3 => ([(7, .sv (.int .i64 v3.1))], [(320, some (.ints .u8 v3.2))])) (fun v5 => ([(2, .any), (7, .any)], [(320, some (.ints .u8 v5)), (32, none)])) (kW hC []) (fun v3 s h => ?_) fun v5 h => ?_
 unfold Xjc at h
 refine Xap (Xad ?_)
 iterate 7 refine kO hT hC ?_
 refine Vc.nil ?_
 refine kS h ?_ ?_ <;> intro b4 h
 refine kt b4 (Xag (Xae (Xap (Xan (Xac ?_)))))
 iterate 20 refine kO hT hC ?_
 refine kQ hT hC h fun h => ?_
 refine kT hT hC h fun h => ?_
 refine kO hT hC ?_
 refine Vc.nil (Xaq (Xae (Xac ?_)))
 iterate 3 refine kO hT hC ?_
 refine Vc.nil ?_
 obtain rfl := kj h
 exact Xy0 (kW hC [(320, 848)])
 exact kf b4 (Xas (Xaz ku))
 refine Xae (Xad ?_)
 iterate 9 refine kO hT hC ?_
 exact Vc.nil (Xah kR)
def Yex (r : ByteArray) : AV := .sv (.str r)
def Yew (r : ByteArray) : Xbb := []
theorem Xtg {p0 p1 r} (h : Xkx p0 p1 = some r) : AC Tryz.prog 154 [.sv (.int .i64 p0), .sv (.int .u8 p1)] [] (Yex r) (Yew r) := by
 refine Xaf hT Tryz.func154 rfl fun C hC => ?_
 unfold Xkx at h
 refine Xad ?_
 refine kO hT hC ?_
 refine kN ?_
 refine kO hT hC ?_
 obtain ⟨hq, h⟩ := Xba h
 refine Yf3 hT hC rfl rfl rfl rfl ⟨hq.1, hq.2.1, hq.2.2, by decide⟩ ?_
 refine kO hT hC ?_
 refine Vc.nil (Xap (Xad ?_))
 refine kO hT hC ?_
 refine Vc.nil ?_
 refine kL [0,1,5,6] [128] [_,_,_,_] [_] ?_
 refine kX h (fun v2 => ([(6, .sv (.int .i64 v2.1))], [(128, some (.ints .u8 v2.2))])) (fun v4 => ([(0, .any), (1, .any), (6, .any)], [(128, some (.ints .u8 v4))])) (kW hC []) (fun v2 s h => ?_) fun v4 h => ?_
 unfold Xij at h
 refine Xap (Xad ?_)
 iterate 3 refine kO hT hC ?_
 refine Vc.nil ?_
 refine kS h ?_ ?_ <;> intro b3 h
 refine kt b3 (Xag (Xae (Xap (Xan (Xac ?_)))))
 iterate 3 refine kO hT hC ?_
 iterate 2 refine kQ hT hC h fun h => ?_
 refine Vc.nil (Xaq (Xae (Xac ?_)))
 iterate 3 refine kO hT hC ?_
 exact Vc.nil kG
 exact kf b3 (Xas (Xaz ku))
 refine Xae (Xad ?_)
 iterate 3 refine kO hT hC ?_
 exact Vc.nil (Xah kR)
def Yp9 (r : Pic) : AV := .agg [.sv (.int .i64 r.Wide), .sv (.int .i64 r.High), .sv (.str r.Dots)]
def Yp8 (r : Pic) : Xbb := []
theorem Yc0 {p0 p1 r} (h : Xnn p0 p1 = some r) : AC Tryz.prog 113 [.sv (.int .i64 p0), .sv (.int .i64 p1)] [] (Yp9 r) (Yp8 r) := by
 refine Xaf hT Tryz.func113 rfl fun C hC => ?_
 unfold Xnn at h
 refine Xad ?_
 refine kO hT hC ?_
 refine Vc.nil (Xap ?_)
 refine kL [0,1,4] [64] [_,_,_] [_] ?_
 refine kA h (fun v1 => ([(12, .sv (.bool v1))], [])) (fun v1 h => ?_) fun v1 h => ?_
 refine Xac ?_
 refine kO hT hC ?_
 refine kC hC [] Tryz.call136 h (fun _ => Xat) fun q2 h => ?_
 iterate 2 refine kO hT hC ?_
 refine kS h ?_ ?_ <;> intro b1 h
 refine kI hT hC (kn b1) ?_
 refine kE hC (kn b1) [] Tryz.call136 h (fun _ => Xat) fun q3 h => ?_
 refine kI hT hC (kn b1) ?_
 refine kP hC false (kn b1) ?_
 exact Vc.nil kM
 iterate 3 refine kF hC (kn b1) ?_
 refine kP hC true (kn b1) ?_
 exact Vc.nil kM
 refine kS h ?_ ?_ <;> intro b2 h
 refine kt b2 (Xad ?_)
 iterate 2 refine kO hT hC ?_
 exact Vc.nil (Xah (Xao kR))
 refine kf b2 (Xag (Xae (Xad ?_)))
 iterate 5 refine kO hT hC ?_
 refine kC hC [] Tryz.call154 h (fun _ => Xtg) fun q4 h => ?_
 iterate 2 refine kO hT hC ?_
 exact Vc.nil (Xah kR)
def Yfo (r : Bool) : AV := .sv (.bool r)
def Yfn (r : Bool) : Xbb := []
theorem Xtx {p0 p1 p2 r} (h : Xk2 p0 p1 p2 = some r) : AC Tryz.prog 177 [.agg [.sv (.int .i64 p0.Wide), .sv (.int .i64 p0.High), .sv (.str p0.Dots)], .sv (.int .i64 p1), .sv (.int .i64 p2)] [] (Yfo r) (Yfn r) := by
 refine Xaf hT Tryz.func177 rfl fun C hC => ?_
 unfold Xk2 at h
 refine Xad ?_
 iterate 2 refine kO hT hC ?_
 refine Vc.nil ?_
 refine kL [1,2,3,6] [48] [_,_,_,_] [_] ?_
 refine kA h (fun v1 => ([(6, .sv (.bool v1)), (1, .any), (2, .any), (3, .any)], [(48, none)])) (fun v1 h => ?_) fun v1 h => ?_
 refine Xac ?_
 refine kO hT hC ?_
 refine kQ hT hC h fun h => ?_
 iterate 2 refine kO hT hC ?_
 refine kS h ?_ ?_ <;> intro b1 h
 refine kI hT hC b1 ?_
 refine kJ hT hC b1 h fun h => ?_
 refine kI hT hC b1 ?_
 refine kP hC true b1 ?_
 refine kO hT hC ?_
 refine kS h ?_ ?_ <;> intro b2 h
 iterate 3 refine kI hT hC b2 ?_
 refine kE hC b2 [] Tryz.call149 h (fun _ => Xji) fun q2 h => ?_
 refine kP hC true b2 ?_
 refine kO hT hC ?_
 exact Vc.nil kM
 iterate 4 refine kF hC b2 ?_
 refine kP hC false b2 ?_
 refine kO hT hC ?_
 exact Vc.nil kM
 iterate 3 refine kF hC b1 ?_
 refine kP hC false b1 ?_
 refine kO hT hC ?_
 iterate 4 refine kF hC rfl ?_
 iterate 2 refine kO hT hC ?_
 exact Vc.nil kM
 exact Xah kR
def Yea (r : Int) : AV := .sv (.int .i64 r)
def Yd9 (r : Int) : Xbb := []
theorem Xlq {p0 p1 p2 r} (h : Xfk p0 p1 p2 = some r) : AC Tryz.prog 208 [.sv (.int .i64 p0), .sv (.int .i64 p1), .sv (.int .i64 p2)] [] (Yea r) (Yd9 r) := by
 refine Xaf hT Tryz.func208 rfl fun C hC => ?_
 unfold Xfk at h
 refine Xad ?_
 refine kO hT hC ?_
 refine Vc.nil (Xap ?_)
 refine kL [0,1,2] [] [_,_,_] [] ?_
 refine kA h (fun v1 => ([(14, .sv (.bool v1))], [])) (fun v1 h => ?_) fun v1 h => ?_
 refine Xac ?_
 iterate 4 refine kO hT hC ?_
 refine kS h ?_ ?_ <;> intro b1 h
 iterate 3 refine kF hC b1 ?_
 refine kP hC true b1 ?_
 exact Vc.nil kM
 iterate 3 refine kI hT hC b1 ?_
 refine kP hC false b1 ?_
 exact Vc.nil kM
 refine kS h ?_ ?_ <;> intro b2 h
 refine kt b2 (Xad ?_)
 iterate 2 refine kO hT hC ?_
 exact Vc.nil (Xah (Xao kR))
 refine kf b2 (Xag (Xae (Xap (Xad ?_))))
 iterate 3 refine kO hT hC ?_
 refine Vc.nil ?_
 refine kS h ?_ ?_ <;> intro b3 h
 refine kt b3 (Xad ?_)
 iterate 2 refine kO hT hC ?_
 exact Vc.nil (Xah (Xao kR))
 refine kf b3 (Xag (Xae (Xad ?_)))
 iterate 2 refine kO hT hC ?_
 exact Vc.nil (Xah kR)
def Yl8 (r : Int) : AV := .sv (.int .i64 r)
def Yl7 (r : Int) : Xbb := []
theorem Xoe {p0 p1 p2 r} (h : Xf9 p0 p1 p2 = some r) : AC Tryz.prog 201 [.agg [.sv (.int .i64 p0.Wide), .sv (.int .i64 p0.High), .sv (.str p0.Dots)], .sv (.int .i64 p1), .sv (.int .i64 p2)] [] (Yl8 r) (Yl7 r) := by
 refine Xaf hT Tryz.func201 rfl fun C hC => ?_
 unfold Xf9 at h
 refine Xad ?_
 iterate 2 refine kO hT hC ?_
 refine Vc.nil (Xap (Xad ?_))
 refine kO hT hC ?_
 refine kC hC [] Tryz.call139 h (fun _ => Xjd) fun q1 h => ?_
 refine kO hT hC ?_
 refine Vc.nil ?_
 refine kS h ?_ ?_ <;> intro b1 h
 refine kt b1 (Xad ?_)
 refine kO hT hC ?_
 exact Vc.nil (Xah (Xao kR))
 refine kf b1 (Xag (Xae ?_))
 refine Xcq hm ?_
 iterate 6 refine kO hT hC ?_
 refine kC hC [] Tryz.call208 h (fun _ => Xlq) fun q2 h => ?_
 iterate 7 refine kO hT hC ?_
 refine kC hC [] Tryz.call208 h (fun _ => Xlq) fun q3 h => ?_
 refine kO hT hC ?_
 refine kQ hT hC h fun h => ?_
 iterate 2 refine kO hT hC ?_
 exact kD (Xah kR)
def Yef (r : (Xl6 × Bool)) : AV := .tup [.agg [.own 16, .own 17, .sv (.int .i64 r.1.Corner)], .sv (.bool r.2)]
def Yee (r : (Xl6 × Bool)) : Xbb := [(16, .ints .i64 r.1.Above), (17, .ints .i64 r.1.Left)]
theorem Yi4 {p0 p1 p2 r} (h : Xib p0 p1 p2 = some r) : AC Tryz.prog 178 [.agg [.sv (.int .i64 p0.Wide), .sv (.int .i64 p0.High), .sv (.str p0.Dots)], .sv (.int .i64 p1), .sv (.int .i64 p2)] [] (Yef r) (Yee r) := by
 refine Xaf hT Tryz.func178 rfl fun C hC => ?_
 unfold Xib at h
 refine Xad ?_
 iterate 3 refine kO hT hC ?_
 refine Vc.nil (Xap (Xad ?_))
 iterate 3 refine kO hT hC ?_
 refine kC hC [] Tryz.call177 h (fun _ => Xtx) fun q1 h => ?_
 refine kO hT hC ?_
 refine Vc.nil ?_
 refine kS h ?_ ?_ <;> intro b1 h
 refine kt b1 (Xad ?_)
 iterate 3 refine kO hT hC ?_
 refine Vc.nil (Xah (Xao ?_))
 obtain rfl := kj h
 refine Xb8 (τ := ⟨[(6, .ptr 2000000 0), (7, .sv (.bool false))], [(16, some (.ints .i64 [])), (17, some (.ints .i64 [])), (2000000, some (.box [.own 16, .own 17, .sv (.int .i64 0)]))]⟩) ?_ rfl ⟨rfl, rfl, trivial⟩
 refine Xgs hC 96 0 1025 (.ints .i64 []) rfl rfl rfl rfl rfl trivial ?_
 refine Xgs hC 96 1 1026 (.ints .i64 []) rfl rfl rfl rfl rfl trivial ?_
 apply Xcj hC [(16, 1025), (17, 1026), (2000000, 96)]
 exact co
 rfl
 decide
 rfl
 refine kf b1 (Xag (Xae (Xad ?_)))
 iterate 3 refine kO hT hC ?_
 refine Vc.nil (Xap (Xad ?_))
 refine kO hT hC ?_
 refine Vc.nil ?_
 refine kL [1,2,3,6,8,9] [48,96,128] [_,_,_,_,_,_] [_,_,_] ?_
 obtain ⟨v13, hl, h⟩ := Xbo h
 refine Yyh (fun v7 => ([(9, .sv (.int .i64 v7.1))], [(128, some (.box [.own 1049, .own 1050, .sv (.int .i64 (-1))])), (1049, some (.ints .i64 v7.2.1)), (1050, some (.ints .i64 v7.2.2))])) (fun v13 => ([(9, .any)], [(128, some (.box [.own 1053, .own 1054, .sv (.int .i64 (-1))])), (1053, some (.ints .i64 v13.1)), (1054, some (.ints .i64 v13.2))])) hl ?_ ?_ ?_
 refine Xgs hC 128 0 1055 (.ints .i64 []) rfl rfl rfl rfl rfl trivial ?_
 refine Xgs hC 128 1 1056 (.ints .i64 []) rfl rfl rfl rfl rfl trivial ?_
 try dsimp only
 apply Xcj hC [(1049, 1055), (1050, 1056)]
 exact co
 rfl
 decide
 rfl
 intro v7 s hs
 have h := hs
 unfold Xev at h
 refine Xap (Xad ?_)
 iterate 2 refine kO hT hC ?_
 refine Vc.nil ?_
 refine kS h ?_ ?_ <;> intro b8 h
 refine kt b8 (Xag (Xae ?_))
 refine kL [1,2,3,6,8,9] [48,96,128,1049,1050] [_,_,_,_,_,_] [_,_,_,_,_] ?_
 refine kA h (fun v14 => ([], [(1049, some (.ints .i64 v14.1)), (1050, some (.ints .i64 v14.2))])) (fun v14 h => ?_) fun v14 h => ?_
 refine Xan ?_
 refine kL [1,2,3,6,8,9] [48,96,128,1049,1050] [_,_,_,_,_,_] [_,_,_,_,_] ?_
 refine kA h (fun v15 => ([], [(1049, some (.ints .i64 v15))])) (fun v15 h => ?_) fun v15 h => ?_
 refine Xad ?_
 iterate 2 refine kO hT hC ?_
 refine Vc.nil ?_
 refine kS h ?_ ?_ <;> intro b9 h
 refine kt b9 ?_
 refine Xcu hm ?_
 iterate 8 refine kO hT hC ?_
 refine kC hC [] Tryz.call201 h (fun _ => Xoe) fun q16 h => ?_
 refine kO hT hC ?_
 refine kT hT hC h fun h => ?_
 iterate 2 refine kO hT hC ?_
 refine kD ?_
 obtain rfl := kj h
 exact Xgo (kW hC [(1049, 528)])
 exact kf b9 (Xag kM)
 refine Xad ?_
 iterate 2 refine kO hT hC ?_
 refine Vc.nil ?_
 refine kS h ?_ ?_ <;> intro b10 h
 refine kt b10 ?_
 refine Xcu hm ?_
 iterate 8 refine kO hT hC ?_
 refine kC hC [] Tryz.call201 h (fun _ => Xoe) fun q17 h => ?_
 refine kO hT hC ?_
 refine kT hT hC h fun h => ?_
 iterate 2 refine kO hT hC ?_
 refine kD (Xaq ?_)
 obtain rfl := kj h
 exact Xgo (kW hC [(1050, 752)])
 exact kf b10 (Xag (Xaq kM))
 refine Xac ?_
 iterate 3 refine kO hT hC ?_
 exact Vc.nil kG
 refine kf b8 (Xas (Xaz ?_))
 obtain rfl := kj h
 exact Yu4 (Zb3 (kW hC [(1053, 1049), (1054, 1050)]))
 refine Xae ?_
 refine kL [1,2,3,6,8] [48,96,128,1053,1054] [_,_,_,_,_] [_,_,_,_,_] ?_
 refine kA h (fun v19 => ([(1, .any), (2, .any), (3, .any)], [(128, some (.box [.own 1053, .own 1054, .sv (.int .i64 v19)])), (48, none)])) (fun v19 h => ?_) fun v19 h => ?_
 refine kL [1,2,3,6,8] [48,96,128,1053,1054] [_,_,_,_,_] [_,_,_,_,_] ?_
 refine kA h (fun v20 => ([(54, .sv (.bool v20))], [])) (fun v20 h => ?_) fun v20 h => ?_
 refine Xac ?_
 iterate 3 refine kO hT hC ?_
 refine kS h ?_ ?_ <;> intro b11 h
 iterate 2 refine kI hT hC b11 ?_
 refine kP hC true b11 ?_
 exact Vc.nil kM
 iterate 2 refine kF hC b11 ?_
 refine kP hC false b11 ?_
 exact Vc.nil kM
 refine kS h ?_ ?_ <;> intro b12 h
 refine kt b12 (Xac ?_)
 iterate 5 refine kO hT hC ?_
 refine kC hC [] Tryz.call201 h (fun _ => Xoe) fun q21 h => ?_
 iterate 2 refine kO hT hC ?_
 exact Vc.nil kM
 exact kf b12 (Xag kM)
 refine Xad ?_
 iterate 3 refine kO hT hC ?_
 refine Vc.nil (Xah ?_)
 obtain rfl := kj h
 exact Xb8 (τ := ⟨[(6, .ptr 2000000 0), (7, .sv (.bool true))], [(16, some (.ints .i64 v13.1)), (17, some (.ints .i64 v13.2)), (2000000, some (.box [.own 16, .own 17, .sv (.int .i64 v19)]))]⟩) (kW hC [(16, 1053), (17, 1054), (2000000, 96)]) rfl ⟨rfl, rfl, trivial⟩
def Xo7 (r : Int) : AV := .sv (.int .i64 r)
def Xo6 (r : Int) : Xbb := []
theorem Ymk {p0 p1 r} (h : Xo4 p0 p1 = some r) : AC Tryz.prog 223 [.sv (.int .i64 p0), .sv (.int .i64 p1)] [] (Xo7 r) (Xo6 r) := by
 refine Xaf hT Tryz.func223 rfl fun C hC => ?_
 unfold Xo4 at h
 refine Xad ?_
 refine kO hT hC ?_
 refine Vc.nil (Xap ?_)
 refine kL [0,1] [] [_,_] [] ?_
 refine kA h (fun v1 => ([(25, .sv (.bool v1))], [])) (fun v1 h => ?_) fun v1 h => ?_
 refine Xac ?_
 iterate 3 refine kO hT hC ?_
 refine kS h ?_ ?_ <;> intro b1 h
 iterate 2 refine kI hT hC b1 ?_
 refine kP hC true b1 ?_
 refine kO hT hC ?_
 refine kS h ?_ ?_ <;> intro b2 h
 iterate 2 refine kF hC b2 ?_
 refine kP hC true b2 ?_
 refine kO hT hC ?_
 iterate 5 refine kF hC rfl ?_
 refine kO hT hC ?_
 exact Vc.nil kM
 iterate 2 refine kI hT hC b2 ?_
 refine kP hC false b2 ?_
 refine kO hT hC ?_
 refine kS h ?_ ?_ <;> intro b3 h
 iterate 5 refine kF hC b3 ?_
 refine kP hC true b3 ?_
 exact Vc.nil kM
 iterate 5 refine kI hT hC b3 ?_
 refine kP hC false b3 ?_
 exact Vc.nil kM
 iterate 2 refine kF hC b1 ?_
 refine kP hC false b1 ?_
 refine kO hT hC ?_
 iterate 2 refine kI hT hC rfl ?_
 iterate 2 refine kO hT hC ?_
 refine kS h ?_ ?_ <;> intro b4 h
 iterate 5 refine kF hC b4 ?_
 refine kP hC true b4 ?_
 exact Vc.nil kM
 iterate 5 refine kI hT hC b4 ?_
 refine kP hC false b4 ?_
 exact Vc.nil kM
 refine kS h ?_ ?_ <;> intro b5 h
 refine kt b5 (Xad ?_)
 refine kO hT hC ?_
 exact Vc.nil (Xah (Xao kR))
 refine kf b5 (Xag (Xae (Xad ?_)))
 refine kO hT hC ?_
 refine Vc.nil (Xap (Xad ?_))
 refine kO hT hC ?_
 refine Vc.nil ?_
 refine kL [0,1,5,6] [] [_,_,_,_] [] ?_
 obtain ⟨o48, hl, h⟩ := Xbo h
 refine Xf6 (fun v17 => ([(5, .sv (.int .i64 v17.1)), (6, .sv (.int .i64 v17.2))], [])) (fun v33 => ([(0, .any), (1, .any), (5, .any), (6, .any)], [])) (fun r => Xpi C T Tryz.f223.results.toList (Xo7 r) (Xo6 r)) hl ?_ ?_ ?_ ?_
 try dsimp only
 apply Xcj hC []
 exact co
 rfl
 decide
 rfl
 intro v17 s hs
 have h := hs
 unfold Xlt at h
 refine Xap (Xad ?_)
 iterate 5 refine kO hT hC ?_
 refine Vc.nil ?_
 refine kS h ?_ ?_ <;> intro b32 h
 refine kt b32 (Xag (Xae (Xap (Xan (Xad ?_)))))
 refine kO hT hC ?_
 refine Vc.nil ?_
 refine kL [0,1,5,6,7] [] [_,_,_,_,_] [] ?_
 obtain ⟨o47, hl, h⟩ := Xbo h
 refine Xf6 (fun v38 => ([(5, .sv (.int .i64 v38.1)), (7, .sv (.int .i64 v38.2))], [])) (fun v43 => ([(5, .sv (.int .i64 v43)), (7, .any)], [])) (fun r => Xpi C T Tryz.f223.results.toList (Xo7 r) (Xo6 r)) hl ?_ ?_ ?_ ?_
 try dsimp only
 apply Xcj hC []
 exact co
 rfl
 decide
 rfl
 intro v38 s hs
 have h := hs
 unfold Xo5 at h
 refine Xap (Xad ?_)
 iterate 3 refine kO hT hC ?_
 refine Vc.nil ?_
 refine kS h ?_ ?_ <;> intro b41 h
 refine kt b41 (Xag (Xae ?_))
 refine kL [0,1,5,6,7] [] [_,_,_,_,_] [] ?_
 refine Yok h (fun (v44 : Int) => ([(5, .sv (.int .i64 v44))], [])) (fun v44 h => ?_) (fun h => ?_)
 refine Xac ?_
 iterate 3 refine kO hT hC ?_
 exact Vc.nil kG
 refine Xan (Xad ?_)
 iterate 2 refine kO hT hC ?_
 refine Vc.nil ?_
 refine kL [0,1,5,6,7,8] [] [_,_,_,_,_,_] [] ?_
 refine kA h (fun v45 => ([(8, .sv (.int .i64 v45))], [])) (fun v45 h => ?_) fun v45 h => ?_
 refine Xad ?_
 refine kO hT hC ?_
 refine kQ hT hC h fun h => ?_
 refine kO hT hC ?_
 refine Vc.nil ?_
 refine kS h ?_ ?_ <;> intro b42 h
 refine kt b42 (Xac ?_)
 iterate 5 refine kO hT hC ?_
 exact Vc.nil kM
 exact kf b42 (Xag kM)
 refine Xap (Xad ?_)
 iterate 5 refine kO hT hC ?_
 refine kC hC [] Tryz.call136 h (fun _ => Xat) fun q46 h => ?_
 refine kO hT hC ?_
 refine Vc.nil ?_
 refine kS h ?_ ?_ <;> intro b43 h
 refine kt b43 (Xas (Xaz (Yub ?_)))
 exact Ynt v38.1 h (kW hC [])
 refine kf b43 (Xag (Xae (Xap (Xad ?_))))
 iterate 3 refine kO hT hC ?_
 refine Vc.nil ?_
 refine kS h ?_ ?_ <;> intro b44 h
 refine kt b44 (Xad ?_)
 iterate 8 refine kO hT hC ?_
 refine Vc.nil (Xah (Xao (Xdj (Yzy ?_))))
 obtain rfl := kj h
 refine Xpk (Xpj ?_)
 exact Xb8 (Xiz.refl _) rfl trivial
 refine kf b44 (Xag (Xae (Xac ?_)))
 iterate 3 refine kO hT hC ?_
 refine Vc.nil (Xaq ?_)
 exact Ynt (Xaa .i64 (v38.1 + 1)) h (kW hC [])
 exact kf b41 (Xas (Xaz kb))
 intro v43 e
 subst e
 refine Xaq (Xae (Xac ?_))
 iterate 3 refine kO hT hC ?_
 exact Vc.nil kG
 intro r' σ' e hE
 subst e
 obtain rfl := kj h
 refine Xdj (Xao (Xpk (Xpj ?_)))
 exact hE
 exact kf b32 (Xas (Xaz kb))
 intro v33 e
 subst e
 refine Xae (Xad ?_)
 refine kO hT hC ?_
 exact Vc.nil (Xah kR)
 intro r' σ' e hE
 subst e
 obtain rfl := kj h
 refine Xao ?_
 exact hE
def Xzm (r : ((List Int) × Bool)) : AV := .tup [.own 16, .sv (.bool r.2)]
def Xzl (r : ((List Int) × Bool)) : Xbb := [(16, .ints .i64 r.1)]
theorem Xml {p0 p1 r} (h : Xdo p0 p1 = some r) : AC Tryz.prog 202 [.sv (.int .i64 p0), .sv (.ints .i64 p1)] [] (Xzm r) (Xzl r) := by
 refine Xaf hT Tryz.func202 rfl fun C hC => ?_
 unfold Xdo at h
 refine Xad ?_
 iterate 2 refine kO hT hC ?_
 refine Vc.nil (Xap ?_)
 refine kL [0,1] [] [_,_] [] ?_
 refine kA h (fun v1 => ([(21, .sv (.bool v1))], [])) (fun v1 h => ?_) fun v1 h => ?_
 refine Xac ?_
 iterate 3 refine kO hT hC ?_
 refine kS h ?_ ?_ <;> intro b1 h
 iterate 2 refine kI hT hC b1 ?_
 refine kP hC true b1 ?_
 refine kO hT hC ?_
 refine kS h ?_ ?_ <;> intro b2 h
 iterate 6 refine kF hC b2 ?_
 refine kP hC true b2 ?_
 exact Vc.nil kM
 iterate 6 refine kI hT hC b2 ?_
 refine kP hC false b2 ?_
 exact Vc.nil kM
 iterate 2 refine kF hC b1 ?_
 refine kP hC false b1 ?_
 refine kO hT hC ?_
 iterate 6 refine kI hT hC rfl ?_
 refine kO hT hC ?_
 exact Vc.nil kM
 refine kS h ?_ ?_ <;> intro b3 h
 refine kt b3 (Xad ?_)
 iterate 3 refine kO hT hC ?_
 refine Vc.nil (Xah (Xao ?_))
 obtain rfl := kj h
 exact Xb8 (τ := ⟨[(4, .own 16), (5, .sv (.bool false))], [(16, some (.ints .i64 ([] : List Int)))]⟩) (kW hC [(16, 352)]) rfl ⟨rfl, trivial⟩
 refine kf b3 (Xag (Xae (Xad ?_)))
 iterate 2 refine kO hT hC ?_
 obtain ⟨hq, h⟩ := Xba h
 refine Yf3 hT hC rfl rfl rfl rfl ⟨hq.1, hq.2.1, hq.2.2, by decide⟩ ?_
 refine kO hT hC ?_
 refine Vc.nil (Xap (Xad ?_))
 refine kO hT hC ?_
 refine Vc.nil ?_
 refine kL [0,1,6,7] [400] [_,_,_,_] [_] ?_
 refine kX h (fun v4 => ([(7, .sv (.int .i64 v4.1))], [(400, some (.ints .i64 v4.2))])) (fun v7 => ([(0, .any), (1, .any), (7, .any)], [(400, some (.ints .i64 v7))])) (kW hC []) (fun v4 s h => ?_) fun v7 h => ?_
 unfold Xcy at h
 refine Xap (Xad ?_)
 iterate 5 refine kO hT hC ?_
 refine Vc.nil ?_
 refine kS h ?_ ?_ <;> intro b6 h
 refine kt b6 (Xag (Xae (Xap (Xan ?_))))
 refine Xcu hm ?_
 iterate 3 refine kO hT hC ?_
 refine kC hC [] Tryz.call223 h (fun _ => Ymk) fun q8 h => ?_
 iterate 2 refine kO hT hC ?_
 refine kQ hT hC h fun h => ?_
 refine kO hT hC ?_
 iterate 2 refine kQ hT hC h fun h => ?_
 refine kD (Xaq (Xae (Xac ?_)))
 iterate 3 refine kO hT hC ?_
 exact Vc.nil kG
 exact kf b6 (Xas (Xaz ku))
 refine Xae (Xad ?_)
 iterate 3 refine kO hT hC ?_
 refine Vc.nil (Xah ?_)
 obtain rfl := kj h
 exact Xb8 (τ := ⟨[(4, .own 16), (5, .sv (.bool true))], [(16, some (.ints .i64 v7))]⟩) (kW hC [(16, 400)]) rfl ⟨rfl, trivial⟩
def Yju (r : Int) : AV := .sv (.int .i64 r)
def Yjt (r : Int) : Xbb := []
theorem Ymn {p0 r} (h : Xig p0 = some r) : AC Tryz.prog 224 [.sv (.int .i64 p0)] [] (Yju r) (Yjt r) := by
 refine Xaf hT Tryz.func224 rfl fun C hC => ?_
 unfold Xig at h
 refine Xad ?_
 refine kO hT hC ?_
 refine Vc.nil (Xap (Xad ?_))
 refine kO hT hC ?_
 refine kC hC [] Tryz.call136 h (fun _ => Xat) fun q1 h => ?_
 refine kO hT hC ?_
 refine Vc.nil ?_
 refine kS h ?_ ?_ <;> intro b1 h
 refine kt b1 (Xad ?_)
 refine kO hT hC ?_
 exact Vc.nil (Xah (Xao kR))
 refine kf b1 (Xag (Xae (Xad ?_)))
 refine kO hT hC ?_
 refine Vc.nil ?_
 refine kL [0,3] [] [_,_] [] ?_
 refine kA h (fun v2 => ([(3, .sv (.int .i64 v2))], [])) (fun v2 h => ?_) fun v2 h => ?_
 refine Xad ?_
 refine kO hT hC ?_
 refine kQ hT hC h fun h => ?_
 refine Vc.nil (Xan (Xad ?_))
 iterate 2 refine kO hT hC ?_
 refine Vc.nil ?_
 refine kS h ?_ ?_ <;> intro b2 h
 refine kt b2 (Xac ?_)
 refine kO hT hC ?_
 exact Vc.nil (Xaq kM)
 refine kf b2 (Xad ?_)
 iterate 2 refine kO hT hC ?_
 refine Vc.nil ?_
 refine kS h ?_ ?_ <;> intro b3 h
 refine kt b3 (Xac ?_)
 refine kO hT hC ?_
 exact Vc.nil (Xaq kM)
 refine kf b3 (Xad ?_)
 iterate 2 refine kO hT hC ?_
 refine Vc.nil ?_
 refine kS h ?_ ?_ <;> intro b4 h
 refine kt b4 (Xac ?_)
 refine kO hT hC ?_
 exact Vc.nil (Xaq kM)
 refine kf b4 (Xad ?_)
 iterate 2 refine kO hT hC ?_
 refine Vc.nil ?_
 refine kS h ?_ ?_ <;> intro b5 h
 refine kt b5 (Xac ?_)
 refine kO hT hC ?_
 exact Vc.nil (Xaq kM)
 refine kf b5 (Xad ?_)
 iterate 2 refine kO hT hC ?_
 refine Vc.nil ?_
 refine kS h ?_ ?_ <;> intro b6 h
 refine kt b6 (Xac ?_)
 refine kO hT hC ?_
 exact Vc.nil (Xaq kM)
 exact kf b6 (Xag (Xaq kM))
 refine Xap (Xad ?_)
 refine kO hT hC ?_
 refine Vc.nil ?_
 refine kL [0,3,4] [] [_,_,_] [] ?_
 refine kX h (fun v4 => ([(3, .sv (.int .i64 v4.1)), (4, .sv (.int .i64 v4.2))], [])) (fun v6 => ([(3, .sv (.int .i64 v6)), (0, .any), (4, .any)], [])) (kW hC []) (fun v4 s h => ?_) fun v6 h => ?_
 unfold Xj0 at h
 refine Xap (Xad ?_)
 iterate 2 refine kO hT hC ?_
 refine kQ hT hC h fun h => ?_
 refine kO hT hC ?_
 refine Vc.nil ?_
 refine kS h ?_ ?_ <;> intro b9 h
 refine kt b9 (Xag (Xae (Xap (Xan (Xac ?_)))))
 iterate 3 refine kO hT hC ?_
 refine Vc.nil (Xaq (Xae (Xac ?_)))
 iterate 3 refine kO hT hC ?_
 exact Vc.nil kG
 exact kf b9 (Xas (Xaz ku))
 refine Xae (Xad ?_)
 iterate 2 refine kO hT hC ?_
 exact Vc.nil (Xah kR)
def Xze (r : Int) : AV := .sv (.int .i64 r)
def Xzd (r : Int) : Xbb := []
theorem Ybf {p0 p1 r} (h : Xfw p0 p1 = some r) : AC Tryz.prog 203 [.sv (.int .i64 p0), .sv (.int .i64 p1)] [] (Xze r) (Xzd r) := by
 refine Xaf hT Tryz.func203 rfl fun C hC => ?_
 unfold Xfw at h
 refine Xad ?_
 refine kO hT hC ?_
 refine Vc.nil (Xap (Xad ?_))
 refine kO hT hC ?_
 refine kC hC [] Tryz.call136 h (fun _ => Xat) fun q1 h => ?_
 refine kO hT hC ?_
 refine Vc.nil ?_
 refine kS h ?_ ?_ <;> intro b1 h
 refine kt b1 (Xad ?_)
 refine kO hT hC ?_
 exact Vc.nil (Xah (Xao kR))
 refine kf b1 (Xag (Xae (Xad ?_)))
 iterate 2 refine kO hT hC ?_
 refine kC hC [] Tryz.call224 h (fun _ => Ymn) fun q2 h => ?_
 iterate 2 refine kO hT hC ?_
 exact Vc.nil (Xah kR)
def Yjq (r : Int) : AV := .sv (.int .i64 r)
def Yjp (r : Int) : Xbb := []
theorem Xvv {p0 p1 r} (h : Xie p0 p1 = some r) : AC Tryz.prog 235 [.sv (.int .i64 p0), .sv (.int .i64 p1)] [] (Yjq r) (Yjp r) := by
 refine Xaf hT Tryz.func235 rfl fun C hC => ?_
 unfold Xie at h
 refine Xad ?_
 refine kO hT hC ?_
 refine Vc.nil (Xap ?_)
 refine kL [0,1] [] [_,_] [] ?_
 refine kA h (fun v1 => ([(14, .sv (.bool v1))], [])) (fun v1 h => ?_) fun v1 h => ?_
 refine Xac ?_
 refine kO hT hC ?_
 refine kC hC [] Tryz.call136 h (fun _ => Xat) fun q2 h => ?_
 iterate 2 refine kO hT hC ?_
 refine kS h ?_ ?_ <;> intro b1 h
 refine kI hT hC (kn b1) ?_
 refine kE hC (kn b1) [] Tryz.call136 h (fun _ => Xat) fun q3 h => ?_
 refine kI hT hC (kn b1) ?_
 refine kP hC false (kn b1) ?_
 exact Vc.nil kM
 iterate 3 refine kF hC (kn b1) ?_
 refine kP hC true (kn b1) ?_
 exact Vc.nil kM
 refine kS h ?_ ?_ <;> intro b2 h
 refine kt b2 (Xad ?_)
 refine kO hT hC ?_
 exact Vc.nil (Xah (Xao kR))
 refine kf b2 (Xag (Xae (Xad ?_)))
 refine kO hT hC ?_
 refine Vc.nil (Xap (Xad ?_))
 iterate 4 refine kO hT hC ?_
 refine Vc.nil ?_
 refine kL [5,6] [] [_,_] [] ?_
 refine kX h (fun v6 => ([(5, .sv (.int .i64 v6.1)), (6, .sv (.int .i64 v6.2))], [])) (fun v9 => ([(5, .sv (.int .i64 v9)), (6, .any)], [])) (kW hC []) (fun v6 s h => ?_) fun v9 h => ?_
 unfold Xjy at h
 refine Xap (Xad ?_)
 iterate 2 refine kO hT hC ?_
 refine Vc.nil ?_
 refine kS h ?_ ?_ <;> intro b7 h
 refine kt b7 (Xag (Xae ?_))
 refine kL [5,6] [] [_,_] [] ?_
 refine kA h (fun v10 => ([(5, .sv (.int .i64 v10))], [])) (fun v10 h => ?_) fun v10 h => ?_
 refine Xan (Xad ?_)
 refine kO hT hC ?_
 refine kQ hT hC h fun h => ?_
 refine kO hT hC ?_
 refine Vc.nil ?_
 refine kS h ?_ ?_ <;> intro b8 h
 refine kt b8 (Xac ?_)
 iterate 3 refine kO hT hC ?_
 exact Vc.nil (Xaq kM)
 exact kf b8 (Xag (Xaq kM))
 refine Xac ?_
 refine kO hT hC ?_
 refine kQ hT hC h fun h => ?_
 refine kO hT hC ?_
 exact Vc.nil kG
 exact kf b7 (Xas (Xaz ku))
 refine Xae (Xad ?_)
 iterate 2 refine kO hT hC ?_
 exact Vc.nil (Xah kR)
def Yj8 (r : Int) : AV := .sv (.int .i64 r)
def Yj7 (r : Int) : Xbb := []
theorem Ym4 {p0 p1 p2 r} (h : Xkl p0 p1 p2 = some r) : AC Tryz.prog 234 [.sv (.ints .i64 p0), .sv (.int .i64 p1), .sv (.int .i64 p2)] [] (Yj8 r) (Yj7 r) := by
 refine Xaf hT Tryz.func234 rfl fun C hC => ?_
 unfold Xkl at h
 refine Xad ?_
 refine kO hT hC ?_
 refine kN ?_
 refine kO hT hC ?_
 refine Vc.nil (Xap (Xad ?_))
 refine kO hT hC ?_
 refine Vc.nil ?_
 refine kL [0,1,2,7,8] [] [_,_,_,_,_] [] ?_
 refine kX h (fun v3 => ([(7, .sv (.int .i64 v3.1)), (8, .sv (.int .i64 v3.2))], [])) (fun v6 => ([(7, .sv (.int .i64 v6)), (0, .any), (1, .any), (2, .any), (8, .any)], [])) (kW hC []) (fun v3 s h => ?_) fun v6 h => ?_
 unfold Xem at h
 refine Xap (Xad ?_)
 iterate 2 refine kO hT hC ?_
 refine Vc.nil ?_
 refine kS h ?_ ?_ <;> intro b3 h
 refine kt b3 (Xag (Xae (Xap (Xan ?_))))
 refine Xcu hm ?_
 iterate 6 refine kO hT hC ?_
 refine kQ hT hC h fun h => ?_
 iterate 3 refine kO hT hC ?_
 refine kC hC [] Tryz.call235 h (fun _ => Xvv) fun q7 h => ?_
 iterate 3 refine kO hT hC ?_
 refine kD (Xaq (Xae (Xac ?_)))
 iterate 3 refine kO hT hC ?_
 exact Vc.nil kG
 exact kf b3 (Xas (Xaz ku))
 refine Xae (Xad ?_)
 iterate 2 refine kO hT hC ?_
 exact Vc.nil (Xah kR)
def Yfj (r : (List Int)) : AV := .own 16
def Yfi (r : (List Int)) : Xbb := [(16, .ints .i64 r)]
theorem Yj9 {p0 r} (h : Xip p0 = some r) : AC Tryz.prog 225 [.sv (.ints .i64 p0)] [] (Yfj r) (Yfi r) := by
 refine Xaf hT Tryz.func225 rfl fun C hC => ?_
 unfold Xip at h
 refine Xad ?_
 refine kO hT hC ?_
 refine kN ?_
 iterate 2 refine kO hT hC ?_
 refine Vc.nil (Xap (Xad ?_))
 refine kO hT hC ?_
 refine Vc.nil ?_
 refine kL [0,3,4] [176] [_,_,_] [_] ?_
 refine kX h (fun v10 => ([(4, .sv (.int .i64 v10.1))], [(176, some (.ints .i64 v10.2))])) (fun v20 => ([(0, .any), (4, .any)], [(176, some (.ints .i64 v20))])) (kW hC []) (fun v10 s h => ?_) fun v20 h => ?_
 unfold Xdg at h
 refine Xap (Xad ?_)
 iterate 2 refine kO hT hC ?_
 refine Vc.nil ?_
 refine kS h ?_ ?_ <;> intro b9 h
 refine kt b9 (Xag (Xae (Xap (Xan (Xad ?_)))))
 refine kO hT hC ?_
 refine Vc.nil ?_
 refine kL [0,3,4,5] [176] [_,_,_,_] [_] ?_
 refine kX h (fun v23 => ([(5, .sv (.int .i64 v23.1))], [(176, some (.ints .i64 v23.2))])) (fun v26 => ([(5, .any)], [(176, some (.ints .i64 v26))])) (kW hC []) (fun v23 s h => ?_) fun v26 h => ?_
 unfold Xdh at h
 refine Xap (Xad ?_)
 iterate 2 refine kO hT hC ?_
 refine Vc.nil ?_
 refine kS h ?_ ?_ <;> intro b12 h
 refine kt b12 (Xag (Xae (Xap (Xan (Xac ?_)))))
 iterate 4 refine kO hT hC ?_
 refine kC hC [] Tryz.call234 h (fun _ => Ym4) fun q27 h => ?_
 refine kO hT hC ?_
 refine kT hT hC h fun h => ?_
 refine kO hT hC ?_
 refine Vc.nil (Xaq (Xae (Xac ?_)))
 iterate 3 refine kO hT hC ?_
 refine Vc.nil ?_
 obtain rfl := kj h
 exact Xy0 (kW hC [(176, 416)])
 exact kf b12 (Xas (Xaz ku))
 refine Xaq (Xae (Xac ?_))
 iterate 3 refine kO hT hC ?_
 exact Vc.nil kG
 exact kf b9 (Xas (Xaz ku))
 refine Xae (Xad ?_)
 iterate 2 refine kO hT hC ?_
 refine Vc.nil (Xap (Xad ?_))
 refine kO hT hC ?_
 refine Vc.nil ?_
 refine kL [3,6,7] [176,432] [_,_,_] [_,_] ?_
 refine kX h (fun v60 => ([(7, .sv (.int .i64 v60.1))], [(432, some (.ints .i64 v60.2))])) (fun v91 => ([(3, .any), (7, .any)], [(432, some (.ints .i64 v91)), (176, none)])) (kW hC []) (fun v60 s h => ?_) fun v91 h => ?_
 unfold Xcz at h
 refine Xap (Xad ?_)
 iterate 2 refine kO hT hC ?_
 refine Vc.nil ?_
 refine kS h ?_ ?_ <;> intro b39 h
 refine kt b39 (Xag (Xae (Xap (Xan (Xad ?_)))))
 refine kO hT hC ?_
 refine Vc.nil ?_
 refine kL [3,6,7,8] [176,432] [_,_,_,_] [_,_] ?_
 refine kX h (fun v101 => ([(8, .sv (.int .i64 v101.1))], [(432, some (.ints .i64 v101.2))])) (fun v111 => ([(8, .any)], [(432, some (.ints .i64 v111))])) (kW hC []) (fun v101 s h => ?_) fun v111 h => ?_
 unfold Xc0 at h
 refine Xap (Xad ?_)
 iterate 2 refine kO hT hC ?_
 refine Vc.nil ?_
 refine kS h ?_ ?_ <;> intro b48 h
 refine kt b48 (Xag (Xae (Xap (Xan (Xad ?_)))))
 refine kO hT hC ?_
 refine Vc.nil (Xap (Xad ?_))
 refine kO hT hC ?_
 refine Vc.nil ?_
 refine kL [3,6,7,8,9,10] [176,432] [_,_,_,_,_,_] [_,_] ?_
 refine kX h (fun v114 => ([(9, .sv (.int .i64 v114.1)), (10, .sv (.int .i64 v114.2))], [])) (fun v117 => ([(9, .sv (.int .i64 v117)), (10, .any)], [])) (kW hC []) (fun v114 s h => ?_) fun v117 h => ?_
 unfold Xc1 at h
 refine Xap (Xad ?_)
 iterate 2 refine kO hT hC ?_
 refine Vc.nil ?_
 refine kS h ?_ ?_ <;> intro b51 h
 refine kt b51 (Xag (Xae (Xap (Xan ?_))))
 refine Xcu hm ?_
 iterate 3 refine kO hT hC ?_
 refine kC hC [] Tryz.call235 h (fun _ => Xvv) fun q118 h => ?_
 iterate 5 refine kO hT hC ?_
 iterate 2 refine kQ hT hC h fun h => ?_
 iterate 3 refine kO hT hC ?_
 refine kD (Xaq (Xae (Xac ?_)))
 iterate 3 refine kO hT hC ?_
 exact Vc.nil kG
 exact kf b51 (Xas (Xaz ku))
 refine Xae (Xac ?_)
 iterate 3 refine kO hT hC ?_
 refine kT hT hC h fun h => ?_
 refine kO hT hC ?_
 refine Vc.nil (Xaq (Xae (Xac ?_)))
 iterate 3 refine kO hT hC ?_
 refine Vc.nil ?_
 obtain rfl := kj h
 exact Xy0 (kW hC [(432, 896)])
 exact kf b48 (Xas (Xaz ku))
 refine Xaq (Xae (Xac ?_))
 iterate 3 refine kO hT hC ?_
 exact Vc.nil kG
 exact kf b39 (Xas (Xaz ku))
 refine Xae (Xad ?_)
 iterate 2 refine kO hT hC ?_
 refine Vc.nil (Xah ?_)
 obtain rfl := kj h
 exact Xb8 (τ := ⟨[(2, .own 16)], [(16, some (.ints .i64 v91))]⟩) (kW hC [(16, 432)]) rfl ⟨rfl, trivial⟩
def Yff (r : Int) : AV := .sv (.int .i64 r)
def Yfe (r : Int) : Xbb := []
theorem Xly {p0 p1 r} (h : Xdf p0 p1 = some r) : AC Tryz.prog 226 [.sv (.int .i64 p0), .sv (.int .i64 p1)] [] (Yff r) (Yfe r) := by
 refine Xaf hT Tryz.func226 rfl fun C hC => ?_
 unfold Xdf at h
 refine Xad ?_
 refine kO hT hC ?_
 refine kN ?_
 iterate 2 refine kO hT hC ?_
 refine kQ hT hC h fun h => ?_
 refine kO hT hC ?_
 refine Vc.nil ?_
 refine kL [0,1,5] [] [_,_,_] [] ?_
 refine kA h (fun v1 => ([(5, .sv (.int .i64 v1)), (0, .any), (1, .any)], [])) (fun v1 h => ?_) fun v1 h => ?_
 refine Xad ?_
 iterate 2 refine kO hT hC ?_
 refine kQ hT hC h fun h => ?_
 refine kO hT hC ?_
 refine Vc.nil ?_
 refine kS h ?_ ?_ <;> intro b1 h
 refine kt b1 (Xac ?_)
 iterate 3 refine kO hT hC ?_
 exact Vc.nil kM
 exact kf b1 (Xag kM)
 refine Xad ?_
 iterate 2 refine kO hT hC ?_
 exact Vc.nil (Xah kR)
def Xzc (r : (List Int)) : AV := .own 16
def Xzb (r : (List Int)) : Xbb := [(16, .ints .i64 r)]
theorem Ybb {p0 r} (h : Xfu p0 = some r) : AC Tryz.prog 204 [.sv (.ints .i64 p0)] [] (Xzc r) (Xzb r) := by
 refine Xaf hT Tryz.func204 rfl fun C hC => ?_
 unfold Xfu at h
 refine Xad ?_
 refine kO hT hC ?_
 refine Vc.nil (Xap (Xad ?_))
 refine kO hT hC ?_
 refine kC hC [] Tryz.call200 h (fun _ => Xhj) fun q1 h => ?_
 refine kO hT hC ?_
 refine Vc.nil ?_
 refine kS h ?_ ?_ <;> intro b1 h
 refine kt b1 (Xad ?_)
 iterate 2 refine kO hT hC ?_
 refine Vc.nil (Xah (Xao ?_))
 obtain rfl := kj h
 exact Xb8 (τ := ⟨[(2, .own 16)], [(16, some (.ints .i64 ([] : List Int)))]⟩) (kW hC [(16, 128)]) rfl ⟨rfl, trivial⟩
 refine kf b1 (Xag (Xae (Xad ?_)))
 refine kO hT hC ?_
 refine kC hC [(16, 160)] Tryz.call225 h (fun _ => Yj9) fun q2 h => ?_
 refine kO hT hC ?_
 refine Vc.nil (Xap (Xad ?_))
 refine kO hT hC ?_
 refine Vc.nil ?_
 refine kL [3,4] [160] [_,_] [_] ?_
 refine kX h (fun v5 => ([(4, .sv (.int .i64 v5.1))], [(160, some (.ints .i64 v5.2))])) (fun v8 => ([(4, .any)], [(160, some (.ints .i64 v8))])) (kW hC []) (fun v5 s h => ?_) fun v8 h => ?_
 unfold Xga at h
 refine Xap (Xad ?_)
 iterate 2 refine kO hT hC ?_
 refine Vc.nil ?_
 refine kS h ?_ ?_ <;> intro b4 h
 refine kt b4 (Xag (Xae (Xap (Xan (Xac ?_)))))
 iterate 4 refine kO hT hC ?_
 iterate 2 refine kQ hT hC h fun h => ?_
 refine kO hT hC ?_
 refine kC hC [] Tryz.call226 h (fun _ => Xly) fun q9 h => ?_
 iterate 2 refine kQ hT hC h fun h => ?_
 refine Vc.nil (Xaq (Xae (Xac ?_)))
 iterate 3 refine kO hT hC ?_
 exact Vc.nil kG
 exact kf b4 (Xas (Xaz ku))
 refine Xae (Xad ?_)
 iterate 2 refine kO hT hC ?_
 refine Vc.nil (Xah ?_)
 obtain rfl := kj h
 exact Xb8 (τ := ⟨[(2, .own 16)], [(16, some (.ints .i64 v8))]⟩) (kW hC [(16, 160)]) rfl ⟨rfl, trivial⟩
def Yji (r : Int) : AV := .sv (.int .i64 r)
def Yjh (r : Int) : Xbb := []
theorem Ymb {p0 r} (h : Xmk p0 = some r) : AC Tryz.prog 236 [.sv (.int .i64 p0)] [] (Yji r) (Yjh r) := by
 refine Xaf hT Tryz.func236 rfl fun C hC => ?_
 unfold Xmk at h
 refine Xad ?_
 refine kO hT hC ?_
 refine Vc.nil (Xap (Xad ?_))
 refine kO hT hC ?_
 refine kC hC [] Tryz.call136 h (fun _ => Xat) fun q1 h => ?_
 refine kO hT hC ?_
 refine Vc.nil ?_
 refine kS h ?_ ?_ <;> intro b1 h
 refine kt b1 (Xad ?_)
 refine kO hT hC ?_
 exact Vc.nil (Xah (Xao kR))
 refine kf b1 (Xag (Xae (Xad ?_)))
 refine kO hT hC ?_
 iterate 2 refine kQ hT hC h fun h => ?_
 refine kO hT hC ?_
 refine kN ?_
 refine kO hT hC ?_
 iterate 2 refine kQ hT hC h fun h => ?_
 refine kO hT hC ?_
 refine Vc.nil (Xap ?_)
 refine kL [3,4] [] [_,_] [] ?_
 refine kA h (fun v2 => ([(19, .sv (.bool v2))], [])) (fun v2 h => ?_) fun v2 h => ?_
 refine Xac ?_
 iterate 3 refine kO hT hC ?_
 refine kS h ?_ ?_ <;> intro b2 h
 iterate 2 refine kI hT hC b2 ?_
 refine kP hC true b2 ?_
 exact Vc.nil kM
 iterate 2 refine kF hC b2 ?_
 refine kP hC false b2 ?_
 exact Vc.nil kM
 refine kS h ?_ ?_ <;> intro b3 h
 refine kt b3 (Xad ?_)
 refine kO hT hC ?_
 exact Vc.nil (Xah (Xao kR))
 refine kf b3 (Xag (Xae (Xap ?_)))
 refine kL [3,4] [] [_,_] [] ?_
 refine kA h (fun v3 => ([(25, .sv (.bool v3)), (3, .any), (4, .any)], [])) (fun v3 h => ?_) fun v3 h => ?_
 refine Xac ?_
 iterate 3 refine kO hT hC ?_
 refine kS h ?_ ?_ <;> intro b4 h
 iterate 2 refine kI hT hC b4 ?_
 refine kP hC true b4 ?_
 exact Vc.nil kM
 iterate 2 refine kF hC b4 ?_
 refine kP hC false b4 ?_
 exact Vc.nil kM
 refine kS h ?_ ?_ <;> intro b5 h
 refine kt b5 (Xad ?_)
 refine kO hT hC ?_
 exact Vc.nil (Xah (Xao kR))
 refine kf b5 (Xag (Xae (Xad ?_)))
 refine kO hT hC ?_
 exact Vc.nil (Xah kR)
def Yfd (r : Int) : AV := .sv (.int .i64 r)
def Yfc (r : Int) : Xbb := []
theorem Xgg {p0 p1 p2 p3 r} (h : Xca p0 p1 p2 p3 = some r) : AC Tryz.prog 237 [.sv (.int .i64 p0), .sv (.int .i64 p1), .sv (.int .i64 p2), .sv (.int .i64 p3)] [] (Yfd r) (Yfc r) := by
 refine Xaf hT Tryz.func237 rfl fun C hC => ?_
 unfold Xca at h
 refine Xad ?_
 refine kO hT hC ?_
 refine Vc.nil (Xap (Xad ?_))
 refine kO hT hC ?_
 refine Vc.nil (Xan (Xad ?_))
 iterate 2 refine kO hT hC ?_
 refine Vc.nil ?_
 refine kS h ?_ ?_ <;> intro b1 h
 refine kt b1 (Xad ?_)
 iterate 2 refine kO hT hC ?_
 exact Vc.nil (Xah (Xdj (Xao kR)))
 refine kf b1 (Xad ?_)
 iterate 2 refine kO hT hC ?_
 refine Vc.nil ?_
 refine kS h ?_ ?_ <;> intro b2 h
 refine kt b2 (Xad ?_)
 iterate 2 refine kO hT hC ?_
 exact Vc.nil (Xah (Xdj (Xao kR)))
 refine kf b2 (Xag (Xaq (Xae (Xad ?_))))
 iterate 2 refine kO hT hC ?_
 exact Vc.nil (Xah kR)
def Yeq (r : Int) : AV := .sv (.int .i64 r)
def Yep (r : Int) : Xbb := []
theorem Yjn {p0 p1 r} (h : Xid p0 p1 = some r) : AC Tryz.prog 227 [.sv (.int .i64 p0), .sv (.int .i64 p1)] [] (Yeq r) (Yep r) := by
 refine Xaf hT Tryz.func227 rfl fun C hC => ?_
 unfold Xid at h
 refine Xad ?_
 refine kO hT hC ?_
 refine kN ?_
 refine kO hT hC ?_
 refine kC hC [] Tryz.call236 h (fun _ => Ymb) fun q1 h => ?_
 refine kO hT hC ?_
 refine Vc.nil (Xap ?_)
 refine kL [0,5] [] [_,_] [] ?_
 refine kA h (fun v2 => ([(16, .sv (.bool v2))], [])) (fun v2 h => ?_) fun v2 h => ?_
 refine Xac ?_
 refine kO hT hC ?_
 refine kC hC [] Tryz.call136 h (fun _ => Xat) fun q3 h => ?_
 iterate 2 refine kO hT hC ?_
 refine kS h ?_ ?_ <;> intro b1 h
 iterate 2 refine kI hT hC (kn b1) ?_
 refine kP hC false (kn b1) ?_
 exact Vc.nil kM
 iterate 2 refine kF hC (kn b1) ?_
 refine kP hC true (kn b1) ?_
 exact Vc.nil kM
 refine kS h ?_ ?_ <;> intro b2 h
 refine kt b2 (Xad ?_)
 refine kO hT hC ?_
 exact Vc.nil (Xah (Xao kR))
 refine kf b2 (Xag (Xae (Xad ?_)))
 refine kO hT hC ?_
 refine Vc.nil ?_
 refine kL [0,5,6] [] [_,_,_] [] ?_
 refine kA h (fun v4 => ([(6, .sv (.int .i64 v4)), (5, .any)], [])) (fun v4 h => ?_) fun v4 h => ?_
 refine Xad ?_
 refine kO hT hC ?_
 refine kQ hT hC h fun h => ?_
 refine Vc.nil (Xan (Xad ?_))
 iterate 2 refine kO hT hC ?_
 refine Vc.nil ?_
 refine kS h ?_ ?_ <;> intro b3 h
 refine kt b3 (Xac ?_)
 refine kO hT hC ?_
 refine kC hC [] Tryz.call237 h (fun _ => Xgg) fun q5 h => ?_
 refine kO hT hC ?_
 exact Vc.nil (Xaq kM)
 refine kf b3 (Xad ?_)
 iterate 2 refine kO hT hC ?_
 refine Vc.nil ?_
 refine kS h ?_ ?_ <;> intro b4 h
 refine kt b4 (Xac ?_)
 refine kO hT hC ?_
 refine kC hC [] Tryz.call237 h (fun _ => Xgg) fun q6 h => ?_
 refine kO hT hC ?_
 exact Vc.nil (Xaq kM)
 refine kf b4 (Xad ?_)
 iterate 2 refine kO hT hC ?_
 refine Vc.nil ?_
 refine kS h ?_ ?_ <;> intro b5 h
 refine kt b5 (Xac ?_)
 refine kO hT hC ?_
 refine kC hC [] Tryz.call237 h (fun _ => Xgg) fun q7 h => ?_
 refine kO hT hC ?_
 exact Vc.nil (Xaq kM)
 refine kf b5 (Xad ?_)
 iterate 2 refine kO hT hC ?_
 refine Vc.nil ?_
 refine kS h ?_ ?_ <;> intro b6 h
 refine kt b6 (Xac ?_)
 refine kO hT hC ?_
 refine kC hC [] Tryz.call237 h (fun _ => Xgg) fun q8 h => ?_
 refine kO hT hC ?_
 exact Vc.nil (Xaq kM)
 refine kf b6 (Xad ?_)
 iterate 2 refine kO hT hC ?_
 refine Vc.nil ?_
 refine kS h ?_ ?_ <;> intro b7 h
 refine kt b7 (Xac ?_)
 refine kO hT hC ?_
 refine kC hC [] Tryz.call237 h (fun _ => Xgg) fun q9 h => ?_
 refine kO hT hC ?_
 exact Vc.nil (Xaq kM)
 refine kf b7 (Xad ?_)
 iterate 2 refine kO hT hC ?_
 refine Vc.nil ?_
 refine kS h ?_ ?_ <;> intro b8 h
 refine kt b8 (Xac ?_)
 refine kO hT hC ?_
 refine kC hC [] Tryz.call237 h (fun _ => Xgg) fun q10 h => ?_
 refine kO hT hC ?_
 exact Vc.nil (Xaq kM)
 exact kf b8 (Xag (Xaq kM))
 refine Xap (Xad ?_)
 refine kO hT hC ?_
 refine Vc.nil ?_
 refine kL [0,6,7] [] [_,_,_] [] ?_
 refine kX h (fun v12 => ([(6, .sv (.int .i64 v12.1)), (7, .sv (.int .i64 v12.2))], [])) (fun v14 => ([(6, .sv (.int .i64 v14)), (0, .any), (7, .any)], [])) (kW hC []) (fun v12 s h => ?_) fun v14 h => ?_
 unfold Xew at h
 refine Xap (Xad ?_)
 iterate 2 refine kO hT hC ?_
 refine kQ hT hC h fun h => ?_
 refine kO hT hC ?_
 refine Vc.nil ?_
 refine kS h ?_ ?_ <;> intro b11 h
 refine kt b11 (Xag (Xae (Xap (Xan (Xac ?_)))))
 iterate 3 refine kO hT hC ?_
 refine Vc.nil (Xaq (Xae (Xac ?_)))
 iterate 3 refine kO hT hC ?_
 exact Vc.nil kG
 exact kf b11 (Xas (Xaz ku))
 refine Xae (Xad ?_)
 iterate 2 refine kO hT hC ?_
 exact Vc.nil (Xah kR)
def Xzh (r : Int) : AV := .sv (.int .i64 r)
def Xzg (r : Int) : Xbb := []
theorem Ybi {p0 p1 p2 r} (h : Xfx p0 p1 p2 = some r) : AC Tryz.prog 205 [.sv (.int .i64 p0), .sv (.int .i64 p1), .sv (.int .i64 p2)] [] (Xzh r) (Xzg r) := by
 refine Xaf hT Tryz.func205 rfl fun C hC => ?_
 unfold Xfx at h
 refine Xad ?_
 refine kO hT hC ?_
 refine Vc.nil (Xap (Xad ?_))
 refine kO hT hC ?_
 refine kC hC [] Tryz.call136 h (fun _ => Xat) fun q1 h => ?_
 refine kO hT hC ?_
 refine Vc.nil ?_
 refine kS h ?_ ?_ <;> intro b1 h
 refine kt b1 (Xad ?_)
 refine kO hT hC ?_
 exact Vc.nil (Xah (Xao kR))
 refine kf b1 (Xag (Xae (Xad ?_)))
 iterate 3 refine kO hT hC ?_
 refine kC hC [] Tryz.call227 h (fun _ => Yjn) fun q2 h => ?_
 iterate 2 refine kO hT hC ?_
 exact Vc.nil (Xah kR)
def Ybw (r : (List Int)) : AV := .own 16
def Ybv (r : (List Int)) : Xbb := [(16, .ints .i64 r)]
theorem Xse {p0 r} (h : Xfn p0 = some r) : AC Tryz.prog 229 [.sv (.ints .i64 p0)] [] (Ybw r) (Ybv r) := by
 refine Xaf hT Tryz.func229 rfl fun C hC => ?_
 unfold Xfn at h
 refine Xad ?_
 refine kO hT hC ?_
 refine kN ?_
 iterate 2 refine kO hT hC ?_
 refine Vc.nil (Xap (Xad ?_))
 refine kO hT hC ?_
 refine Vc.nil ?_
 refine kL [0,3,4] [208] [_,_,_] [_] ?_
 refine kX h (fun v4 => ([(4, .sv (.int .i64 v4.1))], [(208, some (.ints .i64 v4.2))])) (fun v8 => ([(0, .any), (4, .any)], [(208, some (.ints .i64 v8))])) (kW hC []) (fun v4 s h => ?_) fun v8 h => ?_
 unfold Xde at h
 refine Xap (Xad ?_)
 iterate 2 refine kO hT hC ?_
 refine Vc.nil ?_
 refine kS h ?_ ?_ <;> intro b3 h
 refine kt b3 (Xag (Xae (Xap (Xan (Xad ?_)))))
 iterate 3 refine kO hT hC ?_
 refine kQ hT hC h fun h => ?_
 iterate 2 refine kO hT hC ?_
 refine kN ?_
 iterate 4 refine kO hT hC ?_
 refine kQ hT hC h fun h => ?_
 iterate 2 refine kO hT hC ?_
 refine kN ?_
 iterate 4 refine kO hT hC ?_
 refine kQ hT hC h fun h => ?_
 iterate 2 refine kO hT hC ?_
 refine kN ?_
 iterate 4 refine kO hT hC ?_
 refine kQ hT hC h fun h => ?_
 iterate 2 refine kO hT hC ?_
 refine kN ?_
 iterate 4 refine kO hT hC ?_
 refine kN ?_
 iterate 4 refine kO hT hC ?_
 refine kN ?_
 refine kO hT hC ?_
 refine kC hC [] Tryz.call226 h (fun _ => Xly) fun q9 h => ?_
 iterate 3 refine kO hT hC ?_
 refine kN ?_
 iterate 2 refine kO hT hC ?_
 refine kC hC [] Tryz.call226 h (fun _ => Xly) fun q10 h => ?_
 iterate 2 refine kO hT hC ?_
 refine Vc.nil (Xac ?_)
 iterate 14 refine kO hT hC ?_
 refine kT hT hC h fun h => ?_
 refine kO hT hC ?_
 refine Vc.nil (Xaq (Xae (Xac ?_)))
 iterate 3 refine kO hT hC ?_
 refine Vc.nil ?_
 obtain rfl := kj h
 exact Xy0 (kW hC [(208, 1104)])
 exact kf b3 (Xas (Xaz ku))
 refine Xae (Xad ?_)
 iterate 2 refine kO hT hC ?_
 refine Vc.nil (Xah ?_)
 obtain rfl := kj h
 exact Xb8 (τ := ⟨[(2, .own 16)], [(16, some (.ints .i64 v8))]⟩) (kW hC [(16, 208)]) rfl ⟨rfl, trivial⟩
def Yfh (r : (List Int)) : AV := .own 16
def Yfg (r : (List Int)) : Xbb := [(16, .ints .i64 r)]
theorem Xtt {p0 r} (h : Xgq p0 = some r) : AC Tryz.prog 228 [.sv (.ints .i64 p0)] [] (Yfh r) (Yfg r) := by
 refine Xaf hT Tryz.func228 rfl fun C hC => ?_
 unfold Xgq at h
 refine Xad ?_
 refine kO hT hC ?_
 refine kN ?_
 obtain ⟨hq, h⟩ := Xba h
 refine Yf3 hT hC rfl rfl rfl rfl ⟨hq.1, hq.2.1, hq.2.2, by decide⟩ ?_
 refine kO hT hC ?_
 refine Vc.nil (Xap (Xad ?_))
 refine kO hT hC ?_
 refine Vc.nil ?_
 refine kL [0,3,4] [80] [_,_,_] [_] ?_
 refine kX h (fun v2 => ([(4, .sv (.int .i64 v2.1))], [(80, some (.ints .i64 v2.2))])) (fun v4 => ([(0, .any), (4, .any)], [(80, some (.ints .i64 v4))])) (kW hC []) (fun v2 s h => ?_) fun v4 h => ?_
 unfold Xd2 at h
 refine Xap (Xad ?_)
 iterate 2 refine kO hT hC ?_
 refine Vc.nil ?_
 refine kS h ?_ ?_ <;> intro b3 h
 refine kt b3 (Xag (Xae (Xap (Xan (Xac ?_)))))
 iterate 2 refine kO hT hC ?_
 refine kQ hT hC h fun h => ?_
 iterate 2 refine kO hT hC ?_
 refine kQ hT hC h fun h => ?_
 iterate 3 refine kO hT hC ?_
 refine kQ hT hC h fun h => ?_
 refine kO hT hC ?_
 iterate 2 refine kQ hT hC h fun h => ?_
 refine Vc.nil (Xaq (Xae (Xac ?_)))
 iterate 3 refine kO hT hC ?_
 exact Vc.nil kG
 exact kf b3 (Xas (Xaz ku))
 refine Xae (Xad ?_)
 iterate 2 refine kO hT hC ?_
 refine Vc.nil (Xah ?_)
 obtain rfl := kj h
 exact Xb8 (τ := ⟨[(2, .own 16)], [(16, some (.ints .i64 v4))]⟩) (kW hC [(16, 80)]) rfl ⟨rfl, trivial⟩
def Ybe (r : (List Int)) : AV := .own 16
def Ybd (r : (List Int)) : Xbb := [(16, .ints .i64 r)]
theorem Yei {p0 r} (h : Xgx p0 = some r) : AC Tryz.prog 206 [.sv (.ints .i64 p0)] [] (Ybe r) (Ybd r) := by
 refine Xaf hT Tryz.func206 rfl fun C hC => ?_
 unfold Xgx at h
 refine Xad ?_
 refine kO hT hC ?_
 refine Vc.nil (Xap (Xad ?_))
 refine kO hT hC ?_
 refine kC hC [] Tryz.call200 h (fun _ => Xhj) fun q1 h => ?_
 refine kO hT hC ?_
 refine Vc.nil ?_
 refine kS h ?_ ?_ <;> intro b1 h
 refine kt b1 (Xad ?_)
 iterate 2 refine kO hT hC ?_
 refine Vc.nil (Xah (Xao ?_))
 obtain rfl := kj h
 exact Xb8 (τ := ⟨[(2, .own 16)], [(16, some (.ints .i64 ([] : List Int)))]⟩) (kW hC [(16, 128)]) rfl ⟨rfl, trivial⟩
 refine kf b1 (Xag (Xae (Xad ?_)))
 refine kO hT hC ?_
 refine kC hC [(16, 160)] Tryz.call229 h (fun _ => Xse) fun q2 h => ?_
 refine kC hC [(16, 176)] Tryz.call228 h (fun _ => Xtt) fun q3 h => ?_
 refine kC hC [(16, 192)] Tryz.call229 h (fun _ => Xse) fun q4 h => ?_
 refine kC hC [(16, 208)] Tryz.call228 h (fun _ => Xtt) fun q5 h => ?_
 refine kO hT hC ?_
 refine Vc.nil (Xap (Xad ?_))
 refine kO hT hC ?_
 refine Vc.nil ?_
 refine kL [3,4] [208] [_,_] [_] ?_
 refine kX h (fun v8 => ([(4, .sv (.int .i64 v8.1))], [(208, some (.ints .i64 v8.2))])) (fun v11 => ([(4, .any)], [(208, some (.ints .i64 v11))])) (kW hC []) (fun v8 s h => ?_) fun v11 h => ?_
 unfold Xg8 at h
 refine Xap (Xad ?_)
 iterate 2 refine kO hT hC ?_
 refine Vc.nil ?_
 refine kS h ?_ ?_ <;> intro b4 h
 refine kt b4 (Xag (Xae (Xap (Xan (Xac ?_)))))
 iterate 4 refine kO hT hC ?_
 iterate 2 refine kQ hT hC h fun h => ?_
 refine kO hT hC ?_
 refine kC hC [] Tryz.call226 h (fun _ => Xly) fun q12 h => ?_
 iterate 2 refine kQ hT hC h fun h => ?_
 refine Vc.nil (Xaq (Xae (Xac ?_)))
 iterate 3 refine kO hT hC ?_
 exact Vc.nil kG
 exact kf b4 (Xas (Xaz ku))
 refine Xae (Xad ?_)
 iterate 2 refine kO hT hC ?_
 refine Vc.nil (Xah ?_)
 obtain rfl := kj h
 exact Xb8 (τ := ⟨[(2, .own 16)], [(16, some (.ints .i64 v11))]⟩) (kW hC [(16, 208)]) rfl ⟨rfl, trivial⟩
def Xw3 (r : ((List Int) × Bool)) : AV := .tup [.own 16, .sv (.bool r.2)]
def Xw2 (r : ((List Int) × Bool)) : Xbb := [(16, .ints .i64 r.1)]
theorem Xpt {p0 p1 r} (h : Xdy p0 p1 = some r) : AC Tryz.prog 179 [.sv (.ints .i64 p0), .agg [.sv (.bool p1.Key), .sv (.int .i64 p1.Qp), .sv (.bool p1.Large), .sv (.bool p1.Exact)]] [] (Xw3 r) (Xw2 r) := by
 refine Xaf hT Tryz.func179 rfl fun C hC => ?_
 unfold Xdy at h
 refine Xad ?_
 iterate 3 refine kO hT hC ?_
 refine Vc.nil (Xap ?_)
 refine kL [0,3] [48] [_,_] [_] ?_
 refine kA h (fun v1 => ([(23, .sv (.bool v1))], [])) (fun v1 h => ?_) fun v1 h => ?_
 refine Xac ?_
 refine kO hT hC ?_
 refine kC hC [] Tryz.call144 h (fun _ => Xm0) fun q2 h => ?_
 iterate 2 refine kO hT hC ?_
 refine kS h ?_ ?_ <;> intro b1 h
 refine kI hT hC (kn b1) ?_
 refine kE hC (kn b1) [] Tryz.call200 h (fun _ => Xhj) fun q3 h => ?_
 refine kI hT hC (kn b1) ?_
 refine kP hC false (kn b1) ?_
 exact Vc.nil kM
 iterate 3 refine kF hC (kn b1) ?_
 refine kP hC true (kn b1) ?_
 exact Vc.nil kM
 refine kS h ?_ ?_ <;> intro b2 h
 refine kt b2 (Xad ?_)
 iterate 3 refine kO hT hC ?_
 refine Vc.nil (Xah (Xao ?_))
 obtain rfl := kj h
 exact Xb8 (τ := ⟨[(4, .own 16), (5, .sv (.bool false))], [(16, some (.ints .i64 ([] : List Int)))]⟩) (kW hC [(16, 384)]) rfl ⟨rfl, trivial⟩
 refine kf b2 (Xag (Xae (Xap (Xad ?_))))
 iterate 2 refine kO hT hC ?_
 refine Vc.nil ?_
 refine kS h ?_ ?_ <;> intro b3 h
 refine kt b3 (Xad ?_)
 refine kO hT hC ?_
 refine kC hC [(16, 448)] Tryz.call202 h (fun _ => Xml) fun q4 h => ?_
 iterate 4 refine kO hT hC ?_
 refine Vc.nil (Xah (Xao ?_))
 obtain rfl := kj h
 exact Xb8 (τ := ⟨[(4, .own 16), (5, .sv (.bool q4.2))], [(16, some (.ints .i64 q4.1))]⟩) (kW hC [(16, 448)]) rfl ⟨rfl, trivial⟩
 refine kf b3 (Xag (Xae (Xap (Xad ?_))))
 iterate 2 refine kO hT hC ?_
 refine Vc.nil ?_
 refine kS h ?_ ?_ <;> intro b4 h
 refine kt b4 (Xad ?_)
 refine kO hT hC ?_
 refine kC hC [(16, 560)] Tryz.call202 h (fun _ => Xml) fun q5 h => ?_
 iterate 5 refine kO hT hC ?_
 refine Vc.nil (Xap (Xad ?_))
 refine kO hT hC ?_
 refine Vc.nil ?_
 refine kL [3,6,8] [48,560] [_,_,_] [_,_] ?_
 refine kX h (fun v8 => ([(8, .sv (.int .i64 v8.1))], [(560, some (.ints .i64 v8.2))])) (fun v11 => ([(3, .any), (8, .any)], [(560, some (.ints .i64 v11)), (48, none)])) (kW hC []) (fun v8 s h => ?_) fun v11 h => ?_
 unfold Xbw at h
 refine Xap (Xad ?_)
 iterate 2 refine kO hT hC ?_
 refine Vc.nil ?_
 refine kS h ?_ ?_ <;> intro b7 h
 refine kt b7 (Xag (Xae (Xap (Xan ?_))))
 refine Xcu hm ?_
 iterate 4 refine kO hT hC ?_
 iterate 2 refine kQ hT hC h fun h => ?_
 iterate 2 refine kO hT hC ?_
 refine kC hC [] Tryz.call203 h (fun _ => Ybf) fun q12 h => ?_
 iterate 2 refine kQ hT hC h fun h => ?_
 refine kD (Xaq (Xae (Xac ?_)))
 iterate 3 refine kO hT hC ?_
 exact Vc.nil kG
 exact kf b7 (Xas (Xaz ku))
 refine Xae (Xad ?_)
 refine kO hT hC ?_
 refine kC hC [(16, 848)] Tryz.call204 h (fun _ => Ybb) fun q14 h => ?_
 iterate 2 refine kO hT hC ?_
 refine Vc.nil (Xah (Xao ?_))
 obtain rfl := kj h
 exact Xb8 (τ := ⟨[(4, .own 16), (5, .sv (.bool true))], [(16, some (.ints .i64 q14))]⟩) (kW hC [(16, 848)]) rfl ⟨rfl, trivial⟩
 refine kf b4 (Xag (Xae (Xad ?_)))
 obtain ⟨hq, h⟩ := Xba h
 refine Yf3 hT hC rfl rfl rfl rfl ⟨hq.1, hq.2.1, hq.2.2, by decide⟩ ?_
 refine kO hT hC ?_
 refine Vc.nil (Xap (Xad ?_))
 refine kO hT hC ?_
 refine Vc.nil ?_
 refine kL [0,3,9,10] [48,864] [_,_,_,_] [_,_] ?_
 refine kX h (fun v31 => ([(10, .sv (.int .i64 v31.1))], [(864, some (.ints .i64 v31.2))])) (fun v48 => ([(0, .any), (3, .any), (10, .any)], [(864, some (.ints .i64 v48)), (48, none)])) (kW hC []) (fun v31 s h => ?_) fun v48 h => ?_
 unfold Xcv at h
 refine Xap (Xad ?_)
 iterate 2 refine kO hT hC ?_
 refine Vc.nil ?_
 refine kS h ?_ ?_ <;> intro b22 h
 refine kt b22 (Xag (Xae (Xap (Xan (Xad ?_)))))
 iterate 6 refine kO hT hC ?_
 refine kQ hT hC h fun h => ?_
 refine kC hC [(16, 1072)] Tryz.call202 h (fun _ => Xml) fun q49 h => ?_
 iterate 5 refine kO hT hC ?_
 refine Vc.nil (Xap (Xad ?_))
 refine kO hT hC ?_
 refine Vc.nil ?_
 refine kL [0,3,9,10,11,13] [48,864,1072] [_,_,_,_,_,_] [_,_,_] ?_
 refine kX h (fun v52 => ([(13, .sv (.int .i64 v52.1))], [(1072, some (.ints .i64 v52.2))])) (fun v55 => ([(13, .any)], [(1072, some (.ints .i64 v55))])) (kW hC []) (fun v52 s h => ?_) fun v55 h => ?_
 unfold Xbq at h
 refine Xap (Xad ?_)
 iterate 2 refine kO hT hC ?_
 refine Vc.nil ?_
 refine kS h ?_ ?_ <;> intro b25 h
 refine kt b25 (Xag (Xae (Xap (Xan ?_))))
 refine Xcu hm ?_
 iterate 4 refine kO hT hC ?_
 iterate 2 refine kQ hT hC h fun h => ?_
 iterate 3 refine kO hT hC ?_
 refine kC hC [] Tryz.call205 h (fun _ => Ybi) fun q56 h => ?_
 iterate 2 refine kQ hT hC h fun h => ?_
 refine kD (Xaq (Xae (Xac ?_)))
 iterate 3 refine kO hT hC ?_
 exact Vc.nil kG
 exact kf b25 (Xas (Xaz ku))
 refine Xae (Xad ?_)
 refine kO hT hC ?_
 refine kC hC [(16, 1376)] Tryz.call206 h (fun _ => Yei) fun q58 h => ?_
 refine kO hT hC ?_
 refine kN ?_
 refine kO hT hC ?_
 refine Vc.nil ?_
 refine kL [0,3,9,10,14,15] [48,864,1376] [_,_,_,_,_,_] [_,_,_] ?_
 refine kX h (fun v60 => ([(15, .sv (.int .i64 v60.1))], [(864, some (.ints .i64 v60.2))])) (fun v62 => ([(14, .any), (15, .any)], [(864, some (.ints .i64 v62)), (1376, none)])) (kW hC []) (fun v60 s h => ?_) fun v62 h => ?_
 unfold Xbz at h
 refine Xap (Xad ?_)
 iterate 2 refine kO hT hC ?_
 refine Vc.nil ?_
 refine kS h ?_ ?_ <;> intro b28 h
 refine kt b28 (Xag (Xae (Xap (Xan (Xac ?_)))))
 iterate 2 refine kO hT hC ?_
 refine kQ hT hC h fun h => ?_
 iterate 2 refine kO hT hC ?_
 refine kQ hT hC h fun h => ?_
 iterate 3 refine kO hT hC ?_
 refine kQ hT hC h fun h => ?_
 iterate 3 refine kO hT hC ?_
 refine kQ hT hC h fun h => ?_
 iterate 3 refine kO hT hC ?_
 iterate 4 refine kQ hT hC h fun h => ?_
 refine Vc.nil (Xaq (Xae (Xac ?_)))
 iterate 3 refine kO hT hC ?_
 exact Vc.nil kG
 exact kf b28 (Xas (Xaz ku))
 refine Xaq (Xae (Xac ?_))
 iterate 3 refine kO hT hC ?_
 exact Vc.nil kG
 exact kf b22 (Xas (Xaz ku))
 refine Xae (Xad ?_)
 iterate 3 refine kO hT hC ?_
 refine Vc.nil (Xah ?_)
 obtain rfl := kj h
 exact Xb8 (τ := ⟨[(4, .own 16), (5, .sv (.bool true))], [(16, some (.ints .i64 v48))]⟩) (kW hC [(16, 864)]) rfl ⟨rfl, trivial⟩
def Xsn (r : Bool) : AV := .sv (.bool r)
def Xsm (r : Bool) : Xbb := []
theorem Xty {p0 r} (h : Xk3 p0 = some r) : AC Tryz.prog 230 [.sv (.ints .i64 p0)] [] (Xsn r) (Xsm r) := by
 refine Xaf hT Tryz.func230 rfl fun C hC => ?_
 unfold Xk3 at h
 refine Xad ?_
 refine kO hT hC ?_
 refine Vc.nil (Xap ?_)
 refine kL [0] [] [_] [] ?_
 refine kA h (fun v1 => ([(11, .sv (.bool v1))], [])) (fun v1 h => ?_) fun v1 h => ?_
 refine Xac ?_
 iterate 4 refine kO hT hC ?_
 refine kS h ?_ ?_ <;> intro b1 h
 iterate 3 refine kI hT hC b1 ?_
 refine kP hC true b1 ?_
 exact Vc.nil kM
 iterate 3 refine kF hC b1 ?_
 refine kP hC false b1 ?_
 exact Vc.nil kM
 refine kS h ?_ ?_ <;> intro b2 h
 refine kt b2 (Xad ?_)
 refine kO hT hC ?_
 exact Vc.nil (Xah (Xao kR))
 refine kf b2 (Xag (Xae (Xap (Xad ?_))))
 refine kO hT hC ?_
 refine Vc.nil ?_
 refine kL [0,3] [] [_,_] [] ?_
 obtain ⟨o9, hl, h⟩ := Xbo h
 refine Xf6 (fun v4 => ([(3, .sv (.int .i64 v4))], [])) (fun v7 => ([(0, .any), (3, .any)], [])) (fun r => Xpi C T Tryz.f230.results.toList (Xsn r) (Xsm r)) hl ?_ ?_ ?_ ?_
 apply Xcj hC []
 exact co
 rfl
 decide
 rfl
 intro v4 s hs
 have h := hs
 unfold Xiu at h
 refine Xap (Xad ?_)
 iterate 4 refine kO hT hC ?_
 refine Vc.nil ?_
 refine kS h ?_ ?_ <;> intro b7 h
 refine kt b7 (Xag (Xae (Xap (Xan (Xad ?_)))))
 iterate 2 refine kO hT hC ?_
 refine kQ hT hC h fun h => ?_
 refine kO hT hC ?_
 refine kC hC [] Tryz.call136 h (fun _ => Xat) fun q8 h => ?_
 refine kO hT hC ?_
 refine Vc.nil ?_
 refine kS h ?_ ?_ <;> intro b8 h
 refine kt b8 (Xad ?_)
 refine kO hT hC ?_
 refine Vc.nil (Xah (Xdj (Xao ?_)))
 obtain rfl := kj h
 refine Xpk (Xpj ?_)
 exact Xb8 (Xiz.refl _) rfl trivial
 refine kf b8 (Xag (Xaq (Xae (Xac ?_))))
 iterate 3 refine kO hT hC ?_
 exact Vc.nil kG
 exact kf b7 (Xas (Xaz kb))
 intro v7 e
 subst e
 refine Xae (Xad ?_)
 refine kO hT hC ?_
 exact Vc.nil (Xah kR)
 intro r' σ' e hE
 subst e
 obtain rfl := kj h
 refine Xao ?_
 exact hE
def Yeh (r : Bool) : AV := .sv (.bool r)
def Yeg (r : Bool) : Xbb := []
theorem Yi6 {p0 r} (h : Xnm p0 = some r) : AC Tryz.prog 209 [.agg [.sv (.ints .i64 p0.Above), .sv (.ints .i64 p0.Left), .sv (.int .i64 p0.Corner)]] [] (Yeh r) (Yeg r) := by
 refine Xaf hT Tryz.func209 rfl fun C hC => ?_
 unfold Xnm at h
 refine Xad ?_
 iterate 2 refine kO hT hC ?_
 refine Vc.nil ?_
 refine kL [1,2] [16] [_,_] [_] ?_
 refine kA h (fun v1 => ([(2, .sv (.bool v1)), (1, .any)], [(16, none)])) (fun v1 h => ?_) fun v1 h => ?_
 refine Xac ?_
 iterate 2 refine kO hT hC ?_
 refine kC hC [] Tryz.call230 h (fun _ => Xty) fun q2 h => ?_
 refine kO hT hC ?_
 refine kS h ?_ ?_ <;> intro b1 h
 iterate 2 refine kI hT hC b1 ?_
 refine kE hC b1 [] Tryz.call230 h (fun _ => Xty) fun q3 h => ?_
 refine kP hC true b1 ?_
 refine kO hT hC ?_
 refine kS h ?_ ?_ <;> intro b2 h
 iterate 2 refine kI hT hC b2 ?_
 refine kE hC b2 [] Tryz.call136 h (fun _ => Xat) fun q4 h => ?_
 refine kP hC true b2 ?_
 refine kO hT hC ?_
 exact Vc.nil kM
 iterate 3 refine kF hC b2 ?_
 refine kP hC false b2 ?_
 refine kO hT hC ?_
 exact Vc.nil kM
 iterate 3 refine kF hC b1 ?_
 refine kP hC false b1 ?_
 refine kO hT hC ?_
 iterate 3 refine kF hC rfl ?_
 iterate 2 refine kO hT hC ?_
 exact Vc.nil kM
 exact Xah kR
def Xz0 (r : Int) : AV := .sv (.int .i64 r)
def Xzz (r : Int) : Xbb := []
theorem Xq4 {p0 p1 r} (h : Xdq p0 p1 = some r) : AC Tryz.prog 210 [.sv (.ints .i64 p0), .sv (.int .i64 p1)] [] (Xz0 r) (Xzz r) := by
 refine Xaf hT Tryz.func210 rfl fun C hC => ?_
 unfold Xdq at h
 refine Xad ?_
 refine kO hT hC ?_
 refine Vc.nil (Xap (Xad ?_))
 iterate 3 refine kO hT hC ?_
 refine Vc.nil ?_
 refine kS h ?_ ?_ <;> intro b1 h
 refine kt b1 (Xad ?_)
 refine kO hT hC ?_
 exact Vc.nil (Xah (Xao kR))
 refine kf b1 (Xag (Xae (Xad ?_)))
 iterate 2 refine kO hT hC ?_
 refine kQ hT hC h fun h => ?_
 iterate 2 refine kO hT hC ?_
 exact Vc.nil (Xah kR)
def Yke (r : Int) : AV := .sv (.int .i64 r)
def Ykd (r : Int) : Xbb := []
theorem Ym7 {p0 r} (h : Xkm p0 = some r) : AC Tryz.prog 211 [.agg [.sv (.ints .i64 p0.Above), .sv (.ints .i64 p0.Left), .sv (.int .i64 p0.Corner)]] [] (Yke r) (Ykd r) := by
 refine Xaf hT Tryz.func211 rfl fun C hC => ?_
 unfold Xkm at h
 refine Xad ?_
 iterate 2 refine kO hT hC ?_
 refine kN ?_
 iterate 8 refine kO hT hC ?_
 refine Vc.nil (Xap (Xad ?_))
 iterate 2 refine kO hT hC ?_
 refine Vc.nil ?_
 refine kS h ?_ ?_ <;> intro b1 h
 refine kt b1 (Xad ?_)
 refine kO hT hC ?_
 exact Vc.nil (Xah (Xao kR))
 refine kf b1 (Xag (Xae (Xad ?_)))
 refine kO hT hC ?_
 refine kQ hT hC h fun h => ?_
 refine kO hT hC ?_
 refine Vc.nil (Xap (Xad ?_))
 refine kO hT hC ?_
 refine Vc.nil ?_
 refine kL [1,3,4,5] [16] [_,_,_,_] [_] ?_
 refine kX h (fun v2 => ([(4, .sv (.int .i64 v2.1)), (5, .sv (.int .i64 v2.2))], [])) (fun v4 => ([(4, .sv (.int .i64 v4)), (5, .any)], [])) (kW hC []) (fun v2 s h => ?_) fun v4 h => ?_
 unfold Xhl at h
 refine Xap (Xad ?_)
 iterate 5 refine kO hT hC ?_
 refine Vc.nil ?_
 refine kS h ?_ ?_ <;> intro b4 h
 refine kt b4 (Xag (Xae (Xap (Xan (Xac ?_)))))
 iterate 4 refine kO hT hC ?_
 refine kQ hT hC h fun h => ?_
 iterate 3 refine kO hT hC ?_
 refine Vc.nil (Xaq (Xae (Xac ?_)))
 iterate 3 refine kO hT hC ?_
 exact Vc.nil kG
 exact kf b4 (Xas (Xaz ku))
 refine Xae (Xap (Xad ?_))
 refine kO hT hC ?_
 refine Vc.nil ?_
 refine kL [1,3,4,6] [16] [_,_,_,_] [_] ?_
 refine kX h (fun v7 => ([(4, .sv (.int .i64 v7.1)), (6, .sv (.int .i64 v7.2))], [])) (fun v9 => ([(4, .sv (.int .i64 v9)), (1, .any), (6, .any)], [(16, none)])) (kW hC []) (fun v7 s h => ?_) fun v9 h => ?_
 unfold Xhm at h
 refine Xap (Xad ?_)
 iterate 5 refine kO hT hC ?_
 refine Vc.nil ?_
 refine kS h ?_ ?_ <;> intro b7 h
 refine kt b7 (Xag (Xae (Xap (Xan (Xac ?_)))))
 iterate 4 refine kO hT hC ?_
 refine kQ hT hC h fun h => ?_
 iterate 3 refine kO hT hC ?_
 refine Vc.nil (Xaq (Xae (Xac ?_)))
 iterate 3 refine kO hT hC ?_
 exact Vc.nil kG
 exact kf b7 (Xas (Xaz ku))
 refine Xae (Xad ?_)
 iterate 2 refine kO hT hC ?_
 refine kQ hT hC h fun h => ?_
 refine kO hT hC ?_
 exact Vc.nil (Xah kR)
def Yek (r : (List Int)) : AV := .own 16
def Yej (r : (List Int)) : Xbb := [(16, .ints .i64 r)]
theorem Yi9 {p0 p1 r} (h : Xgp p0 p1 = some r) : AC Tryz.prog 181 [.sv (.int .i64 p0), .agg [.sv (.ints .i64 p1.Above), .sv (.ints .i64 p1.Left), .sv (.int .i64 p1.Corner)]] [] (Yek r) (Yej r) := by
 refine Xaf hT Tryz.func181 rfl fun C hC => ?_
 unfold Xgp at h
 refine Xad ?_
 iterate 2 refine kO hT hC ?_
 refine kN ?_
 iterate 2 refine kO hT hC ?_
 refine Vc.nil (Xap ?_)
 refine kL [0,3,5] [48,160] [_,_,_] [_,_] ?_
 refine kA h (fun v1 => ([(18, .sv (.bool v1))], [])) (fun v1 h => ?_) fun v1 h => ?_
 refine Xac ?_
 refine kO hT hC ?_
 refine kC hC [] Tryz.call209 h (fun _ => Yi6) fun q2 h => ?_
 iterate 2 refine kO hT hC ?_
 refine kS h ?_ ?_ <;> intro b1 h
 refine kI hT hC (kn b1) ?_
 refine kE hC (kn b1) [] Tryz.call136 h (fun _ => Xat) fun q3 h => ?_
 refine kI hT hC (kn b1) ?_
 refine kP hC false (kn b1) ?_
 exact Vc.nil kM
 iterate 3 refine kF hC (kn b1) ?_
 refine kP hC true (kn b1) ?_
 exact Vc.nil kM
 refine kS h ?_ ?_ <;> intro b2 h
 refine kt b2 (Xad ?_)
 iterate 2 refine kO hT hC ?_
 refine Vc.nil (Xah (Xao ?_))
 obtain rfl := kj h
 exact Xb8 (τ := ⟨[(4, .own 16)], [(16, some (.ints .i64 ([] : List Int)))]⟩) (kW hC [(16, 160)]) rfl ⟨rfl, trivial⟩
 refine kf b2 (Xag (Xae (Xad ?_)))
 iterate 3 refine kO hT hC ?_
 refine Vc.nil ?_
 refine kL [0,3,5,6] [48,160] [_,_,_,_] [_,_] ?_
 refine kA h (fun v4 => ([(6, .sv (.int .i64 v4))], [])) (fun v4 h => ?_) fun v4 h => ?_
 refine Xad ?_
 iterate 2 refine kO hT hC ?_
 refine Vc.nil ?_
 refine kS h ?_ ?_ <;> intro b3 h
 refine kt b3 (Xac ?_)
 refine kO hT hC ?_
 exact Vc.nil kM
 exact kf b3 (Xag kM)
 refine Xap (Xad ?_)
 refine kO hT hC ?_
 refine Vc.nil ?_
 refine kL [0,3,5,6,7] [48,160] [_,_,_,_,_] [_,_] ?_
 refine kX h (fun v11 => ([(7, .sv (.int .i64 v11.1))], [(160, some (.ints .i64 v11.2))])) (fun v18 => ([(0, .any), (3, .any), (6, .any), (7, .any)], [(160, some (.ints .i64 v18)), (48, none)])) (kW hC []) (fun v11 s h => ?_) fun v18 h => ?_
 unfold Xdx at h
 refine Xap (Xad ?_)
 iterate 2 refine kO hT hC ?_
 refine Vc.nil ?_
 refine kS h ?_ ?_ <;> intro b12 h
 refine kt b12 (Xag (Xae ?_))
 refine kL [0,3,5,6,7] [48,160] [_,_,_,_,_] [_,_] ?_
 refine kA h (fun v19 => ([(5, .own 1110)], [(1110, some (.ints .i64 v19)), (160, none)])) (fun v19 h => ?_) fun v19 h => ?_
 refine Xan (Xad ?_)
 iterate 3 refine kO hT hC ?_
 refine kQ hT hC h fun h => ?_
 refine kC hC [] Tryz.call210 h (fun _ => Xq4) fun q20 h => ?_
 refine kO hT hC ?_
 refine kN ?_
 iterate 3 refine kO hT hC ?_
 refine kQ hT hC h fun h => ?_
 refine kC hC [] Tryz.call210 h (fun _ => Xq4) fun q21 h => ?_
 refine kO hT hC ?_
 refine kN ?_
 refine kO hT hC ?_
 refine Vc.nil (Xan (Xad ?_))
 iterate 2 refine kO hT hC ?_
 refine Vc.nil ?_
 refine kS h ?_ ?_ <;> intro b13 h
 refine kt b13 (Xac ?_)
 iterate 2 refine kO hT hC ?_
 refine kC hC [] Tryz.call211 h (fun _ => Ym7) fun q22 h => ?_
 refine kO hT hC ?_
 refine kT hT hC h fun h => ?_
 refine kO hT hC ?_
 refine Vc.nil ?_
 iterate 2 refine Xaq ?_
 obtain rfl := kj h
 exact Xgo (kW hC [(1110, 864)])
 refine kf b13 (Xad ?_)
 iterate 2 refine kO hT hC ?_
 refine Vc.nil ?_
 refine kS h ?_ ?_ <;> intro b14 h
 refine kt b14 (Xac ?_)
 iterate 3 refine kO hT hC ?_
 refine kT hT hC h fun h => ?_
 refine kO hT hC ?_
 refine Vc.nil ?_
 iterate 2 refine Xaq ?_
 obtain rfl := kj h
 exact Xgo (kW hC [(1110, 960)])
 refine kf b14 (Xad ?_)
 iterate 2 refine kO hT hC ?_
 refine Vc.nil ?_
 refine kS h ?_ ?_ <;> intro b15 h
 refine kt b15 (Xac ?_)
 iterate 3 refine kO hT hC ?_
 refine kT hT hC h fun h => ?_
 refine kO hT hC ?_
 refine Vc.nil ?_
 iterate 2 refine Xaq ?_
 obtain rfl := kj h
 exact Xgo (kW hC [(1110, 1056)])
 refine kf b15 (Xac ?_)
 iterate 6 refine kO hT hC ?_
 refine kC hC [] Tryz.call208 h (fun _ => Xlq) fun q23 h => ?_
 refine kO hT hC ?_
 refine kT hT hC h fun h => ?_
 refine kO hT hC ?_
 refine Vc.nil ?_
 iterate 2 refine Xaq ?_
 obtain rfl := kj h
 exact Xgo (kW hC [(1110, 752)])
 refine Xac ?_
 iterate 3 refine kO hT hC ?_
 refine Vc.nil ?_
 obtain rfl := kj h
 exact Xy0 (kW hC [(160, 1110)])
 exact kf b12 (Xas (Xaz ku))
 refine Xae (Xad ?_)
 iterate 2 refine kO hT hC ?_
 refine Vc.nil (Xah ?_)
 obtain rfl := kj h
 exact Xb8 (τ := ⟨[(4, .own 16)], [(16, some (.ints .i64 v18))]⟩) (kW hC [(16, 160)]) rfl ⟨rfl, trivial⟩
def Xsk (r : Bool) : AV := .sv (.bool r)
def Xsj (r : Bool) : Xbb := []
theorem Ykc {p0 r} (h : Xnp p0 = some r) : AC Tryz.prog 207 [.sv (.ints .i64 p0)] [] (Xsk r) (Xsj r) := by
 refine Xaf hT Tryz.func207 rfl fun C hC => ?_
 unfold Xnp at h
 refine Xad ?_
 refine kO hT hC ?_
 refine Vc.nil (Xap (Xad ?_))
 iterate 3 refine kO hT hC ?_
 refine Vc.nil ?_
 refine kS h ?_ ?_ <;> intro b1 h
 refine kt b1 (Xad ?_)
 refine kO hT hC ?_
 exact Vc.nil (Xah (Xao kR))
 refine kf b1 (Xag (Xae (Xap (Xad ?_))))
 refine kO hT hC ?_
 refine Vc.nil ?_
 refine kL [0,3] [] [_,_] [] ?_
 obtain ⟨o8, hl, h⟩ := Xbo h
 refine Xf6 (fun v3 => ([(3, .sv (.int .i64 v3))], [])) (fun v6 => ([(0, .any), (3, .any)], [])) (fun r => Xpi C T Tryz.f207.results.toList (Xsk r) (Xsj r)) hl ?_ ?_ ?_ ?_
 apply Xcj hC []
 exact co
 rfl
 decide
 rfl
 intro v3 s hs
 have h := hs
 unfold Xit at h
 refine Xap (Xad ?_)
 iterate 2 refine kO hT hC ?_
 refine Vc.nil ?_
 refine kS h ?_ ?_ <;> intro b6 h
 refine kt b6 (Xag (Xae (Xap (Xan (Xad ?_)))))
 iterate 2 refine kO hT hC ?_
 refine kQ hT hC h fun h => ?_
 refine kO hT hC ?_
 refine kC hC [] Tryz.call136 h (fun _ => Xat) fun q7 h => ?_
 refine kO hT hC ?_
 refine Vc.nil ?_
 refine kS h ?_ ?_ <;> intro b7 h
 refine kt b7 (Xad ?_)
 refine kO hT hC ?_
 refine Vc.nil (Xah (Xdj (Xao ?_)))
 obtain rfl := kj h
 refine Xpk (Xpj ?_)
 exact Xb8 (Xiz.refl _) rfl trivial
 refine kf b7 (Xag (Xaq (Xae (Xac ?_))))
 iterate 3 refine kO hT hC ?_
 exact Vc.nil kG
 exact kf b6 (Xas (Xaz kb))
 intro v6 e
 subst e
 refine Xae (Xad ?_)
 refine kO hT hC ?_
 exact Vc.nil (Xah kR)
 intro r' σ' e hE
 subst e
 obtain rfl := kj h
 refine Xao ?_
 exact hE
def Yjg (r : (List Int)) : AV := .own 16
def Yjf (r : (List Int)) : Xbb := [(16, .ints .i64 r)]
theorem Xvs {p0 p1 r} (h : Xic p0 p1 = some r) : AC Tryz.prog 180 [.sv (.ints .i64 p0), .sv (.ints .i64 p1)] [] (Yjg r) (Yjf r) := by
 refine Xaf hT Tryz.func180 rfl fun C hC => ?_
 unfold Xic at h
 refine Xad ?_
 refine kO hT hC ?_
 refine kN ?_
 iterate 2 refine kO hT hC ?_
 refine Vc.nil (Xap ?_)
 refine kL [0,1,5] [112] [_,_,_] [_] ?_
 refine kA h (fun v1 => ([(15, .sv (.bool v1))], [])) (fun v1 h => ?_) fun v1 h => ?_
 refine Xac ?_
 refine kO hT hC ?_
 refine kC hC [] Tryz.call207 h (fun _ => Ykc) fun q2 h => ?_
 iterate 2 refine kO hT hC ?_
 refine kS h ?_ ?_ <;> intro b1 h
 refine kI hT hC (kn b1) ?_
 refine kE hC (kn b1) [] Tryz.call200 h (fun _ => Xhj) fun q3 h => ?_
 refine kI hT hC (kn b1) ?_
 refine kP hC false (kn b1) ?_
 exact Vc.nil kM
 iterate 3 refine kF hC (kn b1) ?_
 refine kP hC true (kn b1) ?_
 exact Vc.nil kM
 refine kS h ?_ ?_ <;> intro b2 h
 refine kt b2 (Xad ?_)
 iterate 2 refine kO hT hC ?_
 refine Vc.nil (Xah (Xao ?_))
 obtain rfl := kj h
 exact Xb8 (τ := ⟨[(4, .own 16)], [(16, some (.ints .i64 ([] : List Int)))]⟩) (kW hC [(16, 112)]) rfl ⟨rfl, trivial⟩
 refine kf b2 (Xag (Xae (Xap (Xad ?_))))
 refine kO hT hC ?_
 refine Vc.nil ?_
 refine kL [0,1,5,6] [112] [_,_,_,_] [_] ?_
 refine kX h (fun v6 => ([(6, .sv (.int .i64 v6.1))], [(112, some (.ints .i64 v6.2))])) (fun v9 => ([(0, .any), (1, .any), (6, .any)], [(112, some (.ints .i64 v9))])) (kW hC []) (fun v6 s h => ?_) fun v9 h => ?_
 unfold Xfv at h
 refine Xap (Xad ?_)
 iterate 2 refine kO hT hC ?_
 refine Vc.nil ?_
 refine kS h ?_ ?_ <;> intro b5 h
 refine kt b5 (Xag (Xae (Xap (Xan ?_))))
 refine Xcu hm ?_
 iterate 3 refine kO hT hC ?_
 refine kQ hT hC h fun h => ?_
 iterate 3 refine kO hT hC ?_
 refine kQ hT hC h fun h => ?_
 iterate 2 refine kO hT hC ?_
 refine kC hC [] Tryz.call208 h (fun _ => Xlq) fun q10 h => ?_
 refine kO hT hC ?_
 refine kT hT hC h fun h => ?_
 refine kO hT hC ?_
 refine kD (Xaq (Xae (Xac ?_)))
 iterate 3 refine kO hT hC ?_
 refine Vc.nil ?_
 obtain rfl := kj h
 exact Xy0 (kW hC [(112, 528)])
 exact kf b5 (Xas (Xaz ku))
 refine Xae (Xad ?_)
 iterate 2 refine kO hT hC ?_
 refine Vc.nil (Xah ?_)
 obtain rfl := kj h
 exact Xb8 (τ := ⟨[(4, .own 16)], [(16, some (.ints .i64 v9))]⟩) (kW hC [(16, 112)]) rfl ⟨rfl, trivial⟩
def Yd8 (r : (List Int)) : AV := .own 16
def Yd7 (r : (List Int)) : Xbb := [(16, .ints .i64 r)]
theorem Yiw {p0 p1 p2 r} (h : Xnl p0 p1 p2 = some r) : AC Tryz.prog 182 [.agg [.sv (.int .i64 p0.Wide), .sv (.int .i64 p0.High), .sv (.str p0.Dots)], .sv (.int .i64 p1), .sv (.int .i64 p2)] [] (Yd8 r) (Yd7 r) := by
 refine Xaf hT Tryz.func182 rfl fun C hC => ?_
 unfold Xnl at h
 refine Xad ?_
 iterate 2 refine kO hT hC ?_
 refine kN ?_
 iterate 2 refine kO hT hC ?_
 refine Vc.nil (Xap ?_)
 refine kL [1,2,3,7] [48,144] [_,_,_,_] [_,_] ?_
 refine kA h (fun v1 => ([(22, .sv (.bool v1))], [])) (fun v1 h => ?_) fun v1 h => ?_
 refine Xac ?_
 refine kO hT hC ?_
 refine kC hC [] Tryz.call139 h (fun _ => Xjd) fun q2 h => ?_
 iterate 2 refine kO hT hC ?_
 refine kS h ?_ ?_ <;> intro b1 h
 refine kI hT hC (kn b1) ?_
 refine kE hC (kn b1) [] Tryz.call136 h (fun _ => Xat) fun q3 h => ?_
 refine kI hT hC (kn b1) ?_
 refine kP hC false (kn b1) ?_
 refine kO hT hC ?_
 refine kS h ?_ ?_ <;> intro b2 h
 refine kI hT hC (kn b2) ?_
 refine kE hC (kn b2) [] Tryz.call136 h (fun _ => Xat) fun q4 h => ?_
 refine kI hT hC (kn b2) ?_
 refine kP hC false (kn b2) ?_
 exact Vc.nil kM
 iterate 3 refine kF hC (kn b2) ?_
 refine kP hC true (kn b2) ?_
 exact Vc.nil kM
 iterate 3 refine kF hC (kn b1) ?_
 refine kP hC true (kn b1) ?_
 refine kO hT hC ?_
 iterate 3 refine kF hC rfl ?_
 refine kO hT hC ?_
 exact Vc.nil kM
 refine kS h ?_ ?_ <;> intro b3 h
 refine kt b3 (Xad ?_)
 iterate 2 refine kO hT hC ?_
 refine Vc.nil (Xah (Xao ?_))
 obtain rfl := kj h
 exact Xb8 (τ := ⟨[(6, .own 16)], [(16, some (.ints .i64 ([] : List Int)))]⟩) (kW hC [(16, 144)]) rfl ⟨rfl, trivial⟩
 refine kf b3 (Xag (Xae (Xap (Xad ?_))))
 refine kO hT hC ?_
 refine Vc.nil ?_
 refine kL [1,2,3,7,8] [48,144] [_,_,_,_,_] [_,_] ?_
 refine kX h (fun v7 => ([(8, .sv (.int .i64 v7.1))], [(144, some (.ints .i64 v7.2))])) (fun v10 => ([(1, .any), (2, .any), (3, .any), (8, .any)], [(144, some (.ints .i64 v10)), (48, none)])) (kW hC []) (fun v7 s h => ?_) fun v10 h => ?_
 unfold Xh7 at h
 refine Xap (Xad ?_)
 iterate 2 refine kO hT hC ?_
 refine Vc.nil ?_
 refine kS h ?_ ?_ <;> intro b6 h
 refine kt b6 (Xag (Xae (Xap (Xan (Xac ?_)))))
 iterate 4 refine kO hT hC ?_
 refine kQ hT hC h fun h => ?_
 iterate 3 refine kO hT hC ?_
 refine kQ hT hC h fun h => ?_
 refine kO hT hC ?_
 refine kC hC [] Tryz.call201 h (fun _ => Xoe) fun q11 h => ?_
 refine kO hT hC ?_
 refine kT hT hC h fun h => ?_
 refine kO hT hC ?_
 refine Vc.nil (Xaq (Xae (Xac ?_)))
 iterate 3 refine kO hT hC ?_
 refine Vc.nil ?_
 obtain rfl := kj h
 exact Xy0 (kW hC [(144, 640)])
 exact kf b6 (Xas (Xaz ku))
 refine Xae (Xad ?_)
 iterate 2 refine kO hT hC ?_
 refine Vc.nil (Xah ?_)
 obtain rfl := kj h
 exact Xb8 (τ := ⟨[(6, .own 16)], [(16, some (.ints .i64 v10))]⟩) (kW hC [(16, 144)]) rfl ⟨rfl, trivial⟩
end
end Go.Proofs.YtjgbfopmjpkkhaaGreat.A
