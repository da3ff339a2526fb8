/- Contracts of the functions that the law FnExactDecStream reaches, part 0: each comes to what its pure function tells. Written by a program of this session. Conditions: as each statement tells. -/
import Derived.Test.YtjgbfopmjpkkhaaGreatBFnExactDecStream
namespace Go.Proofs.YtjgbfopmjpkkhaaGreat.A
open Go Go.Proofs Go.Proofs.YtjgbfopmjpkkhaaGreatAL Go.RowKit
set_option linter.unusedVariables false
set_option linter.unusedSimpArgs false
set_option maxRecDepth 100000
set_option maxHeartbeats 2000000
noncomputable section
def Ycn (r : Bool) : AV := .sv (.bool r)
def Ycm (r : Bool) : Xa8 := []
theorem Xha {p0 r} (h : Xet p0 = some r) : AC Tryz.prog 97 [.agg [.sv (.int .i64 p0.Wide), .sv (.int .i64 p0.High), .sv (.str p0.Dots)]] [] (Ycn r) (Ycm r) := by
 refine Xag hT Tryz.func97 rfl fun C hC => ?_
 unfold Xet at h
 refine Xac ?_
 iterate 2 refine kO hT hC ?_
 refine Vc.nil ?_
 refine kL [1,2] [16] [_,_] [_] ?_
 refine kA h (fun v1 => ([(2, .sv (.bool v1)), (1, .any)], [(16, none)])) (fun v1 h => ?_) fun v1 h => ?_
 refine Xab ?_
 iterate 4 refine kO hT hC ?_
 refine kS h ?_ ?_ <;> intro b1 h
 iterate 3 refine kI hT hC b1 ?_
 refine kP hC true b1 ?_
 refine kO hT hC ?_
 refine kS h ?_ ?_ <;> intro b2 h
 iterate 4 refine kI hT hC b2 ?_
 refine kP hC true b2 ?_
 refine kO hT hC ?_
 refine Vc.nil ?_
 exact kM
 iterate 4 refine kF hC b2 ?_
 refine kP hC false b2 ?_
 refine kO hT hC ?_
 refine Vc.nil ?_
 exact kM
 iterate 3 refine kF hC b1 ?_
 refine kP hC false b1 ?_
 refine kO hT hC ?_
 iterate 4 refine kF hC rfl ?_
 iterate 2 refine kO hT hC ?_
 refine Vc.nil ?_
 exact kM
 refine Xah ?_
 exact kR
def Yjg (r : Bool) : AV := .sv (.bool r)
def Yjf (r : Bool) : Xa8 := []
theorem Xau {p0 p1 p2 r} (h : Xay p0 p1 p2 = some r) : AC Tryz.prog 136 [.sv (.int .i64 p0), .sv (.int .i64 p1), .sv (.int .i64 p2)] [] (Yjg r) (Yjf r) := by
 refine Xag hT Tryz.func136 rfl fun C hC => ?_
 unfold Xay at h
 refine Xac ?_
 refine kO hT hC ?_
 refine Vc.nil ?_
 refine kL [0,1,2,6] [] [_,_,_,_] [] ?_
 refine kA h (fun v1 => ([(6, .sv (.bool v1)), (0, .any), (1, .any), (2, .any)], [])) (fun v1 h => ?_) fun v1 h => ?_
 refine Xab ?_
 iterate 4 refine kO hT hC ?_
 refine kS h ?_ ?_ <;> intro b1 h
 iterate 3 refine kI hT hC b1 ?_
 refine kP hC true b1 ?_
 refine kO hT hC ?_
 refine Vc.nil ?_
 exact kM
 iterate 3 refine kF hC b1 ?_
 refine kP hC false b1 ?_
 refine kO hT hC ?_
 refine Vc.nil ?_
 exact kM
 refine Xah ?_
 exact kR
def Xrl (r : Int) : AV := .sv (.int .i64 r)
def Xrk (r : Int) : Xa8 := []
theorem Xlc {p0 r} (h : Xg4 p0 = some r) : AC Tryz.prog 153 [.sv (.ints .i64 p0)] [] (Xrl r) (Xrk r) := by
 refine Xag hT Tryz.func153 rfl fun C hC => ?_
 unfold Xg4 at h
 refine Xac ?_
 refine kO hT hC ?_
 refine Vc.nil ?_
 refine Xaq ?_
 refine kL [0] [] [_] [] ?_
 refine kA h (fun v1 => ([(12, .sv (.bool v1))], [])) (fun v1 h => ?_) fun v1 h => ?_
 refine Xab ?_
 iterate 4 refine kO hT hC ?_
 refine kS h ?_ ?_ <;> intro b1 h
 iterate 3 refine kF hC b1 ?_
 refine kP hC true b1 ?_
 refine Vc.nil ?_
 exact kM
 iterate 3 refine kI hT hC b1 ?_
 refine kP hC false b1 ?_
 refine Vc.nil ?_
 exact kM
 refine kS h ?_ ?_ <;> intro b2 h
 refine kt b2 ?_
 refine Xac ?_
 refine kO hT hC ?_
 refine Vc.nil ?_
 refine Xah ?_
 refine Xap ?_
 exact kR
 refine kf b2 ?_
 refine Xaf ?_
 refine Xae ?_
 refine Xac ?_
 refine kO hT hC ?_
 refine Vc.nil ?_
 refine Xaq ?_
 refine Xac ?_
 refine kO hT hC ?_
 refine Vc.nil ?_
 refine kL [0,3,4] [] [_,_,_] [] ?_
 obtain ⟨o9, hl, h⟩ := Xba h
 refine Xd8 (fun v4 => ([(3, .sv (.int .i64 v4.1)), (4, .sv (.int .i64 v4.2))], [])) (fun v7 => ([(3, .sv (.int .i64 v7)), (0, .any), (4, .any)], [])) (fun r => Xl1 C T Tryz.f153.results.toList (Xrl r) (Xrk r)) hl ?_ ?_ ?_ ?_
 try dsimp only
 apply Xbz hC []
 exact co
 rfl
 decide
 rfl
 intro v4 s hs
 have h := hs
 unfold Xgf at h
 refine Xaq ?_
 refine Xac ?_
 iterate 4 refine kO hT hC ?_
 refine Vc.nil ?_
 refine kS h ?_ ?_ <;> intro b7 h
 refine kt b7 ?_
 refine Xaf ?_
 refine Xae ?_
 refine Xaq ?_
 refine Xao ?_
 refine Xaq ?_
 refine Xac ?_
 iterate 2 refine kO hT hC ?_
 refine kQ hT hC h fun h => ?_
 refine kO hT hC ?_
 refine kC hC [] Tryz.call136 h (fun _ => Xau) fun q8 h => ?_
 refine kO hT hC ?_
 refine Vc.nil ?_
 refine kS h ?_ ?_ <;> intro b8 h
 refine kt b8 ?_
 refine Xac ?_
 refine kO hT hC ?_
 refine Vc.nil ?_
 refine Xah ?_
 refine Xap ?_
 refine Xcr ?_
 refine Xap ?_
 obtain rfl := kj h
 refine Xku ?_
 refine Xkr ?_
 exact Xbt (Xgk.refl _) rfl trivial
 refine kf b8 ?_
 refine Xaf ?_
 refine Xae ?_
 refine Xab ?_
 iterate 3 refine kO hT hC ?_
 refine kQ hT hC h fun h => ?_
 iterate 3 refine kO hT hC ?_
 refine Vc.nil ?_
 refine Xar ?_
 refine Xae ?_
 refine Xab ?_
 iterate 3 refine kO hT hC ?_
 refine Vc.nil ?_
 exact kG
 refine kf b7 ?_
 refine Xas ?_
 refine Xaz ?_
 exact kb
 intro v7 e
 subst e
 refine Xae ?_
 refine Xac ?_
 iterate 2 refine kO hT hC ?_
 refine Vc.nil ?_
 refine Xah ?_
 exact kR
 intro r' σ' e hE
 subst e
 obtain rfl := kj h
 refine Xap ?_
 exact hE
def Xwj (r : Int) : AV := .sv (.int .i64 r)
def Xwi (r : Int) : Xa8 := []
theorem Xyq {p0 r} (h : Xif p0 = some r) : AC Tryz.prog 137 [.agg [.sv (.int .i64 p0.Level), .sv (.int .i64 p0.Bits), .sv (.ints .i64 p0.Cols), .sv (.ints .i64 p0.Rows)]] [] (Xwj r) (Xwi r) := by
 refine Xag hT Tryz.func137 rfl fun C hC => ?_
 unfold Xif at h
 refine Xac ?_
 iterate 2 refine kO hT hC ?_
 refine Vc.nil ?_
 refine Xd7 hm ?_
 iterate 2 refine kO hT hC ?_
 refine kC hC [] Tryz.call153 h (fun _ => Xlc) fun q1 h => ?_
 iterate 2 refine kO hT hC ?_
 refine kC hC [] Tryz.call153 h (fun _ => Xlc) fun q2 h => ?_
 iterate 2 refine kO hT hC ?_
 refine kD ?_
 refine Xah ?_
 exact kR
def Xrg (r : Int) : AV := .sv (.int .i64 r)
def Xrf (r : Int) : Xa8 := []
theorem Xsq {p0 r} (h : Xfe p0 = some r) : AC Tryz.prog 138 [.sv (.int .i64 p0)] [] (Xrg r) (Xrf r) := by
 refine Xag hT Tryz.func138 rfl fun C hC => ?_
 unfold Xfe at h
 refine Xac ?_
 refine kO hT hC ?_
 refine Vc.nil ?_
 refine Xaq ?_
 refine Xac ?_
 refine kO hT hC ?_
 refine Vc.nil ?_
 refine Xao ?_
 refine Xac ?_
 iterate 2 refine kO hT hC ?_
 refine Vc.nil ?_
 refine kS h ?_ ?_ <;> intro b1 h
 refine kt b1 ?_
 refine Xac ?_
 refine kO hT hC ?_
 refine Vc.nil ?_
 refine Xah ?_
 refine Xcr ?_
 refine Xap ?_
 exact kR
 refine kf b1 ?_
 refine Xac ?_
 iterate 2 refine kO hT hC ?_
 refine Vc.nil ?_
 refine kS h ?_ ?_ <;> intro b2 h
 refine kt b2 ?_
 refine Xac ?_
 refine kO hT hC ?_
 refine Vc.nil ?_
 refine Xah ?_
 refine Xcr ?_
 refine Xap ?_
 exact kR
 refine kf b2 ?_
 refine Xac ?_
 iterate 2 refine kO hT hC ?_
 refine Vc.nil ?_
 refine kS h ?_ ?_ <;> intro b3 h
 refine kt b3 ?_
 refine Xac ?_
 refine kO hT hC ?_
 refine Vc.nil ?_
 refine Xah ?_
 refine Xcr ?_
 refine Xap ?_
 exact kR
 refine kf b3 ?_
 refine Xaf ?_
 refine Xar ?_
 refine Xae ?_
 refine Xac ?_
 refine kO hT hC ?_
 refine Vc.nil ?_
 refine Xah ?_
 exact kR
def Yja (r : Bool) : AV := .sv (.bool r)
def Yi9 (r : Bool) : Xa8 := []
theorem Xj0 {p0 r} (h : Xht p0 = some r) : AC Tryz.prog 98 [.agg [.sv (.int .i64 p0.Level), .sv (.int .i64 p0.Bits), .sv (.ints .i64 p0.Cols), .sv (.ints .i64 p0.Rows)]] [] (Yja r) (Yi9 r) := by
 refine Xag hT Tryz.func98 rfl fun C hC => ?_
 unfold Xht at h
 refine Xac ?_
 iterate 2 refine kO hT hC ?_
 refine Vc.nil ?_
 refine kL [1,2] [16] [_,_] [_] ?_
 refine kA h (fun v1 => ([(2, .sv (.bool v1)), (1, .any)], [(16, none)])) (fun v1 h => ?_) fun v1 h => ?_
 refine Xcz hm ?_
 refine kO hT hC ?_
 refine kC hC [] Tryz.call137 h (fun _ => Xyq) fun q2 h => ?_
 iterate 2 refine kO hT hC ?_
 refine kC hC [] Tryz.call138 h (fun _ => Xsq) fun q3 h => ?_
 refine kC hC [] Tryz.call136 h (fun _ => Xau) fun q4 h => ?_
 refine kO hT hC ?_
 refine kS h ?_ ?_ <;> intro b1 h
 iterate 2 refine kI hT hC b1 ?_
 refine kE hC b1 [] Tryz.call136 h (fun _ => Xau) fun q5 h => ?_
 refine kP hC true b1 ?_
 refine kO hT hC ?_
 refine kD ?_
 exact kM
 iterate 3 refine kF hC b1 ?_
 refine kP hC false b1 ?_
 refine kO hT hC ?_
 refine kD ?_
 exact kM
 refine Xah ?_
 exact kR
def Yi2 (r : Bool) : AV := .sv (.bool r)
def Yi1 (r : Bool) : Xa8 := []
theorem Xmo {p0 r} (h : Xi6 p0 = some r) : AC Tryz.prog 99 [.agg [.sv (.int .i64 p0.Qp), .sv (.bool p0.Large), .sv (.bool p0.Exact), .sv (.bool p0.Confined)]] [] (Yi2 r) (Yi1 r) := by
 refine Xag hT Tryz.func99 rfl fun C hC => ?_
 unfold Xi6 at h
 refine Xac ?_
 iterate 2 refine kO hT hC ?_
 refine Vc.nil ?_
 refine kL [1,2] [16] [_,_] [_] ?_
 refine kA h (fun v1 => ([(2, .sv (.bool v1)), (1, .any)], [(16, none)])) (fun v1 h => ?_) fun v1 h => ?_
 refine Xab ?_
 iterate 2 refine kO hT hC ?_
 refine kC hC [] Tryz.call136 h (fun _ => Xau) fun q2 h => ?_
 refine kO hT hC ?_
 refine kS h ?_ ?_ <;> intro b1 h
 iterate 3 refine kI hT hC b1 ?_
 refine kS h ?_ ?_ <;> intro b2 h
 iterate 2 refine kI hT hC b2 ?_
 refine Xa3 hC rfl rfl rfl rfl b1 rfl rfl (b := true) b2 rfl rfl rfl trivial ?_
 refine kI hT hC b1 ?_
 refine kP hC true b1 ?_
 refine kO hT hC ?_
 refine Vc.nil ?_
 exact kM
 iterate 2 refine kF hC b2 ?_
 refine Xa3 hC rfl rfl rfl rfl b1 rfl rfl (b := false) b2 rfl rfl rfl trivial ?_
 refine kI hT hC b1 ?_
 refine kP hC true b1 ?_
 refine kO hT hC ?_
 refine Vc.nil ?_
 exact kM
 iterate 3 refine kF hC b1 ?_
 iterate 2 refine Xdq hC rfl rfl rfl rfl rfl rfl ?_
 iterate 2 refine kF hC b1 ?_
 refine kP hC false b1 ?_
 refine kO hT hC ?_
 refine Vc.nil ?_
 exact kM
 refine Xah ?_
 exact kR
def Ybw (r : Int) : AV := .sv (.int .i64 r)
def Ybv (r : Int) : Xa8 := []
theorem Xj3 {p0 r} (h : Xfo p0 = some r) : AC Tryz.prog 100 [.agg [.sv (.int .i64 p0.Level), .sv (.int .i64 p0.Bits), .sv (.ints .i64 p0.Cols), .sv (.ints .i64 p0.Rows)]] [] (Ybw r) (Ybv r) := by
 refine Xag hT Tryz.func100 rfl fun C hC => ?_
 unfold Xfo at h
 refine Xac ?_
 iterate 2 refine kO hT hC ?_
 refine Vc.nil ?_
 refine Xaq ?_
 refine Xac ?_
 refine kO hT hC ?_
 refine kC hC [] Tryz.call98 h (fun _ => Xj0) fun q1 h => ?_
 refine kO hT hC ?_
 refine Vc.nil ?_
 refine kS h ?_ ?_ <;> intro b1 h
 refine kt b1 ?_
 refine Xac ?_
 refine kO hT hC ?_
 refine Vc.nil ?_
 refine Xah ?_
 refine Xap ?_
 exact kR
 refine kf b1 ?_
 refine Xaf ?_
 refine Xae ?_
 refine Xac ?_
 iterate 8 refine kO hT hC ?_
 refine Vc.nil ?_
 refine Xah ?_
 exact kR
def Ygk (r : (Int × Int)) : AV := .tup [.sv (.int .i64 r.1), .sv (.int .i64 r.2)]
def Ygj (r : (Int × Int)) : Xa8 := []
theorem Xth {p0 r} (h : Xis p0 = some r) : AC Tryz.prog 112 [.agg [.sv (.int .i64 p0.Level), .sv (.int .i64 p0.Bits), .sv (.ints .i64 p0.Cols), .sv (.ints .i64 p0.Rows)]] [] (Ygk r) (Ygj r) := by
 refine Xag hT Tryz.func112 rfl fun C hC => ?_
 unfold Xis at h
 refine Xac ?_
 iterate 3 refine kO hT hC ?_
 refine Vc.nil ?_
 refine Xaq ?_
 refine Xac ?_
 refine kO hT hC ?_
 refine kC hC [] Tryz.call98 h (fun _ => Xj0) fun q1 h => ?_
 refine kO hT hC ?_
 refine Vc.nil ?_
 refine kS h ?_ ?_ <;> intro b1 h
 refine kt b1 ?_
 refine Xac ?_
 iterate 2 refine kO hT hC ?_
 refine Vc.nil ?_
 refine Xah ?_
 refine Xap ?_
 exact kR
 refine kf b1 ?_
 refine Xaf ?_
 refine Xae ?_
 refine Xd7 hm ?_
 iterate 2 refine kO hT hC ?_
 refine kC hC [] Tryz.call153 h (fun _ => Xlc) fun q2 h => ?_
 iterate 3 refine kO hT hC ?_
 refine kC hC [] Tryz.call153 h (fun _ => Xlc) fun q3 h => ?_
 iterate 3 refine kO hT hC ?_
 refine kD ?_
 refine Xah ?_
 exact kR
def Yi5 (r : Bool) : AV := .sv (.bool r)
def Yi4 (r : Bool) : Xa8 := []
theorem Xhq {p0 r} (h : Xgd p0 = some r) : AC Tryz.prog 139 [.agg [.sv (.int .i64 p0.Wide), .sv (.int .i64 p0.High), .sv (.str p0.Dots)]] [] (Yi5 r) (Yi4 r) := by
 refine Xag hT Tryz.func139 rfl fun C hC => ?_
 unfold Xgd at h
 refine Xac ?_
 iterate 2 refine kO hT hC ?_
 refine Vc.nil ?_
 refine kL [1,2] [16] [_,_] [_] ?_
 refine kA h (fun v1 => ([(2, .sv (.bool v1)), (1, .any)], [(16, none)])) (fun v1 h => ?_) fun v1 h => ?_
 refine Xab ?_
 iterate 2 refine kO hT hC ?_
 refine kC hC [] Tryz.call136 h (fun _ => Xau) fun q2 h => ?_
 refine kO hT hC ?_
 refine kS h ?_ ?_ <;> intro b1 h
 iterate 2 refine kI hT hC b1 ?_
 refine kE hC b1 [] Tryz.call136 h (fun _ => Xau) fun q3 h => ?_
 refine kP hC true b1 ?_
 refine kO hT hC ?_
 refine kS h ?_ ?_ <;> intro b2 h
 iterate 9 refine kI hT hC b2 ?_
 refine kP hC true b2 ?_
 refine kO hT hC ?_
 refine Vc.nil ?_
 exact kM
 iterate 9 refine kF hC b2 ?_
 refine kP hC false b2 ?_
 refine kO hT hC ?_
 refine Vc.nil ?_
 exact kM
 iterate 3 refine kF hC b1 ?_
 refine kP hC false b1 ?_
 refine kO hT hC ?_
 iterate 9 refine kF hC rfl ?_
 iterate 2 refine kO hT hC ?_
 refine Vc.nil ?_
 exact kM
 refine Xah ?_
 exact kR
def Xy1 (r : Bool) : AV := .sv (.bool r)
def Xy0 (r : Bool) : Xa8 := []
theorem Xqw {p0 p1 r} (h : Xhx p0 p1 = some r) : AC Tryz.prog 101 [.agg [.sv (.int .i64 p0.Wide), .sv (.int .i64 p0.High), .sv (.str p0.Dots)], .agg [.sv (.int .i64 p1.Level), .sv (.int .i64 p1.Bits), .sv (.ints .i64 p1.Cols), .sv (.ints .i64 p1.Rows)]] [] (Xy1 r) (Xy0 r) := by
 refine Xag hT Tryz.func101 rfl fun C hC => ?_
 unfold Xhx at h
 refine Xac ?_
 iterate 3 refine kO hT hC ?_
 refine kN ?_
 refine kO hT hC ?_
 refine kC hC [] Tryz.call112 h (fun _ => Xth) fun q1 h => ?_
 iterate 5 refine kO hT hC ?_
 refine Vc.nil ?_
 refine kL [2,4,5,6] [32] [_,_,_,_] [_] ?_
 refine kA h (fun v2 => ([(4, .sv (.bool v2)), (2, .any), (5, .any), (6, .any)], [(32, none)])) (fun v2 h => ?_) fun v2 h => ?_
 refine Xab ?_
 refine kO hT hC ?_
 refine kC hC [] Tryz.call139 h (fun _ => Xhq) fun q3 h => ?_
 refine kO hT hC ?_
 refine kS h ?_ ?_ <;> intro b1 h
 iterate 4 refine kI hT hC b1 ?_
 refine kP hC true b1 ?_
 refine kO hT hC ?_
 refine kS h ?_ ?_ <;> intro b2 h
 iterate 4 refine kI hT hC b2 ?_
 refine kP hC true b2 ?_
 refine kO hT hC ?_
 refine Vc.nil ?_
 exact kM
 iterate 4 refine kF hC b2 ?_
 refine kP hC false b2 ?_
 refine kO hT hC ?_
 refine Vc.nil ?_
 exact kM
 iterate 4 refine kF hC b1 ?_
 refine kP hC false b1 ?_
 refine kO hT hC ?_
 iterate 4 refine kF hC rfl ?_
 iterate 2 refine kO hT hC ?_
 refine Vc.nil ?_
 exact kM
 refine Xah ?_
 exact kR
def Yiu (r : Bool) : AV := .sv (.bool r)
def Yit (r : Bool) : Xa8 := []
theorem Ymd {p0 r} (h : Xo6 p0 = some r) : AC Tryz.prog 68 [.agg [.sv (.bool p0.HasSeq), .sv (.bool p0.HasPar), .sv (.bool p0.HasRef), .sv (.int .i64 p0.Seq.Level), .sv (.int .i64 p0.Seq.Bits), .sv (.ints .i64 p0.Seq.Cols), .sv (.ints .i64 p0.Seq.Rows), .sv (.int .i64 p0.Par.Qp), .sv (.bool p0.Par.Large), .sv (.bool p0.Par.Exact), .sv (.bool p0.Par.Confined), .sv (.int .i64 p0.Frame), .sv (.int .i64 p0.Got), .sv (.int .i64 p0.Now.Wide), .sv (.int .i64 p0.Now.High), .sv (.str p0.Now.Dots), .sv (.int .i64 p0.Ref.Wide), .sv (.int .i64 p0.Ref.High), .sv (.str p0.Ref.Dots)]] [] (Yiu r) (Yit r) := by
 refine Xag hT Tryz.func68 rfl fun C hC => ?_
 unfold Xo6 at h
 refine Xac ?_
 iterate 2 refine kO hT hC ?_
 refine Vc.nil ?_
 refine Xaq ?_
 refine Xac ?_
 iterate 3 refine kO hT hC ?_
 refine Vc.nil ?_
 refine kS h ?_ ?_ <;> intro b1 h
 refine kt b1 ?_
 refine kL [1,2] [16] [_,_] [_] ?_
 refine kA h (fun v1 => ([(2, .sv (.bool v1)), (1, .any)], [(16, none)])) (fun v1 h => ?_) fun v1 h => ?_
 refine Xab ?_
 iterate 4 refine kO hT hC ?_
 refine kS h ?_ ?_ <;> intro b2 h
 iterate 3 refine kF hC (kn b2) ?_
 refine kP hC false (kn b2) ?_
 refine kO hT hC ?_
 iterate 4 refine kF hC rfl ?_
 iterate 2 refine kO hT hC ?_
 iterate 4 refine kF hC rfl ?_
 iterate 2 refine kO hT hC ?_
 iterate 5 refine kF hC rfl ?_
 iterate 2 refine kO hT hC ?_
 iterate 5 refine kF hC rfl ?_
 iterate 2 refine kO hT hC ?_
 iterate 4 refine kF hC rfl ?_
 iterate 2 refine kO hT hC ?_
 iterate 3 refine kF hC rfl ?_
 iterate 2 refine kO hT hC ?_
 iterate 3 refine kF hC rfl ?_
 iterate 2 refine kO hT hC ?_
 iterate 3 refine kF hC rfl ?_
 iterate 2 refine kO hT hC ?_
 iterate 3 refine kF hC rfl ?_
 iterate 2 refine kO hT hC ?_
 refine Vc.nil ?_
 exact kM
 iterate 3 refine kI hT hC (kn b2) ?_
 refine kP hC true (kn b2) ?_
 refine kO hT hC ?_
 refine kS h ?_ ?_ <;> intro b3 h
 iterate 4 refine kF hC (kn b3) ?_
 refine kP hC false (kn b3) ?_
 refine kO hT hC ?_
 iterate 4 refine kF hC rfl ?_
 iterate 2 refine kO hT hC ?_
 iterate 5 refine kF hC rfl ?_
 iterate 2 refine kO hT hC ?_
 iterate 5 refine kF hC rfl ?_
 iterate 2 refine kO hT hC ?_
 iterate 4 refine kF hC rfl ?_
 iterate 2 refine kO hT hC ?_
 iterate 3 refine kF hC rfl ?_
 iterate 2 refine kO hT hC ?_
 iterate 3 refine kF hC rfl ?_
 iterate 2 refine kO hT hC ?_
 iterate 3 refine kF hC rfl ?_
 iterate 2 refine kO hT hC ?_
 iterate 3 refine kF hC rfl ?_
 iterate 2 refine kO hT hC ?_
 refine Vc.nil ?_
 exact kM
 iterate 4 refine kI hT hC (kn b3) ?_
 refine kP hC true (kn b3) ?_
 refine kO hT hC ?_
 refine kS h ?_ ?_ <;> intro b4 h
 iterate 4 refine kI hT hC b4 ?_
 refine kP hC true b4 ?_
 refine kO hT hC ?_
 refine kS h ?_ ?_ <;> intro b5 h
 iterate 5 refine kI hT hC b5 ?_
 refine kP hC true b5 ?_
 refine kO hT hC ?_
 refine kS h ?_ ?_ <;> intro b6 h
 iterate 5 refine kI hT hC b6 ?_
 refine kP hC true b6 ?_
 refine kO hT hC ?_
 refine kS h ?_ ?_ <;> intro b7 h
 iterate 3 refine kI hT hC b7 ?_
 refine Xrx hC rfl rfl rfl rfl b7 rfl rfl rfl Yqb rfl rfl ?_
 refine kP hC true b7 ?_
 refine kO hT hC ?_
 refine kS h ?_ ?_ <;> intro b8 h
 iterate 3 refine kI hT hC b8 ?_
 refine kP hC true b8 ?_
 refine kO hT hC ?_
 refine kS h ?_ ?_ <;> intro b9 h
 iterate 3 refine kI hT hC b9 ?_
 refine kP hC true b9 ?_
 refine kO hT hC ?_
 refine kS h ?_ ?_ <;> intro b10 h
 iterate 2 refine kI hT hC b10 ?_
 refine kE hC b10 [] Tryz.call97 h (fun _ => Xha) fun q2 h => ?_
 refine kP hC true b10 ?_
 refine kO hT hC ?_
 refine kS h ?_ ?_ <;> intro b11 h
 iterate 2 refine kI hT hC b11 ?_
 refine kE hC b11 [] Tryz.call97 h (fun _ => Xha) fun q3 h => ?_
 refine kP hC true b11 ?_
 refine kO hT hC ?_
 refine Vc.nil ?_
 exact kM
 iterate 3 refine kF hC b11 ?_
 refine kP hC false b11 ?_
 refine kO hT hC ?_
 refine Vc.nil ?_
 exact kM
 iterate 3 refine kF hC b10 ?_
 refine kP hC false b10 ?_
 refine kO hT hC ?_
 iterate 3 refine kF hC rfl ?_
 iterate 2 refine kO hT hC ?_
 refine Vc.nil ?_
 exact kM
 iterate 3 refine kF hC b9 ?_
 refine kP hC false b9 ?_
 refine kO hT hC ?_
 iterate 3 refine kF hC rfl ?_
 iterate 2 refine kO hT hC ?_
 iterate 3 refine kF hC rfl ?_
 iterate 2 refine kO hT hC ?_
 refine Vc.nil ?_
 exact kM
 iterate 3 refine kF hC b8 ?_
 refine kP hC false b8 ?_
 refine kO hT hC ?_
 iterate 3 refine kF hC rfl ?_
 iterate 2 refine kO hT hC ?_
 iterate 3 refine kF hC rfl ?_
 iterate 2 refine kO hT hC ?_
 iterate 3 refine kF hC rfl ?_
 iterate 2 refine kO hT hC ?_
 refine Vc.nil ?_
 exact kM
 iterate 4 refine kF hC b7 ?_
 refine kP hC false b7 ?_
 refine kO hT hC ?_
 iterate 3 refine kF hC rfl ?_
 iterate 2 refine kO hT hC ?_
 iterate 3 refine kF hC rfl ?_
 iterate 2 refine kO hT hC ?_
 iterate 3 refine kF hC rfl ?_
 iterate 2 refine kO hT hC ?_
 iterate 3 refine kF hC rfl ?_
 iterate 2 refine kO hT hC ?_
 refine Vc.nil ?_
 exact kM
 iterate 5 refine kF hC b6 ?_
 refine kP hC false b6 ?_
 refine kO hT hC ?_
 iterate 4 refine kF hC rfl ?_
 iterate 2 refine kO hT hC ?_
 iterate 3 refine kF hC rfl ?_
 iterate 2 refine kO hT hC ?_
 iterate 3 refine kF hC rfl ?_
 iterate 2 refine kO hT hC ?_
 iterate 3 refine kF hC rfl ?_
 iterate 2 refine kO hT hC ?_
 iterate 3 refine kF hC rfl ?_
 iterate 2 refine kO hT hC ?_
 refine Vc.nil ?_
 exact kM
 iterate 5 refine kF hC b5 ?_
 refine kP hC false b5 ?_
 refine kO hT hC ?_
 iterate 5 refine kF hC rfl ?_
 iterate 2 refine kO hT hC ?_
 iterate 4 refine kF hC rfl ?_
 iterate 2 refine kO hT hC ?_
 iterate 3 refine kF hC rfl ?_
 iterate 2 refine kO hT hC ?_
 iterate 3 refine kF hC rfl ?_
 iterate 2 refine kO hT hC ?_
 iterate 3 refine kF hC rfl ?_
 iterate 2 refine kO hT hC ?_
 iterate 3 refine kF hC rfl ?_
 iterate 2 refine kO hT hC ?_
 refine Vc.nil ?_
 exact kM
 iterate 4 refine kF hC b4 ?_
 refine kP hC false b4 ?_
 refine kO hT hC ?_
 iterate 5 refine kF hC rfl ?_
 iterate 2 refine kO hT hC ?_
 iterate 5 refine kF hC rfl ?_
 iterate 2 refine kO hT hC ?_
 iterate 4 refine kF hC rfl ?_
 iterate 2 refine kO hT hC ?_
 iterate 3 refine kF hC rfl ?_
 iterate 2 refine kO hT hC ?_
 iterate 3 refine kF hC rfl ?_
 iterate 2 refine kO hT hC ?_
 iterate 3 refine kF hC rfl ?_
 iterate 2 refine kO hT hC ?_
 iterate 3 refine kF hC rfl ?_
 iterate 2 refine kO hT hC ?_
 refine Vc.nil ?_
 exact kM
 refine Xah ?_
 refine Xap ?_
 exact kR
 refine kf b1 ?_
 refine Xaf ?_
 refine Xae ?_
 refine Xaq ?_
 refine kL [1] [16] [_] [_] ?_
 refine kA h (fun v4 => ([(90, .sv (.bool v4))], [])) (fun v4 h => ?_) fun v4 h => ?_
 refine Xab ?_
 iterate 2 refine kO hT hC ?_
 refine kC hC [] Tryz.call98 h (fun _ => Xj0) fun q5 h => ?_
 iterate 2 refine kO hT hC ?_
 refine kS h ?_ ?_ <;> intro b12 h
 iterate 3 refine kI hT hC (kn b12) ?_
 refine kS h ?_ ?_ <;> intro b13 h
 iterate 2 refine kI hT hC b13 ?_
 refine kE hC b13 [] Tryz.call99 h (fun _ => Xmo) fun q6 h => ?_
 refine kI hT hC b13 ?_
 refine Xa3 hC rfl rfl rfl rfl (kn b12) rfl rfl (b := true) b13 rfl rfl rfl trivial ?_
 refine kP hC false (kn b12) ?_
 refine kO hT hC ?_
 refine kS h ?_ ?_ <;> intro b14 h
 iterate 4 refine kI hT hC (kn b14) ?_
 iterate 4 refine kF hC (kn b13) ?_
 refine Xa3 hC rfl rfl rfl rfl (kn b14) rfl rfl (b := false) (kn b13) rfl rfl rfl trivial ?_
 refine kP hC false (kn b14) ?_
 refine Vc.nil ?_
 exact kM
 iterate 4 refine kF hC (kn b14) ?_
 iterate 4 refine Xdq hC rfl rfl rfl rfl rfl rfl ?_
 refine kF hC (kn b14) ?_
 refine kP hC true (kn b14) ?_
 refine Vc.nil ?_
 exact kM
 iterate 4 refine kF hC b13 ?_
 refine Xa3 hC rfl rfl rfl rfl (kn b12) rfl rfl (b := false) b13 rfl rfl rfl trivial ?_
 refine kP hC false (kn b12) ?_
 refine kO hT hC ?_
 iterate 4 refine kI hT hC rfl ?_
 iterate 3 refine kI hT hC (kn b13) ?_
 refine Xrx hC rfl rfl rfl rfl (kn b13) rfl rfl rfl Yqb rfl rfl ?_
 refine Xa3 hC rfl rfl rfl rfl rfl rfl rfl (b := true) (kn b13) rfl rfl rfl trivial ?_
 refine kO hT hC ?_
 refine Vc.nil ?_
 exact kM
 iterate 3 refine kF hC (kn b12) ?_
 iterate 4 refine Xdq hC rfl rfl rfl rfl rfl rfl ?_
 refine kF hC (kn b12) ?_
 refine kP hC true (kn b12) ?_
 refine kO hT hC ?_
 iterate 4 refine kF hC rfl ?_
 iterate 4 refine Xdq hC rfl rfl rfl rfl rfl rfl ?_
 refine kF hC rfl ?_
 refine kO hT hC ?_
 refine Vc.nil ?_
 exact kM
 refine kS h ?_ ?_ <;> intro b15 h
 refine kt b15 ?_
 refine Xac ?_
 refine kO hT hC ?_
 refine Vc.nil ?_
 refine Xah ?_
 refine Xap ?_
 exact kR
 refine kf b15 ?_
 refine Xaf ?_
 refine Xae ?_
 refine Xaq ?_
 refine kL [1] [16] [_] [_] ?_
 refine kA h (fun v7 => ([(130, .sv (.bool v7))], [])) (fun v7 h => ?_) fun v7 h => ?_
 refine Xcz hm ?_
 iterate 4 refine kO hT hC ?_
 refine kS h ?_ ?_ <;> intro b16 h
 iterate 8 refine kF hC b16 ?_
 refine kP hC true b16 ?_
 refine kO hT hC ?_
 iterate 3 refine kF hC rfl ?_
 iterate 2 refine kO hT hC ?_
 iterate 6 refine kF hC rfl ?_
 iterate 2 refine kO hT hC ?_
 iterate 4 refine kF hC rfl ?_
 iterate 7 refine Xdq hC rfl rfl rfl rfl rfl rfl ?_
 refine kF hC rfl ?_
 refine kO hT hC ?_
 refine kD ?_
 exact kM
 iterate 6 refine kI hT hC b16 ?_
 refine kJ hT hC b16 h fun h => ?_
 refine kI hT hC b16 ?_
 refine kP hC false b16 ?_
 refine kO hT hC ?_
 refine kS h ?_ ?_ <;> intro b17 h
 iterate 3 refine kF hC b17 ?_
 refine kP hC true b17 ?_
 refine kO hT hC ?_
 iterate 6 refine kF hC rfl ?_
 iterate 2 refine kO hT hC ?_
 iterate 4 refine kF hC rfl ?_
 iterate 7 refine Xdq hC rfl rfl rfl rfl rfl rfl ?_
 refine kF hC rfl ?_
 refine kO hT hC ?_
 refine kD ?_
 exact kM
 iterate 3 refine kI hT hC b17 ?_
 refine kP hC false b17 ?_
 refine kO hT hC ?_
 refine kS h ?_ ?_ <;> intro b18 h
 iterate 6 refine kF hC b18 ?_
 refine kP hC true b18 ?_
 refine kO hT hC ?_
 iterate 4 refine kF hC rfl ?_
 iterate 7 refine Xdq hC rfl rfl rfl rfl rfl rfl ?_
 refine kF hC rfl ?_
 refine kO hT hC ?_
 refine kD ?_
 exact kM
 iterate 4 refine kI hT hC b18 ?_
 refine kE hC b18 [] Tryz.call100 h (fun _ => Xj3) fun q8 h => ?_
 refine kI hT hC b18 ?_
 refine kP hC false b18 ?_
 refine kO hT hC ?_
 refine kS h ?_ ?_ <;> intro b19 h
 iterate 4 refine kF hC b19 ?_
 iterate 7 refine Xdq hC rfl rfl rfl rfl rfl rfl ?_
 refine kF hC b19 ?_
 refine kP hC true b19 ?_
 refine kD ?_
 exact kM
 iterate 4 refine kI hT hC b19 ?_
 refine kS h ?_ ?_ <;> intro b20 h
 iterate 4 refine kF hC (kn b20) ?_
 iterate 2 refine Xdq hC rfl rfl rfl rfl rfl rfl ?_
 refine kF hC (kn b20) ?_
 refine Xa3 hC rfl rfl rfl rfl b19 rfl rfl (b := false) (kn b20) rfl rfl rfl trivial ?_
 refine kP hC false b19 ?_
 refine kD ?_
 exact kM
 iterate 4 refine kI hT hC (kn b20) ?_
 refine kS h ?_ ?_ <;> intro b21 h
 iterate 2 refine kF hC b21 ?_
 refine Xa3 hC rfl rfl rfl rfl (kn b20) rfl rfl (b := true) b21 rfl rfl rfl trivial ?_
 refine Xa3 hC rfl rfl rfl rfl b19 rfl rfl (b := true) (kn b20) rfl rfl rfl trivial ?_
 refine kP hC false b19 ?_
 refine kD ?_
 exact kM
 iterate 2 refine kI hT hC b21 ?_
 refine Xa3 hC rfl rfl rfl rfl (kn b20) rfl rfl (b := false) b21 rfl rfl rfl trivial ?_
 refine Xa3 hC rfl rfl rfl rfl b19 rfl rfl (b := true) (kn b20) rfl rfl rfl trivial ?_
 refine kP hC false b19 ?_
 refine kD ?_
 exact kM
 refine kS h ?_ ?_ <;> intro b22 h
 refine kt b22 ?_
 refine Xac ?_
 refine kO hT hC ?_
 refine Vc.nil ?_
 refine Xah ?_
 refine Xap ?_
 exact kR
 refine kf b22 ?_
 refine Xaf ?_
 refine Xae ?_
 refine Xaq ?_
 refine kL [1] [16] [_] [_] ?_
 refine kA h (fun v9 => ([(157, .sv (.bool v9))], [])) (fun v9 h => ?_) fun v9 h => ?_
 refine Xab ?_
 iterate 4 refine kO hT hC ?_
 refine kS h ?_ ?_ <;> intro b23 h
 iterate 4 refine kI hT hC b23 ?_
 refine kS h ?_ ?_ <;> intro b24 h
 iterate 6 refine kF hC b24 ?_
 refine Xa3 hC rfl rfl rfl rfl b23 rfl rfl (b := true) b24 rfl rfl rfl trivial ?_
 refine kP hC true b23 ?_
 refine kO hT hC ?_
 iterate 4 refine kF hC rfl ?_
 iterate 4 refine Xdq hC rfl rfl rfl rfl rfl rfl ?_
 refine kF hC rfl ?_
 refine kO hT hC ?_
 refine Vc.nil ?_
 exact kM
 iterate 4 refine kI hT hC b24 ?_
 refine kE hC b24 [] Tryz.call101 h (fun _ => Xqw) fun q10 h => ?_
 refine kI hT hC b24 ?_
 refine Xa3 hC rfl rfl rfl rfl b23 rfl rfl (b := false) b24 rfl rfl rfl trivial ?_
 refine kP hC true b23 ?_
 refine kO hT hC ?_
 refine kS h ?_ ?_ <;> intro b25 h
 iterate 4 refine kI hT hC (kn b25) ?_
 refine kS h ?_ ?_ <;> intro b26 h
 iterate 2 refine kI hT hC b26 ?_
 refine kE hC b26 [] Tryz.call97 h (fun _ => Xha) fun q11 h => ?_
 refine kI hT hC b26 ?_
 refine Xa3 hC rfl rfl rfl rfl (kn b25) rfl rfl (b := true) b26 rfl rfl rfl trivial ?_
 refine kP hC false (kn b25) ?_
 refine Vc.nil ?_
 exact kM
 iterate 4 refine kF hC b26 ?_
 refine Xa3 hC rfl rfl rfl rfl (kn b25) rfl rfl (b := false) b26 rfl rfl rfl trivial ?_
 refine kP hC false (kn b25) ?_
 refine Vc.nil ?_
 exact kM
 iterate 4 refine kF hC (kn b25) ?_
 iterate 4 refine Xdq hC rfl rfl rfl rfl rfl rfl ?_
 refine kF hC (kn b25) ?_
 refine kP hC true (kn b25) ?_
 refine Vc.nil ?_
 exact kM
 iterate 4 refine kF hC b23 ?_
 iterate 6 refine Xdq hC rfl rfl rfl rfl rfl rfl ?_
 refine kF hC b23 ?_
 refine kP hC false b23 ?_
 refine kO hT hC ?_
 iterate 4 refine kI hT hC rfl ?_
 refine kS h ?_ ?_ <;> intro b27 h
 iterate 2 refine kI hT hC b27 ?_
 refine kE hC b27 [] Tryz.call97 h (fun _ => Xha) fun q12 h => ?_
 refine kI hT hC b27 ?_
 refine Xa3 hC rfl rfl rfl rfl rfl rfl rfl (b := true) b27 rfl rfl rfl trivial ?_
 refine kO hT hC ?_
 refine Vc.nil ?_
 exact kM
 iterate 4 refine kF hC b27 ?_
 refine Xa3 hC rfl rfl rfl rfl rfl rfl rfl (b := false) b27 rfl rfl rfl trivial ?_
 refine kO hT hC ?_
 refine Vc.nil ?_
 exact kM
 refine kS h ?_ ?_ <;> intro b28 h
 refine kt b28 ?_
 refine Xac ?_
 refine kO hT hC ?_
 refine Vc.nil ?_
 refine Xah ?_
 refine Xap ?_
 exact kR
 refine kf b28 ?_
 refine Xaf ?_
 refine Xae ?_
 refine kL [1] [16] [_] [_] ?_
 refine kA h (fun v13 => ([(2, .sv (.bool v13)), (1, .any)], [(16, none)])) (fun v13 h => ?_) fun v13 h => ?_
 refine Xab ?_
 iterate 3 refine kO hT hC ?_
 refine kS h ?_ ?_ <;> intro b29 h
 iterate 4 refine kI hT hC b29 ?_
 refine kE hC b29 [] Tryz.call101 h (fun _ => Xqw) fun q14 h => ?_
 refine kP hC true b29 ?_
 refine kO hT hC ?_
 refine kS h ?_ ?_ <;> intro b30 h
 iterate 4 refine kF hC b30 ?_
 iterate 3 refine Xdq hC rfl rfl rfl rfl rfl rfl ?_
 refine kF hC b30 ?_
 refine kP hC true b30 ?_
 refine kO hT hC ?_
 refine Vc.nil ?_
 exact kM
 iterate 4 refine kI hT hC b30 ?_
 iterate 3 refine kF hC (kn b29) ?_
 refine Xa3 hC rfl rfl rfl rfl b30 rfl rfl (b := false) (kn b29) rfl rfl rfl trivial ?_
 refine kP hC false b30 ?_
 refine kO hT hC ?_
 refine Vc.nil ?_
 exact kM
 iterate 5 refine kF hC b29 ?_
 refine kP hC false b29 ?_
 refine kO hT hC ?_
 iterate 4 refine kI hT hC rfl ?_
 iterate 2 refine kI hT hC (kn b29) ?_
 refine kE hC (kn b29) [] Tryz.call97 h (fun _ => Xha) fun q15 h => ?_
 refine Xa3 hC rfl rfl rfl rfl rfl rfl rfl (b := true) (kn b29) rfl rfl rfl trivial ?_
 iterate 2 refine kO hT hC ?_
 refine Vc.nil ?_
 exact kM
 refine Xah ?_
 exact kR
def Yb6 (r : Bool) : AV := .sv (.bool r)
def Yb5 (r : Bool) : Xa8 := []
theorem Ygu {p0 r} (h : Xlx p0 = some r) : AC Tryz.prog 102 [.sv (.int .i64 p0)] [] (Yb6 r) (Yb5 r) := by
 refine Xag hT Tryz.func102 rfl fun C hC => ?_
 unfold Xlx at h
 refine Xac ?_
 refine kO hT hC ?_
 refine Vc.nil ?_
 refine kL [0,2] [] [_,_] [] ?_
 refine kA h (fun v1 => ([(2, .sv (.bool v1)), (0, .any)], [])) (fun v1 h => ?_) fun v1 h => ?_
 refine Xab ?_
 iterate 3 refine kO hT hC ?_
 refine kS h ?_ ?_ <;> intro b1 h
 iterate 2 refine kF hC b1 ?_
 refine kP hC true b1 ?_
 refine kO hT hC ?_
 iterate 2 refine kF hC rfl ?_
 iterate 2 refine kO hT hC ?_
 iterate 2 refine kF hC rfl ?_
 iterate 2 refine kO hT hC ?_
 refine Vc.nil ?_
 exact kM
 iterate 2 refine kI hT hC b1 ?_
 refine kP hC false b1 ?_
 refine kO hT hC ?_
 refine kS h ?_ ?_ <;> intro b2 h
 iterate 2 refine kF hC b2 ?_
 refine kP hC true b2 ?_
 refine kO hT hC ?_
 iterate 2 refine kF hC rfl ?_
 iterate 2 refine kO hT hC ?_
 refine Vc.nil ?_
 exact kM
 iterate 2 refine kI hT hC b2 ?_
 refine kP hC false b2 ?_
 refine kO hT hC ?_
 refine kS h ?_ ?_ <;> intro b3 h
 iterate 2 refine kF hC b3 ?_
 refine kP hC true b3 ?_
 refine kO hT hC ?_
 refine Vc.nil ?_
 exact kM
 iterate 2 refine kI hT hC b3 ?_
 refine kP hC false b3 ?_
 refine kO hT hC ?_
 refine Vc.nil ?_
 exact kM
 refine Xah ?_
 exact kR
def Ygt (r : ByteArray) : AV := .sv (.str r)
def Ygs (r : ByteArray) : Xa8 := []
theorem Yjh {p0 p1 r} (h : Xni p0 p1 = some r) : AC Tryz.prog 140 [.sv (.int .i64 p0), .sv (.int .i64 p1)] [] (Ygt r) (Ygs r) := by
 refine Xag hT Tryz.func140 rfl fun C hC => ?_
 unfold Xni at h
 refine Xac ?_
 refine kO hT hC ?_
 refine kN ?_
 refine kO hT hC ?_
 obtain ⟨hq, h⟩ := Xa5 h
 refine Xw3 hT hC rfl rfl rfl rfl ⟨hq.1, hq.2.1, hq.2.2, by decide⟩ ?_
 refine kO hT hC ?_
 refine Vc.nil ?_
 refine Xaq ?_
 refine Xac ?_
 iterate 3 refine kO hT hC ?_
 refine Vc.nil ?_
 refine kL [0,5,6] [128] [_,_,_] [_] ?_
 refine kX h (fun v2 => ([(0, .sv (.int .i64 v2.1)), (6, .sv (.int .i64 v2.2.1))], [(128, some (.ints .u8 v2.2.2))])) (fun v4 => ([(0, .any), (6, .any)], [(128, some (.ints .u8 v4))])) (kW hC []) (fun v2 s h => ?_) fun v4 h => ?_
 unfold Xih at h
 refine Xaq ?_
 refine Xac ?_
 iterate 2 refine kO hT hC ?_
 refine Vc.nil ?_
 refine kS h ?_ ?_ <;> intro b3 h
 refine kt b3 ?_
 refine Xaf ?_
 refine Xae ?_
 refine Xaq ?_
 refine Xao ?_
 refine Xac ?_
 iterate 3 refine kO hT hC ?_
 refine kQ hT hC h fun h => ?_
 iterate 2 refine kO hT hC ?_
 iterate 2 refine kQ hT hC h fun h => ?_
 refine Vc.nil ?_
 refine Xab ?_
 refine kO hT hC ?_
 refine kQ hT hC h fun h => ?_
 refine kO hT hC ?_
 refine Vc.nil ?_
 refine Xar ?_
 refine Xae ?_
 refine Xab ?_
 iterate 3 refine kO hT hC ?_
 refine Vc.nil ?_
 exact kG
 refine kf b3 ?_
 refine Xas ?_
 refine Xaz ?_
 exact ku
 refine Xae ?_
 refine Xac ?_
 iterate 3 refine kO hT hC ?_
 refine Vc.nil ?_
 refine Xah ?_
 exact kR
def Xye (r : (ByteArray × Bool)) : AV := .tup [.sv (.str r.1), .sv (.bool r.2)]
def Xyd (r : (ByteArray × Bool)) : Xa8 := []
theorem Ybe {p0 r} (h : Xho p0 = some r) : AC Tryz.prog 103 [.sv (.str p0)] [] (Xye r) (Xyd r) := by
 refine Xag hT Tryz.func103 rfl fun C hC => ?_
 unfold Xho at h
 refine Xac ?_
 iterate 2 refine kO hT hC ?_
 refine Vc.nil ?_
 refine Xaq ?_
 refine kL [0] [] [_] [] ?_
 refine kA h (fun v1 => ([(22, .sv (.bool v1))], [])) (fun v1 h => ?_) fun v1 h => ?_
 refine Xab ?_
 iterate 4 refine kO hT hC ?_
 refine kS h ?_ ?_ <;> intro b1 h
 iterate 3 refine kF hC b1 ?_
 refine kP hC true b1 ?_
 refine kO hT hC ?_
 iterate 6 refine kF hC rfl ?_
 refine kO hT hC ?_
 refine Vc.nil ?_
 exact kM
 iterate 3 refine kI hT hC b1 ?_
 refine kP hC false b1 ?_
 refine kO hT hC ?_
 refine kS h ?_ ?_ <;> intro b2 h
 iterate 6 refine kF hC b2 ?_
 refine kP hC true b2 ?_
 refine Vc.nil ?_
 exact kM
 iterate 4 refine kI hT hC b2 ?_
 refine kJ hT hC b2 h fun h => ?_
 refine kI hT hC b2 ?_
 refine kP hC false b2 ?_
 refine Vc.nil ?_
 exact kM
 refine kS h ?_ ?_ <;> intro b3 h
 refine kt b3 ?_
 refine Xac ?_
 iterate 2 refine kO hT hC ?_
 refine Vc.nil ?_
 refine Xah ?_
 refine Xap ?_
 exact kR
 refine kf b3 ?_
 refine Xaf ?_
 refine Xae ?_
 refine Xac ?_
 iterate 2 refine kO hT hC ?_
 refine Vc.nil ?_
 refine Xaq ?_
 refine Xac ?_
 refine kO hT hC ?_
 refine Vc.nil ?_
 refine kL [0,4,5] [368] [_,_,_] [_] ?_
 refine kX h (fun v4 => ([(5, .sv (.int .i64 v4.1))], [(368, some (.ints .u8 v4.2))])) (fun v7 => ([(0, .any), (5, .any)], [(368, some (.ints .u8 v7))])) (kW hC []) (fun v4 s h => ?_) fun v7 h => ?_
 unfold Xef at h
 refine Xaq ?_
 refine Xac ?_
 iterate 4 refine kO hT hC ?_
 refine Vc.nil ?_
 refine kS h ?_ ?_ <;> intro b6 h
 refine kt b6 ?_
 refine Xaf ?_
 refine Xae ?_
 refine Xaq ?_
 refine Xao ?_
 refine Xab ?_
 iterate 3 refine kO hT hC ?_
 refine kQ hT hC h fun h => ?_
 refine kO hT hC ?_
 refine kC hC [] Tryz.call140 h (fun _ => Yjh) fun q8 h => ?_
 refine kT hT hC h fun h => ?_
 refine kO hT hC ?_
 refine Vc.nil ?_
 refine Xar ?_
 refine Xae ?_
 refine Xab ?_
 iterate 3 refine kO hT hC ?_
 refine Vc.nil ?_
 obtain rfl := kj h
 exact Ya8 (kW hC [(368, 576)])
 refine kf b6 ?_
 refine Xas ?_
 refine Xaz ?_
 exact ku
 refine Xae ?_
 refine Xac ?_
 iterate 3 refine kO hT hC ?_
 refine Vc.nil ?_
 refine Xaq ?_
 refine kL [4,6] [368] [_,_] [_] ?_
 refine kX h (fun v12 => ([(6, .sv (.int .i64 v12))], [])) (fun v15 => ([(6, .sv (.int .i64 v15))], [])) (kW hC []) (fun v12 s h => ?_) fun v15 h => ?_
 unfold Xeg at h
 refine Xaq ?_
 refine kL [4,6] [368] [_,_] [_] ?_
 refine kA h (fun v16 => ([(48, .sv (.bool v16))], [])) (fun v16 h => ?_) fun v16 h => ?_
 refine Xab ?_
 iterate 3 refine kO hT hC ?_
 refine kS h ?_ ?_ <;> intro b11 h
 iterate 3 refine kI hT hC b11 ?_
 iterate 2 refine kJ hT hC b11 h fun h => ?_
 refine kI hT hC b11 ?_
 refine kP hC true b11 ?_
 refine Vc.nil ?_
 exact kM
 iterate 6 refine kF hC b11 ?_
 refine kP hC false b11 ?_
 refine Vc.nil ?_
 exact kM
 refine kS h ?_ ?_ <;> intro b12 h
 refine kt b12 ?_
 refine Xaf ?_
 refine Xae ?_
 refine Xao ?_
 refine Xab ?_
 iterate 3 refine kO hT hC ?_
 refine Vc.nil ?_
 refine Xar ?_
 exact kG
 refine kf b12 ?_
 refine Xas ?_
 refine Xaz ?_
 exact ku
 refine Xae ?_
 refine Xaq ?_
 refine Xac ?_
 iterate 3 refine kO hT hC ?_
 refine Vc.nil ?_
 refine kS h ?_ ?_ <;> intro b13 h
 refine kt b13 ?_
 refine Xac ?_
 iterate 2 refine kO hT hC ?_
 refine Vc.nil ?_
 refine Xah ?_
 refine Xap ?_
 exact kR
 refine kf b13 ?_
 refine Xaf ?_
 refine Xae ?_
 refine Xac ?_
 iterate 3 refine kO hT hC ?_
 iterate 2 refine kQ hT hC h fun h => ?_
 iterate 2 refine kO hT hC ?_
 refine Vc.nil ?_
 refine Xah ?_
 exact kR
def Ygo (r : (Int × ByteArray × Bool)) : AV := .tup [.sv (.int .i64 r.1), .sv (.str r.2.1), .sv (.bool r.2.2)]
def Ygn (r : (Int × ByteArray × Bool)) : Xa8 := []
theorem Yje {p0 r} (h : Xky p0 = some r) : AC Tryz.prog 69 [.sv (.str p0)] [] (Ygo r) (Ygn r) := by
 refine Xag hT Tryz.func69 rfl fun C hC => ?_
 unfold Xky at h
 refine Xac ?_
 iterate 3 refine kO hT hC ?_
 refine Vc.nil ?_
 refine Xaq ?_
 refine kL [0] [] [_] [] ?_
 refine kA h (fun v1 => ([(16, .sv (.bool v1))], [])) (fun v1 h => ?_) fun v1 h => ?_
 refine Xab ?_
 iterate 4 refine kO hT hC ?_
 refine kS h ?_ ?_ <;> intro b1 h
 iterate 5 refine kF hC b1 ?_
 refine kP hC true b1 ?_
 refine Vc.nil ?_
 exact kM
 refine kI hT hC b1 ?_
 refine kJ hT hC b1 h fun h => ?_
 refine kI hT hC b1 ?_
 refine kE hC b1 [] Tryz.call102 h (fun _ => Ygu) fun q2 h => ?_
 refine kI hT hC b1 ?_
 refine kP hC false b1 ?_
 refine Vc.nil ?_
 exact kM
 refine kS h ?_ ?_ <;> intro b2 h
 refine kt b2 ?_
 refine Xac ?_
 iterate 3 refine kO hT hC ?_
 refine Vc.nil ?_
 refine Xah ?_
 refine Xap ?_
 exact kR
 refine kf b2 ?_
 refine Xaf ?_
 refine Xae ?_
 refine Xac ?_
 refine kO hT hC ?_
 refine kQ hT hC h fun h => ?_
 refine kC hC [] Tryz.call103 h (fun _ => Ybe) fun q3 h => ?_
 iterate 5 refine kO hT hC ?_
 refine Vc.nil ?_
 refine Xaq ?_
 refine Xac ?_
 iterate 2 refine kO hT hC ?_
 refine Vc.nil ?_
 refine kS h ?_ ?_ <;> intro b3 h
 refine kt b3 ?_
 refine Xac ?_
 iterate 3 refine kO hT hC ?_
 refine Vc.nil ?_
 refine Xah ?_
 refine Xap ?_
 exact kR
 refine kf b3 ?_
 refine Xaf ?_
 refine Xae ?_
 refine Xac ?_
 refine kO hT hC ?_
 refine kQ hT hC h fun h => ?_
 iterate 5 refine kO hT hC ?_
 refine Vc.nil ?_
 refine Xah ?_
 exact kR
def Yb2 (r : (Int × Int × Bool)) : AV := .tup [.sv (.int .i64 r.1), .sv (.int .i64 r.2.1), .sv (.bool r.2.2)]
def Yb1 (r : (Int × Int × Bool)) : Xa8 := []
theorem Xj5 {p0 p1 p2 r} (h : Xb3 p0 p1 p2 = some r) : AC Tryz.prog 105 [.sv (.str p0), .sv (.int .i64 p1), .sv (.int .i64 p2)] [] (Yb2 r) (Yb1 r) := by
 refine Xag hT Tryz.func105 rfl fun C hC => ?_
 unfold Xb3 at h
 refine Xac ?_
 iterate 3 refine kO hT hC ?_
 refine Vc.nil ?_
 refine Xaq ?_
 refine Xac ?_
 iterate 6 refine kO hT hC ?_
 refine Vc.nil ?_
 refine kS h ?_ ?_ <;> intro b1 h
 refine kt b1 ?_
 refine Xac ?_
 iterate 3 refine kO hT hC ?_
 refine Vc.nil ?_
 refine Xah ?_
 refine Xap ?_
 exact kR
 refine kf b1 ?_
 refine Xaf ?_
 refine Xae ?_
 refine Xac ?_
 refine kO hT hC ?_
 refine Vc.nil ?_
 refine Xaq ?_
 refine Xac ?_
 iterate 2 refine kO hT hC ?_
 refine Vc.nil ?_
 refine kL [0,1,2,9,10] [] [_,_,_,_,_] [] ?_
 refine kX h (fun v2 => ([(9, .sv (.int .i64 v2.1)), (10, .sv (.int .i64 v2.2))], [])) (fun v4 => ([(9, .sv (.int .i64 v4)), (0, .any), (10, .any)], [])) (kW hC []) (fun v2 s h => ?_) fun v4 h => ?_
 unfold Xg1 at h
 refine Xaq ?_
 refine Xac ?_
 iterate 5 refine kO hT hC ?_
 refine Vc.nil ?_
 refine kS h ?_ ?_ <;> intro b4 h
 refine kt b4 ?_
 refine Xaf ?_
 refine Xae ?_
 refine Xaq ?_
 refine Xao ?_
 refine Xab ?_
 iterate 4 refine kO hT hC ?_
 refine kQ hT hC h fun h => ?_
 iterate 4 refine kO hT hC ?_
 refine Vc.nil ?_
 refine Xar ?_
 refine Xae ?_
 refine Xab ?_
 iterate 3 refine kO hT hC ?_
 refine Vc.nil ?_
 exact kG
 refine kf b4 ?_
 refine Xas ?_
 refine Xaz ?_
 exact ku
 refine Xae ?_
 refine Xac ?_
 iterate 7 refine kO hT hC ?_
 refine Vc.nil ?_
 refine Xah ?_
 exact kR
def Xwr (r : (Int × Int × Bool)) : AV := .tup [.sv (.int .i64 r.1), .sv (.int .i64 r.2.1), .sv (.bool r.2.2)]
def Xwq (r : (Int × Int × Bool)) : Xa8 := []
theorem Xb0 {p0 p1 r} (h : Xbb p0 p1 = some r) : AC Tryz.prog 104 [.sv (.str p0), .sv (.int .i64 p1)] [] (Xwr r) (Xwq r) := by
 refine Xag hT Tryz.func104 rfl fun C hC => ?_
 unfold Xbb at h
 refine Xac ?_
 iterate 3 refine kO hT hC ?_
 refine kN ?_
 refine kO hT hC ?_
 refine Vc.nil ?_
 refine Xaq ?_
 refine kL [0,1,7] [] [_,_,_] [] ?_
 refine kX h (fun v3 => ([(7, .sv (.int .i64 v3))], [])) (fun v6 => ([(7, .sv (.int .i64 v6))], [])) (kW hC []) (fun v3 s h => ?_) fun v6 h => ?_
 unfold Xd3 at h
 refine Xaq ?_
 refine kL [0,1,7] [] [_,_,_] [] ?_
 refine kA h (fun v7 => ([(28, .sv (.bool v7))], [])) (fun v7 h => ?_) fun v7 h => ?_
 refine Xab ?_
 iterate 7 refine kO hT hC ?_
 refine kS h ?_ ?_ <;> intro b7 h
 iterate 4 refine kI hT hC b7 ?_
 refine kJ hT hC b7 h fun h => ?_
 refine kI hT hC b7 ?_
 refine kP hC true b7 ?_
 refine kO hT hC ?_
 refine kS h ?_ ?_ <;> intro b8 h
 iterate 2 refine kI hT hC b8 ?_
 refine kP hC true b8 ?_
 refine Vc.nil ?_
 exact kM
 iterate 2 refine kF hC b8 ?_
 refine kP hC false b8 ?_
 refine Vc.nil ?_
 exact kM
 iterate 6 refine kF hC b7 ?_
 refine kP hC false b7 ?_
 refine kO hT hC ?_
 iterate 2 refine kF hC rfl ?_
 refine kO hT hC ?_
 refine Vc.nil ?_
 exact kM
 refine kS h ?_ ?_ <;> intro b9 h
 refine kt b9 ?_
 refine Xaf ?_
 refine Xae ?_
 refine Xao ?_
 refine Xab ?_
 iterate 3 refine kO hT hC ?_
 refine Vc.nil ?_
 refine Xar ?_
 exact kG
 refine kf b9 ?_
 refine Xas ?_
 refine Xaz ?_
 exact ku
 refine Xae ?_
 refine Xac ?_
 iterate 6 refine kO hT hC ?_
 refine kC hC [] Tryz.call105 h (fun _ => Xj5) fun q9 h => ?_
 iterate 7 refine kO hT hC ?_
 refine Vc.nil ?_
 refine Xaq ?_
 refine kL [7,8,9,10] [] [_,_,_,_] [] ?_
 refine kA h (fun v10 => ([(55, .sv (.bool v10)), (7, .any), (10, .any)], [])) (fun v10 h => ?_) fun v10 h => ?_
 refine Xab ?_
 iterate 3 refine kO hT hC ?_
 refine kS h ?_ ?_ <;> intro b10 h
 iterate 3 refine kI hT hC (kn b10) ?_
 refine kJ hT hC (kn b10) h fun h => ?_
 refine kI hT hC (kn b10) ?_
 refine kP hC false (kn b10) ?_
 refine kO hT hC ?_
 refine kS h ?_ ?_ <;> intro b11 h
 iterate 3 refine kF hC b11 ?_
 refine kP hC true b11 ?_
 refine Vc.nil ?_
 exact kM
 iterate 3 refine kI hT hC b11 ?_
 refine kP hC false b11 ?_
 refine Vc.nil ?_
 exact kM
 iterate 5 refine kF hC (kn b10) ?_
 refine kP hC true (kn b10) ?_
 refine kO hT hC ?_
 iterate 3 refine kF hC rfl ?_
 refine kO hT hC ?_
 refine Vc.nil ?_
 exact kM
 refine kS h ?_ ?_ <;> intro b12 h
 refine kt b12 ?_
 refine Xac ?_
 iterate 3 refine kO hT hC ?_
 refine Vc.nil ?_
 refine Xah ?_
 refine Xap ?_
 exact kR
 refine kf b12 ?_
 refine Xaf ?_
 refine Xae ?_
 refine Xac ?_
 iterate 6 refine kO hT hC ?_
 refine Vc.nil ?_
 refine Xah ?_
 exact kR
def Xmd (r : ((List Int) × Int × Bool)) : AV := .tup [.own 16, .sv (.int .i64 r.2.1), .sv (.bool r.2.2)]
def Xmc (r : ((List Int) × Int × Bool)) : Xa8 := [(16, .ints .i64 r.1)]
theorem Xnj {p0 p1 r} (h : Xdm p0 p1 = some r) : AC Tryz.prog 106 [.sv (.str p0), .sv (.int .i64 p1)] [] (Xmd r) (Xmc r) := by
 refine Xag hT Tryz.func106 rfl fun C hC => ?_
 unfold Xdm at h
 refine Xac ?_
 iterate 3 refine kO hT hC ?_
 refine kN ?_
 iterate 2 refine kO hT hC ?_
 refine kN ?_
 iterate 2 refine kO hT hC ?_
 refine kC hC [] Tryz.call104 h (fun _ => Xb0) fun q1 h => ?_
 iterate 7 refine kO hT hC ?_
 refine Vc.nil ?_
 refine Xaq ?_
 refine kL [0,7,8,9,10] [240] [_,_,_,_,_] [_] ?_
 refine kA h (fun v2 => ([(28, .sv (.bool v2)), (10, .any)], [])) (fun v2 h => ?_) fun v2 h => ?_
 refine Xab ?_
 iterate 3 refine kO hT hC ?_
 refine kS h ?_ ?_ <;> intro b1 h
 iterate 2 refine kI hT hC (kn b1) ?_
 refine kP hC false (kn b1) ?_
 refine Vc.nil ?_
 exact kM
 iterate 2 refine kF hC (kn b1) ?_
 refine kP hC true (kn b1) ?_
 refine Vc.nil ?_
 exact kM
 refine kS h ?_ ?_ <;> intro b2 h
 refine kt b2 ?_
 refine Xac ?_
 iterate 4 refine kO hT hC ?_
 refine Vc.nil ?_
 refine Xah ?_
 refine Xap ?_
 obtain rfl := kj h
 exact Xbt (τ := ⟨[(4, .own 16), (5, .sv (.int .i64 0)), (6, .sv (.bool false))], [(16, some (.ints .i64 ([] : List Int)))]⟩) (kW hC [(16, 240)]) rfl ⟨rfl, trivial⟩
 refine kf b2 ?_
 refine Xaf ?_
 refine Xae ?_
 refine Xaq ?_
 refine Xac ?_
 refine kO hT hC ?_
 refine Vc.nil ?_
 refine kL [0,7,8,9,11] [240] [_,_,_,_,_] [_] ?_
 obtain ⟨o10, hl, h⟩ := Xba h
 refine Xd8 (fun v5 => ([(9, .sv (.int .i64 v5.1)), (11, .sv (.int .i64 v5.2.1))], [(240, some (.ints .i64 v5.2.2))])) (fun v8 => ([(9, .sv (.int .i64 v8.1)), (0, .any), (8, .any), (11, .any)], [(240, some (.ints .i64 v8.2))])) (fun r => Xl1 C T Tryz.f106.results.toList (Xmd r) (Xmc r)) hl ?_ ?_ ?_ ?_
 try dsimp only
 apply Xbz hC []
 exact co
 rfl
 decide
 rfl
 intro v5 s hs
 have h := hs
 unfold Xbk at h
 refine Xaq ?_
 refine Xac ?_
 iterate 3 refine kO hT hC ?_
 refine Vc.nil ?_
 refine kS h ?_ ?_ <;> intro b7 h
 refine kt b7 ?_
 refine Xaf ?_
 refine Xae ?_
 refine Xaq ?_
 refine Xao ?_
 refine Xac ?_
 iterate 2 refine kO hT hC ?_
 refine kC hC [] Tryz.call104 h (fun _ => Xb0) fun q9 h => ?_
 iterate 7 refine kO hT hC ?_
 refine Vc.nil ?_
 refine Xaq ?_
 refine Xac ?_
 iterate 2 refine kO hT hC ?_
 refine Vc.nil ?_
 refine kS h ?_ ?_ <;> intro b8 h
 refine kt b8 ?_
 refine Xac ?_
 iterate 4 refine kO hT hC ?_
 refine Vc.nil ?_
 refine Xah ?_
 refine Xap ?_
 refine Xcr ?_
 refine Xap ?_
 obtain rfl := kj h
 refine Xku ?_
 refine Xkr ?_
 refine Xbt (τ := ⟨[(4, .own 16), (5, .sv (.int .i64 0)), (6, .sv (.bool false))], [(16, some (.ints .i64 ([] : List Int)))]⟩) ?_ rfl ⟨rfl, trivial⟩
 apply Xbz hC [(16, 704)]
 exact co
 rfl
 decide
 rfl
 refine kf b8 ?_
 refine Xaf ?_
 refine Xae ?_
 refine Xac ?_
 iterate 3 refine kO hT hC ?_
 refine kT hT hC h fun h => ?_
 refine kO hT hC ?_
 refine Vc.nil ?_
 refine Xab ?_
 iterate 2 refine kO hT hC ?_
 refine Vc.nil ?_
 refine Xar ?_
 refine Xae ?_
 refine Xab ?_
 iterate 3 refine kO hT hC ?_
 refine Vc.nil ?_
 obtain rfl := kj h
 exact Ya8 (kW hC [(240, 768)])
 refine kf b7 ?_
 refine Xas ?_
 refine Xaz ?_
 exact kb
 intro v8 e
 subst e
 refine Xae ?_
 refine Xac ?_
 iterate 5 refine kO hT hC ?_
 refine Vc.nil ?_
 refine Xah ?_
 obtain rfl := kj h
 exact Xbt (τ := ⟨[(4, .own 16), (5, .sv (.int .i64 v8.1)), (6, .sv (.bool true))], [(16, some (.ints .i64 v8.2))]⟩) (kW hC [(16, 240)]) rfl ⟨rfl, trivial⟩
 intro r' σ' e hE
 subst e
 obtain rfl := kj h
 refine Xap ?_
 exact hE
def Xum (r : (Seq × Int × Bool)) : AV := .tup [.agg [.sv (.int .i64 r.1.Level), .sv (.int .i64 r.1.Bits), .own 16, .own 17], .sv (.int .i64 r.2.1), .sv (.bool r.2.2)]
def Xul (r : (Seq × Int × Bool)) : Xa8 := [(16, .ints .i64 r.1.Cols), (17, .ints .i64 r.1.Rows)]
theorem Xwv {p0 p1 r} (h : Xfh p0 p1 = some r) : AC Tryz.prog 70 [.sv (.str p0), .sv (.int .i64 p1)] [] (Xum r) (Xul r) := by
 refine Xag hT Tryz.func70 rfl fun C hC => ?_
 unfold Xfh at h
 refine Xac ?_
 iterate 3 refine kO hT hC ?_
 refine kN ?_
 iterate 2 refine kO hT hC ?_
 refine kC hC [] Tryz.call104 h (fun _ => Xb0) fun q1 h => ?_
 iterate 7 refine kO hT hC ?_
 refine Vc.nil ?_
 refine Xaq ?_
 refine Xac ?_
 iterate 2 refine kO hT hC ?_
 refine Vc.nil ?_
 refine kS h ?_ ?_ <;> intro b1 h
 refine kt b1 ?_
 refine Xac ?_
 iterate 4 refine kO hT hC ?_
 refine Vc.nil ?_
 refine Xah ?_
 refine Xap ?_
 obtain rfl := kj h
 refine Xbt (τ := ⟨[(4, .ptr 2000000 0), (5, .sv (.int .i64 0)), (6, .sv (.bool false))], [(16, some (.ints .i64 [])), (17, some (.ints .i64 [])), (2000000, some (.box [.sv (.int .i64 0), .sv (.int .i64 0), .own 16, .own 17]))]⟩) ?_ rfl ⟨rfl, rfl, trivial⟩
 refine Xf7 hC 64 2 1169 (.ints .i64 []) rfl rfl rfl rfl rfl trivial ?_
 refine Xf7 hC 64 3 1170 (.ints .i64 []) rfl rfl rfl rfl rfl trivial ?_
 apply Xbz hC [(16, 1169), (17, 1170), (2000000, 64)]
 exact co
 rfl
 decide
 rfl
 refine kf b1 ?_
 refine Xaf ?_
 refine Xae ?_
 refine Xac ?_
 iterate 2 refine kO hT hC ?_
 refine kC hC [] Tryz.call105 h (fun _ => Xj5) fun q2 h => ?_
 iterate 7 refine kO hT hC ?_
 refine Vc.nil ?_
 refine Xaq ?_
 refine Xac ?_
 iterate 2 refine kO hT hC ?_
 refine Vc.nil ?_
 refine kS h ?_ ?_ <;> intro b2 h
 refine kt b2 ?_
 refine Xac ?_
 iterate 4 refine kO hT hC ?_
 refine Vc.nil ?_
 refine Xah ?_
 refine Xap ?_
 obtain rfl := kj h
 refine Xbt (τ := ⟨[(4, .ptr 2000000 0), (5, .sv (.int .i64 0)), (6, .sv (.bool false))], [(16, some (.ints .i64 [])), (17, some (.ints .i64 [])), (2000000, some (.box [.sv (.int .i64 0), .sv (.int .i64 0), .own 16, .own 17]))]⟩) ?_ rfl ⟨rfl, rfl, trivial⟩
 refine Xf7 hC 64 2 1171 (.ints .i64 []) rfl rfl rfl rfl rfl trivial ?_
 refine Xf7 hC 64 3 1172 (.ints .i64 []) rfl rfl rfl rfl rfl trivial ?_
 apply Xbz hC [(16, 1171), (17, 1172), (2000000, 64)]
 exact co
 rfl
 decide
 rfl
 refine kf b2 ?_
 refine Xaf ?_
 refine Xae ?_
 refine Xac ?_
 iterate 2 refine kO hT hC ?_
 refine kC hC [(16, 688)] Tryz.call106 h (fun _ => Xnj) fun q3 h => ?_
 iterate 7 refine kO hT hC ?_
 refine Vc.nil ?_
 refine Xaq ?_
 refine Xac ?_
 iterate 2 refine kO hT hC ?_
 refine Vc.nil ?_
 refine kS h ?_ ?_ <;> intro b3 h
 refine kt b3 ?_
 refine Xac ?_
 iterate 4 refine kO hT hC ?_
 refine Vc.nil ?_
 refine Xah ?_
 refine Xap ?_
 obtain rfl := kj h
 refine Xbt (τ := ⟨[(4, .ptr 2000000 0), (5, .sv (.int .i64 0)), (6, .sv (.bool false))], [(16, some (.ints .i64 [])), (17, some (.ints .i64 [])), (2000000, some (.box [.sv (.int .i64 0), .sv (.int .i64 0), .own 16, .own 17]))]⟩) ?_ rfl ⟨rfl, rfl, trivial⟩
 refine Xf7 hC 64 2 1173 (.ints .i64 []) rfl rfl rfl rfl rfl trivial ?_
 refine Xf7 hC 64 3 1174 (.ints .i64 []) rfl rfl rfl rfl rfl trivial ?_
 apply Xbz hC [(16, 1173), (17, 1174), (2000000, 64)]
 exact co
 rfl
 decide
 rfl
 refine kf b3 ?_
 refine Xaf ?_
 refine Xae ?_
 refine Xac ?_
 iterate 2 refine kO hT hC ?_
 refine kC hC [(16, 848)] Tryz.call106 h (fun _ => Xnj) fun q4 h => ?_
 iterate 7 refine kO hT hC ?_
 refine kN ?_
 iterate 7 refine kO hT hC ?_
 refine Vc.nil ?_
 refine Xaq ?_
 refine kL [4,17,18,19] [64,304,688,848] [_,_,_,_] [_,_,_,_] ?_
 refine kA h (fun v5 => ([(68, .sv (.bool v5)), (18, .any)], [])) (fun v5 h => ?_) fun v5 h => ?_
 refine Xab ?_
 iterate 3 refine kO hT hC ?_
 refine kS h ?_ ?_ <;> intro b4 h
 refine kI hT hC (kn b4) ?_
 refine kE hC (kn b4) [] Tryz.call98 h (fun _ => Xj0) fun q6 h => ?_
 refine kI hT hC (kn b4) ?_
 refine kP hC false (kn b4) ?_
 refine Vc.nil ?_
 exact kM
 iterate 3 refine kF hC (kn b4) ?_
 refine kP hC true (kn b4) ?_
 refine Vc.nil ?_
 exact kM
 refine kS h ?_ ?_ <;> intro b5 h
 refine kt b5 ?_
 refine Xac ?_
 iterate 4 refine kO hT hC ?_
 refine Vc.nil ?_
 refine Xah ?_
 refine Xap ?_
 obtain rfl := kj h
 refine Xbt (τ := ⟨[(4, .ptr 2000000 0), (5, .sv (.int .i64 0)), (6, .sv (.bool false))], [(16, some (.ints .i64 [])), (17, some (.ints .i64 [])), (2000000, some (.box [.sv (.int .i64 0), .sv (.int .i64 0), .own 16, .own 17]))]⟩) ?_ rfl ⟨rfl, rfl, trivial⟩
 refine Xf7 hC 64 2 1175 (.ints .i64 []) rfl rfl rfl rfl rfl trivial ?_
 refine Xf7 hC 64 3 1176 (.ints .i64 []) rfl rfl rfl rfl rfl trivial ?_
 apply Xbz hC [(16, 1175), (17, 1176), (2000000, 64)]
 exact co
 rfl
 decide
 rfl
 refine kf b5 ?_
 refine Xaf ?_
 refine Xae ?_
 refine Xac ?_
 iterate 5 refine kO hT hC ?_
 refine Vc.nil ?_
 refine Xah ?_
 obtain rfl := kj h
 exact Xbt (τ := ⟨[(4, .ptr 2000000 0), (5, .sv (.int .i64 q4.2.1)), (6, .sv (.bool true))], [(16, some (.ints .i64 q3.1)), (17, some (.ints .i64 q4.1)), (2000000, some (.box [.sv (.int .i64 q1.1), .sv (.int .i64 q2.1), .own 16, .own 17]))]⟩) (kW hC [(16, 688), (17, 848), (2000000, 64)]) rfl ⟨rfl, rfl, trivial⟩
def Xuk (r : (Par × Int × Bool)) : AV := .tup [.agg [.sv (.int .i64 r.1.Qp), .sv (.bool r.1.Large), .sv (.bool r.1.Exact), .sv (.bool r.1.Confined)], .sv (.int .i64 r.2.1), .sv (.bool r.2.2)]
def Xuj (r : (Par × Int × Bool)) : Xa8 := []
theorem Xwu {p0 p1 r} (h : Xfg p0 p1 = some r) : AC Tryz.prog 71 [.sv (.str p0), .sv (.int .i64 p1)] [] (Xuk r) (Xuj r) := by
 refine Xag hT Tryz.func71 rfl fun C hC => ?_
 unfold Xfg at h
 refine Xac ?_
 iterate 3 refine kO hT hC ?_
 refine kN ?_
 iterate 2 refine kO hT hC ?_
 refine kC hC [] Tryz.call105 h (fun _ => Xj5) fun q1 h => ?_
 iterate 7 refine kO hT hC ?_
 refine Vc.nil ?_
 refine Xaq ?_
 refine kL [0,4,7,8,9] [64] [_,_,_,_,_] [_] ?_
 refine kA h (fun v2 => ([(26, .sv (.bool v2)), (9, .any)], [])) (fun v2 h => ?_) fun v2 h => ?_
 refine Xab ?_
 iterate 3 refine kO hT hC ?_
 refine kS h ?_ ?_ <;> intro b1 h
 iterate 5 refine kI hT hC (kn b1) ?_
 refine kP hC false (kn b1) ?_
 refine Vc.nil ?_
 exact kM
 iterate 5 refine kF hC (kn b1) ?_
 refine kP hC true (kn b1) ?_
 refine Vc.nil ?_
 exact kM
 refine kS h ?_ ?_ <;> intro b2 h
 refine kt b2 ?_
 refine Xac ?_
 iterate 4 refine kO hT hC ?_
 refine Vc.nil ?_
 refine Xah ?_
 refine Xap ?_
 exact kR
 refine kf b2 ?_
 refine Xaf ?_
 refine Xae ?_
 refine Xd7 hm ?_
 iterate 3 refine kO hT hC ?_
 refine kQ hT hC h fun h => ?_
 iterate 4 refine kO hT hC ?_
 refine kQ hT hC h fun h => ?_
 iterate 4 refine kO hT hC ?_
 refine kQ hT hC h fun h => ?_
 iterate 4 refine kO hT hC ?_
 refine kD ?_
 refine Xaq ?_
 refine Xac ?_
 refine kO hT hC ?_
 refine kC hC [] Tryz.call99 h (fun _ => Xmo) fun q3 h => ?_
 refine kO hT hC ?_
 refine Vc.nil ?_
 refine kS h ?_ ?_ <;> intro b3 h
 refine kt b3 ?_
 refine Xac ?_
 iterate 4 refine kO hT hC ?_
 refine Vc.nil ?_
 refine Xah ?_
 refine Xap ?_
 exact kR
 refine kf b3 ?_
 refine Xaf ?_
 refine Xae ?_
 refine Xac ?_
 iterate 6 refine kO hT hC ?_
 refine Vc.nil ?_
 refine Xah ?_
 exact kR
def Xri (r : Bool) : AV := .sv (.bool r)
def Xrh (r : Bool) : Xa8 := []
theorem Yjj {p0 r} (h : Xk0 p0 = some r) : AC Tryz.prog 173 [.sv (.str p0)] [] (Xri r) (Xrh r) := by
 refine Xag hT Tryz.func173 rfl fun C hC => ?_
 unfold Xk0 at h
 refine Xac ?_
 refine kO hT hC ?_
 refine Vc.nil ?_
 refine Xaq ?_
 refine Xac ?_
 refine kO hT hC ?_
 refine Vc.nil ?_
 refine kL [0,3] [] [_,_] [] ?_
 obtain ⟨o8, hl, h⟩ := Xba h
 refine Xd8 (fun v3 => ([(3, .sv (.int .i64 v3))], [])) (fun v6 => ([(0, .any), (3, .any)], [])) (fun r => Xl1 C T Tryz.f173.results.toList (Xri r) (Xrh r)) hl ?_ ?_ ?_ ?_
 apply Xbz hC []
 exact co
 rfl
 decide
 rfl
 intro v3 s hs
 have h := hs
 unfold Xc6 at h
 refine Xaq ?_
 refine Xac ?_
 iterate 4 refine kO hT hC ?_
 refine Vc.nil ?_
 refine kS h ?_ ?_ <;> intro b7 h
 refine kt b7 ?_
 refine Xaf ?_
 refine Xae ?_
 refine Xaq ?_
 refine Xao ?_
 refine kL [0,3] [] [_,_] [] ?_
 refine kA h (fun v7 => ([(19, .sv (.bool v7))], [])) (fun v7 h => ?_) fun v7 h => ?_
 refine Xab ?_
 iterate 2 refine kO hT hC ?_
 refine kQ hT hC h fun h => ?_
 iterate 2 refine kO hT hC ?_
 refine kS h ?_ ?_ <;> intro b8 h
 iterate 2 refine kI hT hC b8 ?_
 refine kJ hT hC b8 h fun h => ?_
 refine kI hT hC b8 ?_
 refine kP hC true b8 ?_
 refine Vc.nil ?_
 exact kM
 iterate 4 refine kF hC b8 ?_
 refine kP hC false b8 ?_
 refine Vc.nil ?_
 exact kM
 refine kS h ?_ ?_ <;> intro b9 h
 refine kt b9 ?_
 refine Xac ?_
 refine kO hT hC ?_
 refine Vc.nil ?_
 refine Xah ?_
 refine Xcr ?_
 refine Xap ?_
 obtain rfl := kj h
 refine Xku ?_
 refine Xkr ?_
 exact Xbt (Xgk.refl _) rfl trivial
 refine kf b9 ?_
 refine Xaf ?_
 refine Xar ?_
 refine Xae ?_
 refine Xab ?_
 iterate 3 refine kO hT hC ?_
 refine Vc.nil ?_
 exact kG
 refine kf b7 ?_
 refine Xas ?_
 refine Xaz ?_
 exact kb
 intro v6 e
 subst e
 refine Xae ?_
 refine Xac ?_
 refine kO hT hC ?_
 refine Vc.nil ?_
 refine Xah ?_
 exact kR
 intro r' σ' e hE
 subst e
 obtain rfl := kj h
 refine Xap ?_
 exact hE
def Yi7 (r : Bool) : AV := .sv (.bool r)
def Yi6 (r : Bool) : Xa8 := []
theorem Xwe {p0 r} (h : Xhs p0 = some r) : AC Tryz.prog 141 [.sv (.str p0)] [] (Yi7 r) (Yi6 r) := by
 refine Xag hT Tryz.func141 rfl fun C hC => ?_
 unfold Xhs at h
 refine Xac ?_
 refine kO hT hC ?_
 refine Vc.nil ?_
 refine kL [0,2] [] [_,_] [] ?_
 refine kA h (fun v1 => ([(2, .sv (.bool v1)), (0, .any)], [])) (fun v1 h => ?_) fun v1 h => ?_
 refine Xab ?_
 iterate 4 refine kO hT hC ?_
 refine kS h ?_ ?_ <;> intro b1 h
 refine kI hT hC b1 ?_
 refine kE hC b1 [] Tryz.call173 h (fun _ => Yjj) fun q2 h => ?_
 refine kP hC true b1 ?_
 refine kO hT hC ?_
 refine Vc.nil ?_
 exact kM
 iterate 2 refine kF hC b1 ?_
 refine kP hC false b1 ?_
 refine kO hT hC ?_
 refine Vc.nil ?_
 exact kM
 refine Xah ?_
 exact kR
def Ygc (r : (Int × Bool)) : AV := .tup [.sv (.int .i64 r.1), .sv (.bool r.2)]
def Ygb (r : (Int × Bool)) : Xa8 := []
theorem Yi0 {p0 r} (h : Xnc p0 = some r) : AC Tryz.prog 174 [.sv (.int .i64 p0)] [] (Ygc r) (Ygb r) := by
 refine Xag hT Tryz.func174 rfl fun C hC => ?_
 unfold Xnc at h
 refine Xac ?_
 iterate 2 refine kO hT hC ?_
 refine Vc.nil ?_
 refine Xaq ?_
 refine Xac ?_
 refine kO hT hC ?_
 refine kC hC [] Tryz.call136 h (fun _ => Xau) fun q1 h => ?_
 refine kO hT hC ?_
 refine Vc.nil ?_
 refine kS h ?_ ?_ <;> intro b1 h
 refine kt b1 ?_
 refine Xac ?_
 iterate 2 refine kO hT hC ?_
 refine Vc.nil ?_
 refine Xah ?_
 refine Xap ?_
 exact kR
 refine kf b1 ?_
 refine Xaf ?_
 refine Xae ?_
 refine Xaq ?_
 refine Xac ?_
 refine kO hT hC ?_
 refine kQ hT hC h fun h => ?_
 refine kO hT hC ?_
 refine Vc.nil ?_
 refine kS h ?_ ?_ <;> intro b2 h
 refine kt b2 ?_
 refine Xac ?_
 iterate 2 refine kO hT hC ?_
 refine kQ hT hC h fun h => ?_
 iterate 2 refine kO hT hC ?_
 refine Vc.nil ?_
 refine Xah ?_
 refine Xap ?_
 exact kR
 refine kf b2 ?_
 refine Xaf ?_
 refine Xae ?_
 refine Xac ?_
 refine kO hT hC ?_
 refine kQ hT hC h fun h => ?_
 iterate 3 refine kO hT hC ?_
 refine Vc.nil ?_
 refine Xah ?_
 exact kR
def Xwp (r : (Int × Int × Bool)) : AV := .tup [.sv (.int .i64 r.1), .sv (.int .i64 r.2.1), .sv (.bool r.2.2)]
def Xwo (r : (Int × Int × Bool)) : Xa8 := []
theorem Xhv {p0 p1 r} (h : Xby p0 p1 = some r) : AC Tryz.prog 142 [.sv (.str p0), .sv (.int .i64 p1)] [] (Xwp r) (Xwo r) := by
 refine Xag hT Tryz.func142 rfl fun C hC => ?_
 unfold Xby at h
 refine Xac ?_
 iterate 3 refine kO hT hC ?_
 refine kN ?_
 iterate 2 refine kO hT hC ?_
 refine kC hC [] Tryz.call104 h (fun _ => Xb0) fun q1 h => ?_
 iterate 7 refine kO hT hC ?_
 refine Vc.nil ?_
 refine Xaq ?_
 refine Xac ?_
 iterate 2 refine kO hT hC ?_
 refine Vc.nil ?_
 refine kS h ?_ ?_ <;> intro b1 h
 refine kt b1 ?_
 refine Xac ?_
 iterate 3 refine kO hT hC ?_
 refine Vc.nil ?_
 refine Xah ?_
 refine Xap ?_
 exact kR
 refine kf b1 ?_
 refine Xaf ?_
 refine Xae ?_
 refine Xac ?_
 refine kO hT hC ?_
 refine kC hC [] Tryz.call174 h (fun _ => Yi0) fun q2 h => ?_
 iterate 5 refine kO hT hC ?_
 refine kN ?_
 iterate 5 refine kO hT hC ?_
 refine Vc.nil ?_
 refine Xah ?_
 exact kR
def Yf6 (r : Bool) : AV := .sv (.bool r)
def Yf5 (r : Bool) : Xa8 := []
theorem Yix {p0 p1 p2 r} (h : Xnb p0 p1 p2 = some r) : AC Tryz.prog 143 [.agg [.sv (.int .i64 p0.Level), .sv (.int .i64 p0.Bits), .sv (.ints .i64 p0.Cols), .sv (.ints .i64 p0.Rows)], .agg [.sv (.int .i64 p1.Qp), .sv (.bool p1.Large), .sv (.bool p1.Exact), .sv (.bool p1.Confined)], .agg [.sv (.int .i64 p2.Tile), .sv (.int .i64 p2.Frame), .sv (.int .i64 p2.Qp)]] [] (Yf6 r) (Yf5 r) := by
 refine Xag hT Tryz.func143 rfl fun C hC => ?_
 unfold Xnb at h
 refine Xac ?_
 iterate 4 refine kO hT hC ?_
 refine Vc.nil ?_
 refine kL [3,4,5,6] [48,64,80] [_,_,_,_] [_,_,_] ?_
 refine kA h (fun v1 => ([(6, .sv (.bool v1)), (3, .any), (4, .any), (5, .any)], [(48, none), (64, none), (80, none)])) (fun v1 h => ?_) fun v1 h => ?_
 refine Xcz hm ?_
 refine kO hT hC ?_
 refine kC hC [] Tryz.call99 h (fun _ => Xmo) fun q2 h => ?_
 refine kO hT hC ?_
 refine kS h ?_ ?_ <;> intro b1 h
 iterate 3 refine kI hT hC b1 ?_
 refine kP hC true b1 ?_
 refine kO hT hC ?_
 refine kS h ?_ ?_ <;> intro b2 h
 iterate 3 refine kI hT hC b2 ?_
 refine kE hC b2 [] Tryz.call100 h (fun _ => Xj3) fun q3 h => ?_
 refine kI hT hC b2 ?_
 refine kP hC true b2 ?_
 refine kO hT hC ?_
 refine kS h ?_ ?_ <;> intro b3 h
 iterate 3 refine kI hT hC b3 ?_
 refine kP hC true b3 ?_
 refine kO hT hC ?_
 refine kS h ?_ ?_ <;> intro b4 h
 iterate 5 refine kI hT hC b4 ?_
 refine kJ hT hC b4 h fun h => ?_
 refine kI hT hC b4 ?_
 refine kP hC true b4 ?_
 refine kO hT hC ?_
 refine kS h ?_ ?_ <;> intro b5 h
 iterate 2 refine kI hT hC b5 ?_
 refine kE hC b5 [] Tryz.call136 h (fun _ => Xau) fun q4 h => ?_
 refine kP hC true b5 ?_
 refine kO hT hC ?_
 refine kD ?_
 exact kM
 iterate 3 refine kF hC b5 ?_
 refine kP hC false b5 ?_
 refine kO hT hC ?_
 refine kD ?_
 exact kM
 iterate 7 refine kF hC b4 ?_
 refine kP hC false b4 ?_
 refine kO hT hC ?_
 iterate 3 refine kF hC rfl ?_
 iterate 2 refine kO hT hC ?_
 refine kD ?_
 exact kM
 iterate 3 refine kF hC b3 ?_
 refine kP hC false b3 ?_
 refine kO hT hC ?_
 iterate 7 refine kF hC rfl ?_
 iterate 2 refine kO hT hC ?_
 iterate 3 refine kF hC rfl ?_
 iterate 2 refine kO hT hC ?_
 refine kD ?_
 exact kM
 iterate 5 refine kF hC b2 ?_
 refine kP hC false b2 ?_
 refine kO hT hC ?_
 iterate 3 refine kF hC rfl ?_
 iterate 2 refine kO hT hC ?_
 iterate 7 refine kF hC rfl ?_
 iterate 2 refine kO hT hC ?_
 iterate 3 refine kF hC rfl ?_
 iterate 2 refine kO hT hC ?_
 refine kD ?_
 exact kM
 iterate 3 refine kF hC b1 ?_
 refine kP hC false b1 ?_
 refine kO hT hC ?_
 iterate 5 refine kF hC rfl ?_
 iterate 2 refine kO hT hC ?_
 iterate 3 refine kF hC rfl ?_
 iterate 2 refine kO hT hC ?_
 iterate 7 refine kF hC rfl ?_
 iterate 2 refine kO hT hC ?_
 iterate 3 refine kF hC rfl ?_
 iterate 2 refine kO hT hC ?_
 refine kD ?_
 exact kM
 refine Xah ?_
 exact kR
def Xym (r : (Yhf × Int × Bool)) : AV := .tup [.agg [.sv (.int .i64 r.1.Tile), .sv (.int .i64 r.1.Frame), .sv (.int .i64 r.1.Qp)], .sv (.int .i64 r.2.1), .sv (.bool r.2.2)]
def Xyl (r : (Yhf × Int × Bool)) : Xa8 := []
theorem Ybq {p0 p1 p2 r} (h : Xhr p0 p1 p2 = some r) : AC Tryz.prog 107 [.agg [.sv (.int .i64 p0.Level), .sv (.int .i64 p0.Bits), .sv (.ints .i64 p0.Cols), .sv (.ints .i64 p0.Rows)], .agg [.sv (.int .i64 p1.Qp), .sv (.bool p1.Large), .sv (.bool p1.Exact), .sv (.bool p1.Confined)], .sv (.str p2)] [] (Xym r) (Xyl r) := by
 refine Xag hT Tryz.func107 rfl fun C hC => ?_
 unfold Xhr at h
 refine Xac ?_
 iterate 5 refine kO hT hC ?_
 refine Vc.nil ?_
 refine Xaq ?_
 refine kL [2,3,4,6] [48,64,96] [_,_,_,_] [_,_,_] ?_
 refine kA h (fun v1 => ([(31, .sv (.bool v1))], [])) (fun v1 h => ?_) fun v1 h => ?_
 refine Xab ?_
 refine kO hT hC ?_
 refine kC hC [] Tryz.call141 h (fun _ => Xwe) fun q2 h => ?_
 iterate 2 refine kO hT hC ?_
 refine kS h ?_ ?_ <;> intro b1 h
 refine kI hT hC (kn b1) ?_
 refine kE hC (kn b1) [] Tryz.call98 h (fun _ => Xj0) fun q3 h => ?_
 refine kI hT hC (kn b1) ?_
 refine kP hC false (kn b1) ?_
 refine kO hT hC ?_
 refine kS h ?_ ?_ <;> intro b2 h
 refine kI hT hC (kn b2) ?_
 refine kE hC (kn b2) [] Tryz.call99 h (fun _ => Xmo) fun q4 h => ?_
 refine kI hT hC (kn b2) ?_
 refine kP hC false (kn b2) ?_
 refine Vc.nil ?_
 exact kM
 iterate 3 refine kF hC (kn b2) ?_
 refine kP hC true (kn b2) ?_
 refine Vc.nil ?_
 exact kM
 iterate 3 refine kF hC (kn b1) ?_
 refine kP hC true (kn b1) ?_
 refine kO hT hC ?_
 iterate 3 refine kF hC rfl ?_
 refine kO hT hC ?_
 refine Vc.nil ?_
 exact kM
 refine kS h ?_ ?_ <;> intro b3 h
 refine kt b3 ?_
 refine Xac ?_
 iterate 4 refine kO hT hC ?_
 refine Vc.nil ?_
 refine Xah ?_
 refine Xap ?_
 exact kR
 refine kf b3 ?_
 refine Xaf ?_
 refine Xae ?_
 refine Xac ?_
 refine kO hT hC ?_
 refine kC hC [] Tryz.call104 h (fun _ => Xb0) fun q5 h => ?_
 iterate 7 refine kO hT hC ?_
 refine Vc.nil ?_
 refine Xaq ?_
 refine Xac ?_
 iterate 2 refine kO hT hC ?_
 refine Vc.nil ?_
 refine kS h ?_ ?_ <;> intro b4 h
 refine kt b4 ?_
 refine Xac ?_
 iterate 4 refine kO hT hC ?_
 refine Vc.nil ?_
 refine Xah ?_
 refine Xap ?_
 exact kR
 refine kf b4 ?_
 refine Xaf ?_
 refine Xae ?_
 refine Xac ?_
 iterate 4 refine kO hT hC ?_
 refine kC hC [] Tryz.call105 h (fun _ => Xj5) fun q6 h => ?_
 iterate 7 refine kO hT hC ?_
 refine Vc.nil ?_
 refine Xaq ?_
 refine Xac ?_
 iterate 2 refine kO hT hC ?_
 refine Vc.nil ?_
 refine kS h ?_ ?_ <;> intro b5 h
 refine kt b5 ?_
 refine Xac ?_
 iterate 4 refine kO hT hC ?_
 refine Vc.nil ?_
 refine Xah ?_
 refine Xap ?_
 exact kR
 refine kf b5 ?_
 refine Xaf ?_
 refine Xae ?_
 refine Xac ?_
 iterate 2 refine kO hT hC ?_
 refine kC hC [] Tryz.call142 h (fun _ => Xhv) fun q7 h => ?_
 iterate 7 refine kO hT hC ?_
 refine kN ?_
 iterate 9 refine kO hT hC ?_
 refine Vc.nil ?_
 refine Xaq ?_
 refine kL [3,4,6,16,17,18] [48,64,96,288] [_,_,_,_,_,_] [_,_,_,_] ?_
 refine kA h (fun v8 => ([(76, .sv (.bool v8)), (3, .any), (4, .any), (17, .any)], [(48, none), (64, none)])) (fun v8 h => ?_) fun v8 h => ?_
 refine Xab ?_
 iterate 3 refine kO hT hC ?_
 refine kS h ?_ ?_ <;> intro b6 h
 iterate 3 refine kI hT hC (kn b6) ?_
 refine kE hC (kn b6) [] Tryz.call143 h (fun _ => Yix) fun q9 h => ?_
 refine kI hT hC (kn b6) ?_
 refine kP hC false (kn b6) ?_
 refine Vc.nil ?_
 exact kM
 iterate 5 refine kF hC (kn b6) ?_
 refine kP hC true (kn b6) ?_
 refine Vc.nil ?_
 exact kM
 refine kS h ?_ ?_ <;> intro b7 h
 refine kt b7 ?_
 refine Xac ?_
 iterate 4 refine kO hT hC ?_
 refine Vc.nil ?_
 refine Xah ?_
 refine Xap ?_
 exact kR
 refine kf b7 ?_
 refine Xaf ?_
 refine Xae ?_
 refine Xac ?_
 iterate 5 refine kO hT hC ?_
 refine Vc.nil ?_
 refine Xah ?_
 exact kR
def Xwx (r : Int) : AV := .sv (.int .i64 r)
def Xww (r : Int) : Xa8 := []
theorem Xpb {p0 p1 r} (h : Xii p0 p1 = some r) : AC Tryz.prog 146 [.sv (.ints .i64 p0), .sv (.int .i64 p1)] [] (Xwx r) (Xww r) := by
 refine Xag hT Tryz.func146 rfl fun C hC => ?_
 unfold Xii at h
 refine Xac ?_
 refine kO hT hC ?_
 refine kN ?_
 refine kO hT hC ?_
 refine Vc.nil ?_
 refine Xaq ?_
 refine Xac ?_
 refine kO hT hC ?_
 refine Vc.nil ?_
 refine kL [0,1,5,6] [] [_,_,_,_] [] ?_
 refine kX h (fun v2 => ([(5, .sv (.int .i64 v2.1)), (6, .sv (.int .i64 v2.2))], [])) (fun v4 => ([(5, .sv (.int .i64 v4)), (0, .any), (1, .any), (6, .any)], [])) (kW hC []) (fun v2 s h => ?_) fun v4 h => ?_
 unfold Xfi at h
 refine Xaq ?_
 refine Xac ?_
 iterate 3 refine kO hT hC ?_
 refine Vc.nil ?_
 refine kS h ?_ ?_ <;> intro b3 h
 refine kt b3 ?_
 refine Xaf ?_
 refine Xae ?_
 refine Xaq ?_
 refine Xao ?_
 refine Xab ?_
 iterate 3 refine kO hT hC ?_
 refine kQ hT hC h fun h => ?_
 iterate 3 refine kO hT hC ?_
 refine Vc.nil ?_
 refine Xar ?_
 refine Xae ?_
 refine Xab ?_
 iterate 3 refine kO hT hC ?_
 refine Vc.nil ?_
 exact kG
 refine kf b3 ?_
 refine Xas ?_
 refine Xaz ?_
 exact ku
 refine Xae ?_
 refine Xac ?_
 iterate 2 refine kO hT hC ?_
 refine Vc.nil ?_
 refine Xah ?_
 exact kR
def Xyv (r : (Xph × Bool)) : AV := .tup [.agg [.sv (.int .i64 r.1.Left), .sv (.int .i64 r.1.Top), .sv (.int .i64 r.1.Wide), .sv (.int .i64 r.1.High)], .sv (.bool r.2)]
def Xyu (r : (Xph × Bool)) : Xa8 := []
theorem Xqi {p0 p1 r} (h : Xhu p0 p1 = some r) : AC Tryz.prog 110 [.agg [.sv (.int .i64 p0.Level), .sv (.int .i64 p0.Bits), .sv (.ints .i64 p0.Cols), .sv (.ints .i64 p0.Rows)], .sv (.int .i64 p1)] [] (Xyv r) (Xyu r) := by
 refine Xag hT Tryz.func110 rfl fun C hC => ?_
 unfold Xhu at h
 refine Xac ?_
 iterate 3 refine kO hT hC ?_
 refine Vc.nil ?_
 refine Xaq ?_
 refine kL [1,2,4] [32,64] [_,_,_] [_,_] ?_
 refine kA h (fun v1 => ([(15, .sv (.bool v1))], [])) (fun v1 h => ?_) fun v1 h => ?_
 refine Xab ?_
 iterate 3 refine kO hT hC ?_
 refine kS h ?_ ?_ <;> intro b1 h
 iterate 4 refine kF hC b1 ?_
 refine kP hC true b1 ?_
 refine Vc.nil ?_
 exact kM
 iterate 2 refine kI hT hC b1 ?_
 refine kE hC b1 [] Tryz.call100 h (fun _ => Xj3) fun q2 h => ?_
 refine kI hT hC b1 ?_
 refine kP hC false b1 ?_
 refine Vc.nil ?_
 exact kM
 refine kS h ?_ ?_ <;> intro b2 h
 refine kt b2 ?_
 refine Xac ?_
 iterate 3 refine kO hT hC ?_
 refine Vc.nil ?_
 refine Xah ?_
 refine Xap ?_
 exact kR
 refine kf b2 ?_
 refine Xaf ?_
 refine Xae ?_
 refine Xac ?_
 iterate 4 refine kO hT hC ?_
 refine kQ hT hC h fun h => ?_
 refine kO hT hC ?_
 refine kN ?_
 iterate 4 refine kO hT hC ?_
 refine kQ hT hC h fun h => ?_
 refine kO hT hC ?_
 refine Vc.nil ?_
 refine Xd7 hm ?_
 iterate 3 refine kO hT hC ?_
 refine kC hC [] Tryz.call146 h (fun _ => Xpb) fun q3 h => ?_
 iterate 4 refine kO hT hC ?_
 refine kC hC [] Tryz.call146 h (fun _ => Xpb) fun q4 h => ?_
 iterate 4 refine kO hT hC ?_
 refine kQ hT hC h fun h => ?_
 iterate 5 refine kO hT hC ?_
 refine kQ hT hC h fun h => ?_
 iterate 5 refine kO hT hC ?_
 refine kD ?_
 refine Xah ?_
 exact kR
def Xst (r : Int) : AV := .sv (.int .i64 r)
def Xss (r : Int) : Xa8 := []
theorem Xuf {p0 p1 r} (h : Xf6 p0 p1 = some r) : AC Tryz.prog 109 [.agg [.sv (.int .i64 p0.Level), .sv (.int .i64 p0.Bits), .sv (.ints .i64 p0.Cols), .sv (.ints .i64 p0.Rows)], .sv (.int .i64 p1)] [] (Xst r) (Xss r) := by
 refine Xag hT Tryz.func109 rfl fun C hC => ?_
 unfold Xf6 at h
 refine Xac ?_
 iterate 2 refine kO hT hC ?_
 refine kN ?_
 iterate 2 refine kO hT hC ?_
 refine kC hC [] Tryz.call110 h (fun _ => Xqi) fun q1 h => ?_
 iterate 6 refine kO hT hC ?_
 refine kN ?_
 iterate 2 refine kO hT hC ?_
 refine kQ hT hC h fun h => ?_
 iterate 2 refine kO hT hC ?_
 refine kQ hT hC h fun h => ?_
 iterate 2 refine kO hT hC ?_
 refine Vc.nil ?_
 refine Xah ?_
 exact kR
def Yfs (r : Bool) : AV := .sv (.bool r)
def Yfr (r : Bool) : Xa8 := []
theorem Xlb {p0 r} (h : Xgu p0 = some r) : AC Tryz.prog 144 [.agg [.sv (.bool p0.Key), .sv (.int .i64 p0.Qp), .sv (.bool p0.Large), .sv (.bool p0.Exact)]] [] (Yfs r) (Yfr r) := by
 refine Xag hT Tryz.func144 rfl fun C hC => ?_
 unfold Xgu at h
 refine Xac ?_
 iterate 2 refine kO hT hC ?_
 refine Vc.nil ?_
 refine kL [1,2] [16] [_,_] [_] ?_
 refine kA h (fun v1 => ([(2, .sv (.bool v1)), (1, .any)], [(16, none)])) (fun v1 h => ?_) fun v1 h => ?_
 refine Xab ?_
 iterate 2 refine kO hT hC ?_
 refine kC hC [] Tryz.call136 h (fun _ => Xau) fun q2 h => ?_
 refine kO hT hC ?_
 refine kS h ?_ ?_ <;> intro b1 h
 iterate 3 refine kI hT hC b1 ?_
 refine kS h ?_ ?_ <;> intro b2 h
 iterate 2 refine kI hT hC b2 ?_
 refine Xa3 hC rfl rfl rfl rfl b1 rfl rfl (b := true) b2 rfl rfl rfl trivial ?_
 refine kI hT hC b1 ?_
 refine kP hC true b1 ?_
 refine kO hT hC ?_
 refine Vc.nil ?_
 exact kM
 iterate 2 refine kF hC b2 ?_
 refine Xa3 hC rfl rfl rfl rfl b1 rfl rfl (b := false) b2 rfl rfl rfl trivial ?_
 refine kI hT hC b1 ?_
 refine kP hC true b1 ?_
 refine kO hT hC ?_
 refine Vc.nil ?_
 exact kM
 iterate 3 refine kF hC b1 ?_
 iterate 2 refine Xdq hC rfl rfl rfl rfl rfl rfl ?_
 iterate 2 refine kF hC b1 ?_
 refine kP hC false b1 ?_
 refine kO hT hC ?_
 refine Vc.nil ?_
 exact kM
 refine Xah ?_
 exact kR
def Xqn (r : ((List Int) × Int × Bool)) : AV := .tup [.own 16, .sv (.int .i64 r.2.1), .sv (.bool r.2.2)]
def Xqm (r : ((List Int) × Int × Bool)) : Xa8 := [(16, .ints .i64 r.1)]
theorem Xrr {p0 p1 p2 r} (h : Xg6 p0 p1 p2 = some r) : AC Tryz.prog 199 [.sv (.str p0), .sv (.int .i64 p1), .sv (.int .i64 p2)] [] (Xqn r) (Xqm r) := by
 refine Xag hT Tryz.func199 rfl fun C hC => ?_
 unfold Xg6 at h
 refine Xac ?_
 iterate 3 refine kO hT hC ?_
 refine kN ?_
 refine kO hT hC ?_
 obtain ⟨hq, h⟩ := Xa5 h
 refine Xw3 hT hC rfl rfl rfl rfl ⟨hq.1, hq.2.1, hq.2.2, by decide⟩ ?_
 refine kO hT hC ?_
 refine kN ?_
 iterate 2 refine kO hT hC ?_
 refine kC hC [] Tryz.call104 h (fun _ => Xb0) fun q1 h => ?_
 iterate 7 refine kO hT hC ?_
 refine Vc.nil ?_
 refine Xaq ?_
 refine kL [0,2,9,10,11,12] [352] [_,_,_,_,_,_] [_] ?_
 refine kA h (fun v2 => ([(36, .sv (.bool v2)), (12, .any)], [])) (fun v2 h => ?_) fun v2 h => ?_
 refine Xab ?_
 iterate 3 refine kO hT hC ?_
 refine kS h ?_ ?_ <;> intro b1 h
 iterate 3 refine kI hT hC (kn b1) ?_
 refine kP hC false (kn b1) ?_
 refine Vc.nil ?_
 exact kM
 iterate 3 refine kF hC (kn b1) ?_
 refine kP hC true (kn b1) ?_
 refine Vc.nil ?_
 exact kM
 refine kS h ?_ ?_ <;> intro b2 h
 refine kt b2 ?_
 refine Xac ?_
 iterate 4 refine kO hT hC ?_
 refine Vc.nil ?_
 refine Xah ?_
 refine Xap ?_
 obtain rfl := kj h
 exact Xbt (τ := ⟨[(6, .own 16), (7, .sv (.int .i64 0)), (8, .sv (.bool false))], [(16, some (.ints .i64 ([] : List Int)))]⟩) (kW hC [(16, 592)]) rfl ⟨rfl, trivial⟩
 refine kf b2 ?_
 refine Xaf ?_
 refine Xae ?_
 refine Xac ?_
 refine kO hT hC ?_
 refine Vc.nil ?_
 refine Xaq ?_
 refine Xac ?_
 refine kO hT hC ?_
 refine Vc.nil ?_
 refine kL [0,2,9,10,11,13,14] [352] [_,_,_,_,_,_,_] [_] ?_
 obtain ⟨o22, hl, h⟩ := Xba h
 refine Xd8 (fun v9 => ([(11, .sv (.int .i64 v9.1)), (13, .sv (.int .i64 v9.2.1)), (14, .sv (.int .i64 v9.2.2.1))], [(352, some (.ints .i64 v9.2.2.2))])) (fun v16 => ([(11, .sv (.int .i64 v16.1)), (0, .any), (2, .any), (10, .any), (13, .any), (14, .any)], [(352, some (.ints .i64 v16.2))])) (fun r => Xl1 C T Tryz.f199.results.toList (Xqn r) (Xqm r)) hl ?_ ?_ ?_ ?_
 try dsimp only
 apply Xbz hC []
 exact co
 rfl
 decide
 rfl
 intro v9 s hs
 have h := hs
 unfold Xb5 at h
 refine Xaq ?_
 refine Xac ?_
 iterate 3 refine kO hT hC ?_
 refine Vc.nil ?_
 refine kS h ?_ ?_ <;> intro b15 h
 refine kt b15 ?_
 refine Xaf ?_
 refine Xae ?_
 refine Xaq ?_
 refine Xao ?_
 refine Xac ?_
 iterate 2 refine kO hT hC ?_
 refine kC hC [] Tryz.call104 h (fun _ => Xb0) fun q17 h => ?_
 iterate 7 refine kO hT hC ?_
 refine Vc.nil ?_
 refine Xaq ?_
 refine kL [0,2,9,10,13,14,15,16,17] [352] [_,_,_,_,_,_,_,_,_] [_] ?_
 refine kA h (fun v18 => ([(59, .sv (.bool v18)), (17, .any)], [])) (fun v18 h => ?_) fun v18 h => ?_
 refine Xab ?_
 iterate 3 refine kO hT hC ?_
 refine kS h ?_ ?_ <;> intro b16 h
 iterate 6 refine kI hT hC (kn b16) ?_
 refine kP hC false (kn b16) ?_
 refine Vc.nil ?_
 exact kM
 iterate 6 refine kF hC (kn b16) ?_
 refine kP hC true (kn b16) ?_
 refine Vc.nil ?_
 exact kM
 refine kS h ?_ ?_ <;> intro b17 h
 refine kt b17 ?_
 refine Xac ?_
 iterate 4 refine kO hT hC ?_
 refine Vc.nil ?_
 refine Xah ?_
 refine Xap ?_
 refine Xcr ?_
 refine Xap ?_
 obtain rfl := kj h
 refine Xku ?_
 refine Xkr ?_
 refine Xbt (τ := ⟨[(6, .own 16), (7, .sv (.int .i64 0)), (8, .sv (.bool false))], [(16, some (.ints .i64 ([] : List Int)))]⟩) ?_ rfl ⟨rfl, trivial⟩
 apply Xbz hC [(16, 960)]
 exact co
 rfl
 decide
 rfl
 refine kf b17 ?_
 refine Xaf ?_
 refine Xae ?_
 refine Xac ?_
 iterate 2 refine kO hT hC ?_
 refine kC hC [] Tryz.call142 h (fun _ => Xhv) fun q19 h => ?_
 iterate 7 refine kO hT hC ?_
 refine Vc.nil ?_
 refine Xaq ?_
 refine kL [0,2,9,10,13,14,15,18,19,20] [352] [_,_,_,_,_,_,_,_,_,_] [_] ?_
 refine kA h (fun v20 => ([(78, .sv (.bool v20)), (20, .any)], [])) (fun v20 h => ?_) fun v20 h => ?_
 refine Xab ?_
 iterate 3 refine kO hT hC ?_
 refine kS h ?_ ?_ <;> intro b18 h
 iterate 2 refine kI hT hC (kn b18) ?_
 refine kP hC false (kn b18) ?_
 refine kO hT hC ?_
 refine kS h ?_ ?_ <;> intro b19 h
 iterate 3 refine kF hC b19 ?_
 refine kP hC true b19 ?_
 refine Vc.nil ?_
 exact kM
 refine kI hT hC b19 ?_
 refine kE hC b19 [] Tryz.call136 h (fun _ => Xau) fun q21 h => ?_
 refine kI hT hC b19 ?_
 refine kP hC false b19 ?_
 refine Vc.nil ?_
 exact kM
 iterate 2 refine kF hC (kn b18) ?_
 refine kP hC true (kn b18) ?_
 refine kO hT hC ?_
 iterate 3 refine kF hC rfl ?_
 refine kO hT hC ?_
 refine Vc.nil ?_
 exact kM
 refine kS h ?_ ?_ <;> intro b20 h
 refine kt b20 ?_
 refine Xac ?_
 iterate 4 refine kO hT hC ?_
 refine Vc.nil ?_
 refine Xah ?_
 refine Xap ?_
 refine Xcr ?_
 refine Xap ?_
 obtain rfl := kj h
 refine Xku ?_
 refine Xkr ?_
 refine Xbt (τ := ⟨[(6, .own 16), (7, .sv (.int .i64 0)), (8, .sv (.bool false))], [(16, some (.ints .i64 ([] : List Int)))]⟩) ?_ rfl ⟨rfl, trivial⟩
 apply Xbz hC [(16, 1264)]
 exact co
 rfl
 decide
 rfl
 refine kf b20 ?_
 refine Xaf ?_
 refine Xae ?_
 refine Xac ?_
 iterate 4 refine kO hT hC ?_
 refine kN ?_
 iterate 3 refine kO hT hC ?_
 iterate 2 refine kQ hT hC h fun h => ?_
 refine kN ?_
 iterate 3 refine kO hT hC ?_
 refine Vc.nil ?_
 refine Xab ?_
 iterate 2 refine kO hT hC ?_
 refine Vc.nil ?_
 refine Xar ?_
 refine Xae ?_
 refine Xab ?_
 iterate 3 refine kO hT hC ?_
 refine Vc.nil ?_
 exact kG
 refine kf b15 ?_
 refine Xas ?_
 refine Xaz ?_
 exact kb
 intro v16 e
 subst e
 refine Xae ?_
 refine Xac ?_
 iterate 5 refine kO hT hC ?_
 refine Vc.nil ?_
 refine Xah ?_
 obtain rfl := kj h
 exact Xbt (τ := ⟨[(6, .own 16), (7, .sv (.int .i64 v16.1)), (8, .sv (.bool true))], [(16, some (.ints .i64 v16.2))]⟩) (kW hC [(16, 352)]) rfl ⟨rfl, trivial⟩
 intro r' σ' e hE
 subst e
 obtain rfl := kj h
 refine Xap ?_
 exact hE
def Xqv (r : ((List Int) × Int × Bool)) : AV := .tup [.own 16, .sv (.int .i64 r.2.1), .sv (.bool r.2.2)]
def Xqu (r : ((List Int) × Int × Bool)) : Xa8 := [(16, .ints .i64 r.1)]
theorem Yg4 {p0 p1 p2 r} (h : Xfq p0 p1 p2 = some r) : AC Tryz.prog 175 [.sv (.str p0), .sv (.int .i64 p1), .agg [.sv (.bool p2.Key), .sv (.int .i64 p2.Qp), .sv (.bool p2.Large), .sv (.bool p2.Exact)]] [] (Xqv r) (Xqu r) := by
 refine Xag hT Tryz.func175 rfl fun C hC => ?_
 unfold Xfq at h
 refine Xac ?_
 iterate 4 refine kO hT hC ?_
 refine Vc.nil ?_
 refine Xaq ?_
 refine kL [0,1,5] [80] [_,_,_] [_] ?_
 refine kA h (fun v1 => ([(19, .sv (.bool v1)), (5, .any)], [(80, none)])) (fun v1 h => ?_) fun v1 h => ?_
 refine Xab ?_
 iterate 3 refine kO hT hC ?_
 refine kS h ?_ ?_ <;> intro b1 h
 iterate 2 refine kF hC b1 ?_
 refine kP hC true b1 ?_
 refine Vc.nil ?_
 exact kM
 iterate 2 refine kI hT hC b1 ?_
 refine kP hC false b1 ?_
 refine Vc.nil ?_
 exact kM
 refine kS h ?_ ?_ <;> intro b2 h
 refine kt b2 ?_
 refine Xac ?_
 iterate 2 refine kO hT hC ?_
 refine kC hC [(16, 352)] Tryz.call199 h (fun _ => Xrr) fun q2 h => ?_
 iterate 6 refine kO hT hC ?_
 refine Vc.nil ?_
 refine Xah ?_
 refine Xap ?_
 obtain rfl := kj h
 exact Xbt (τ := ⟨[(6, .own 16), (7, .sv (.int .i64 q2.2.1)), (8, .sv (.bool q2.2.2))], [(16, some (.ints .i64 q2.1))]⟩) (kW hC [(16, 352)]) rfl ⟨rfl, trivial⟩
 refine kf b2 ?_
 refine Xaf ?_
 refine Xae ?_
 refine Xac ?_
 iterate 2 refine kO hT hC ?_
 refine Vc.nil ?_
 refine Xaq ?_
 refine Xac ?_
 refine kO hT hC ?_
 refine Vc.nil ?_
 refine kL [0,1,9,10] [416] [_,_,_,_] [_] ?_
 obtain ⟨o10, hl, h⟩ := Xba h
 refine Xd8 (fun v5 => ([(1, .sv (.int .i64 v5.1)), (10, .sv (.int .i64 v5.2.1))], [(416, some (.ints .i64 v5.2.2))])) (fun v8 => ([(1, .sv (.int .i64 v8.1)), (0, .any), (10, .any)], [(416, some (.ints .i64 v8.2))])) (fun r => Xl1 C T Tryz.f175.results.toList (Xqv r) (Xqu r)) hl ?_ ?_ ?_ ?_
 try dsimp only
 apply Xbz hC []
 exact co
 rfl
 decide
 rfl
 intro v5 s hs
 have h := hs
 unfold Xdg at h
 refine Xaq ?_
 refine Xac ?_
 iterate 2 refine kO hT hC ?_
 refine Vc.nil ?_
 refine kS h ?_ ?_ <;> intro b7 h
 refine kt b7 ?_
 refine Xaf ?_
 refine Xae ?_
 refine Xaq ?_
 refine Xao ?_
 refine Xac ?_
 iterate 2 refine kO hT hC ?_
 refine kC hC [(16, 544)] Tryz.call199 h (fun _ => Xrr) fun q9 h => ?_
 iterate 7 refine kO hT hC ?_
 refine Vc.nil ?_
 refine Xaq ?_
 refine Xac ?_
 iterate 2 refine kO hT hC ?_
 refine Vc.nil ?_
 refine kS h ?_ ?_ <;> intro b8 h
 refine kt b8 ?_
 refine Xac ?_
 iterate 4 refine kO hT hC ?_
 refine Vc.nil ?_
 refine Xah ?_
 refine Xap ?_
 refine Xcr ?_
 refine Xap ?_
 obtain rfl := kj h
 refine Xku ?_
 refine Xkr ?_
 refine Xbt (τ := ⟨[(6, .own 16), (7, .sv (.int .i64 0)), (8, .sv (.bool false))], [(16, some (.ints .i64 ([] : List Int)))]⟩) ?_ rfl ⟨rfl, trivial⟩
 apply Xbz hC [(16, 640)]
 exact co
 rfl
 decide
 rfl
 refine kf b8 ?_
 refine Xaf ?_
 refine Xae ?_
 refine Xac ?_
 iterate 2 refine kO hT hC ?_
 refine kT hT hC h fun h => ?_
 refine kO hT hC ?_
 refine Vc.nil ?_
 refine Xab ?_
 iterate 2 refine kO hT hC ?_
 refine Vc.nil ?_
 refine Xar ?_
 refine Xae ?_
 refine Xab ?_
 iterate 3 refine kO hT hC ?_
 refine Vc.nil ?_
 obtain rfl := kj h
 exact Ya8 (kW hC [(416, 688)])
 refine kf b7 ?_
 refine Xas ?_
 refine Xaz ?_
 exact kb
 intro v8 e
 subst e
 refine Xae ?_
 refine Xac ?_
 iterate 5 refine kO hT hC ?_
 refine Vc.nil ?_
 refine Xah ?_
 obtain rfl := kj h
 exact Xbt (τ := ⟨[(6, .own 16), (7, .sv (.int .i64 v8.1)), (8, .sv (.bool true))], [(16, some (.ints .i64 v8.2))]⟩) (kW hC [(16, 416)]) rfl ⟨rfl, trivial⟩
 intro r' σ' e hE
 subst e
 obtain rfl := kj h
 refine Xap ?_
 exact hE
def Xrn (r : Bool) : AV := .sv (.bool r)
def Xrm (r : Bool) : Xa8 := []
theorem Xgg {p0 p1 p2 r} (h : Xdn p0 p1 p2 = some r) : AC Tryz.prog 200 [.sv (.ints .i64 p0), .sv (.int .i64 p1), .sv (.int .i64 p2)] [] (Xrn r) (Xrm r) := by
 refine Xag hT Tryz.func200 rfl fun C hC => ?_
 unfold Xdn at h
 refine Xac ?_
 refine kO hT hC ?_
 refine Vc.nil ?_
 refine Xaq ?_
 refine Xac ?_
 iterate 4 refine kO hT hC ?_
 refine Vc.nil ?_
 refine kS h ?_ ?_ <;> intro b1 h
 refine kt b1 ?_
 refine Xac ?_
 refine kO hT hC ?_
 refine Vc.nil ?_
 refine Xah ?_
 refine Xap ?_
 exact kR
 refine kf b1 ?_
 refine Xaf ?_
 refine Xae ?_
 refine Xaq ?_
 refine Xac ?_
 refine kO hT hC ?_
 refine Vc.nil ?_
 refine kL [0,1,2,7] [] [_,_,_,_] [] ?_
 obtain ⟨o8, hl, h⟩ := Xba h
 refine Xd8 (fun v3 => ([(7, .sv (.int .i64 v3))], [])) (fun v6 => ([(0, .any), (1, .any), (2, .any), (7, .any)], [])) (fun r => Xl1 C T Tryz.f200.results.toList (Xrn r) (Xrm r)) hl ?_ ?_ ?_ ?_
 apply Xbz hC []
 exact co
 rfl
 decide
 rfl
 intro v3 s hs
 have h := hs
 unfold Xdx at h
 refine Xaq ?_
 refine Xac ?_
 iterate 3 refine kO hT hC ?_
 refine Vc.nil ?_
 refine kS h ?_ ?_ <;> intro b6 h
 refine kt b6 ?_
 refine Xaf ?_
 refine Xae ?_
 refine Xaq ?_
 refine Xao ?_
 refine Xac ?_
 iterate 2 refine kO hT hC ?_
 refine kQ hT hC h fun h => ?_
 iterate 4 refine kO hT hC ?_
 refine kC hC [] Tryz.call136 h (fun _ => Xau) fun q7 h => ?_
 refine kO hT hC ?_
 refine Vc.nil ?_
 refine kS h ?_ ?_ <;> intro b7 h
 refine kt b7 ?_
 refine Xac ?_
 refine kO hT hC ?_
 refine Vc.nil ?_
 refine Xah ?_
 refine Xcr ?_
 refine Xap ?_
 obtain rfl := kj h
 refine Xku ?_
 refine Xkr ?_
 exact Xbt (Xgk.refl _) rfl trivial
 refine kf b7 ?_
 refine Xaf ?_
 refine Xar ?_
 refine Xae ?_
 refine Xab ?_
 iterate 3 refine kO hT hC ?_
 refine Vc.nil ?_
 exact kG
 refine kf b6 ?_
 refine Xas ?_
 refine Xaz ?_
 exact kb
 intro v6 e
 subst e
 refine Xae ?_
 refine Xac ?_
 refine kO hT hC ?_
 refine Vc.nil ?_
 refine Xah ?_
 exact kR
 intro r' σ' e hE
 subst e
 obtain rfl := kj h
 refine Xap ?_
 exact hE
def Xyp (r : Bool) : AV := .sv (.bool r)
def Xyo (r : Bool) : Xa8 := []
theorem Xl8 {p0 r} (h : Xdu p0 = some r) : AC Tryz.prog 176 [.agg [.sv (.int .i64 p0.Kind), .sv (.int .i64 p0.Mode), .sv (.int .i64 p0.Dx), .sv (.int .i64 p0.Dy), .sv (.ints .i64 p0.Levels)]] [] (Xyp r) (Xyo r) := by
 refine Xag hT Tryz.func176 rfl fun C hC => ?_
 unfold Xdu at h
 refine Xac ?_
 iterate 2 refine kO hT hC ?_
 refine Vc.nil ?_
 refine Xaq ?_
 refine Xac ?_
 iterate 2 refine kO hT hC ?_
 refine Vc.nil ?_
 refine Xao ?_
 refine Xac ?_
 iterate 2 refine kO hT hC ?_
 refine Vc.nil ?_
 refine kS h ?_ ?_ <;> intro b1 h
 refine kt b1 ?_
 refine kL [1,2] [16] [_,_] [_] ?_
 refine kA h (fun v1 => ([(2, .sv (.bool v1)), (1, .any)], [(16, none)])) (fun v1 h => ?_) fun v1 h => ?_
 refine Xab ?_
 iterate 4 refine kO hT hC ?_
 refine kS h ?_ ?_ <;> intro b2 h
 iterate 3 refine kI hT hC b2 ?_
 refine kP hC true b2 ?_
 refine kO hT hC ?_
 refine kS h ?_ ?_ <;> intro b3 h
 iterate 3 refine kI hT hC b3 ?_
 refine kP hC true b3 ?_
 refine kO hT hC ?_
 refine kS h ?_ ?_ <;> intro b4 h
 iterate 4 refine kI hT hC b4 ?_
 refine kP hC true b4 ?_
 refine kO hT hC ?_
 refine Vc.nil ?_
 exact kM
 iterate 4 refine kF hC b4 ?_
 refine kP hC false b4 ?_
 refine kO hT hC ?_
 refine Vc.nil ?_
 exact kM
 iterate 3 refine kF hC b3 ?_
 refine kP hC false b3 ?_
 refine kO hT hC ?_
 iterate 4 refine kF hC rfl ?_
 iterate 2 refine kO hT hC ?_
 refine Vc.nil ?_
 exact kM
 iterate 3 refine kF hC b2 ?_
 refine kP hC false b2 ?_
 refine kO hT hC ?_
 iterate 3 refine kF hC rfl ?_
 iterate 2 refine kO hT hC ?_
 iterate 4 refine kF hC rfl ?_
 iterate 2 refine kO hT hC ?_
 refine Vc.nil ?_
 exact kM
 refine Xah ?_
 refine Xcr ?_
 refine Xap ?_
 exact kR
 refine kf b1 ?_
 refine Xac ?_
 iterate 2 refine kO hT hC ?_
 refine Vc.nil ?_
 refine kS h ?_ ?_ <;> intro b5 h
 refine kt b5 ?_
 refine kL [1,2] [16] [_,_] [_] ?_
 refine kA h (fun v2 => ([(2, .sv (.bool v2)), (1, .any)], [(16, none)])) (fun v2 h => ?_) fun v2 h => ?_
 refine Xab ?_
 iterate 4 refine kO hT hC ?_
 refine kS h ?_ ?_ <;> intro b6 h
 iterate 2 refine kI hT hC b6 ?_
 refine kE hC b6 [] Tryz.call136 h (fun _ => Xau) fun q3 h => ?_
 refine kP hC true b6 ?_
 refine kO hT hC ?_
 refine kS h ?_ ?_ <;> intro b7 h
 iterate 2 refine kI hT hC b7 ?_
 refine kE hC b7 [] Tryz.call136 h (fun _ => Xau) fun q4 h => ?_
 refine kP hC true b7 ?_
 refine kO hT hC ?_
 refine kS h ?_ ?_ <;> intro b8 h
 iterate 2 refine kI hT hC b8 ?_
 refine kE hC b8 [] Tryz.call200 h (fun _ => Xgg) fun q5 h => ?_
 refine kP hC true b8 ?_
 refine kO hT hC ?_
 refine Vc.nil ?_
 exact kM
 iterate 3 refine kF hC b8 ?_
 refine kP hC false b8 ?_
 refine kO hT hC ?_
 refine Vc.nil ?_
 exact kM
 iterate 3 refine kF hC b7 ?_
 refine kP hC false b7 ?_
 refine kO hT hC ?_
 iterate 3 refine kF hC rfl ?_
 iterate 2 refine kO hT hC ?_
 refine Vc.nil ?_
 exact kM
 iterate 3 refine kF hC b6 ?_
 refine kP hC false b6 ?_
 refine kO hT hC ?_
 iterate 3 refine kF hC rfl ?_
 iterate 2 refine kO hT hC ?_
 iterate 3 refine kF hC rfl ?_
 iterate 2 refine kO hT hC ?_
 refine Vc.nil ?_
 exact kM
 refine Xah ?_
 refine Xcr ?_
 refine Xap ?_
 exact kR
 refine kf b5 ?_
 refine Xac ?_
 iterate 2 refine kO hT hC ?_
 refine Vc.nil ?_
 refine kS h ?_ ?_ <;> intro b9 h
 refine kt b9 ?_
 refine kL [1,2] [16] [_,_] [_] ?_
 refine kA h (fun v6 => ([(2, .sv (.bool v6)), (1, .any)], [(16, none)])) (fun v6 h => ?_) fun v6 h => ?_
 refine Xab ?_
 iterate 2 refine kO hT hC ?_
 refine kC hC [] Tryz.call136 h (fun _ => Xau) fun q7 h => ?_
 refine kO hT hC ?_
 refine kS h ?_ ?_ <;> intro b10 h
 iterate 3 refine kI hT hC b10 ?_
 refine kP hC true b10 ?_
 refine kO hT hC ?_
 refine kS h ?_ ?_ <;> intro b11 h
 iterate 3 refine kI hT hC b11 ?_
 refine kP hC true b11 ?_
 refine kO hT hC ?_
 refine kS h ?_ ?_ <;> intro b12 h
 iterate 2 refine kI hT hC b12 ?_
 refine kE hC b12 [] Tryz.call200 h (fun _ => Xgg) fun q8 h => ?_
 refine kP hC true b12 ?_
 refine kO hT hC ?_
 refine Vc.nil ?_
 exact kM
 iterate 3 refine kF hC b12 ?_
 refine kP hC false b12 ?_
 refine kO hT hC ?_
 refine Vc.nil ?_
 exact kM
 iterate 3 refine kF hC b11 ?_
 refine kP hC false b11 ?_
 refine kO hT hC ?_
 iterate 3 refine kF hC rfl ?_
 iterate 2 refine kO hT hC ?_
 refine Vc.nil ?_
 exact kM
 iterate 3 refine kF hC b10 ?_
 refine kP hC false b10 ?_
 refine kO hT hC ?_
 iterate 3 refine kF hC rfl ?_
 iterate 2 refine kO hT hC ?_
 iterate 3 refine kF hC rfl ?_
 iterate 2 refine kO hT hC ?_
 refine Vc.nil ?_
 exact kM
 refine Xah ?_
 refine Xcr ?_
 refine Xap ?_
 exact kR
 refine kf b9 ?_
 refine Xaf ?_
 refine Xar ?_
 refine Xae ?_
 refine Xac ?_
 refine kO hT hC ?_
 refine Vc.nil ?_
 refine Xah ?_
 exact kR
def Ycj (r : (Xa1 × Int × Bool)) : AV := .tup [.agg [.sv (.int .i64 r.1.Kind), .sv (.int .i64 r.1.Mode), .sv (.int .i64 r.1.Dx), .sv (.int .i64 r.1.Dy), .own 16], .sv (.int .i64 r.2.1), .sv (.bool r.2.2)]
def Yci (r : (Xa1 × Int × Bool)) : Xa8 := [(16, .ints .i64 r.1.Levels)]
theorem Yg5 {p0 p1 p2 r} (h : Xi9 p0 p1 p2 = some r) : AC Tryz.prog 145 [.sv (.str p0), .sv (.int .i64 p1), .agg [.sv (.bool p2.Key), .sv (.int .i64 p2.Qp), .sv (.bool p2.Large), .sv (.bool p2.Exact)]] [] (Ycj r) (Yci r) := by
 refine Xag hT Tryz.func145 rfl fun C hC => ?_
 unfold Xi9 at h
 refine Xac ?_
 iterate 4 refine kO hT hC ?_
 refine kN ?_
 iterate 3 refine kO hT hC ?_
 refine kN ?_
 refine kO hT hC ?_
 refine Vc.nil ?_
 refine kL [0,1,5,6,9] [80,96,144] [_,_,_,_,_] [_,_,_] ?_
 refine Yct h (fun (v1 : (Int × Int)) => ([(1, .sv (.int .i64 v1.1))], [(144, some (.box [.sv (.int .i64 v1.2), .sv (.int .i64 0), .sv (.int .i64 0), .sv (.int .i64 0), .sv .nil]))])) (fun v1 h => ?_) (fun h => ?_)
 refine kL [0,1,5,6,9] [80,96,144] [_,_,_,_,_] [_,_,_] ?_
 refine Yct h (fun (v4 : (Int × Bool × Int × Int × Int)) => ([(1, .sv (.int .i64 v4.1)), (10, .sv (.bool v4.2.1))], [(144, some (.box [.sv (.int .i64 v1.2), .sv (.int .i64 v4.2.2.1), .sv (.int .i64 v4.2.2.2.1), .sv (.int .i64 v4.2.2.2.2), .sv .nil]))])) (fun v4 h => ?_) (fun h => ?_)
 refine Xaq ?_
 refine Xac ?_
 iterate 2 refine kO hT hC ?_
 refine Vc.nil ?_
 refine kS h ?_ ?_ <;> intro b7 h
 refine kt b7 ?_
 refine Xac ?_
 iterate 4 refine kO hT hC ?_
 refine Vc.nil ?_
 refine Xah ?_
 refine Xap ?_
 obtain rfl := kj h
 refine Xbt (τ := ⟨[(6, .ptr 2000000 0), (7, .sv (.int .i64 0)), (8, .sv (.bool false))], [(16, some (.ints .i64 [])), (2000000, some (.box [.sv (.int .i64 0), .sv (.int .i64 0), .sv (.int .i64 0), .sv (.int .i64 0), .own 16]))]⟩) ?_ rfl ⟨rfl, trivial⟩
 refine Xf7 hC 96 4 1428 (.ints .i64 []) rfl rfl rfl rfl rfl trivial ?_
 apply Xbz hC [(16, 1428), (2000000, 96)]
 exact co
 rfl
 decide
 rfl
 refine kf b7 ?_
 refine Xaf ?_
 refine Xae ?_
 refine Xac ?_
 iterate 3 refine kO hT hC ?_
 refine kC hC [(16, 1168)] Tryz.call175 h (fun _ => Yg4) fun q8 h => ?_
 iterate 8 refine kO hT hC ?_
 refine Vc.nil ?_
 refine Xaq ?_
 refine kL [1,6,9,10] [96,144,1168] [_,_,_,_] [_,_,_] ?_
 refine kA h (fun v9 => ([(84, .sv (.bool v9)), (10, .any)], [])) (fun v9 h => ?_) fun v9 h => ?_
 refine Xab ?_
 iterate 3 refine kO hT hC ?_
 refine kS h ?_ ?_ <;> intro b8 h
 refine kI hT hC (kn b8) ?_
 refine kE hC (kn b8) [] Tryz.call176 h (fun _ => Xl8) fun q10 h => ?_
 refine kI hT hC (kn b8) ?_
 refine kP hC false (kn b8) ?_
 refine Vc.nil ?_
 exact kM
 iterate 3 refine kF hC (kn b8) ?_
 refine kP hC true (kn b8) ?_
 refine Vc.nil ?_
 exact kM
 refine kS h ?_ ?_ <;> intro b9 h
 refine kt b9 ?_
 refine Xac ?_
 iterate 4 refine kO hT hC ?_
 refine Vc.nil ?_
 refine Xah ?_
 refine Xap ?_
 obtain rfl := kj h
 refine Xbt (τ := ⟨[(6, .ptr 2000000 0), (7, .sv (.int .i64 0)), (8, .sv (.bool false))], [(16, some (.ints .i64 [])), (2000000, some (.box [.sv (.int .i64 0), .sv (.int .i64 0), .sv (.int .i64 0), .sv (.int .i64 0), .own 16]))]⟩) ?_ rfl ⟨rfl, trivial⟩
 refine Xf7 hC 96 4 1429 (.ints .i64 []) rfl rfl rfl rfl rfl trivial ?_
 apply Xbz hC [(16, 1429), (2000000, 96)]
 exact co
 rfl
 decide
 rfl
 refine kf b9 ?_
 refine Xaf ?_
 refine Xae ?_
 refine Xac ?_
 iterate 5 refine kO hT hC ?_
 refine Vc.nil ?_
 refine Xah ?_
 obtain rfl := kj h
 exact Xbt (τ := ⟨[(6, .ptr 2000000 0), (7, .sv (.int .i64 q8.2.1)), (8, .sv (.bool true))], [(16, some (.ints .i64 q8.1)), (2000000, some (.box [.sv (.int .i64 v1.2), .sv (.int .i64 v4.2.2.1), .sv (.int .i64 v4.2.2.2.1), .sv (.int .i64 v4.2.2.2.2), .own 16]))]⟩) (kW hC [(16, 1168), (2000000, 96)]) rfl ⟨rfl, trivial⟩
 refine Xac ?_
 iterate 2 refine kO hT hC ?_
 refine Vc.nil ?_
 refine Xao ?_
 refine Xac ?_
 iterate 2 refine kO hT hC ?_
 refine Vc.nil ?_
 refine kS h ?_ ?_ <;> intro b4 h
 refine kt b4 ?_
 refine Xac ?_
 iterate 5 refine kO hT hC ?_
 refine Vc.nil ?_
 refine Xah ?_
 refine Xcr ?_
 refine Yvk ?_
 obtain rfl := kj h
 refine Xbt (τ := ⟨[(6, .ptr 2000000 0), (7, .sv (.int .i64 v1.1)), (8, .sv (.bool true))], [(16, some (.ints .i64 [])), (2000000, some (.box [.sv (.int .i64 v1.2), .sv (.int .i64 0), .sv (.int .i64 0), .sv (.int .i64 0), .own 16]))]⟩) ?_ rfl ⟨rfl, trivial⟩
 refine Xf7 hC 96 4 1426 (.ints .i64 []) rfl rfl rfl rfl rfl trivial ?_
 apply Xbz hC [(16, 1426), (2000000, 96)]
 exact co
 rfl
 decide
 rfl
 refine kf b4 ?_
 refine Xac ?_
 iterate 2 refine kO hT hC ?_
 refine Vc.nil ?_
 refine kS h ?_ ?_ <;> intro b5 h
 refine kt b5 ?_
 refine Xac ?_
 iterate 2 refine kO hT hC ?_
 refine kC hC [] Tryz.call142 h (fun _ => Xhv) fun q5 h => ?_
 iterate 8 refine kO hT hC ?_
 refine Vc.nil ?_
 refine Xaq ?_
 refine Xac ?_
 iterate 2 refine kO hT hC ?_
 refine Vc.nil ?_
 refine kS h ?_ ?_ <;> intro b6 h
 refine kt b6 ?_
 refine Xac ?_
 iterate 4 refine kO hT hC ?_
 refine Vc.nil ?_
 refine Xah ?_
 refine Xap ?_
 refine Xcr ?_
 refine Yvk ?_
 obtain rfl := kj h
 refine Xbt (τ := ⟨[(6, .ptr 2000000 0), (7, .sv (.int .i64 0)), (8, .sv (.bool false))], [(16, some (.ints .i64 [])), (2000000, some (.box [.sv (.int .i64 0), .sv (.int .i64 0), .sv (.int .i64 0), .sv (.int .i64 0), .own 16]))]⟩) ?_ rfl ⟨rfl, trivial⟩
 refine Xf7 hC 96 4 1427 (.ints .i64 []) rfl rfl rfl rfl rfl trivial ?_
 apply Xbz hC [(16, 1427), (2000000, 96)]
 exact co
 rfl
 decide
 rfl
 refine kf b6 ?_
 refine Xaf ?_
 refine Xae ?_
 refine Xab ?_
 iterate 2 refine kO hT hC ?_
 refine kC hC [] Tryz.call142 h (fun _ => Xhv) fun q6 h => ?_
 iterate 8 refine kO hT hC ?_
 refine Vc.nil ?_
 refine Xar ?_
 exact Xzi (q6.2.1, q6.2.2, 0, q5.1, q6.1) h (kW hC [])
 refine kf b5 ?_
 refine Xab ?_
 iterate 2 refine kO hT hC ?_
 refine kC hC [] Tryz.call104 h (fun _ => Xb0) fun q7 h => ?_
 iterate 8 refine kO hT hC ?_
 refine Vc.nil ?_
 refine Xar ?_
 exact Xzi (q7.2.1, q7.2.2, q7.1, 0, 0) h (kW hC [])
 refine Xac ?_
 iterate 3 refine kO hT hC ?_
 refine Vc.nil ?_
 refine kS h ?_ ?_ <;> intro b1 h
 refine kt b1 ?_
 refine Xac ?_
 iterate 2 refine kO hT hC ?_
 refine kC hC [] Tryz.call104 h (fun _ => Xb0) fun q2 h => ?_
 iterate 8 refine kO hT hC ?_
 refine Vc.nil ?_
 refine kL [0,1,5,6,9,10] [80,96,144] [_,_,_,_,_,_] [_,_,_] ?_
 refine kA h (fun v3 => ([(29, .sv (.bool v3)), (10, .any)], [])) (fun v3 h => ?_) fun v3 h => ?_
 refine Xab ?_
 iterate 3 refine kO hT hC ?_
 refine kS h ?_ ?_ <;> intro b2 h
 iterate 3 refine kI hT hC (kn b2) ?_
 refine kP hC false (kn b2) ?_
 refine Vc.nil ?_
 exact kM
 iterate 3 refine kF hC (kn b2) ?_
 refine kP hC true (kn b2) ?_
 refine Vc.nil ?_
 exact kM
 refine kS h ?_ ?_ <;> intro b3 h
 refine kt b3 ?_
 refine Xac ?_
 iterate 4 refine kO hT hC ?_
 refine Vc.nil ?_
 refine Xah ?_
 refine Yvk ?_
 obtain rfl := kj h
 refine Xbt (τ := ⟨[(6, .ptr 2000000 0), (7, .sv (.int .i64 0)), (8, .sv (.bool false))], [(16, some (.ints .i64 [])), (2000000, some (.box [.sv (.int .i64 0), .sv (.int .i64 0), .sv (.int .i64 0), .sv (.int .i64 0), .own 16]))]⟩) ?_ rfl ⟨rfl, trivial⟩
 refine Xf7 hC 96 4 1425 (.ints .i64 []) rfl rfl rfl rfl rfl trivial ?_
 apply Xbz hC [(16, 1425), (2000000, 96)]
 exact co
 rfl
 decide
 rfl
 refine kf b3 ?_
 refine Xaf ?_
 exact Xzi (q2.2.1, q2.1) h (kW hC [])
 refine kf b1 ?_
 refine Xaf ?_
 exact Xzi (p1, 2) h (kW hC [])
def Xo9 (r : ((List Xa1) × Bool)) : AV := .tup [.own 16, .sv (.bool r.2)]
def Xo8 (r : ((List Xa1) × Bool)) : Xa8 := [(16, .row Xdj r.1)]
theorem Ybr {p0 p1 p2 p3 r} (h : Xjy p0 p1 p2 p3 = some r) : AC Tryz.prog 108 [.sv (.str p0), .sv (.int .i64 p1), .sv (.int .i64 p2), .agg [.sv (.bool p3.Key), .sv (.int .i64 p3.Qp), .sv (.bool p3.Large), .sv (.bool p3.Exact)]] [] (Xo9 r) (Xo8 r) := by
 refine Xag hT Tryz.func108 rfl fun C hC => ?_
 unfold Xjy at h
 refine Xac ?_
 iterate 3 refine kO hT hC ?_
 refine kN ?_
 iterate 2 refine kO hT hC ?_
 refine Vc.nil ?_
 refine Xaq ?_
 refine kL [0,1,2,7,10] [112,240] [_,_,_,_,_] [_,_] ?_
 refine kA h (fun v1 => ([(35, .sv (.bool v1))], [])) (fun v1 h => ?_) fun v1 h => ?_
 refine Xab ?_
 refine kO hT hC ?_
 refine kC hC [] Tryz.call141 h (fun _ => Xwe) fun q2 h => ?_
 iterate 2 refine kO hT hC ?_
 refine kS h ?_ ?_ <;> intro b1 h
 iterate 3 refine kI hT hC (kn b1) ?_
 refine kE hC (kn b1) [] Tryz.call136 h (fun _ => Xau) fun q3 h => ?_
 refine kI hT hC (kn b1) ?_
 refine kP hC false (kn b1) ?_
 refine kO hT hC ?_
 refine kS h ?_ ?_ <;> intro b2 h
 refine kI hT hC (kn b2) ?_
 refine kE hC (kn b2) [] Tryz.call144 h (fun _ => Xlb) fun q4 h => ?_
 refine kI hT hC (kn b2) ?_
 refine kP hC false (kn b2) ?_
 refine kO hT hC ?_
 refine kS h ?_ ?_ <;> intro b3 h
 refine kI hT hC (kn b3) ?_
 refine kE hC (kn b3) [] Tryz.call136 h (fun _ => Xau) fun q5 h => ?_
 refine kI hT hC (kn b3) ?_
 refine kP hC false (kn b3) ?_
 refine Vc.nil ?_
 exact kM
 iterate 3 refine kF hC (kn b3) ?_
 refine kP hC true (kn b3) ?_
 refine Vc.nil ?_
 exact kM
 iterate 3 refine kF hC (kn b2) ?_
 refine kP hC true (kn b2) ?_
 refine kO hT hC ?_
 iterate 3 refine kF hC rfl ?_
 refine kO hT hC ?_
 refine Vc.nil ?_
 exact kM
 iterate 5 refine kF hC (kn b1) ?_
 refine kP hC true (kn b1) ?_
 refine kO hT hC ?_
 iterate 3 refine kF hC rfl ?_
 iterate 2 refine kO hT hC ?_
 iterate 3 refine kF hC rfl ?_
 refine kO hT hC ?_
 refine Vc.nil ?_
 exact kM
 refine kS h ?_ ?_ <;> intro b4 h
 refine kt b4 ?_
 refine Xac ?_
 iterate 3 refine kO hT hC ?_
 refine Vc.nil ?_
 refine Xah ?_
 refine Xap ?_
 obtain rfl := kj h
 exact Xbt (τ := ⟨[(8, .own 16), (9, .sv (.bool false))], [(16, some (.row Xdj ([] : List Xa1)))]⟩) (kW hC [(16, 240)]) rfl ⟨rfl, trivial⟩
 refine kf b4 ?_
 refine Xaf ?_
 refine Xae ?_
 refine Xaq ?_
 refine Xac ?_
 refine kO hT hC ?_
 refine Vc.nil ?_
 refine kL [0,1,2,7,10,11] [112,240] [_,_,_,_,_,_] [_,_] ?_
 obtain ⟨o13, hl, h⟩ := Xba h
 refine Xd8 (fun v8 => ([(1, .sv (.int .i64 v8.1)), (11, .sv (.int .i64 v8.2.1))], [(240, some (.row Xdj v8.2.2))])) (fun v11 => ([(1, .sv (.int .i64 v11.1)), (2, .any), (7, .any), (11, .any)], [(240, some (.row Xdj v11.2)), (112, none)])) (fun r => Xl1 C T Tryz.f108.results.toList (Xo9 r) (Xo8 r)) hl ?_ ?_ ?_ ?_
 try dsimp only
 apply Xbz hC []
 exact co
 rfl
 decide
 rfl
 intro v8 s hs
 have h := hs
 unfold Xbx at h
 refine Xaq ?_
 refine Xac ?_
 iterate 3 refine kO hT hC ?_
 refine Vc.nil ?_
 refine kS h ?_ ?_ <;> intro b9 h
 refine kt b9 ?_
 refine Xaf ?_
 refine Xae ?_
 refine Xaq ?_
 refine Xao ?_
 refine Xac ?_
 iterate 3 refine kO hT hC ?_
 refine kC hC [(16, 736)] Tryz.call145 h (fun _ => Yg5) fun q12 h => ?_
 iterate 8 refine kO hT hC ?_
 refine Vc.nil ?_
 refine Xaq ?_
 refine Xac ?_
 iterate 2 refine kO hT hC ?_
 refine Vc.nil ?_
 refine kS h ?_ ?_ <;> intro b10 h
 refine kt b10 ?_
 refine Xac ?_
 iterate 3 refine kO hT hC ?_
 refine Vc.nil ?_
 refine Xah ?_
 refine Xap ?_
 refine Xcr ?_
 refine Xap ?_
 obtain rfl := kj h
 refine Xku ?_
 refine Xkr ?_
 refine Xbt (τ := ⟨[(8, .own 16), (9, .sv (.bool false))], [(16, some (.row Xdj ([] : List Xa1)))]⟩) ?_ rfl ⟨rfl, trivial⟩
 apply Xbz hC [(16, 832)]
 exact co
 rfl
 decide
 rfl
 refine kf b10 ?_
 refine Xaf ?_
 refine Xae ?_
 refine Xac ?_
 iterate 3 refine kO hT hC ?_
 obtain ⟨hq, h⟩ := Xa5 h
 refine Xw3 hT hC rfl rfl rfl rfl ⟨fun _ _ => rfl, by rw [Xr0]; exact hq⟩ ?_
 rw [Xr0]
 refine kO hT hC ?_
 refine Vc.nil ?_
 refine Xab ?_
 iterate 2 refine kO hT hC ?_
 refine Vc.nil ?_
 refine Xar ?_
 refine Xae ?_
 refine Xab ?_
 iterate 3 refine kO hT hC ?_
 refine Vc.nil ?_
 obtain rfl := kj h
 exact Ya8 (kW hC [(240, 896)])
 refine kf b9 ?_
 refine Xas ?_
 refine Xaz ?_
 exact kb
 intro v11 e
 subst e
 refine Xae ?_
 refine Xaq ?_
 refine Xac ?_
 iterate 4 refine kO hT hC ?_
 refine Vc.nil ?_
 refine kS h ?_ ?_ <;> intro b11 h
 refine kt b11 ?_
 refine Xac ?_
 iterate 3 refine kO hT hC ?_
 refine Vc.nil ?_
 refine Xah ?_
 refine Xap ?_
 obtain rfl := kj h
 exact Xbt (τ := ⟨[(8, .own 16), (9, .sv (.bool false))], [(16, some (.row Xdj ([] : List Xa1)))]⟩) (kW hC [(16, 992)]) rfl ⟨rfl, trivial⟩
 refine kf b11 ?_
 refine Xaf ?_
 refine Xae ?_
 refine Xac ?_
 iterate 3 refine kO hT hC ?_
 refine Vc.nil ?_
 refine Xah ?_
 obtain rfl := kj h
 exact Xbt (τ := ⟨[(8, .own 16), (9, .sv (.bool true))], [(16, some (.row Xdj v11.2))]⟩) (kW hC [(16, 240)]) rfl ⟨rfl, trivial⟩
 intro r' σ' e hE
 subst e
 obtain rfl := kj h
 refine Xap ?_
 exact hE
def Ycl (r : Bool) : AV := .sv (.bool r)
def Yck (r : Bool) : Xa8 := []
theorem Xru {p0 r} (h : Xja p0 = some r) : AC Tryz.prog 147 [.sv (.int .i64 p0)] [] (Ycl r) (Yck r) := by
 refine Xag hT Tryz.func147 rfl fun C hC => ?_
 unfold Xja at h
 refine Xac ?_
 refine kO hT hC ?_
 refine Vc.nil ?_
 refine kL [0,2] [] [_,_] [] ?_
 refine kA h (fun v1 => ([(2, .sv (.bool v1)), (0, .any)], [])) (fun v1 h => ?_) fun v1 h => ?_
 refine Xab ?_
 refine kO hT hC ?_
 refine kQ hT hC h fun h => ?_
 iterate 2 refine kO hT hC ?_
 refine kS h ?_ ?_ <;> intro b1 h
 refine kI hT hC b1 ?_
 refine kE hC b1 [] Tryz.call136 h (fun _ => Xau) fun q2 h => ?_
 refine kP hC true b1 ?_
 refine kO hT hC ?_
 refine Vc.nil ?_
 exact kM
 iterate 2 refine kF hC b1 ?_
 refine kP hC false b1 ?_
 refine kO hT hC ?_
 refine Vc.nil ?_
 exact kM
 refine Xah ?_
 exact kR
def Xtl (r : Bool) : AV := .sv (.bool r)
def Xtk (r : Bool) : Xa8 := []
theorem Ymi {p0 p1 r} (h : Xpe p0 p1 = some r) : AC Tryz.prog 148 [.sv (Xdj.sv p0), .agg [.sv (.bool p1.Key), .sv (.int .i64 p1.Qp), .sv (.bool p1.Large), .sv (.bool p1.Exact)]] [] (Xtl r) (Xtk r) := by
 refine Xag hT Tryz.func148 rfl fun C hC => ?_
 unfold Xpe at h
 refine Xac ?_
 iterate 2 refine kO hT hC ?_
 refine Vc.nil ?_
 refine Xaq ?_
 refine kL [0,3] [48] [_,_] [_] ?_
 refine kA h (fun v1 => ([(14, .sv (.bool v1))], [])) (fun v1 h => ?_) fun v1 h => ?_
 refine Xab ?_
 refine kO hT hC ?_
 refine kC hC [] Tryz.call144 h (fun _ => Xlb) fun q2 h => ?_
 iterate 2 refine kO hT hC ?_
 refine kS h ?_ ?_ <;> intro b1 h
 iterate 2 refine kI hT hC (kn b1) ?_
 refine kE hC (kn b1) [] Tryz.call136 h (fun _ => Xau) fun q3 h => ?_
 refine kI hT hC (kn b1) ?_
 refine kP hC false (kn b1) ?_
 refine Vc.nil ?_
 exact kM
 iterate 4 refine kF hC (kn b1) ?_
 refine kP hC true (kn b1) ?_
 refine Vc.nil ?_
 exact kM
 refine kS h ?_ ?_ <;> intro b2 h
 refine kt b2 ?_
 refine Xac ?_
 refine kO hT hC ?_
 refine Vc.nil ?_
 refine Xah ?_
 refine Xap ?_
 exact kR
 refine kf b2 ?_
 refine Xaf ?_
 refine Xae ?_
 refine Xaq ?_
 refine Xac ?_
 refine kO hT hC ?_
 refine Vc.nil ?_
 refine kL [0,3,5] [48] [_,_,_] [_] ?_
 obtain ⟨o14, hl, h⟩ := Xba h
 refine Xd8 (fun v7 => ([(5, .sv (.int .i64 v7))], [])) (fun v11 => ([(0, .any), (3, .any), (5, .any)], [(48, none)])) (fun r => Xl1 C T Tryz.f148.results.toList (Xtl r) (Xtk r)) hl ?_ ?_ ?_ ?_
 apply Xbz hC []
 exact co
 rfl
 decide
 rfl
 intro v7 s hs
 have h := hs
 unfold Xfw at h
 refine Xaq ?_
 refine Xac ?_
 iterate 4 refine kO hT hC ?_
 refine Vc.nil ?_
 refine kS h ?_ ?_ <;> intro b11 h
 refine kt b11 ?_
 refine Xaf ?_
 refine Xae ?_
 refine Xaq ?_
 refine Xao ?_
 refine kL [0,3,5] [48] [_,_,_] [_] ?_
 refine kA h (fun v12 => ([(38, .sv (.bool v12))], [])) (fun v12 h => ?_) fun v12 h => ?_
 refine Xab ?_
 iterate 2 refine kO hT hC ?_
 refine kQ hT hC h fun h => ?_
 refine kO hT hC ?_
 refine kC hC [] Tryz.call176 h (fun _ => Xl8) fun q13 h => ?_
 iterate 2 refine kO hT hC ?_
 refine kS h ?_ ?_ <;> intro b12 h
 iterate 3 refine kI hT hC (kn b12) ?_
 refine kS h ?_ ?_ <;> intro b13 h
 iterate 2 refine kI hT hC b13 ?_
 refine kJ hT hC b13 h fun h => ?_
 iterate 3 refine kI hT hC b13 ?_
 refine Xa3 hC rfl rfl rfl rfl (kn b12) rfl rfl (b := true) b13 rfl rfl rfl trivial ?_
 refine kP hC false (kn b12) ?_
 refine Vc.nil ?_
 exact kM
 iterate 6 refine kF hC b13 ?_
 refine Xa3 hC rfl rfl rfl rfl (kn b12) rfl rfl (b := false) b13 rfl rfl rfl trivial ?_
 refine kP hC false (kn b12) ?_
 refine Vc.nil ?_
 exact kM
 iterate 3 refine kF hC (kn b12) ?_
 iterate 6 refine Xdq hC rfl rfl rfl rfl rfl rfl ?_
 refine kF hC (kn b12) ?_
 refine kP hC true (kn b12) ?_
 refine Vc.nil ?_
 exact kM
 refine kS h ?_ ?_ <;> intro b14 h
 refine kt b14 ?_
 refine Xac ?_
 refine kO hT hC ?_
 refine Vc.nil ?_
 refine Xah ?_
 refine Xcr ?_
 refine Xap ?_
 obtain rfl := kj h
 refine Xku ?_
 refine Xkr ?_
 exact Xbt (Xgk.refl _) rfl trivial
 refine kf b14 ?_
 refine Xaf ?_
 refine Xar ?_
 refine Xae ?_
 refine Xab ?_
 iterate 3 refine kO hT hC ?_
 refine Vc.nil ?_
 exact kG
 refine kf b11 ?_
 refine Xas ?_
 refine Xaz ?_
 exact kb
 intro v11 e
 subst e
 refine Xae ?_
 refine Xac ?_
 refine kO hT hC ?_
 refine Vc.nil ?_
 refine Xah ?_
 exact kR
 intro r' σ' e hE
 subst e
 obtain rfl := kj h
 refine Xap ?_
 exact hE
def Xwz (r : Bool) : AV := .sv (.bool r)
def Xwy (r : Bool) : Xa8 := []
theorem Xhw {p0 p1 p2 p3 p4 r} (h : Xb6 p0 p1 p2 p3 p4 = some r) : AC Tryz.prog 149 [.agg [.sv (.int .i64 p0.Wide), .sv (.int .i64 p0.High), .sv (.str p0.Dots)], .sv (.int .i64 p1), .sv (.int .i64 p2), .sv (.int .i64 p3), .sv (.int .i64 p4)] [] (Xwz r) (Xwy r) := by
 refine Xag hT Tryz.func149 rfl fun C hC => ?_
 unfold Xb6 at h
 refine Xac ?_
 iterate 2 refine kO hT hC ?_
 refine Vc.nil ?_
 refine kL [1,2,3,4,5,10] [80] [_,_,_,_,_,_] [_] ?_
 refine kA h (fun v1 => ([(10, .sv (.bool v1)), (1, .any), (2, .any), (3, .any), (4, .any), (5, .any)], [(80, none)])) (fun v1 h => ?_) fun v1 h => ?_
 refine Xab ?_
 refine kO hT hC ?_
 refine kC hC [] Tryz.call139 h (fun _ => Xhq) fun q2 h => ?_
 refine kO hT hC ?_
 refine kS h ?_ ?_ <;> intro b1 h
 iterate 3 refine kI hT hC b1 ?_
 refine kE hC b1 [] Tryz.call136 h (fun _ => Xau) fun q3 h => ?_
 refine kP hC true b1 ?_
 refine kO hT hC ?_
 refine kS h ?_ ?_ <;> intro b2 h
 iterate 3 refine kI hT hC b2 ?_
 refine kE hC b2 [] Tryz.call136 h (fun _ => Xau) fun q4 h => ?_
 refine kP hC true b2 ?_
 refine kO hT hC ?_
 refine kS h ?_ ?_ <;> intro b3 h
 iterate 5 refine kI hT hC b3 ?_
 refine kE hC b3 [] Tryz.call136 h (fun _ => Xau) fun q5 h => ?_
 refine kP hC true b3 ?_
 refine kO hT hC ?_
 refine kS h ?_ ?_ <;> intro b4 h
 iterate 5 refine kI hT hC b4 ?_
 refine kE hC b4 [] Tryz.call136 h (fun _ => Xau) fun q6 h => ?_
 refine kP hC true b4 ?_
 refine kO hT hC ?_
 refine Vc.nil ?_
 exact kM
 iterate 6 refine kF hC b4 ?_
 refine kP hC false b4 ?_
 refine kO hT hC ?_
 refine Vc.nil ?_
 exact kM
 iterate 6 refine kF hC b3 ?_
 refine kP hC false b3 ?_
 refine kO hT hC ?_
 iterate 6 refine kF hC rfl ?_
 iterate 2 refine kO hT hC ?_
 refine Vc.nil ?_
 exact kM
 iterate 4 refine kF hC b2 ?_
 refine kP hC false b2 ?_
 refine kO hT hC ?_
 iterate 6 refine kF hC rfl ?_
 iterate 2 refine kO hT hC ?_
 iterate 6 refine kF hC rfl ?_
 iterate 2 refine kO hT hC ?_
 refine Vc.nil ?_
 exact kM
 iterate 4 refine kF hC b1 ?_
 refine kP hC false b1 ?_
 refine kO hT hC ?_
 iterate 4 refine kF hC rfl ?_
 iterate 2 refine kO hT hC ?_
 iterate 6 refine kF hC rfl ?_
 iterate 2 refine kO hT hC ?_
 iterate 6 refine kF hC rfl ?_
 iterate 2 refine kO hT hC ?_
 refine Vc.nil ?_
 exact kM
 refine Xah ?_
 exact kR
def Yiq (r : (Pic × Bool)) : AV := .tup [.agg [.sv (.int .i64 r.1.Wide), .sv (.int .i64 r.1.High), .sv (.str r.1.Dots)], .sv (.bool r.2)]
def Yip (r : (Pic × Bool)) : Xa8 := []
theorem Ymb {p0 p1 r} (h : Xmv p0 p1 = some r) : AC Tryz.prog 150 [.agg [.sv (.int .i64 p0.Wide), .sv (.int .i64 p0.High), .sv (.str p0.Dots)], .agg [.sv (.int .i64 p1.Left), .sv (.int .i64 p1.Top), .sv (.int .i64 p1.Wide), .sv (.int .i64 p1.High)]] [] (Yiq r) (Yip r) := by
 refine Xag hT Tryz.func150 rfl fun C hC => ?_
 unfold Xmv at h
 refine Xac ?_
 iterate 4 refine kO hT hC ?_
 refine Vc.nil ?_
 refine Xaq ?_
 refine Xac ?_
 iterate 9 refine kO hT hC ?_
 refine kC hC [] Tryz.call149 h (fun _ => Xhw) fun q1 h => ?_
 refine kO hT hC ?_
 refine Vc.nil ?_
 refine kS h ?_ ?_ <;> intro b1 h
 refine kt b1 ?_
 refine Xac ?_
 iterate 3 refine kO hT hC ?_
 refine Vc.nil ?_
 refine Xah ?_
 refine Xap ?_
 exact kR
 refine kf b1 ?_
 refine Xaf ?_
 refine Xae ?_
 refine Xac ?_
 iterate 2 refine kO hT hC ?_
 refine Vc.nil ?_
 refine Xaq ?_
 refine Xac ?_
 iterate 3 refine kO hT hC ?_
 refine Vc.nil ?_
 refine kL [2,3,4,6,7] [32,48,64,320] [_,_,_,_,_] [_,_,_,_] ?_
 refine kX h (fun v3 => ([(7, .sv (.int .i64 v3.1))], [(320, some (.ints .u8 v3.2))])) (fun v5 => ([(2, .any), (7, .any)], [(320, some (.ints .u8 v5)), (32, none)])) (kW hC []) (fun v3 s h => ?_) fun v5 h => ?_
 unfold Xhp at h
 refine Xaq ?_
 refine Xac ?_
 iterate 7 refine kO hT hC ?_
 refine Vc.nil ?_
 refine kS h ?_ ?_ <;> intro b4 h
 refine kt b4 ?_
 refine Xaf ?_
 refine Xae ?_
 refine Xaq ?_
 refine Xao ?_
 refine Xab ?_
 iterate 20 refine kO hT hC ?_
 refine kQ hT hC h fun h => ?_
 refine kT hT hC h fun h => ?_
 refine kO hT hC ?_
 refine Vc.nil ?_
 refine Xar ?_
 refine Xae ?_
 refine Xab ?_
 iterate 3 refine kO hT hC ?_
 refine Vc.nil ?_
 obtain rfl := kj h
 exact Ya8 (kW hC [(320, 848)])
 refine kf b4 ?_
 refine Xas ?_
 refine Xaz ?_
 exact ku
 refine Xae ?_
 refine Xac ?_
 iterate 9 refine kO hT hC ?_
 refine Vc.nil ?_
 refine Xah ?_
 exact kR
def Yb0 (r : ByteArray) : AV := .sv (.str r)
def Ybz (r : ByteArray) : Xa8 := []
theorem Ygq {p0 p1 r} (h : Xlw p0 p1 = some r) : AC Tryz.prog 154 [.sv (.int .i64 p0), .sv (.int .u8 p1)] [] (Yb0 r) (Ybz r) := by
 refine Xag hT Tryz.func154 rfl fun C hC => ?_
 unfold Xlw at h
 refine Xac ?_
 refine kO hT hC ?_
 refine kN ?_
 refine kO hT hC ?_
 obtain ⟨hq, h⟩ := Xa5 h
 refine Xw3 hT hC rfl rfl rfl rfl ⟨hq.1, hq.2.1, hq.2.2, by decide⟩ ?_
 refine kO hT hC ?_
 refine Vc.nil ?_
 refine Xaq ?_
 refine Xac ?_
 refine kO hT hC ?_
 refine Vc.nil ?_
 refine kL [0,1,5,6] [128] [_,_,_,_] [_] ?_
 refine kX h (fun v2 => ([(6, .sv (.int .i64 v2.1))], [(128, some (.ints .u8 v2.2))])) (fun v4 => ([(0, .any), (1, .any), (6, .any)], [(128, some (.ints .u8 v4))])) (kW hC []) (fun v2 s h => ?_) fun v4 h => ?_
 unfold Xg0 at h
 refine Xaq ?_
 refine Xac ?_
 iterate 3 refine kO hT hC ?_
 refine Vc.nil ?_
 refine kS h ?_ ?_ <;> intro b3 h
 refine kt b3 ?_
 refine Xaf ?_
 refine Xae ?_
 refine Xaq ?_
 refine Xao ?_
 refine Xab ?_
 iterate 3 refine kO hT hC ?_
 iterate 2 refine kQ hT hC h fun h => ?_
 refine Vc.nil ?_
 refine Xar ?_
 refine Xae ?_
 refine Xab ?_
 iterate 3 refine kO hT hC ?_
 refine Vc.nil ?_
 exact kG
 refine kf b3 ?_
 refine Xas ?_
 refine Xaz ?_
 exact ku
 refine Xae ?_
 refine Xac ?_
 iterate 3 refine kO hT hC ?_
 refine Vc.nil ?_
 refine Xah ?_
 exact kR
def Ymg (r : Pic) : AV := .agg [.sv (.int .i64 r.Wide), .sv (.int .i64 r.High), .sv (.str r.Dots)]
def Ymf (r : Pic) : Xa8 := []
theorem Xzo {p0 p1 r} (h : Xna p0 p1 = some r) : AC Tryz.prog 113 [.sv (.int .i64 p0), .sv (.int .i64 p1)] [] (Ymg r) (Ymf r) := by
 refine Xag hT Tryz.func113 rfl fun C hC => ?_
 unfold Xna at h
 refine Xac ?_
 refine kO hT hC ?_
 refine Vc.nil ?_
 refine Xaq ?_
 refine kL [0,1,4] [64] [_,_,_] [_] ?_
 refine kA h (fun v1 => ([(12, .sv (.bool v1))], [])) (fun v1 h => ?_) fun v1 h => ?_
 refine Xab ?_
 refine kO hT hC ?_
 refine kC hC [] Tryz.call136 h (fun _ => Xau) fun q2 h => ?_
 iterate 2 refine kO hT hC ?_
 refine kS h ?_ ?_ <;> intro b1 h
 refine kI hT hC (kn b1) ?_
 refine kE hC (kn b1) [] Tryz.call136 h (fun _ => Xau) fun q3 h => ?_
 refine kI hT hC (kn b1) ?_
 refine kP hC false (kn b1) ?_
 refine Vc.nil ?_
 exact kM
 iterate 3 refine kF hC (kn b1) ?_
 refine kP hC true (kn b1) ?_
 refine Vc.nil ?_
 exact kM
 refine kS h ?_ ?_ <;> intro b2 h
 refine kt b2 ?_
 refine Xac ?_
 iterate 2 refine kO hT hC ?_
 refine Vc.nil ?_
 refine Xah ?_
 refine Xap ?_
 exact kR
 refine kf b2 ?_
 refine Xaf ?_
 refine Xae ?_
 refine Xac ?_
 iterate 5 refine kO hT hC ?_
 refine kC hC [] Tryz.call154 h (fun _ => Ygq) fun q4 h => ?_
 iterate 2 refine kO hT hC ?_
 refine Vc.nil ?_
 refine Xah ?_
 exact kR
def Ych (r : Bool) : AV := .sv (.bool r)
def Ycg (r : Bool) : Xa8 := []
theorem Xrs {p0 p1 p2 r} (h : Xi7 p0 p1 p2 = some r) : AC Tryz.prog 177 [.agg [.sv (.int .i64 p0.Wide), .sv (.int .i64 p0.High), .sv (.str p0.Dots)], .sv (.int .i64 p1), .sv (.int .i64 p2)] [] (Ych r) (Ycg r) := by
 refine Xag hT Tryz.func177 rfl fun C hC => ?_
 unfold Xi7 at h
 refine Xac ?_
 iterate 2 refine kO hT hC ?_
 refine Vc.nil ?_
 refine kL [1,2,3,6] [48] [_,_,_,_] [_] ?_
 refine kA h (fun v1 => ([(6, .sv (.bool v1)), (1, .any), (2, .any), (3, .any)], [(48, none)])) (fun v1 h => ?_) fun v1 h => ?_
 refine Xab ?_
 refine kO hT hC ?_
 refine kQ hT hC h fun h => ?_
 iterate 2 refine kO hT hC ?_
 refine kS h ?_ ?_ <;> intro b1 h
 refine kI hT hC b1 ?_
 refine kJ hT hC b1 h fun h => ?_
 refine kI hT hC b1 ?_
 refine kP hC true b1 ?_
 refine kO hT hC ?_
 refine kS h ?_ ?_ <;> intro b2 h
 iterate 3 refine kI hT hC b2 ?_
 refine kE hC b2 [] Tryz.call149 h (fun _ => Xhw) fun q2 h => ?_
 refine kP hC true b2 ?_
 refine kO hT hC ?_
 refine Vc.nil ?_
 exact kM
 iterate 4 refine kF hC b2 ?_
 refine kP hC false b2 ?_
 refine kO hT hC ?_
 refine Vc.nil ?_
 exact kM
 iterate 3 refine kF hC b1 ?_
 refine kP hC false b1 ?_
 refine kO hT hC ?_
 iterate 4 refine kF hC rfl ?_
 iterate 2 refine kO hT hC ?_
 refine Vc.nil ?_
 exact kM
 refine Xah ?_
 exact kR
def Ybd (r : Int) : AV := .sv (.int .i64 r)
def Ybc (r : Int) : Xa8 := []
theorem Xjw {p0 p1 p2 r} (h : Xeq p0 p1 p2 = some r) : AC Tryz.prog 208 [.sv (.int .i64 p0), .sv (.int .i64 p1), .sv (.int .i64 p2)] [] (Ybd r) (Ybc r) := by
 refine Xag hT Tryz.func208 rfl fun C hC => ?_
 unfold Xeq at h
 refine Xac ?_
 refine kO hT hC ?_
 refine Vc.nil ?_
 refine Xaq ?_
 refine kL [0,1,2] [] [_,_,_] [] ?_
 refine kA h (fun v1 => ([(14, .sv (.bool v1))], [])) (fun v1 h => ?_) fun v1 h => ?_
 refine Xab ?_
 iterate 4 refine kO hT hC ?_
 refine kS h ?_ ?_ <;> intro b1 h
 iterate 3 refine kF hC b1 ?_
 refine kP hC true b1 ?_
 refine Vc.nil ?_
 exact kM
 iterate 3 refine kI hT hC b1 ?_
 refine kP hC false b1 ?_
 refine Vc.nil ?_
 exact kM
 refine kS h ?_ ?_ <;> intro b2 h
 refine kt b2 ?_
 refine Xac ?_
 iterate 2 refine kO hT hC ?_
 refine Vc.nil ?_
 refine Xah ?_
 refine Xap ?_
 exact kR
 refine kf b2 ?_
 refine Xaf ?_
 refine Xae ?_
 refine Xaq ?_
 refine Xac ?_
 iterate 3 refine kO hT hC ?_
 refine Vc.nil ?_
 refine kS h ?_ ?_ <;> intro b3 h
 refine kt b3 ?_
 refine Xac ?_
 iterate 2 refine kO hT hC ?_
 refine Vc.nil ?_
 refine Xah ?_
 refine Xap ?_
 exact kR
 refine kf b3 ?_
 refine Xaf ?_
 refine Xae ?_
 refine Xac ?_
 iterate 2 refine kO hT hC ?_
 refine Vc.nil ?_
 refine Xah ?_
 exact kR
def Yiw (r : Int) : AV := .sv (.int .i64 r)
def Yiv (r : Int) : Xa8 := []
theorem Xmn {p0 p1 p2 r} (h : Xfc p0 p1 p2 = some r) : AC Tryz.prog 201 [.agg [.sv (.int .i64 p0.Wide), .sv (.int .i64 p0.High), .sv (.str p0.Dots)], .sv (.int .i64 p1), .sv (.int .i64 p2)] [] (Yiw r) (Yiv r) := by
 refine Xag hT Tryz.func201 rfl fun C hC => ?_
 unfold Xfc at h
 refine Xac ?_
 iterate 2 refine kO hT hC ?_
 refine Vc.nil ?_
 refine Xaq ?_
 refine Xac ?_
 refine kO hT hC ?_
 refine kC hC [] Tryz.call139 h (fun _ => Xhq) fun q1 h => ?_
 refine kO hT hC ?_
 refine Vc.nil ?_
 refine kS h ?_ ?_ <;> intro b1 h
 refine kt b1 ?_
 refine Xac ?_
 refine kO hT hC ?_
 refine Vc.nil ?_
 refine Xah ?_
 refine Xap ?_
 exact kR
 refine kf b1 ?_
 refine Xaf ?_
 refine Xae ?_
 refine Xd7 hm ?_
 iterate 6 refine kO hT hC ?_
 refine kC hC [] Tryz.call208 h (fun _ => Xjw) fun q2 h => ?_
 iterate 7 refine kO hT hC ?_
 refine kC hC [] Tryz.call208 h (fun _ => Xjw) fun q3 h => ?_
 refine kO hT hC ?_
 refine kQ hT hC h fun h => ?_
 iterate 2 refine kO hT hC ?_
 refine kD ?_
 refine Xah ?_
 exact kR
def Ybi (r : (Xkb × Bool)) : AV := .tup [.agg [.own 16, .own 17, .sv (.int .i64 r.1.Corner)], .sv (.bool r.2)]
def Ybh (r : (Xkb × Bool)) : Xa8 := [(16, .ints .i64 r.1.Above), (17, .ints .i64 r.1.Left)]
theorem Yfy {p0 p1 p2 r} (h : Xgv p0 p1 p2 = some r) : AC Tryz.prog 178 [.agg [.sv (.int .i64 p0.Wide), .sv (.int .i64 p0.High), .sv (.str p0.Dots)], .sv (.int .i64 p1), .sv (.int .i64 p2)] [] (Ybi r) (Ybh r) := by
 refine Xag hT Tryz.func178 rfl fun C hC => ?_
 unfold Xgv at h
 refine Xac ?_
 iterate 3 refine kO hT hC ?_
 refine Vc.nil ?_
 refine Xaq ?_
 refine Xac ?_
 iterate 3 refine kO hT hC ?_
 refine kC hC [] Tryz.call177 h (fun _ => Xrs) fun q1 h => ?_
 refine kO hT hC ?_
 refine Vc.nil ?_
 refine kS h ?_ ?_ <;> intro b1 h
 refine kt b1 ?_
 refine Xac ?_
 iterate 3 refine kO hT hC ?_
 refine Vc.nil ?_
 refine Xah ?_
 refine Xap ?_
 obtain rfl := kj h
 refine Xbt (τ := ⟨[(6, .ptr 2000000 0), (7, .sv (.bool false))], [(16, some (.ints .i64 [])), (17, some (.ints .i64 [])), (2000000, some (.box [.own 16, .own 17, .sv (.int .i64 0)]))]⟩) ?_ rfl ⟨rfl, rfl, trivial⟩
 refine Xf7 hC 96 0 1025 (.ints .i64 []) rfl rfl rfl rfl rfl trivial ?_
 refine Xf7 hC 96 1 1026 (.ints .i64 []) rfl rfl rfl rfl rfl trivial ?_
 apply Xbz hC [(16, 1025), (17, 1026), (2000000, 96)]
 exact co
 rfl
 decide
 rfl
 refine kf b1 ?_
 refine Xaf ?_
 refine Xae ?_
 refine Xac ?_
 iterate 3 refine kO hT hC ?_
 refine Vc.nil ?_
 refine Xaq ?_
 refine Xac ?_
 refine kO hT hC ?_
 refine Vc.nil ?_
 refine kL [1,2,3,6,8,9] [48,96,128] [_,_,_,_,_,_] [_,_,_] ?_
 obtain ⟨v13, hl, h⟩ := Xba h
 refine Yt6 (fun v7 => ([(9, .sv (.int .i64 v7.1))], [(128, some (.box [.own 1049, .own 1050, .sv (.int .i64 (-1))])), (1049, some (.ints .i64 v7.2.1)), (1050, some (.ints .i64 v7.2.2))])) (fun v13 => ([(9, .any)], [(128, some (.box [.own 1053, .own 1054, .sv (.int .i64 (-1))])), (1053, some (.ints .i64 v13.1)), (1054, some (.ints .i64 v13.2))])) hl ?_ ?_ ?_
 refine Xf7 hC 128 0 1055 (.ints .i64 []) rfl rfl rfl rfl rfl trivial ?_
 refine Xf7 hC 128 1 1056 (.ints .i64 []) rfl rfl rfl rfl rfl trivial ?_
 try dsimp only
 apply Xbz hC [(1049, 1055), (1050, 1056)]
 exact co
 rfl
 decide
 rfl
 intro v7 s hs
 have h := hs
 unfold Xea at h
 refine Xaq ?_
 refine Xac ?_
 iterate 2 refine kO hT hC ?_
 refine Vc.nil ?_
 refine kS h ?_ ?_ <;> intro b8 h
 refine kt b8 ?_
 refine Xaf ?_
 refine Xae ?_
 refine kL [1,2,3,6,8,9] [48,96,128,1049,1050] [_,_,_,_,_,_] [_,_,_,_,_] ?_
 refine kA h (fun v14 => ([], [(1049, some (.ints .i64 v14.1)), (1050, some (.ints .i64 v14.2))])) (fun v14 h => ?_) fun v14 h => ?_
 refine Xao ?_
 refine kL [1,2,3,6,8,9] [48,96,128,1049,1050] [_,_,_,_,_,_] [_,_,_,_,_] ?_
 refine kA h (fun v15 => ([], [(1049, some (.ints .i64 v15))])) (fun v15 h => ?_) fun v15 h => ?_
 refine Xac ?_
 iterate 2 refine kO hT hC ?_
 refine Vc.nil ?_
 refine kS h ?_ ?_ <;> intro b9 h
 refine kt b9 ?_
 refine Xcz hm ?_
 iterate 8 refine kO hT hC ?_
 refine kC hC [] Tryz.call201 h (fun _ => Xmn) fun q16 h => ?_
 refine kO hT hC ?_
 refine kT hT hC h fun h => ?_
 iterate 2 refine kO hT hC ?_
 refine kD ?_
 obtain rfl := kj h
 exact Xdp (kW hC [(1049, 528)])
 refine kf b9 ?_
 refine Xaf ?_
 exact kM
 refine Xac ?_
 iterate 2 refine kO hT hC ?_
 refine Vc.nil ?_
 refine kS h ?_ ?_ <;> intro b10 h
 refine kt b10 ?_
 refine Xcz hm ?_
 iterate 8 refine kO hT hC ?_
 refine kC hC [] Tryz.call201 h (fun _ => Xmn) fun q17 h => ?_
 refine kO hT hC ?_
 refine kT hT hC h fun h => ?_
 iterate 2 refine kO hT hC ?_
 refine kD ?_
 refine Xar ?_
 obtain rfl := kj h
 exact Xdp (kW hC [(1050, 752)])
 refine kf b10 ?_
 refine Xaf ?_
 refine Xar ?_
 exact kM
 refine Xab ?_
 iterate 3 refine kO hT hC ?_
 refine Vc.nil ?_
 exact kG
 refine kf b8 ?_
 refine Xas ?_
 refine Xaz ?_
 obtain rfl := kj h
 exact Yqy (Yxo (kW hC [(1053, 1049), (1054, 1050)]))
 refine Xae ?_
 refine kL [1,2,3,6,8] [48,96,128,1053,1054] [_,_,_,_,_] [_,_,_,_,_] ?_
 refine kA h (fun v19 => ([(1, .any), (2, .any), (3, .any)], [(128, some (.box [.own 1053, .own 1054, .sv (.int .i64 v19)])), (48, none)])) (fun v19 h => ?_) fun v19 h => ?_
 refine kL [1,2,3,6,8] [48,96,128,1053,1054] [_,_,_,_,_] [_,_,_,_,_] ?_
 refine kA h (fun v20 => ([(54, .sv (.bool v20))], [])) (fun v20 h => ?_) fun v20 h => ?_
 refine Xab ?_
 iterate 3 refine kO hT hC ?_
 refine kS h ?_ ?_ <;> intro b11 h
 iterate 2 refine kI hT hC b11 ?_
 refine kP hC true b11 ?_
 refine Vc.nil ?_
 exact kM
 iterate 2 refine kF hC b11 ?_
 refine kP hC false b11 ?_
 refine Vc.nil ?_
 exact kM
 refine kS h ?_ ?_ <;> intro b12 h
 refine kt b12 ?_
 refine Xab ?_
 iterate 5 refine kO hT hC ?_
 refine kC hC [] Tryz.call201 h (fun _ => Xmn) fun q21 h => ?_
 iterate 2 refine kO hT hC ?_
 refine Vc.nil ?_
 exact kM
 refine kf b12 ?_
 refine Xaf ?_
 exact kM
 refine Xac ?_
 iterate 3 refine kO hT hC ?_
 refine Vc.nil ?_
 refine Xah ?_
 obtain rfl := kj h
 exact Xbt (τ := ⟨[(6, .ptr 2000000 0), (7, .sv (.bool true))], [(16, some (.ints .i64 v13.1)), (17, some (.ints .i64 v13.2)), (2000000, some (.box [.own 16, .own 17, .sv (.int .i64 v19)]))]⟩) (kW hC [(16, 1053), (17, 1054), (2000000, 96)]) rfl ⟨rfl, rfl, trivial⟩
def Xnh (r : Int) : AV := .sv (.int .i64 r)
def Xng (r : Int) : Xa8 := []
theorem Yi8 {p0 p1 r} (h : Xne p0 p1 = some r) : AC Tryz.prog 223 [.sv (.int .i64 p0), .sv (.int .i64 p1)] [] (Xnh r) (Xng r) := by
 refine Xag hT Tryz.func223 rfl fun C hC => ?_
 unfold Xne at h
 refine Xac ?_
 refine kO hT hC ?_
 refine Vc.nil ?_
 refine Xaq ?_
 refine kL [0,1] [] [_,_] [] ?_
 refine kA h (fun v1 => ([(25, .sv (.bool v1))], [])) (fun v1 h => ?_) fun v1 h => ?_
 refine Xab ?_
 iterate 3 refine kO hT hC ?_
 refine kS h ?_ ?_ <;> intro b1 h
 iterate 2 refine kI hT hC b1 ?_
 refine kP hC true b1 ?_
 refine kO hT hC ?_
 refine kS h ?_ ?_ <;> intro b2 h
 iterate 2 refine kF hC b2 ?_
 refine kP hC true b2 ?_
 refine kO hT hC ?_
 iterate 5 refine kF hC rfl ?_
 refine kO hT hC ?_
 refine Vc.nil ?_
 exact kM
 iterate 2 refine kI hT hC b2 ?_
 refine kP hC false b2 ?_
 refine kO hT hC ?_
 refine kS h ?_ ?_ <;> intro b3 h
 iterate 5 refine kF hC b3 ?_
 refine kP hC true b3 ?_
 refine Vc.nil ?_
 exact kM
 iterate 5 refine kI hT hC b3 ?_
 refine kP hC false b3 ?_
 refine Vc.nil ?_
 exact kM
 iterate 2 refine kF hC b1 ?_
 refine kP hC false b1 ?_
 refine kO hT hC ?_
 iterate 2 refine kI hT hC rfl ?_
 iterate 2 refine kO hT hC ?_
 refine kS h ?_ ?_ <;> intro b4 h
 iterate 5 refine kF hC b4 ?_
 refine kP hC true b4 ?_
 refine Vc.nil ?_
 exact kM
 iterate 5 refine kI hT hC b4 ?_
 refine kP hC false b4 ?_
 refine Vc.nil ?_
 exact kM
 refine kS h ?_ ?_ <;> intro b5 h
 refine kt b5 ?_
 refine Xac ?_
 refine kO hT hC ?_
 refine Vc.nil ?_
 refine Xah ?_
 refine Xap ?_
 exact kR
 refine kf b5 ?_
 refine Xaf ?_
 refine Xae ?_
 refine Xac ?_
 refine kO hT hC ?_
 refine Vc.nil ?_
 refine Xaq ?_
 refine Xac ?_
 refine kO hT hC ?_
 refine Vc.nil ?_
 refine kL [0,1,5,6] [] [_,_,_,_] [] ?_
 obtain ⟨o48, hl, h⟩ := Xba h
 refine Xd8 (fun v17 => ([(5, .sv (.int .i64 v17.1)), (6, .sv (.int .i64 v17.2))], [])) (fun v33 => ([(0, .any), (1, .any), (5, .any), (6, .any)], [])) (fun r => Xl1 C T Tryz.f223.results.toList (Xnh r) (Xng r)) hl ?_ ?_ ?_ ?_
 try dsimp only
 apply Xbz hC []
 exact co
 rfl
 decide
 rfl
 intro v17 s hs
 have h := hs
 unfold Xjz at h
 refine Xaq ?_
 refine Xac ?_
 iterate 5 refine kO hT hC ?_
 refine Vc.nil ?_
 refine kS h ?_ ?_ <;> intro b32 h
 refine kt b32 ?_
 refine Xaf ?_
 refine Xae ?_
 refine Xaq ?_
 refine Xao ?_
 refine Xac ?_
 refine kO hT hC ?_
 refine Vc.nil ?_
 refine kL [0,1,5,6,7] [] [_,_,_,_,_] [] ?_
 obtain ⟨o47, hl, h⟩ := Xba h
 refine Xd8 (fun v38 => ([(5, .sv (.int .i64 v38.1)), (7, .sv (.int .i64 v38.2))], [])) (fun v43 => ([(5, .sv (.int .i64 v43)), (7, .any)], [])) (fun r => Xl1 C T Tryz.f223.results.toList (Xnh r) (Xng r)) hl ?_ ?_ ?_ ?_
 try dsimp only
 apply Xbz hC []
 exact co
 rfl
 decide
 rfl
 intro v38 s hs
 have h := hs
 unfold Xnf at h
 refine Xaq ?_
 refine Xac ?_
 iterate 3 refine kO hT hC ?_
 refine Vc.nil ?_
 refine kS h ?_ ?_ <;> intro b41 h
 refine kt b41 ?_
 refine Xaf ?_
 refine Xae ?_
 refine kL [0,1,5,6,7] [] [_,_,_,_,_] [] ?_
 refine Yct h (fun (v44 : Int) => ([(5, .sv (.int .i64 v44))], [])) (fun v44 h => ?_) (fun h => ?_)
 refine Xab ?_
 iterate 3 refine kO hT hC ?_
 refine Vc.nil ?_
 exact kG
 refine Xao ?_
 refine Xac ?_
 iterate 2 refine kO hT hC ?_
 refine Vc.nil ?_
 refine kL [0,1,5,6,7,8] [] [_,_,_,_,_,_] [] ?_
 refine kA h (fun v45 => ([(8, .sv (.int .i64 v45))], [])) (fun v45 h => ?_) fun v45 h => ?_
 refine Xac ?_
 refine kO hT hC ?_
 refine kQ hT hC h fun h => ?_
 refine kO hT hC ?_
 refine Vc.nil ?_
 refine kS h ?_ ?_ <;> intro b42 h
 refine kt b42 ?_
 refine Xab ?_
 iterate 5 refine kO hT hC ?_
 refine Vc.nil ?_
 exact kM
 refine kf b42 ?_
 refine Xaf ?_
 exact kM
 refine Xaq ?_
 refine Xac ?_
 iterate 5 refine kO hT hC ?_
 refine kC hC [] Tryz.call136 h (fun _ => Xau) fun q46 h => ?_
 refine kO hT hC ?_
 refine Vc.nil ?_
 refine kS h ?_ ?_ <;> intro b43 h
 refine kt b43 ?_
 refine Xas ?_
 refine Xaz ?_
 refine Yjy ?_
 exact Xzi v38.1 h (kW hC [])
 refine kf b43 ?_
 refine Xaf ?_
 refine Xae ?_
 refine Xaq ?_
 refine Xac ?_
 iterate 3 refine kO hT hC ?_
 refine Vc.nil ?_
 refine kS h ?_ ?_ <;> intro b44 h
 refine kt b44 ?_
 refine Xac ?_
 iterate 8 refine kO hT hC ?_
 refine Vc.nil ?_
 refine Xah ?_
 refine Xap ?_
 refine Xcr ?_
 refine Yvk ?_
 obtain rfl := kj h
 refine Xku ?_
 refine Xkr ?_
 exact Xbt (Xgk.refl _) rfl trivial
 refine kf b44 ?_
 refine Xaf ?_
 refine Xae ?_
 refine Xab ?_
 iterate 3 refine kO hT hC ?_
 refine Vc.nil ?_
 refine Xar ?_
 exact Xzi (Xaa .i64 (v38.1 + 1)) h (kW hC [])
 refine kf b41 ?_
 refine Xas ?_
 refine Xaz ?_
 exact kb
 intro v43 e
 subst e
 refine Xar ?_
 refine Xae ?_
 refine Xab ?_
 iterate 3 refine kO hT hC ?_
 refine Vc.nil ?_
 exact kG
 intro r' σ' e hE
 subst e
 obtain rfl := kj h
 refine Xcr ?_
 refine Xap ?_
 refine Xku ?_
 refine Xkr ?_
 exact hE
 refine kf b32 ?_
 refine Xas ?_
 refine Xaz ?_
 exact kb
 intro v33 e
 subst e
 refine Xae ?_
 refine Xac ?_
 refine kO hT hC ?_
 refine Vc.nil ?_
 refine Xah ?_
 exact kR
 intro r' σ' e hE
 subst e
 obtain rfl := kj h
 refine Xap ?_
 exact hE
def Xwn (r : ((List Int) × Bool)) : AV := .tup [.own 16, .sv (.bool r.2)]
def Xwm (r : ((List Int) × Bool)) : Xa8 := [(16, .ints .i64 r.1)]
theorem Xkz {p0 p1 r} (h : Xc5 p0 p1 = some r) : AC Tryz.prog 202 [.sv (.int .i64 p0), .sv (.ints .i64 p1)] [] (Xwn r) (Xwm r) := by
 refine Xag hT Tryz.func202 rfl fun C hC => ?_
 unfold Xc5 at h
 refine Xac ?_
 iterate 2 refine kO hT hC ?_
 refine Vc.nil ?_
 refine Xaq ?_
 refine kL [0,1] [] [_,_] [] ?_
 refine kA h (fun v1 => ([(21, .sv (.bool v1))], [])) (fun v1 h => ?_) fun v1 h => ?_
 refine Xab ?_
 iterate 3 refine kO hT hC ?_
 refine kS h ?_ ?_ <;> intro b1 h
 iterate 2 refine kI hT hC b1 ?_
 refine kP hC true b1 ?_
 refine kO hT hC ?_
 refine kS h ?_ ?_ <;> intro b2 h
 iterate 6 refine kF hC b2 ?_
 refine kP hC true b2 ?_
 refine Vc.nil ?_
 exact kM
 iterate 6 refine kI hT hC b2 ?_
 refine kP hC false b2 ?_
 refine Vc.nil ?_
 exact kM
 iterate 2 refine kF hC b1 ?_
 refine kP hC false b1 ?_
 refine kO hT hC ?_
 iterate 6 refine kI hT hC rfl ?_
 refine kO hT hC ?_
 refine Vc.nil ?_
 exact kM
 refine kS h ?_ ?_ <;> intro b3 h
 refine kt b3 ?_
 refine Xac ?_
 iterate 3 refine kO hT hC ?_
 refine Vc.nil ?_
 refine Xah ?_
 refine Xap ?_
 obtain rfl := kj h
 exact Xbt (τ := ⟨[(4, .own 16), (5, .sv (.bool false))], [(16, some (.ints .i64 ([] : List Int)))]⟩) (kW hC [(16, 352)]) rfl ⟨rfl, trivial⟩
 refine kf b3 ?_
 refine Xaf ?_
 refine Xae ?_
 refine Xac ?_
 iterate 2 refine kO hT hC ?_
 obtain ⟨hq, h⟩ := Xa5 h
 refine Xw3 hT hC rfl rfl rfl rfl ⟨hq.1, hq.2.1, hq.2.2, by decide⟩ ?_
 refine kO hT hC ?_
 refine Vc.nil ?_
 refine Xaq ?_
 refine Xac ?_
 refine kO hT hC ?_
 refine Vc.nil ?_
 refine kL [0,1,6,7] [400] [_,_,_,_] [_] ?_
 refine kX h (fun v4 => ([(7, .sv (.int .i64 v4.1))], [(400, some (.ints .i64 v4.2))])) (fun v7 => ([(0, .any), (1, .any), (7, .any)], [(400, some (.ints .i64 v7))])) (kW hC []) (fun v4 s h => ?_) fun v7 h => ?_
 unfold Xcd at h
 refine Xaq ?_
 refine Xac ?_
 iterate 5 refine kO hT hC ?_
 refine Vc.nil ?_
 refine kS h ?_ ?_ <;> intro b6 h
 refine kt b6 ?_
 refine Xaf ?_
 refine Xae ?_
 refine Xaq ?_
 refine Xao ?_
 refine Xcz hm ?_
 iterate 3 refine kO hT hC ?_
 refine kC hC [] Tryz.call223 h (fun _ => Yi8) fun q8 h => ?_
 iterate 2 refine kO hT hC ?_
 refine kQ hT hC h fun h => ?_
 refine kO hT hC ?_
 iterate 2 refine kQ hT hC h fun h => ?_
 refine kD ?_
 refine Xar ?_
 refine Xae ?_
 refine Xab ?_
 iterate 3 refine kO hT hC ?_
 refine Vc.nil ?_
 exact kG
 refine kf b6 ?_
 refine Xas ?_
 refine Xaz ?_
 exact ku
 refine Xae ?_
 refine Xac ?_
 iterate 3 refine kO hT hC ?_
 refine Vc.nil ?_
 refine Xah ?_
 obtain rfl := kj h
 exact Xbt (τ := ⟨[(4, .own 16), (5, .sv (.bool true))], [(16, some (.ints .i64 v7))]⟩) (kW hC [(16, 400)]) rfl ⟨rfl, trivial⟩
def Ygm (r : Int) : AV := .sv (.int .i64 r)
def Ygl (r : Int) : Xa8 := []
theorem Yjb {p0 r} (h : Xgz p0 = some r) : AC Tryz.prog 224 [.sv (.int .i64 p0)] [] (Ygm r) (Ygl r) := by
 refine Xag hT Tryz.func224 rfl fun C hC => ?_
 unfold Xgz at h
 refine Xac ?_
 refine kO hT hC ?_
 refine Vc.nil ?_
 refine Xaq ?_
 refine Xac ?_
 refine kO hT hC ?_
 refine kC hC [] Tryz.call136 h (fun _ => Xau) fun q1 h => ?_
 refine kO hT hC ?_
 refine Vc.nil ?_
 refine kS h ?_ ?_ <;> intro b1 h
 refine kt b1 ?_
 refine Xac ?_
 refine kO hT hC ?_
 refine Vc.nil ?_
 refine Xah ?_
 refine Xap ?_
 exact kR
 refine kf b1 ?_
 refine Xaf ?_
 refine Xae ?_
 refine Xac ?_
 refine kO hT hC ?_
 refine Vc.nil ?_
 refine kL [0,3] [] [_,_] [] ?_
 refine kA h (fun v2 => ([(3, .sv (.int .i64 v2))], [])) (fun v2 h => ?_) fun v2 h => ?_
 refine Xac ?_
 refine kO hT hC ?_
 refine kQ hT hC h fun h => ?_
 refine Vc.nil ?_
 refine Xao ?_
 refine Xac ?_
 iterate 2 refine kO hT hC ?_
 refine Vc.nil ?_
 refine kS h ?_ ?_ <;> intro b2 h
 refine kt b2 ?_
 refine Xab ?_
 refine kO hT hC ?_
 refine Vc.nil ?_
 refine Xar ?_
 exact kM
 refine kf b2 ?_
 refine Xac ?_
 iterate 2 refine kO hT hC ?_
 refine Vc.nil ?_
 refine kS h ?_ ?_ <;> intro b3 h
 refine kt b3 ?_
 refine Xab ?_
 refine kO hT hC ?_
 refine Vc.nil ?_
 refine Xar ?_
 exact kM
 refine kf b3 ?_
 refine Xac ?_
 iterate 2 refine kO hT hC ?_
 refine Vc.nil ?_
 refine kS h ?_ ?_ <;> intro b4 h
 refine kt b4 ?_
 refine Xab ?_
 refine kO hT hC ?_
 refine Vc.nil ?_
 refine Xar ?_
 exact kM
 refine kf b4 ?_
 refine Xac ?_
 iterate 2 refine kO hT hC ?_
 refine Vc.nil ?_
 refine kS h ?_ ?_ <;> intro b5 h
 refine kt b5 ?_
 refine Xab ?_
 refine kO hT hC ?_
 refine Vc.nil ?_
 refine Xar ?_
 exact kM
 refine kf b5 ?_
 refine Xac ?_
 iterate 2 refine kO hT hC ?_
 refine Vc.nil ?_
 refine kS h ?_ ?_ <;> intro b6 h
 refine kt b6 ?_
 refine Xab ?_
 refine kO hT hC ?_
 refine Vc.nil ?_
 refine Xar ?_
 exact kM
 refine kf b6 ?_
 refine Xaf ?_
 refine Xar ?_
 exact kM
 refine Xaq ?_
 refine Xac ?_
 refine kO hT hC ?_
 refine Vc.nil ?_
 refine kL [0,3,4] [] [_,_,_] [] ?_
 refine kX h (fun v4 => ([(3, .sv (.int .i64 v4.1)), (4, .sv (.int .i64 v4.2))], [])) (fun v6 => ([(3, .sv (.int .i64 v6)), (0, .any), (4, .any)], [])) (kW hC []) (fun v4 s h => ?_) fun v6 h => ?_
 unfold Xig at h
 refine Xaq ?_
 refine Xac ?_
 iterate 2 refine kO hT hC ?_
 refine kQ hT hC h fun h => ?_
 refine kO hT hC ?_
 refine Vc.nil ?_
 refine kS h ?_ ?_ <;> intro b9 h
 refine kt b9 ?_
 refine Xaf ?_
 refine Xae ?_
 refine Xaq ?_
 refine Xao ?_
 refine Xab ?_
 iterate 3 refine kO hT hC ?_
 refine Vc.nil ?_
 refine Xar ?_
 refine Xae ?_
 refine Xab ?_
 iterate 3 refine kO hT hC ?_
 refine Vc.nil ?_
 exact kG
 refine kf b9 ?_
 refine Xas ?_
 refine Xaz ?_
 exact ku
 refine Xae ?_
 refine Xac ?_
 iterate 2 refine kO hT hC ?_
 refine Vc.nil ?_
 refine Xah ?_
 exact kR
def Xwd (r : Int) : AV := .sv (.int .i64 r)
def Xwc (r : Int) : Xa8 := []
theorem Xyk {p0 p1 r} (h : Xe2 p0 p1 = some r) : AC Tryz.prog 203 [.sv (.int .i64 p0), .sv (.int .i64 p1)] [] (Xwd r) (Xwc r) := by
 refine Xag hT Tryz.func203 rfl fun C hC => ?_
 unfold Xe2 at h
 refine Xac ?_
 refine kO hT hC ?_
 refine Vc.nil ?_
 refine Xaq ?_
 refine Xac ?_
 refine kO hT hC ?_
 refine kC hC [] Tryz.call136 h (fun _ => Xau) fun q1 h => ?_
 refine kO hT hC ?_
 refine Vc.nil ?_
 refine kS h ?_ ?_ <;> intro b1 h
 refine kt b1 ?_
 refine Xac ?_
 refine kO hT hC ?_
 refine Vc.nil ?_
 refine Xah ?_
 refine Xap ?_
 exact kR
 refine kf b1 ?_
 refine Xaf ?_
 refine Xae ?_
 refine Xac ?_
 iterate 2 refine kO hT hC ?_
 refine kC hC [] Tryz.call224 h (fun _ => Yjb) fun q2 h => ?_
 iterate 2 refine kO hT hC ?_
 refine Vc.nil ?_
 refine Xah ?_
 exact kR
def Ygi (r : Int) : AV := .sv (.int .i64 r)
def Ygh (r : Int) : Xa8 := []
theorem Xte {p0 p1 r} (h : Xgy p0 p1 = some r) : AC Tryz.prog 235 [.sv (.int .i64 p0), .sv (.int .i64 p1)] [] (Ygi r) (Ygh r) := by
 refine Xag hT Tryz.func235 rfl fun C hC => ?_
 unfold Xgy at h
 refine Xac ?_
 refine kO hT hC ?_
 refine Vc.nil ?_
 refine Xaq ?_
 refine kL [0,1] [] [_,_] [] ?_
 refine kA h (fun v1 => ([(14, .sv (.bool v1))], [])) (fun v1 h => ?_) fun v1 h => ?_
 refine Xab ?_
 refine kO hT hC ?_
 refine kC hC [] Tryz.call136 h (fun _ => Xau) fun q2 h => ?_
 iterate 2 refine kO hT hC ?_
 refine kS h ?_ ?_ <;> intro b1 h
 refine kI hT hC (kn b1) ?_
 refine kE hC (kn b1) [] Tryz.call136 h (fun _ => Xau) fun q3 h => ?_
 refine kI hT hC (kn b1) ?_
 refine kP hC false (kn b1) ?_
 refine Vc.nil ?_
 exact kM
 iterate 3 refine kF hC (kn b1) ?_
 refine kP hC true (kn b1) ?_
 refine Vc.nil ?_
 exact kM
 refine kS h ?_ ?_ <;> intro b2 h
 refine kt b2 ?_
 refine Xac ?_
 refine kO hT hC ?_
 refine Vc.nil ?_
 refine Xah ?_
 refine Xap ?_
 exact kR
 refine kf b2 ?_
 refine Xaf ?_
 refine Xae ?_
 refine Xac ?_
 refine kO hT hC ?_
 refine Vc.nil ?_
 refine Xaq ?_
 refine Xac ?_
 iterate 4 refine kO hT hC ?_
 refine Vc.nil ?_
 refine kL [5,6] [] [_,_] [] ?_
 refine kX h (fun v6 => ([(5, .sv (.int .i64 v6.1)), (6, .sv (.int .i64 v6.2))], [])) (fun v9 => ([(5, .sv (.int .i64 v9)), (6, .any)], [])) (kW hC []) (fun v6 s h => ?_) fun v9 h => ?_
 unfold Xie at h
 refine Xaq ?_
 refine Xac ?_
 iterate 2 refine kO hT hC ?_
 refine Vc.nil ?_
 refine kS h ?_ ?_ <;> intro b7 h
 refine kt b7 ?_
 refine Xaf ?_
 refine Xae ?_
 refine kL [5,6] [] [_,_] [] ?_
 refine kA h (fun v10 => ([(5, .sv (.int .i64 v10))], [])) (fun v10 h => ?_) fun v10 h => ?_
 refine Xao ?_
 refine Xac ?_
 refine kO hT hC ?_
 refine kQ hT hC h fun h => ?_
 refine kO hT hC ?_
 refine Vc.nil ?_
 refine kS h ?_ ?_ <;> intro b8 h
 refine kt b8 ?_
 refine Xab ?_
 iterate 3 refine kO hT hC ?_
 refine Vc.nil ?_
 refine Xar ?_
 exact kM
 refine kf b8 ?_
 refine Xaf ?_
 refine Xar ?_
 exact kM
 refine Xab ?_
 refine kO hT hC ?_
 refine kQ hT hC h fun h => ?_
 refine kO hT hC ?_
 refine Vc.nil ?_
 exact kG
 refine kf b7 ?_
 refine Xas ?_
 refine Xaz ?_
 exact ku
 refine Xae ?_
 refine Xac ?_
 iterate 2 refine kO hT hC ?_
 refine Vc.nil ?_
 refine Xah ?_
 exact kR
def Ygx (r : Int) : AV := .sv (.int .i64 r)
def Ygw (r : Int) : Xa8 := []
theorem Yjm {p0 p1 p2 r} (h : Xit p0 p1 p2 = some r) : AC Tryz.prog 234 [.sv (.ints .i64 p0), .sv (.int .i64 p1), .sv (.int .i64 p2)] [] (Ygx r) (Ygw r) := by
 refine Xag hT Tryz.func234 rfl fun C hC => ?_
 unfold Xit at h
 refine Xac ?_
 refine kO hT hC ?_
 refine kN ?_
 refine kO hT hC ?_
 refine Vc.nil ?_
 refine Xaq ?_
 refine Xac ?_
 refine kO hT hC ?_
 refine Vc.nil ?_
 refine kL [0,1,2,7,8] [] [_,_,_,_,_] [] ?_
 refine kX h (fun v3 => ([(7, .sv (.int .i64 v3.1)), (8, .sv (.int .i64 v3.2))], [])) (fun v6 => ([(7, .sv (.int .i64 v6)), (0, .any), (1, .any), (2, .any), (8, .any)], [])) (kW hC []) (fun v3 s h => ?_) fun v6 h => ?_
 unfold Xdy at h
 refine Xaq ?_
 refine Xac ?_
 iterate 2 refine kO hT hC ?_
 refine Vc.nil ?_
 refine kS h ?_ ?_ <;> intro b3 h
 refine kt b3 ?_
 refine Xaf ?_
 refine Xae ?_
 refine Xaq ?_
 refine Xao ?_
 refine Xcz hm ?_
 iterate 6 refine kO hT hC ?_
 refine kQ hT hC h fun h => ?_
 iterate 3 refine kO hT hC ?_
 refine kC hC [] Tryz.call235 h (fun _ => Xte) fun q7 h => ?_
 iterate 3 refine kO hT hC ?_
 refine kD ?_
 refine Xar ?_
 refine Xae ?_
 refine Xab ?_
 iterate 3 refine kO hT hC ?_
 refine Vc.nil ?_
 exact kG
 refine kf b3 ?_
 refine Xas ?_
 refine Xaz ?_
 exact ku
 refine Xae ?_
 refine Xac ?_
 iterate 2 refine kO hT hC ?_
 refine Vc.nil ?_
 refine Xah ?_
 exact kR
def Yce (r : (List Int)) : AV := .own 16
def Ycd (r : (List Int)) : Xa8 := [(16, .ints .i64 r)]
theorem Ygy {p0 r} (h : Xg5 p0 = some r) : AC Tryz.prog 225 [.sv (.ints .i64 p0)] [] (Yce r) (Ycd r) := by
 refine Xag hT Tryz.func225 rfl fun C hC => ?_
 unfold Xg5 at h
 refine Xac ?_
 refine kO hT hC ?_
 refine kN ?_
 iterate 2 refine kO hT hC ?_
 refine Vc.nil ?_
 refine Xaq ?_
 refine Xac ?_
 refine kO hT hC ?_
 refine Vc.nil ?_
 refine kL [0,3,4] [176] [_,_,_] [_] ?_
 refine kX h (fun v10 => ([(4, .sv (.int .i64 v10.1))], [(176, some (.ints .i64 v10.2))])) (fun v20 => ([(0, .any), (4, .any)], [(176, some (.ints .i64 v20))])) (kW hC []) (fun v10 s h => ?_) fun v20 h => ?_
 unfold Xcx at h
 refine Xaq ?_
 refine Xac ?_
 iterate 2 refine kO hT hC ?_
 refine Vc.nil ?_
 refine kS h ?_ ?_ <;> intro b9 h
 refine kt b9 ?_
 refine Xaf ?_
 refine Xae ?_
 refine Xaq ?_
 refine Xao ?_
 refine Xac ?_
 refine kO hT hC ?_
 refine Vc.nil ?_
 refine kL [0,3,4,5] [176] [_,_,_,_] [_] ?_
 refine kX h (fun v23 => ([(5, .sv (.int .i64 v23.1))], [(176, some (.ints .i64 v23.2))])) (fun v26 => ([(5, .any)], [(176, some (.ints .i64 v26))])) (kW hC []) (fun v23 s h => ?_) fun v26 h => ?_
 unfold Xcy at h
 refine Xaq ?_
 refine Xac ?_
 iterate 2 refine kO hT hC ?_
 refine Vc.nil ?_
 refine kS h ?_ ?_ <;> intro b12 h
 refine kt b12 ?_
 refine Xaf ?_
 refine Xae ?_
 refine Xaq ?_
 refine Xao ?_
 refine Xab ?_
 iterate 4 refine kO hT hC ?_
 refine kC hC [] Tryz.call234 h (fun _ => Yjm) fun q27 h => ?_
 refine kO hT hC ?_
 refine kT hT hC h fun h => ?_
 refine kO hT hC ?_
 refine Vc.nil ?_
 refine Xar ?_
 refine Xae ?_
 refine Xab ?_
 iterate 3 refine kO hT hC ?_
 refine Vc.nil ?_
 obtain rfl := kj h
 exact Ya8 (kW hC [(176, 416)])
 refine kf b12 ?_
 refine Xas ?_
 refine Xaz ?_
 exact ku
 refine Xar ?_
 refine Xae ?_
 refine Xab ?_
 iterate 3 refine kO hT hC ?_
 refine Vc.nil ?_
 exact kG
 refine kf b9 ?_
 refine Xas ?_
 refine Xaz ?_
 exact ku
 refine Xae ?_
 refine Xac ?_
 iterate 2 refine kO hT hC ?_
 refine Vc.nil ?_
 refine Xaq ?_
 refine Xac ?_
 refine kO hT hC ?_
 refine Vc.nil ?_
 refine kL [3,6,7] [176,432] [_,_,_] [_,_] ?_
 refine kX h (fun v60 => ([(7, .sv (.int .i64 v60.1))], [(432, some (.ints .i64 v60.2))])) (fun v91 => ([(3, .any), (7, .any)], [(432, some (.ints .i64 v91)), (176, none)])) (kW hC []) (fun v60 s h => ?_) fun v91 h => ?_
 unfold Xce at h
 refine Xaq ?_
 refine Xac ?_
 iterate 2 refine kO hT hC ?_
 refine Vc.nil ?_
 refine kS h ?_ ?_ <;> intro b39 h
 refine kt b39 ?_
 refine Xaf ?_
 refine Xae ?_
 refine Xaq ?_
 refine Xao ?_
 refine Xac ?_
 refine kO hT hC ?_
 refine Vc.nil ?_
 refine kL [3,6,7,8] [176,432] [_,_,_,_] [_,_] ?_
 refine kX h (fun v101 => ([(8, .sv (.int .i64 v101.1))], [(432, some (.ints .i64 v101.2))])) (fun v111 => ([(8, .any)], [(432, some (.ints .i64 v111))])) (kW hC []) (fun v101 s h => ?_) fun v111 h => ?_
 unfold Xcf at h
 refine Xaq ?_
 refine Xac ?_
 iterate 2 refine kO hT hC ?_
 refine Vc.nil ?_
 refine kS h ?_ ?_ <;> intro b48 h
 refine kt b48 ?_
 refine Xaf ?_
 refine Xae ?_
 refine Xaq ?_
 refine Xao ?_
 refine Xac ?_
 refine kO hT hC ?_
 refine Vc.nil ?_
 refine Xaq ?_
 refine Xac ?_
 refine kO hT hC ?_
 refine Vc.nil ?_
 refine kL [3,6,7,8,9,10] [176,432] [_,_,_,_,_,_] [_,_] ?_
 refine kX h (fun v114 => ([(9, .sv (.int .i64 v114.1)), (10, .sv (.int .i64 v114.2))], [])) (fun v117 => ([(9, .sv (.int .i64 v117)), (10, .any)], [])) (kW hC []) (fun v114 s h => ?_) fun v117 h => ?_
 unfold Xcg at h
 refine Xaq ?_
 refine Xac ?_
 iterate 2 refine kO hT hC ?_
 refine Vc.nil ?_
 refine kS h ?_ ?_ <;> intro b51 h
 refine kt b51 ?_
 refine Xaf ?_
 refine Xae ?_
 refine Xaq ?_
 refine Xao ?_
 refine Xcz hm ?_
 iterate 3 refine kO hT hC ?_
 refine kC hC [] Tryz.call235 h (fun _ => Xte) fun q118 h => ?_
 iterate 5 refine kO hT hC ?_
 iterate 2 refine kQ hT hC h fun h => ?_
 iterate 3 refine kO hT hC ?_
 refine kD ?_
 refine Xar ?_
 refine Xae ?_
 refine Xab ?_
 iterate 3 refine kO hT hC ?_
 refine Vc.nil ?_
 exact kG
 refine kf b51 ?_
 refine Xas ?_
 refine Xaz ?_
 exact ku
 refine Xae ?_
 refine Xab ?_
 iterate 3 refine kO hT hC ?_
 refine kT hT hC h fun h => ?_
 refine kO hT hC ?_
 refine Vc.nil ?_
 refine Xar ?_
 refine Xae ?_
 refine Xab ?_
 iterate 3 refine kO hT hC ?_
 refine Vc.nil ?_
 obtain rfl := kj h
 exact Ya8 (kW hC [(432, 896)])
 refine kf b48 ?_
 refine Xas ?_
 refine Xaz ?_
 exact ku
 refine Xar ?_
 refine Xae ?_
 refine Xab ?_
 iterate 3 refine kO hT hC ?_
 refine Vc.nil ?_
 exact kG
 refine kf b39 ?_
 refine Xas ?_
 refine Xaz ?_
 exact ku
 refine Xae ?_
 refine Xac ?_
 iterate 2 refine kO hT hC ?_
 refine Vc.nil ?_
 refine Xah ?_
 obtain rfl := kj h
 exact Xbt (τ := ⟨[(2, .own 16)], [(16, some (.ints .i64 v91))]⟩) (kW hC [(16, 432)]) rfl ⟨rfl, trivial⟩
def Yca (r : Int) : AV := .sv (.int .i64 r)
def Yb9 (r : Int) : Xa8 := []
theorem Xj6 {p0 p1 r} (h : Xcw p0 p1 = some r) : AC Tryz.prog 226 [.sv (.int .i64 p0), .sv (.int .i64 p1)] [] (Yca r) (Yb9 r) := by
 refine Xag hT Tryz.func226 rfl fun C hC => ?_
 unfold Xcw at h
 refine Xac ?_
 refine kO hT hC ?_
 refine kN ?_
 iterate 2 refine kO hT hC ?_
 refine kQ hT hC h fun h => ?_
 refine kO hT hC ?_
 refine Vc.nil ?_
 refine kL [0,1,5] [] [_,_,_] [] ?_
 refine kA h (fun v1 => ([(5, .sv (.int .i64 v1)), (0, .any), (1, .any)], [])) (fun v1 h => ?_) fun v1 h => ?_
 refine Xac ?_
 iterate 2 refine kO hT hC ?_
 refine kQ hT hC h fun h => ?_
 refine kO hT hC ?_
 refine Vc.nil ?_
 refine kS h ?_ ?_ <;> intro b1 h
 refine kt b1 ?_
 refine Xab ?_
 iterate 3 refine kO hT hC ?_
 refine Vc.nil ?_
 exact kM
 refine kf b1 ?_
 refine Xaf ?_
 exact kM
 refine Xac ?_
 iterate 2 refine kO hT hC ?_
 refine Vc.nil ?_
 refine Xah ?_
 exact kR
def Xwb (r : (List Int)) : AV := .own 16
def Xwa (r : (List Int)) : Xa8 := [(16, .ints .i64 r)]
theorem Xyg {p0 r} (h : Xe0 p0 = some r) : AC Tryz.prog 204 [.sv (.ints .i64 p0)] [] (Xwb r) (Xwa r) := by
 refine Xag hT Tryz.func204 rfl fun C hC => ?_
 unfold Xe0 at h
 refine Xac ?_
 refine kO hT hC ?_
 refine Vc.nil ?_
 refine Xaq ?_
 refine Xac ?_
 refine kO hT hC ?_
 refine kC hC [] Tryz.call200 h (fun _ => Xgg) fun q1 h => ?_
 refine kO hT hC ?_
 refine Vc.nil ?_
 refine kS h ?_ ?_ <;> intro b1 h
 refine kt b1 ?_
 refine Xac ?_
 iterate 2 refine kO hT hC ?_
 refine Vc.nil ?_
 refine Xah ?_
 refine Xap ?_
 obtain rfl := kj h
 exact Xbt (τ := ⟨[(2, .own 16)], [(16, some (.ints .i64 ([] : List Int)))]⟩) (kW hC [(16, 128)]) rfl ⟨rfl, trivial⟩
 refine kf b1 ?_
 refine Xaf ?_
 refine Xae ?_
 refine Xac ?_
 refine kO hT hC ?_
 refine kC hC [(16, 160)] Tryz.call225 h (fun _ => Ygy) fun q2 h => ?_
 refine kO hT hC ?_
 refine Vc.nil ?_
 refine Xaq ?_
 refine Xac ?_
 refine kO hT hC ?_
 refine Vc.nil ?_
 refine kL [3,4] [160] [_,_] [_] ?_
 refine kX h (fun v5 => ([(4, .sv (.int .i64 v5.1))], [(160, some (.ints .i64 v5.2))])) (fun v8 => ([(4, .any)], [(160, some (.ints .i64 v8))])) (kW hC []) (fun v5 s h => ?_) fun v8 h => ?_
 unfold Xfd at h
 refine Xaq ?_
 refine Xac ?_
 iterate 2 refine kO hT hC ?_
 refine Vc.nil ?_
 refine kS h ?_ ?_ <;> intro b4 h
 refine kt b4 ?_
 refine Xaf ?_
 refine Xae ?_
 refine Xaq ?_
 refine Xao ?_
 refine Xab ?_
 iterate 4 refine kO hT hC ?_
 iterate 2 refine kQ hT hC h fun h => ?_
 refine kO hT hC ?_
 refine kC hC [] Tryz.call226 h (fun _ => Xj6) fun q9 h => ?_
 iterate 2 refine kQ hT hC h fun h => ?_
 refine Vc.nil ?_
 refine Xar ?_
 refine Xae ?_
 refine Xab ?_
 iterate 3 refine kO hT hC ?_
 refine Vc.nil ?_
 exact kG
 refine kf b4 ?_
 refine Xas ?_
 refine Xaz ?_
 exact ku
 refine Xae ?_
 refine Xac ?_
 iterate 2 refine kO hT hC ?_
 refine Vc.nil ?_
 refine Xah ?_
 obtain rfl := kj h
 exact Xbt (τ := ⟨[(2, .own 16)], [(16, some (.ints .i64 v8))]⟩) (kW hC [(16, 160)]) rfl ⟨rfl, trivial⟩
def Yga (r : Int) : AV := .sv (.int .i64 r)
def Yf9 (r : Int) : Xa8 := []
theorem Yiz {p0 r} (h : Xkx p0 = some r) : AC Tryz.prog 236 [.sv (.int .i64 p0)] [] (Yga r) (Yf9 r) := by
 refine Xag hT Tryz.func236 rfl fun C hC => ?_
 unfold Xkx at h
 refine Xac ?_
 refine kO hT hC ?_
 refine Vc.nil ?_
 refine Xaq ?_
 refine Xac ?_
 refine kO hT hC ?_
 refine kC hC [] Tryz.call136 h (fun _ => Xau) fun q1 h => ?_
 refine kO hT hC ?_
 refine Vc.nil ?_
 refine kS h ?_ ?_ <;> intro b1 h
 refine kt b1 ?_
 refine Xac ?_
 refine kO hT hC ?_
 refine Vc.nil ?_
 refine Xah ?_
 refine Xap ?_
 exact kR
 refine kf b1 ?_
 refine Xaf ?_
 refine Xae ?_
 refine Xac ?_
 refine kO hT hC ?_
 iterate 2 refine kQ hT hC h fun h => ?_
 refine kO hT hC ?_
 refine kN ?_
 refine kO hT hC ?_
 iterate 2 refine kQ hT hC h fun h => ?_
 refine kO hT hC ?_
 refine Vc.nil ?_
 refine Xaq ?_
 refine kL [3,4] [] [_,_] [] ?_
 refine kA h (fun v2 => ([(19, .sv (.bool v2))], [])) (fun v2 h => ?_) fun v2 h => ?_
 refine Xab ?_
 iterate 3 refine kO hT hC ?_
 refine kS h ?_ ?_ <;> intro b2 h
 iterate 2 refine kI hT hC b2 ?_
 refine kP hC true b2 ?_
 refine Vc.nil ?_
 exact kM
 iterate 2 refine kF hC b2 ?_
 refine kP hC false b2 ?_
 refine Vc.nil ?_
 exact kM
 refine kS h ?_ ?_ <;> intro b3 h
 refine kt b3 ?_
 refine Xac ?_
 refine kO hT hC ?_
 refine Vc.nil ?_
 refine Xah ?_
 refine Xap ?_
 exact kR
 refine kf b3 ?_
 refine Xaf ?_
 refine Xae ?_
 refine Xaq ?_
 refine kL [3,4] [] [_,_] [] ?_
 refine kA h (fun v3 => ([(25, .sv (.bool v3)), (3, .any), (4, .any)], [])) (fun v3 h => ?_) fun v3 h => ?_
 refine Xab ?_
 iterate 3 refine kO hT hC ?_
 refine kS h ?_ ?_ <;> intro b4 h
 iterate 2 refine kI hT hC b4 ?_
 refine kP hC true b4 ?_
 refine Vc.nil ?_
 exact kM
 iterate 2 refine kF hC b4 ?_
 refine kP hC false b4 ?_
 refine Vc.nil ?_
 exact kM
 refine kS h ?_ ?_ <;> intro b5 h
 refine kt b5 ?_
 refine Xac ?_
 refine kO hT hC ?_
 refine Vc.nil ?_
 refine Xah ?_
 refine Xap ?_
 exact kR
 refine kf b5 ?_
 refine Xaf ?_
 refine Xae ?_
 refine Xac ?_
 refine kO hT hC ?_
 refine Vc.nil ?_
 refine Xah ?_
 exact kR
def Yb8 (r : Int) : AV := .sv (.int .i64 r)
def Yb7 (r : Int) : Xa8 := []
theorem Xfj {p0 p1 p2 p3 r} (h : Xbu p0 p1 p2 p3 = some r) : AC Tryz.prog 237 [.sv (.int .i64 p0), .sv (.int .i64 p1), .sv (.int .i64 p2), .sv (.int .i64 p3)] [] (Yb8 r) (Yb7 r) := by
 refine Xag hT Tryz.func237 rfl fun C hC => ?_
 unfold Xbu at h
 refine Xac ?_
 refine kO hT hC ?_
 refine Vc.nil ?_
 refine Xaq ?_
 refine Xac ?_
 refine kO hT hC ?_
 refine Vc.nil ?_
 refine Xao ?_
 refine Xac ?_
 iterate 2 refine kO hT hC ?_
 refine Vc.nil ?_
 refine kS h ?_ ?_ <;> intro b1 h
 refine kt b1 ?_
 refine Xac ?_
 iterate 2 refine kO hT hC ?_
 refine Vc.nil ?_
 refine Xah ?_
 refine Xcr ?_
 refine Xap ?_
 exact kR
 refine kf b1 ?_
 refine Xac ?_
 iterate 2 refine kO hT hC ?_
 refine Vc.nil ?_
 refine kS h ?_ ?_ <;> intro b2 h
 refine kt b2 ?_
 refine Xac ?_
 iterate 2 refine kO hT hC ?_
 refine Vc.nil ?_
 refine Xah ?_
 refine Xcr ?_
 refine Xap ?_
 exact kR
 refine kf b2 ?_
 refine Xaf ?_
 refine Xar ?_
 refine Xae ?_
 refine Xac ?_
 iterate 2 refine kO hT hC ?_
 refine Vc.nil ?_
 refine Xah ?_
 exact kR
def Ybt (r : Int) : AV := .sv (.int .i64 r)
def Ybs (r : Int) : Xa8 := []
theorem Ygf {p0 p1 r} (h : Xgx p0 p1 = some r) : AC Tryz.prog 227 [.sv (.int .i64 p0), .sv (.int .i64 p1)] [] (Ybt r) (Ybs r) := by
 refine Xag hT Tryz.func227 rfl fun C hC => ?_
 unfold Xgx at h
 refine Xac ?_
 refine kO hT hC ?_
 refine kN ?_
 refine kO hT hC ?_
 refine kC hC [] Tryz.call236 h (fun _ => Yiz) fun q1 h => ?_
 refine kO hT hC ?_
 refine Vc.nil ?_
 refine Xaq ?_
 refine kL [0,5] [] [_,_] [] ?_
 refine kA h (fun v2 => ([(16, .sv (.bool v2))], [])) (fun v2 h => ?_) fun v2 h => ?_
 refine Xab ?_
 refine kO hT hC ?_
 refine kC hC [] Tryz.call136 h (fun _ => Xau) fun q3 h => ?_
 iterate 2 refine kO hT hC ?_
 refine kS h ?_ ?_ <;> intro b1 h
 iterate 2 refine kI hT hC (kn b1) ?_
 refine kP hC false (kn b1) ?_
 refine Vc.nil ?_
 exact kM
 iterate 2 refine kF hC (kn b1) ?_
 refine kP hC true (kn b1) ?_
 refine Vc.nil ?_
 exact kM
 refine kS h ?_ ?_ <;> intro b2 h
 refine kt b2 ?_
 refine Xac ?_
 refine kO hT hC ?_
 refine Vc.nil ?_
 refine Xah ?_
 refine Xap ?_
 exact kR
 refine kf b2 ?_
 refine Xaf ?_
 refine Xae ?_
 refine Xac ?_
 refine kO hT hC ?_
 refine Vc.nil ?_
 refine kL [0,5,6] [] [_,_,_] [] ?_
 refine kA h (fun v4 => ([(6, .sv (.int .i64 v4)), (5, .any)], [])) (fun v4 h => ?_) fun v4 h => ?_
 refine Xac ?_
 refine kO hT hC ?_
 refine kQ hT hC h fun h => ?_
 refine Vc.nil ?_
 refine Xao ?_
 refine Xac ?_
 iterate 2 refine kO hT hC ?_
 refine Vc.nil ?_
 refine kS h ?_ ?_ <;> intro b3 h
 refine kt b3 ?_
 refine Xab ?_
 refine kO hT hC ?_
 refine kC hC [] Tryz.call237 h (fun _ => Xfj) fun q5 h => ?_
 refine kO hT hC ?_
 refine Vc.nil ?_
 refine Xar ?_
 exact kM
 refine kf b3 ?_
 refine Xac ?_
 iterate 2 refine kO hT hC ?_
 refine Vc.nil ?_
 refine kS h ?_ ?_ <;> intro b4 h
 refine kt b4 ?_
 refine Xab ?_
 refine kO hT hC ?_
 refine kC hC [] Tryz.call237 h (fun _ => Xfj) fun q6 h => ?_
 refine kO hT hC ?_
 refine Vc.nil ?_
 refine Xar ?_
 exact kM
 refine kf b4 ?_
 refine Xac ?_
 iterate 2 refine kO hT hC ?_
 refine Vc.nil ?_
 refine kS h ?_ ?_ <;> intro b5 h
 refine kt b5 ?_
 refine Xab ?_
 refine kO hT hC ?_
 refine kC hC [] Tryz.call237 h (fun _ => Xfj) fun q7 h => ?_
 refine kO hT hC ?_
 refine Vc.nil ?_
 refine Xar ?_
 exact kM
 refine kf b5 ?_
 refine Xac ?_
 iterate 2 refine kO hT hC ?_
 refine Vc.nil ?_
 refine kS h ?_ ?_ <;> intro b6 h
 refine kt b6 ?_
 refine Xab ?_
 refine kO hT hC ?_
 refine kC hC [] Tryz.call237 h (fun _ => Xfj) fun q8 h => ?_
 refine kO hT hC ?_
 refine Vc.nil ?_
 refine Xar ?_
 exact kM
 refine kf b6 ?_
 refine Xac ?_
 iterate 2 refine kO hT hC ?_
 refine Vc.nil ?_
 refine kS h ?_ ?_ <;> intro b7 h
 refine kt b7 ?_
 refine Xab ?_
 refine kO hT hC ?_
 refine kC hC [] Tryz.call237 h (fun _ => Xfj) fun q9 h => ?_
 refine kO hT hC ?_
 refine Vc.nil ?_
 refine Xar ?_
 exact kM
 refine kf b7 ?_
 refine Xac ?_
 iterate 2 refine kO hT hC ?_
 refine Vc.nil ?_
 refine kS h ?_ ?_ <;> intro b8 h
 refine kt b8 ?_
 refine Xab ?_
 refine kO hT hC ?_
 refine kC hC [] Tryz.call237 h (fun _ => Xfj) fun q10 h => ?_
 refine kO hT hC ?_
 refine Vc.nil ?_
 refine Xar ?_
 exact kM
 refine kf b8 ?_
 refine Xaf ?_
 refine Xar ?_
 exact kM
 refine Xaq ?_
 refine Xac ?_
 refine kO hT hC ?_
 refine Vc.nil ?_
 refine kL [0,6,7] [] [_,_,_] [] ?_
 refine kX h (fun v12 => ([(6, .sv (.int .i64 v12.1)), (7, .sv (.int .i64 v12.2))], [])) (fun v14 => ([(6, .sv (.int .i64 v14)), (0, .any), (7, .any)], [])) (kW hC []) (fun v12 s h => ?_) fun v14 h => ?_
 unfold Xeb at h
 refine Xaq ?_
 refine Xac ?_
 iterate 2 refine kO hT hC ?_
 refine kQ hT hC h fun h => ?_
 refine kO hT hC ?_
 refine Vc.nil ?_
 refine kS h ?_ ?_ <;> intro b11 h
 refine kt b11 ?_
 refine Xaf ?_
 refine Xae ?_
 refine Xaq ?_
 refine Xao ?_
 refine Xab ?_
 iterate 3 refine kO hT hC ?_
 refine Vc.nil ?_
 refine Xar ?_
 refine Xae ?_
 refine Xab ?_
 iterate 3 refine kO hT hC ?_
 refine Vc.nil ?_
 exact kG
 refine kf b11 ?_
 refine Xas ?_
 refine Xaz ?_
 exact ku
 refine Xae ?_
 refine Xac ?_
 iterate 2 refine kO hT hC ?_
 refine Vc.nil ?_
 refine Xah ?_
 exact kR
def Xwg (r : Int) : AV := .sv (.int .i64 r)
def Xwf (r : Int) : Xa8 := []
theorem Xyn {p0 p1 p2 r} (h : Xe3 p0 p1 p2 = some r) : AC Tryz.prog 205 [.sv (.int .i64 p0), .sv (.int .i64 p1), .sv (.int .i64 p2)] [] (Xwg r) (Xwf r) := by
 refine Xag hT Tryz.func205 rfl fun C hC => ?_
 unfold Xe3 at h
 refine Xac ?_
 refine kO hT hC ?_
 refine Vc.nil ?_
 refine Xaq ?_
 refine Xac ?_
 refine kO hT hC ?_
 refine kC hC [] Tryz.call136 h (fun _ => Xau) fun q1 h => ?_
 refine kO hT hC ?_
 refine Vc.nil ?_
 refine kS h ?_ ?_ <;> intro b1 h
 refine kt b1 ?_
 refine Xac ?_
 refine kO hT hC ?_
 refine Vc.nil ?_
 refine Xah ?_
 refine Xap ?_
 exact kR
 refine kf b1 ?_
 refine Xaf ?_
 refine Xae ?_
 refine Xac ?_
 iterate 3 refine kO hT hC ?_
 refine kC hC [] Tryz.call227 h (fun _ => Ygf) fun q2 h => ?_
 iterate 2 refine kO hT hC ?_
 refine Vc.nil ?_
 refine Xah ?_
 exact kR
def Xyz (r : (List Int)) : AV := .own 16
def Xyy (r : (List Int)) : Xa8 := [(16, .ints .i64 r)]
theorem Xqj {p0 r} (h : Xes p0 = some r) : AC Tryz.prog 229 [.sv (.ints .i64 p0)] [] (Xyz r) (Xyy r) := by
 refine Xag hT Tryz.func229 rfl fun C hC => ?_
 unfold Xes at h
 refine Xac ?_
 refine kO hT hC ?_
 refine kN ?_
 iterate 2 refine kO hT hC ?_
 refine Vc.nil ?_
 refine Xaq ?_
 refine Xac ?_
 refine kO hT hC ?_
 refine Vc.nil ?_
 refine kL [0,3,4] [208] [_,_,_] [_] ?_
 refine kX h (fun v4 => ([(4, .sv (.int .i64 v4.1))], [(208, some (.ints .i64 v4.2))])) (fun v8 => ([(0, .any), (4, .any)], [(208, some (.ints .i64 v8))])) (kW hC []) (fun v4 s h => ?_) fun v8 h => ?_
 unfold Xcv at h
 refine Xaq ?_
 refine Xac ?_
 iterate 2 refine kO hT hC ?_
 refine Vc.nil ?_
 refine kS h ?_ ?_ <;> intro b3 h
 refine kt b3 ?_
 refine Xaf ?_
 refine Xae ?_
 refine Xaq ?_
 refine Xao ?_
 refine Xac ?_
 iterate 3 refine kO hT hC ?_
 refine kQ hT hC h fun h => ?_
 iterate 2 refine kO hT hC ?_
 refine kN ?_
 iterate 4 refine kO hT hC ?_
 refine kQ hT hC h fun h => ?_
 iterate 2 refine kO hT hC ?_
 refine kN ?_
 iterate 4 refine kO hT hC ?_
 refine kQ hT hC h fun h => ?_
 iterate 2 refine kO hT hC ?_
 refine kN ?_
 iterate 4 refine kO hT hC ?_
 refine kQ hT hC h fun h => ?_
 iterate 2 refine kO hT hC ?_
 refine kN ?_
 iterate 4 refine kO hT hC ?_
 refine kN ?_
 iterate 4 refine kO hT hC ?_
 refine kN ?_
 refine kO hT hC ?_
 refine kC hC [] Tryz.call226 h (fun _ => Xj6) fun q9 h => ?_
 iterate 3 refine kO hT hC ?_
 refine kN ?_
 iterate 2 refine kO hT hC ?_
 refine kC hC [] Tryz.call226 h (fun _ => Xj6) fun q10 h => ?_
 iterate 2 refine kO hT hC ?_
 refine Vc.nil ?_
 refine Xab ?_
 iterate 14 refine kO hT hC ?_
 refine kT hT hC h fun h => ?_
 refine kO hT hC ?_
 refine Vc.nil ?_
 refine Xar ?_
 refine Xae ?_
 refine Xab ?_
 iterate 3 refine kO hT hC ?_
 refine Vc.nil ?_
 obtain rfl := kj h
 exact Ya8 (kW hC [(208, 1104)])
 refine kf b3 ?_
 refine Xas ?_
 refine Xaz ?_
 exact ku
 refine Xae ?_
 refine Xac ?_
 iterate 2 refine kO hT hC ?_
 refine Vc.nil ?_
 refine Xah ?_
 obtain rfl := kj h
 exact Xbt (τ := ⟨[(2, .own 16)], [(16, some (.ints .i64 v8))]⟩) (kW hC [(16, 208)]) rfl ⟨rfl, trivial⟩
def Ycc (r : (List Int)) : AV := .own 16
def Ycb (r : (List Int)) : Xa8 := [(16, .ints .i64 r)]
theorem Xro {p0 r} (h : Xfp p0 = some r) : AC Tryz.prog 228 [.sv (.ints .i64 p0)] [] (Ycc r) (Ycb r) := by
 refine Xag hT Tryz.func228 rfl fun C hC => ?_
 unfold Xfp at h
 refine Xac ?_
 refine kO hT hC ?_
 refine kN ?_
 obtain ⟨hq, h⟩ := Xa5 h
 refine Xw3 hT hC rfl rfl rfl rfl ⟨hq.1, hq.2.1, hq.2.2, by decide⟩ ?_
 refine kO hT hC ?_
 refine Vc.nil ?_
 refine Xaq ?_
 refine Xac ?_
 refine kO hT hC ?_
 refine Vc.nil ?_
 refine kL [0,3,4] [80] [_,_,_] [_] ?_
 refine kX h (fun v2 => ([(4, .sv (.int .i64 v2.1))], [(80, some (.ints .i64 v2.2))])) (fun v4 => ([(0, .any), (4, .any)], [(80, some (.ints .i64 v4))])) (kW hC []) (fun v2 s h => ?_) fun v4 h => ?_
 unfold Xdf at h
 refine Xaq ?_
 refine Xac ?_
 iterate 2 refine kO hT hC ?_
 refine Vc.nil ?_
 refine kS h ?_ ?_ <;> intro b3 h
 refine kt b3 ?_
 refine Xaf ?_
 refine Xae ?_
 refine Xaq ?_
 refine Xao ?_
 refine Xab ?_
 iterate 2 refine kO hT hC ?_
 refine kQ hT hC h fun h => ?_
 iterate 2 refine kO hT hC ?_
 refine kQ hT hC h fun h => ?_
 iterate 3 refine kO hT hC ?_
 refine kQ hT hC h fun h => ?_
 refine kO hT hC ?_
 iterate 2 refine kQ hT hC h fun h => ?_
 refine Vc.nil ?_
 refine Xar ?_
 refine Xae ?_
 refine Xab ?_
 iterate 3 refine kO hT hC ?_
 refine Vc.nil ?_
 exact kG
 refine kf b3 ?_
 refine Xas ?_
 refine Xaz ?_
 exact ku
 refine Xae ?_
 refine Xac ?_
 iterate 2 refine kO hT hC ?_
 refine Vc.nil ?_
 refine Xah ?_
 obtain rfl := kj h
 exact Xbt (τ := ⟨[(2, .own 16)], [(16, some (.ints .i64 v4))]⟩) (kW hC [(16, 80)]) rfl ⟨rfl, trivial⟩
def Xyj (r : (List Int)) : AV := .own 16
def Xyi (r : (List Int)) : Xa8 := [(16, .ints .i64 r)]
theorem Ybn {p0 r} (h : Xfu p0 = some r) : AC Tryz.prog 206 [.sv (.ints .i64 p0)] [] (Xyj r) (Xyi r) := by
 refine Xag hT Tryz.func206 rfl fun C hC => ?_
 unfold Xfu at h
 refine Xac ?_
 refine kO hT hC ?_
 refine Vc.nil ?_
 refine Xaq ?_
 refine Xac ?_
 refine kO hT hC ?_
 refine kC hC [] Tryz.call200 h (fun _ => Xgg) fun q1 h => ?_
 refine kO hT hC ?_
 refine Vc.nil ?_
 refine kS h ?_ ?_ <;> intro b1 h
 refine kt b1 ?_
 refine Xac ?_
 iterate 2 refine kO hT hC ?_
 refine Vc.nil ?_
 refine Xah ?_
 refine Xap ?_
 obtain rfl := kj h
 exact Xbt (τ := ⟨[(2, .own 16)], [(16, some (.ints .i64 ([] : List Int)))]⟩) (kW hC [(16, 128)]) rfl ⟨rfl, trivial⟩
 refine kf b1 ?_
 refine Xaf ?_
 refine Xae ?_
 refine Xac ?_
 refine kO hT hC ?_
 refine kC hC [(16, 160)] Tryz.call229 h (fun _ => Xqj) fun q2 h => ?_
 refine kC hC [(16, 176)] Tryz.call228 h (fun _ => Xro) fun q3 h => ?_
 refine kC hC [(16, 192)] Tryz.call229 h (fun _ => Xqj) fun q4 h => ?_
 refine kC hC [(16, 208)] Tryz.call228 h (fun _ => Xro) fun q5 h => ?_
 refine kO hT hC ?_
 refine Vc.nil ?_
 refine Xaq ?_
 refine Xac ?_
 refine kO hT hC ?_
 refine Vc.nil ?_
 refine kL [3,4] [208] [_,_] [_] ?_
 refine kX h (fun v8 => ([(4, .sv (.int .i64 v8.1))], [(208, some (.ints .i64 v8.2))])) (fun v11 => ([(4, .any)], [(208, some (.ints .i64 v11))])) (kW hC []) (fun v8 s h => ?_) fun v11 h => ?_
 unfold Xf5 at h
 refine Xaq ?_
 refine Xac ?_
 iterate 2 refine kO hT hC ?_
 refine Vc.nil ?_
 refine kS h ?_ ?_ <;> intro b4 h
 refine kt b4 ?_
 refine Xaf ?_
 refine Xae ?_
 refine Xaq ?_
 refine Xao ?_
 refine Xab ?_
 iterate 4 refine kO hT hC ?_
 iterate 2 refine kQ hT hC h fun h => ?_
 refine kO hT hC ?_
 refine kC hC [] Tryz.call226 h (fun _ => Xj6) fun q12 h => ?_
 iterate 2 refine kQ hT hC h fun h => ?_
 refine Vc.nil ?_
 refine Xar ?_
 refine Xae ?_
 refine Xab ?_
 iterate 3 refine kO hT hC ?_
 refine Vc.nil ?_
 exact kG
 refine kf b4 ?_
 refine Xas ?_
 refine Xaz ?_
 exact ku
 refine Xae ?_
 refine Xac ?_
 iterate 2 refine kO hT hC ?_
 refine Vc.nil ?_
 refine Xah ?_
 obtain rfl := kj h
 exact Xbt (τ := ⟨[(2, .own 16)], [(16, some (.ints .i64 v11))]⟩) (kW hC [(16, 208)]) rfl ⟨rfl, trivial⟩
def Xuc (r : ((List Int) × Bool)) : AV := .tup [.own 16, .sv (.bool r.2)]
def Xub (r : ((List Int) × Bool)) : Xa8 := [(16, .ints .i64 r.1)]
theorem Xnv {p0 p1 r} (h : Xdd p0 p1 = some r) : AC Tryz.prog 179 [.sv (.ints .i64 p0), .agg [.sv (.bool p1.Key), .sv (.int .i64 p1.Qp), .sv (.bool p1.Large), .sv (.bool p1.Exact)]] [] (Xuc r) (Xub r) := by
 refine Xag hT Tryz.func179 rfl fun C hC => ?_
 unfold Xdd at h
 refine Xac ?_
 iterate 3 refine kO hT hC ?_
 refine Vc.nil ?_
 refine Xaq ?_
 refine kL [0,3] [48] [_,_] [_] ?_
 refine kA h (fun v1 => ([(23, .sv (.bool v1))], [])) (fun v1 h => ?_) fun v1 h => ?_
 refine Xab ?_
 refine kO hT hC ?_
 refine kC hC [] Tryz.call144 h (fun _ => Xlb) fun q2 h => ?_
 iterate 2 refine kO hT hC ?_
 refine kS h ?_ ?_ <;> intro b1 h
 refine kI hT hC (kn b1) ?_
 refine kE hC (kn b1) [] Tryz.call200 h (fun _ => Xgg) fun q3 h => ?_
 refine kI hT hC (kn b1) ?_
 refine kP hC false (kn b1) ?_
 refine Vc.nil ?_
 exact kM
 iterate 3 refine kF hC (kn b1) ?_
 refine kP hC true (kn b1) ?_
 refine Vc.nil ?_
 exact kM
 refine kS h ?_ ?_ <;> intro b2 h
 refine kt b2 ?_
 refine Xac ?_
 iterate 3 refine kO hT hC ?_
 refine Vc.nil ?_
 refine Xah ?_
 refine Xap ?_
 obtain rfl := kj h
 exact Xbt (τ := ⟨[(4, .own 16), (5, .sv (.bool false))], [(16, some (.ints .i64 ([] : List Int)))]⟩) (kW hC [(16, 384)]) rfl ⟨rfl, trivial⟩
 refine kf b2 ?_
 refine Xaf ?_
 refine Xae ?_
 refine Xaq ?_
 refine Xac ?_
 iterate 2 refine kO hT hC ?_
 refine Vc.nil ?_
 refine kS h ?_ ?_ <;> intro b3 h
 refine kt b3 ?_
 refine Xac ?_
 refine kO hT hC ?_
 refine kC hC [(16, 448)] Tryz.call202 h (fun _ => Xkz) fun q4 h => ?_
 iterate 4 refine kO hT hC ?_
 refine Vc.nil ?_
 refine Xah ?_
 refine Xap ?_
 obtain rfl := kj h
 exact Xbt (τ := ⟨[(4, .own 16), (5, .sv (.bool q4.2))], [(16, some (.ints .i64 q4.1))]⟩) (kW hC [(16, 448)]) rfl ⟨rfl, trivial⟩
 refine kf b3 ?_
 refine Xaf ?_
 refine Xae ?_
 refine Xaq ?_
 refine Xac ?_
 iterate 2 refine kO hT hC ?_
 refine Vc.nil ?_
 refine kS h ?_ ?_ <;> intro b4 h
 refine kt b4 ?_
 refine Xac ?_
 refine kO hT hC ?_
 refine kC hC [(16, 560)] Tryz.call202 h (fun _ => Xkz) fun q5 h => ?_
 iterate 5 refine kO hT hC ?_
 refine Vc.nil ?_
 refine Xaq ?_
 refine Xac ?_
 refine kO hT hC ?_
 refine Vc.nil ?_
 refine kL [3,6,8] [48,560] [_,_,_] [_,_] ?_
 refine kX h (fun v8 => ([(8, .sv (.int .i64 v8.1))], [(560, some (.ints .i64 v8.2))])) (fun v11 => ([(3, .any), (8, .any)], [(560, some (.ints .i64 v11)), (48, none)])) (kW hC []) (fun v8 s h => ?_) fun v11 h => ?_
 unfold Xbi at h
 refine Xaq ?_
 refine Xac ?_
 iterate 2 refine kO hT hC ?_
 refine Vc.nil ?_
 refine kS h ?_ ?_ <;> intro b7 h
 refine kt b7 ?_
 refine Xaf ?_
 refine Xae ?_
 refine Xaq ?_
 refine Xao ?_
 refine Xcz hm ?_
 iterate 4 refine kO hT hC ?_
 iterate 2 refine kQ hT hC h fun h => ?_
 iterate 2 refine kO hT hC ?_
 refine kC hC [] Tryz.call203 h (fun _ => Xyk) fun q12 h => ?_
 iterate 2 refine kQ hT hC h fun h => ?_
 refine kD ?_
 refine Xar ?_
 refine Xae ?_
 refine Xab ?_
 iterate 3 refine kO hT hC ?_
 refine Vc.nil ?_
 exact kG
 refine kf b7 ?_
 refine Xas ?_
 refine Xaz ?_
 exact ku
 refine Xae ?_
 refine Xac ?_
 refine kO hT hC ?_
 refine kC hC [(16, 848)] Tryz.call204 h (fun _ => Xyg) fun q14 h => ?_
 iterate 2 refine kO hT hC ?_
 refine Vc.nil ?_
 refine Xah ?_
 refine Xap ?_
 obtain rfl := kj h
 exact Xbt (τ := ⟨[(4, .own 16), (5, .sv (.bool true))], [(16, some (.ints .i64 q14))]⟩) (kW hC [(16, 848)]) rfl ⟨rfl, trivial⟩
 refine kf b4 ?_
 refine Xaf ?_
 refine Xae ?_
 refine Xac ?_
 obtain ⟨hq, h⟩ := Xa5 h
 refine Xw3 hT hC rfl rfl rfl rfl ⟨hq.1, hq.2.1, hq.2.2, by decide⟩ ?_
 refine kO hT hC ?_
 refine Vc.nil ?_
 refine Xaq ?_
 refine Xac ?_
 refine kO hT hC ?_
 refine Vc.nil ?_
 refine kL [0,3,9,10] [48,864] [_,_,_,_] [_,_] ?_
 refine kX h (fun v31 => ([(10, .sv (.int .i64 v31.1))], [(864, some (.ints .i64 v31.2))])) (fun v48 => ([(0, .any), (3, .any), (10, .any)], [(864, some (.ints .i64 v48)), (48, none)])) (kW hC []) (fun v31 s h => ?_) fun v48 h => ?_
 unfold Xca at h
 refine Xaq ?_
 refine Xac ?_
 iterate 2 refine kO hT hC ?_
 refine Vc.nil ?_
 refine kS h ?_ ?_ <;> intro b22 h
 refine kt b22 ?_
 refine Xaf ?_
 refine Xae ?_
 refine Xaq ?_
 refine Xao ?_
 refine Xac ?_
 iterate 6 refine kO hT hC ?_
 refine kQ hT hC h fun h => ?_
 refine kC hC [(16, 1072)] Tryz.call202 h (fun _ => Xkz) fun q49 h => ?_
 iterate 5 refine kO hT hC ?_
 refine Vc.nil ?_
 refine Xaq ?_
 refine Xac ?_
 refine kO hT hC ?_
 refine Vc.nil ?_
 refine kL [0,3,9,10,11,13] [48,864,1072] [_,_,_,_,_,_] [_,_,_] ?_
 refine kX h (fun v52 => ([(13, .sv (.int .i64 v52.1))], [(1072, some (.ints .i64 v52.2))])) (fun v55 => ([(13, .any)], [(1072, some (.ints .i64 v55))])) (kW hC []) (fun v52 s h => ?_) fun v55 h => ?_
 unfold Xbf at h
 refine Xaq ?_
 refine Xac ?_
 iterate 2 refine kO hT hC ?_
 refine Vc.nil ?_
 refine kS h ?_ ?_ <;> intro b25 h
 refine kt b25 ?_
 refine Xaf ?_
 refine Xae ?_
 refine Xaq ?_
 refine Xao ?_
 refine Xcz hm ?_
 iterate 4 refine kO hT hC ?_
 iterate 2 refine kQ hT hC h fun h => ?_
 iterate 3 refine kO hT hC ?_
 refine kC hC [] Tryz.call205 h (fun _ => Xyn) fun q56 h => ?_
 iterate 2 refine kQ hT hC h fun h => ?_
 refine kD ?_
 refine Xar ?_
 refine Xae ?_
 refine Xab ?_
 iterate 3 refine kO hT hC ?_
 refine Vc.nil ?_
 exact kG
 refine kf b25 ?_
 refine Xas ?_
 refine Xaz ?_
 exact ku
 refine Xae ?_
 refine Xac ?_
 refine kO hT hC ?_
 refine kC hC [(16, 1376)] Tryz.call206 h (fun _ => Ybn) fun q58 h => ?_
 refine kO hT hC ?_
 refine kN ?_
 refine kO hT hC ?_
 refine Vc.nil ?_
 refine kL [0,3,9,10,14,15] [48,864,1376] [_,_,_,_,_,_] [_,_,_] ?_
 refine kX h (fun v60 => ([(15, .sv (.int .i64 v60.1))], [(864, some (.ints .i64 v60.2))])) (fun v62 => ([(14, .any), (15, .any)], [(864, some (.ints .i64 v62)), (1376, none)])) (kW hC []) (fun v60 s h => ?_) fun v62 h => ?_
 unfold Xbj at h
 refine Xaq ?_
 refine Xac ?_
 iterate 2 refine kO hT hC ?_
 refine Vc.nil ?_
 refine kS h ?_ ?_ <;> intro b28 h
 refine kt b28 ?_
 refine Xaf ?_
 refine Xae ?_
 refine Xaq ?_
 refine Xao ?_
 refine Xab ?_
 iterate 2 refine kO hT hC ?_
 refine kQ hT hC h fun h => ?_
 iterate 2 refine kO hT hC ?_
 refine kQ hT hC h fun h => ?_
 iterate 3 refine kO hT hC ?_
 refine kQ hT hC h fun h => ?_
 iterate 3 refine kO hT hC ?_
 refine kQ hT hC h fun h => ?_
 iterate 3 refine kO hT hC ?_
 iterate 4 refine kQ hT hC h fun h => ?_
 refine Vc.nil ?_
 refine Xar ?_
 refine Xae ?_
 refine Xab ?_
 iterate 3 refine kO hT hC ?_
 refine Vc.nil ?_
 exact kG
 refine kf b28 ?_
 refine Xas ?_
 refine Xaz ?_
 exact ku
 refine Xar ?_
 refine Xae ?_
 refine Xab ?_
 iterate 3 refine kO hT hC ?_
 refine Vc.nil ?_
 exact kG
 refine kf b22 ?_
 refine Xas ?_
 refine Xaz ?_
 exact ku
 refine Xae ?_
 refine Xac ?_
 iterate 3 refine kO hT hC ?_
 refine Vc.nil ?_
 refine Xah ?_
 obtain rfl := kj h
 exact Xbt (τ := ⟨[(4, .own 16), (5, .sv (.bool true))], [(16, some (.ints .i64 v48))]⟩) (kW hC [(16, 864)]) rfl ⟨rfl, trivial⟩
def Xqs (r : Bool) : AV := .sv (.bool r)
def Xqr (r : Bool) : Xa8 := []
theorem Xrt {p0 r} (h : Xi8 p0 = some r) : AC Tryz.prog 230 [.sv (.ints .i64 p0)] [] (Xqs r) (Xqr r) := by
 refine Xag hT Tryz.func230 rfl fun C hC => ?_
 unfold Xi8 at h
 refine Xac ?_
 refine kO hT hC ?_
 refine Vc.nil ?_
 refine Xaq ?_
 refine kL [0] [] [_] [] ?_
 refine kA h (fun v1 => ([(11, .sv (.bool v1))], [])) (fun v1 h => ?_) fun v1 h => ?_
 refine Xab ?_
 iterate 4 refine kO hT hC ?_
 refine kS h ?_ ?_ <;> intro b1 h
 iterate 3 refine kI hT hC b1 ?_
 refine kP hC true b1 ?_
 refine Vc.nil ?_
 exact kM
 iterate 3 refine kF hC b1 ?_
 refine kP hC false b1 ?_
 refine Vc.nil ?_
 exact kM
 refine kS h ?_ ?_ <;> intro b2 h
 refine kt b2 ?_
 refine Xac ?_
 refine kO hT hC ?_
 refine Vc.nil ?_
 refine Xah ?_
 refine Xap ?_
 exact kR
 refine kf b2 ?_
 refine Xaf ?_
 refine Xae ?_
 refine Xaq ?_
 refine Xac ?_
 refine kO hT hC ?_
 refine Vc.nil ?_
 refine kL [0,3] [] [_,_] [] ?_
 obtain ⟨o9, hl, h⟩ := Xba h
 refine Xd8 (fun v4 => ([(3, .sv (.int .i64 v4))], [])) (fun v7 => ([(0, .any), (3, .any)], [])) (fun r => Xl1 C T Tryz.f230.results.toList (Xqs r) (Xqr r)) hl ?_ ?_ ?_ ?_
 apply Xbz hC []
 exact co
 rfl
 decide
 rfl
 intro v4 s hs
 have h := hs
 unfold Xg8 at h
 refine Xaq ?_
 refine Xac ?_
 iterate 4 refine kO hT hC ?_
 refine Vc.nil ?_
 refine kS h ?_ ?_ <;> intro b7 h
 refine kt b7 ?_
 refine Xaf ?_
 refine Xae ?_
 refine Xaq ?_
 refine Xao ?_
 refine Xac ?_
 iterate 2 refine kO hT hC ?_
 refine kQ hT hC h fun h => ?_
 refine kO hT hC ?_
 refine kC hC [] Tryz.call136 h (fun _ => Xau) fun q8 h => ?_
 refine kO hT hC ?_
 refine Vc.nil ?_
 refine kS h ?_ ?_ <;> intro b8 h
 refine kt b8 ?_
 refine Xac ?_
 refine kO hT hC ?_
 refine Vc.nil ?_
 refine Xah ?_
 refine Xcr ?_
 refine Xap ?_
 obtain rfl := kj h
 refine Xku ?_
 refine Xkr ?_
 exact Xbt (Xgk.refl _) rfl trivial
 refine kf b8 ?_
 refine Xaf ?_
 refine Xar ?_
 refine Xae ?_
 refine Xab ?_
 iterate 3 refine kO hT hC ?_
 refine Vc.nil ?_
 exact kG
 refine kf b7 ?_
 refine Xas ?_
 refine Xaz ?_
 exact kb
 intro v7 e
 subst e
 refine Xae ?_
 refine Xac ?_
 refine kO hT hC ?_
 refine Vc.nil ?_
 refine Xah ?_
 exact kR
 intro r' σ' e hE
 subst e
 obtain rfl := kj h
 refine Xap ?_
 exact hE
def Ybk (r : Bool) : AV := .sv (.bool r)
def Ybj (r : Bool) : Xa8 := []
theorem Yf0 {p0 r} (h : Xlt p0 = some r) : AC Tryz.prog 209 [.agg [.sv (.ints .i64 p0.Above), .sv (.ints .i64 p0.Left), .sv (.int .i64 p0.Corner)]] [] (Ybk r) (Ybj r) := by
 refine Xag hT Tryz.func209 rfl fun C hC => ?_
 unfold Xlt at h
 refine Xac ?_
 iterate 2 refine kO hT hC ?_
 refine Vc.nil ?_
 refine kL [1,2] [16] [_,_] [_] ?_
 refine kA h (fun v1 => ([(2, .sv (.bool v1)), (1, .any)], [(16, none)])) (fun v1 h => ?_) fun v1 h => ?_
 refine Xab ?_
 iterate 2 refine kO hT hC ?_
 refine kC hC [] Tryz.call230 h (fun _ => Xrt) fun q2 h => ?_
 refine kO hT hC ?_
 refine kS h ?_ ?_ <;> intro b1 h
 iterate 2 refine kI hT hC b1 ?_
 refine kE hC b1 [] Tryz.call230 h (fun _ => Xrt) fun q3 h => ?_
 refine kP hC true b1 ?_
 refine kO hT hC ?_
 refine kS h ?_ ?_ <;> intro b2 h
 iterate 2 refine kI hT hC b2 ?_
 refine kE hC b2 [] Tryz.call136 h (fun _ => Xau) fun q4 h => ?_
 refine kP hC true b2 ?_
 refine kO hT hC ?_
 refine Vc.nil ?_
 exact kM
 iterate 3 refine kF hC b2 ?_
 refine kP hC false b2 ?_
 refine kO hT hC ?_
 refine Vc.nil ?_
 exact kM
 iterate 3 refine kF hC b1 ?_
 refine kP hC false b1 ?_
 refine kO hT hC ?_
 iterate 3 refine kF hC rfl ?_
 iterate 2 refine kO hT hC ?_
 refine Vc.nil ?_
 exact kM
 refine Xah ?_
 exact kR
def Xw1 (r : Int) : AV := .sv (.int .i64 r)
def Xw0 (r : Int) : Xa8 := []
theorem Xpc {p0 p1 r} (h : Xc7 p0 p1 = some r) : AC Tryz.prog 210 [.sv (.ints .i64 p0), .sv (.int .i64 p1)] [] (Xw1 r) (Xw0 r) := by
 refine Xag hT Tryz.func210 rfl fun C hC => ?_
 unfold Xc7 at h
 refine Xac ?_
 refine kO hT hC ?_
 refine Vc.nil ?_
 refine Xaq ?_
 refine Xac ?_
 iterate 3 refine kO hT hC ?_
 refine Vc.nil ?_
 refine kS h ?_ ?_ <;> intro b1 h
 refine kt b1 ?_
 refine Xac ?_
 refine kO hT hC ?_
 refine Vc.nil ?_
 refine Xah ?_
 refine Xap ?_
 exact kR
 refine kf b1 ?_
 refine Xaf ?_
 refine Xae ?_
 refine Xac ?_
 iterate 2 refine kO hT hC ?_
 refine kQ hT hC h fun h => ?_
 iterate 2 refine kO hT hC ?_
 refine Vc.nil ?_
 refine Xah ?_
 exact kR
def Yg3 (r : Int) : AV := .sv (.int .i64 r)
def Yg2 (r : Int) : Xa8 := []
theorem Yjp {p0 r} (h : Xiu p0 = some r) : AC Tryz.prog 211 [.agg [.sv (.ints .i64 p0.Above), .sv (.ints .i64 p0.Left), .sv (.int .i64 p0.Corner)]] [] (Yg3 r) (Yg2 r) := by
 refine Xag hT Tryz.func211 rfl fun C hC => ?_
 unfold Xiu at h
 refine Xac ?_
 iterate 2 refine kO hT hC ?_
 refine kN ?_
 iterate 8 refine kO hT hC ?_
 refine Vc.nil ?_
 refine Xaq ?_
 refine Xac ?_
 iterate 2 refine kO hT hC ?_
 refine Vc.nil ?_
 refine kS h ?_ ?_ <;> intro b1 h
 refine kt b1 ?_
 refine Xac ?_
 refine kO hT hC ?_
 refine Vc.nil ?_
 refine Xah ?_
 refine Xap ?_
 exact kR
 refine kf b1 ?_
 refine Xaf ?_
 refine Xae ?_
 refine Xac ?_
 refine kO hT hC ?_
 refine kQ hT hC h fun h => ?_
 refine kO hT hC ?_
 refine Vc.nil ?_
 refine Xaq ?_
 refine Xac ?_
 refine kO hT hC ?_
 refine Vc.nil ?_
 refine kL [1,3,4,5] [16] [_,_,_,_] [_] ?_
 refine kX h (fun v2 => ([(4, .sv (.int .i64 v2.1)), (5, .sv (.int .i64 v2.2))], [])) (fun v4 => ([(4, .sv (.int .i64 v4)), (5, .any)], [])) (kW hC []) (fun v2 s h => ?_) fun v4 h => ?_
 unfold Xgh at h
 refine Xaq ?_
 refine Xac ?_
 iterate 5 refine kO hT hC ?_
 refine Vc.nil ?_
 refine kS h ?_ ?_ <;> intro b4 h
 refine kt b4 ?_
 refine Xaf ?_
 refine Xae ?_
 refine Xaq ?_
 refine Xao ?_
 refine Xab ?_
 iterate 4 refine kO hT hC ?_
 refine kQ hT hC h fun h => ?_
 iterate 3 refine kO hT hC ?_
 refine Vc.nil ?_
 refine Xar ?_
 refine Xae ?_
 refine Xab ?_
 iterate 3 refine kO hT hC ?_
 refine Vc.nil ?_
 exact kG
 refine kf b4 ?_
 refine Xas ?_
 refine Xaz ?_
 exact ku
 refine Xae ?_
 refine Xaq ?_
 refine Xac ?_
 refine kO hT hC ?_
 refine Vc.nil ?_
 refine kL [1,3,4,6] [16] [_,_,_,_] [_] ?_
 refine kX h (fun v7 => ([(4, .sv (.int .i64 v7.1)), (6, .sv (.int .i64 v7.2))], [])) (fun v9 => ([(4, .sv (.int .i64 v9)), (1, .any), (6, .any)], [(16, none)])) (kW hC []) (fun v7 s h => ?_) fun v9 h => ?_
 unfold Xgi at h
 refine Xaq ?_
 refine Xac ?_
 iterate 5 refine kO hT hC ?_
 refine Vc.nil ?_
 refine kS h ?_ ?_ <;> intro b7 h
 refine kt b7 ?_
 refine Xaf ?_
 refine Xae ?_
 refine Xaq ?_
 refine Xao ?_
 refine Xab ?_
 iterate 4 refine kO hT hC ?_
 refine kQ hT hC h fun h => ?_
 iterate 3 refine kO hT hC ?_
 refine Vc.nil ?_
 refine Xar ?_
 refine Xae ?_
 refine Xab ?_
 iterate 3 refine kO hT hC ?_
 refine Vc.nil ?_
 exact kG
 refine kf b7 ?_
 refine Xas ?_
 refine Xaz ?_
 exact ku
 refine Xae ?_
 refine Xac ?_
 iterate 2 refine kO hT hC ?_
 refine kQ hT hC h fun h => ?_
 refine kO hT hC ?_
 refine Vc.nil ?_
 refine Xah ?_
 exact kR
def Ybp (r : (List Int)) : AV := .own 16
def Ybo (r : (List Int)) : Xa8 := [(16, .ints .i64 r)]
theorem Yf3 {p0 p1 r} (h : Xfn p0 p1 = some r) : AC Tryz.prog 181 [.sv (.int .i64 p0), .agg [.sv (.ints .i64 p1.Above), .sv (.ints .i64 p1.Left), .sv (.int .i64 p1.Corner)]] [] (Ybp r) (Ybo r) := by
 refine Xag hT Tryz.func181 rfl fun C hC => ?_
 unfold Xfn at h
 refine Xac ?_
 iterate 2 refine kO hT hC ?_
 refine kN ?_
 iterate 2 refine kO hT hC ?_
 refine Vc.nil ?_
 refine Xaq ?_
 refine kL [0,3,5] [48,160] [_,_,_] [_,_] ?_
 refine kA h (fun v1 => ([(18, .sv (.bool v1))], [])) (fun v1 h => ?_) fun v1 h => ?_
 refine Xab ?_
 refine kO hT hC ?_
 refine kC hC [] Tryz.call209 h (fun _ => Yf0) fun q2 h => ?_
 iterate 2 refine kO hT hC ?_
 refine kS h ?_ ?_ <;> intro b1 h
 refine kI hT hC (kn b1) ?_
 refine kE hC (kn b1) [] Tryz.call136 h (fun _ => Xau) fun q3 h => ?_
 refine kI hT hC (kn b1) ?_
 refine kP hC false (kn b1) ?_
 refine Vc.nil ?_
 exact kM
 iterate 3 refine kF hC (kn b1) ?_
 refine kP hC true (kn b1) ?_
 refine Vc.nil ?_
 exact kM
 refine kS h ?_ ?_ <;> intro b2 h
 refine kt b2 ?_
 refine Xac ?_
 iterate 2 refine kO hT hC ?_
 refine Vc.nil ?_
 refine Xah ?_
 refine Xap ?_
 obtain rfl := kj h
 exact Xbt (τ := ⟨[(4, .own 16)], [(16, some (.ints .i64 ([] : List Int)))]⟩) (kW hC [(16, 160)]) rfl ⟨rfl, trivial⟩
 refine kf b2 ?_
 refine Xaf ?_
 refine Xae ?_
 refine Xac ?_
 iterate 3 refine kO hT hC ?_
 refine Vc.nil ?_
 refine kL [0,3,5,6] [48,160] [_,_,_,_] [_,_] ?_
 refine kA h (fun v4 => ([(6, .sv (.int .i64 v4))], [])) (fun v4 h => ?_) fun v4 h => ?_
 refine Xac ?_
 iterate 2 refine kO hT hC ?_
 refine Vc.nil ?_
 refine kS h ?_ ?_ <;> intro b3 h
 refine kt b3 ?_
 refine Xab ?_
 refine kO hT hC ?_
 refine Vc.nil ?_
 exact kM
 refine kf b3 ?_
 refine Xaf ?_
 exact kM
 refine Xaq ?_
 refine Xac ?_
 refine kO hT hC ?_
 refine Vc.nil ?_
 refine kL [0,3,5,6,7] [48,160] [_,_,_,_,_] [_,_] ?_
 refine kX h (fun v11 => ([(7, .sv (.int .i64 v11.1))], [(160, some (.ints .i64 v11.2))])) (fun v18 => ([(0, .any), (3, .any), (6, .any), (7, .any)], [(160, some (.ints .i64 v18)), (48, none)])) (kW hC []) (fun v11 s h => ?_) fun v18 h => ?_
 unfold Xdc at h
 refine Xaq ?_
 refine Xac ?_
 iterate 2 refine kO hT hC ?_
 refine Vc.nil ?_
 refine kS h ?_ ?_ <;> intro b12 h
 refine kt b12 ?_
 refine Xaf ?_
 refine Xae ?_
 refine kL [0,3,5,6,7] [48,160] [_,_,_,_,_] [_,_] ?_
 refine kA h (fun v19 => ([(5, .own 1110)], [(1110, some (.ints .i64 v19)), (160, none)])) (fun v19 h => ?_) fun v19 h => ?_
 refine Xao ?_
 refine Xac ?_
 iterate 3 refine kO hT hC ?_
 refine kQ hT hC h fun h => ?_
 refine kC hC [] Tryz.call210 h (fun _ => Xpc) fun q20 h => ?_
 refine kO hT hC ?_
 refine kN ?_
 iterate 3 refine kO hT hC ?_
 refine kQ hT hC h fun h => ?_
 refine kC hC [] Tryz.call210 h (fun _ => Xpc) fun q21 h => ?_
 refine kO hT hC ?_
 refine kN ?_
 refine kO hT hC ?_
 refine Vc.nil ?_
 refine Xao ?_
 refine Xac ?_
 iterate 2 refine kO hT hC ?_
 refine Vc.nil ?_
 refine kS h ?_ ?_ <;> intro b13 h
 refine kt b13 ?_
 refine Xab ?_
 iterate 2 refine kO hT hC ?_
 refine kC hC [] Tryz.call211 h (fun _ => Yjp) fun q22 h => ?_
 refine kO hT hC ?_
 refine kT hT hC h fun h => ?_
 refine kO hT hC ?_
 refine Vc.nil ?_
 iterate 2 refine Xar ?_
 obtain rfl := kj h
 exact Xdp (kW hC [(1110, 864)])
 refine kf b13 ?_
 refine Xac ?_
 iterate 2 refine kO hT hC ?_
 refine Vc.nil ?_
 refine kS h ?_ ?_ <;> intro b14 h
 refine kt b14 ?_
 refine Xab ?_
 iterate 3 refine kO hT hC ?_
 refine kT hT hC h fun h => ?_
 refine kO hT hC ?_
 refine Vc.nil ?_
 iterate 2 refine Xar ?_
 obtain rfl := kj h
 exact Xdp (kW hC [(1110, 960)])
 refine kf b14 ?_
 refine Xac ?_
 iterate 2 refine kO hT hC ?_
 refine Vc.nil ?_
 refine kS h ?_ ?_ <;> intro b15 h
 refine kt b15 ?_
 refine Xab ?_
 iterate 3 refine kO hT hC ?_
 refine kT hT hC h fun h => ?_
 refine kO hT hC ?_
 refine Vc.nil ?_
 iterate 2 refine Xar ?_
 obtain rfl := kj h
 exact Xdp (kW hC [(1110, 1056)])
 refine kf b15 ?_
 refine Xab ?_
 iterate 6 refine kO hT hC ?_
 refine kC hC [] Tryz.call208 h (fun _ => Xjw) fun q23 h => ?_
 refine kO hT hC ?_
 refine kT hT hC h fun h => ?_
 refine kO hT hC ?_
 refine Vc.nil ?_
 iterate 2 refine Xar ?_
 obtain rfl := kj h
 exact Xdp (kW hC [(1110, 752)])
 refine Xab ?_
 iterate 3 refine kO hT hC ?_
 refine Vc.nil ?_
 obtain rfl := kj h
 exact Ya8 (kW hC [(160, 1110)])
 refine kf b12 ?_
 refine Xas ?_
 refine Xaz ?_
 exact ku
 refine Xae ?_
 refine Xac ?_
 iterate 2 refine kO hT hC ?_
 refine Vc.nil ?_
 refine Xah ?_
 obtain rfl := kj h
 exact Xbt (τ := ⟨[(4, .own 16)], [(16, some (.ints .i64 v18))]⟩) (kW hC [(16, 160)]) rfl ⟨rfl, trivial⟩
def Xqp (r : Bool) : AV := .sv (.bool r)
def Xqo (r : Bool) : Xa8 := []
theorem Yg1 {p0 r} (h : Xly p0 = some r) : AC Tryz.prog 207 [.sv (.ints .i64 p0)] [] (Xqp r) (Xqo r) := by
 refine Xag hT Tryz.func207 rfl fun C hC => ?_
 unfold Xly at h
 refine Xac ?_
 refine kO hT hC ?_
 refine Vc.nil ?_
 refine Xaq ?_
 refine Xac ?_
 iterate 3 refine kO hT hC ?_
 refine Vc.nil ?_
 refine kS h ?_ ?_ <;> intro b1 h
 refine kt b1 ?_
 refine Xac ?_
 refine kO hT hC ?_
 refine Vc.nil ?_
 refine Xah ?_
 refine Xap ?_
 exact kR
 refine kf b1 ?_
 refine Xaf ?_
 refine Xae ?_
 refine Xaq ?_
 refine Xac ?_
 refine kO hT hC ?_
 refine Vc.nil ?_
 refine kL [0,3] [] [_,_] [] ?_
 obtain ⟨o8, hl, h⟩ := Xba h
 refine Xd8 (fun v3 => ([(3, .sv (.int .i64 v3))], [])) (fun v6 => ([(0, .any), (3, .any)], [])) (fun r => Xl1 C T Tryz.f207.results.toList (Xqp r) (Xqo r)) hl ?_ ?_ ?_ ?_
 apply Xbz hC []
 exact co
 rfl
 decide
 rfl
 intro v3 s hs
 have h := hs
 unfold Xg7 at h
 refine Xaq ?_
 refine Xac ?_
 iterate 2 refine kO hT hC ?_
 refine Vc.nil ?_
 refine kS h ?_ ?_ <;> intro b6 h
 refine kt b6 ?_
 refine Xaf ?_
 refine Xae ?_
 refine Xaq ?_
 refine Xao ?_
 refine Xac ?_
 iterate 2 refine kO hT hC ?_
 refine kQ hT hC h fun h => ?_
 refine kO hT hC ?_
 refine kC hC [] Tryz.call136 h (fun _ => Xau) fun q7 h => ?_
 refine kO hT hC ?_
 refine Vc.nil ?_
 refine kS h ?_ ?_ <;> intro b7 h
 refine kt b7 ?_
 refine Xac ?_
 refine kO hT hC ?_
 refine Vc.nil ?_
 refine Xah ?_
 refine Xcr ?_
 refine Xap ?_
 obtain rfl := kj h
 refine Xku ?_
 refine Xkr ?_
 exact Xbt (Xgk.refl _) rfl trivial
 refine kf b7 ?_
 refine Xaf ?_
 refine Xar ?_
 refine Xae ?_
 refine Xab ?_
 iterate 3 refine kO hT hC ?_
 refine Vc.nil ?_
 exact kG
 refine kf b6 ?_
 refine Xas ?_
 refine Xaz ?_
 exact kb
 intro v6 e
 subst e
 refine Xae ?_
 refine Xac ?_
 refine kO hT hC ?_
 refine Vc.nil ?_
 refine Xah ?_
 exact kR
 intro r' σ' e hE
 subst e
 obtain rfl := kj h
 refine Xap ?_
 exact hE
def Yf8 (r : (List Int)) : AV := .own 16
def Yf7 (r : (List Int)) : Xa8 := [(16, .ints .i64 r)]
theorem Xtb {p0 p1 r} (h : Xgw p0 p1 = some r) : AC Tryz.prog 180 [.sv (.ints .i64 p0), .sv (.ints .i64 p1)] [] (Yf8 r) (Yf7 r) := by
 refine Xag hT Tryz.func180 rfl fun C hC => ?_
 unfold Xgw at h
 refine Xac ?_
 refine kO hT hC ?_
 refine kN ?_
 iterate 2 refine kO hT hC ?_
 refine Vc.nil ?_
 refine Xaq ?_
 refine kL [0,1,5] [112] [_,_,_] [_] ?_
 refine kA h (fun v1 => ([(15, .sv (.bool v1))], [])) (fun v1 h => ?_) fun v1 h => ?_
 refine Xab ?_
 refine kO hT hC ?_
 refine kC hC [] Tryz.call207 h (fun _ => Yg1) fun q2 h => ?_
 iterate 2 refine kO hT hC ?_
 refine kS h ?_ ?_ <;> intro b1 h
 refine kI hT hC (kn b1) ?_
 refine kE hC (kn b1) [] Tryz.call200 h (fun _ => Xgg) fun q3 h => ?_
 refine kI hT hC (kn b1) ?_
 refine kP hC false (kn b1) ?_
 refine Vc.nil ?_
 exact kM
 iterate 3 refine kF hC (kn b1) ?_
 refine kP hC true (kn b1) ?_
 refine Vc.nil ?_
 exact kM
 refine kS h ?_ ?_ <;> intro b2 h
 refine kt b2 ?_
 refine Xac ?_
 iterate 2 refine kO hT hC ?_
 refine Vc.nil ?_
 refine Xah ?_
 refine Xap ?_
 obtain rfl := kj h
 exact Xbt (τ := ⟨[(4, .own 16)], [(16, some (.ints .i64 ([] : List Int)))]⟩) (kW hC [(16, 112)]) rfl ⟨rfl, trivial⟩
 refine kf b2 ?_
 refine Xaf ?_
 refine Xae ?_
 refine Xaq ?_
 refine Xac ?_
 refine kO hT hC ?_
 refine Vc.nil ?_
 refine kL [0,1,5,6] [112] [_,_,_,_] [_] ?_
 refine kX h (fun v6 => ([(6, .sv (.int .i64 v6.1))], [(112, some (.ints .i64 v6.2))])) (fun v9 => ([(0, .any), (1, .any), (6, .any)], [(112, some (.ints .i64 v9))])) (kW hC []) (fun v6 s h => ?_) fun v9 h => ?_
 unfold Xe1 at h
 refine Xaq ?_
 refine Xac ?_
 iterate 2 refine kO hT hC ?_
 refine Vc.nil ?_
 refine kS h ?_ ?_ <;> intro b5 h
 refine kt b5 ?_
 refine Xaf ?_
 refine Xae ?_
 refine Xaq ?_
 refine Xao ?_
 refine Xcz hm ?_
 iterate 3 refine kO hT hC ?_
 refine kQ hT hC h fun h => ?_
 iterate 3 refine kO hT hC ?_
 refine kQ hT hC h fun h => ?_
 iterate 2 refine kO hT hC ?_
 refine kC hC [] Tryz.call208 h (fun _ => Xjw) fun q10 h => ?_
 refine kO hT hC ?_
 refine kT hT hC h fun h => ?_
 refine kO hT hC ?_
 refine kD ?_
 refine Xar ?_
 refine Xae ?_
 refine Xab ?_
 iterate 3 refine kO hT hC ?_
 refine Vc.nil ?_
 obtain rfl := kj h
 exact Ya8 (kW hC [(112, 528)])
 refine kf b5 ?_
 refine Xas ?_
 refine Xaz ?_
 exact ku
 refine Xae ?_
 refine Xac ?_
 iterate 2 refine kO hT hC ?_
 refine Vc.nil ?_
 refine Xah ?_
 obtain rfl := kj h
 exact Xbt (τ := ⟨[(4, .own 16)], [(16, some (.ints .i64 v9))]⟩) (kW hC [(16, 112)]) rfl ⟨rfl, trivial⟩
def Ybb (r : (List Int)) : AV := .own 16
def Yba (r : (List Int)) : Xa8 := [(16, .ints .i64 r)]
theorem Yfp {p0 p1 p2 r} (h : Xls p0 p1 p2 = some r) : AC Tryz.prog 182 [.agg [.sv (.int .i64 p0.Wide), .sv (.int .i64 p0.High), .sv (.str p0.Dots)], .sv (.int .i64 p1), .sv (.int .i64 p2)] [] (Ybb r) (Yba r) := by
 refine Xag hT Tryz.func182 rfl fun C hC => ?_
 unfold Xls at h
 refine Xac ?_
 iterate 2 refine kO hT hC ?_
 refine kN ?_
 iterate 2 refine kO hT hC ?_
 refine Vc.nil ?_
 refine Xaq ?_
 refine kL [1,2,3,7] [48,144] [_,_,_,_] [_,_] ?_
 refine kA h (fun v1 => ([(22, .sv (.bool v1))], [])) (fun v1 h => ?_) fun v1 h => ?_
 refine Xab ?_
 refine kO hT hC ?_
 refine kC hC [] Tryz.call139 h (fun _ => Xhq) fun q2 h => ?_
 iterate 2 refine kO hT hC ?_
 refine kS h ?_ ?_ <;> intro b1 h
 refine kI hT hC (kn b1) ?_
 refine kE hC (kn b1) [] Tryz.call136 h (fun _ => Xau) fun q3 h => ?_
 refine kI hT hC (kn b1) ?_
 refine kP hC false (kn b1) ?_
 refine kO hT hC ?_
 refine kS h ?_ ?_ <;> intro b2 h
 refine kI hT hC (kn b2) ?_
 refine kE hC (kn b2) [] Tryz.call136 h (fun _ => Xau) fun q4 h => ?_
 refine kI hT hC (kn b2) ?_
 refine kP hC false (kn b2) ?_
 refine Vc.nil ?_
 exact kM
 iterate 3 refine kF hC (kn b2) ?_
 refine kP hC true (kn b2) ?_
 refine Vc.nil ?_
 exact kM
 iterate 3 refine kF hC (kn b1) ?_
 refine kP hC true (kn b1) ?_
 refine kO hT hC ?_
 iterate 3 refine kF hC rfl ?_
 refine kO hT hC ?_
 refine Vc.nil ?_
 exact kM
 refine kS h ?_ ?_ <;> intro b3 h
 refine kt b3 ?_
 refine Xac ?_
 iterate 2 refine kO hT hC ?_
 refine Vc.nil ?_
 refine Xah ?_
 refine Xap ?_
 obtain rfl := kj h
 exact Xbt (τ := ⟨[(6, .own 16)], [(16, some (.ints .i64 ([] : List Int)))]⟩) (kW hC [(16, 144)]) rfl ⟨rfl, trivial⟩
 refine kf b3 ?_
 refine Xaf ?_
 refine Xae ?_
 refine Xaq ?_
 refine Xac ?_
 refine kO hT hC ?_
 refine Vc.nil ?_
 refine kL [1,2,3,7,8] [48,144] [_,_,_,_,_] [_,_] ?_
 refine kX h (fun v7 => ([(8, .sv (.int .i64 v7.1))], [(144, some (.ints .i64 v7.2))])) (fun v10 => ([(1, .any), (2, .any), (3, .any), (8, .any)], [(144, some (.ints .i64 v10)), (48, none)])) (kW hC []) (fun v7 s h => ?_) fun v10 h => ?_
 unfold Xgt at h
 refine Xaq ?_
 refine Xac ?_
 iterate 2 refine kO hT hC ?_
 refine Vc.nil ?_
 refine kS h ?_ ?_ <;> intro b6 h
 refine kt b6 ?_
 refine Xaf ?_
 refine Xae ?_
 refine Xaq ?_
 refine Xao ?_
 refine Xab ?_
 iterate 4 refine kO hT hC ?_
 refine kQ hT hC h fun h => ?_
 iterate 3 refine kO hT hC ?_
 refine kQ hT hC h fun h => ?_
 refine kO hT hC ?_
 refine kC hC [] Tryz.call201 h (fun _ => Xmn) fun q11 h => ?_
 refine kO hT hC ?_
 refine kT hT hC h fun h => ?_
 refine kO hT hC ?_
 refine Vc.nil ?_
 refine Xar ?_
 refine Xae ?_
 refine Xab ?_
 iterate 3 refine kO hT hC ?_
 refine Vc.nil ?_
 obtain rfl := kj h
 exact Ya8 (kW hC [(144, 640)])
 refine kf b6 ?_
 refine Xas ?_
 refine Xaz ?_
 exact ku
 refine Xae ?_
 refine Xac ?_
 iterate 2 refine kO hT hC ?_
 refine Vc.nil ?_
 refine Xah ?_
 obtain rfl := kj h
 exact Xbt (τ := ⟨[(6, .own 16)], [(16, some (.ints .i64 v10))]⟩) (kW hC [(16, 144)]) rfl ⟨rfl, trivial⟩
end
end Go.Proofs.YtjgbfopmjpkkhaaGreat.A
