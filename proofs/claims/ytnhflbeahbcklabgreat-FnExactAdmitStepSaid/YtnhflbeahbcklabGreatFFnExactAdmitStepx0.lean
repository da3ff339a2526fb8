/- Contracts of the functions that the law FnExactAdmitStep reaches, part 0: each comes to what its pure function tells. Written by a program of this session. Conditions: as each statement tells. -/
import Derived.Test.YtnhflbeahbcklabGreatBFnExactAdmitStep
namespace Go.Proofs.YtnhflbeahbcklabGreat.A
open Go Go.Proofs Go.Proofs.YtnhflbeahbcklabGreatAL Go.RowKit
set_option linter.unusedVariables false
set_option linter.unusedSimpArgs false
set_option maxRecDepth 100000
set_option maxHeartbeats 2000000
noncomputable section
def Xup (r : ByteArray) : AV := .sv (.str r)
def Xuo (r : ByteArray) : Xa8 := []
theorem Xwe {p0 p1 r} (h : Xhx p0 p1 = some r) : AC Tryz.prog 160 [.sv (.int .i64 p0), .sv (.int .i64 p1)] [] (Xup r) (Xuo r) := by
 refine Xad hT Tryz.func160 rfl fun C hC => ?_
 unfold Xhx at h
 refine Xaa ?_
 refine kO hT hC ?_
 refine kN ?_
 refine kO hT hC ?_
 obtain ⟨hq, h⟩ := Xc1 h
 refine Yb4 hT hC rfl rfl rfl rfl ⟨hq.1, hq.2.1, hq.2.2, by decide⟩ ?_
 refine kO hT hC ?_
 refine Vc.nil ?_
 refine Xaw ?_
 refine Xaa ?_
 iterate 3 refine kO hT hC ?_
 refine Vc.nil ?_
 refine kL [0,5,6] [128] [_,_,_] [_] ?_
 refine kX h (fun v2 => ([(0, .sv (.int .i64 v2.1)), (6, .sv (.int .i64 v2.2.1))], [(128, some (.ints .u8 v2.2.2))])) (fun v4 => ([(0, .any), (6, .any)], [(128, some (.ints .u8 v4))])) (kW hC []) (fun v2 s h => ?_) fun v4 h => ?_
 unfold Xe5 at h
 refine Xaw ?_
 refine Xaa ?_
 iterate 2 refine kO hT hC ?_
 refine Vc.nil ?_
 refine kS h ?_ ?_ <;> intro b3 h
 refine kt b3 ?_
 refine Xaf ?_
 refine Xag ?_
 refine Xaw ?_
 refine Xa2 ?_
 refine Xaa ?_
 iterate 3 refine kO hT hC ?_
 refine kQ hT hC h fun h => ?_
 iterate 2 refine kO hT hC ?_
 iterate 2 refine kQ hT hC h fun h => ?_
 refine Vc.nil ?_
 refine Xac ?_
 refine kO hT hC ?_
 refine kQ hT hC h fun h => ?_
 refine kO hT hC ?_
 refine Vc.nil ?_
 refine Xbc ?_
 refine Xag ?_
 refine Xac ?_
 iterate 3 refine kO hT hC ?_
 refine Vc.nil ?_
 exact kG
 refine kf b3 ?_
 refine Xba ?_
 refine Xbt ?_
 exact ku
 refine Xag ?_
 refine Xaa ?_
 iterate 3 refine kO hT hC ?_
 refine Vc.nil ?_
 refine Xae ?_
 exact kR
def Xrx (r : Bool) : AV := .sv (.bool r)
def Xrw (r : Bool) : Xa8 := []
theorem Xuq {p0 r} (h : Xgz p0 = some r) : AC Tryz.prog 163 [.sv (.int .i64 p0)] [] (Xrx r) (Xrw r) := by
 refine Xad hT Tryz.func163 rfl fun C hC => ?_
 unfold Xgz at h
 refine Xaa ?_
 refine kO hT hC ?_
 refine Vc.nil ?_
 refine kL [0,2] [] [_,_] [] ?_
 refine kA h (fun v1 => ([(2, .sv (.bool v1)), (0, .any)], [])) (fun v1 h => ?_) fun v1 h => ?_
 refine Xac ?_
 iterate 3 refine kO hT hC ?_
 refine kS h ?_ ?_ <;> intro b1 h
 iterate 2 refine kF hC b1 ?_
 refine kP hC true b1 ?_
 refine kO hT hC ?_
 iterate 2 refine kF hC rfl ?_
 iterate 2 refine kO hT hC ?_
 iterate 2 refine kF hC rfl ?_
 iterate 2 refine kO hT hC ?_
 refine Vc.nil ?_
 exact kM
 iterate 2 refine kI hT hC b1 ?_
 refine kP hC false b1 ?_
 refine kO hT hC ?_
 refine kS h ?_ ?_ <;> intro b2 h
 iterate 2 refine kF hC b2 ?_
 refine kP hC true b2 ?_
 refine kO hT hC ?_
 iterate 2 refine kF hC rfl ?_
 iterate 2 refine kO hT hC ?_
 refine Vc.nil ?_
 exact kM
 iterate 2 refine kI hT hC b2 ?_
 refine kP hC false b2 ?_
 refine kO hT hC ?_
 refine kS h ?_ ?_ <;> intro b3 h
 iterate 2 refine kF hC b3 ?_
 refine kP hC true b3 ?_
 refine kO hT hC ?_
 refine Vc.nil ?_
 exact kM
 iterate 2 refine kI hT hC b3 ?_
 refine kP hC false b3 ?_
 refine kO hT hC ?_
 refine Vc.nil ?_
 exact kM
 refine Xae ?_
 exact kR
def Xky (r : Bool) : AV := .sv (.bool r)
def Xkx (r : Bool) : Xa8 := []
theorem Xwg {p0 r} (h : Xgf p0 = some r) : AC Tryz.prog 225 [.sv (.str p0)] [] (Xky r) (Xkx r) := by
 refine Xad hT Tryz.func225 rfl fun C hC => ?_
 unfold Xgf at h
 refine Xaa ?_
 refine kO hT hC ?_
 refine Vc.nil ?_
 refine Xaw ?_
 refine Xaa ?_
 refine kO hT hC ?_
 refine Vc.nil ?_
 refine kL [0,3] [] [_,_] [] ?_
 obtain ⟨o8, hl, h⟩ := Xbs h
 refine Xd4 (fun v3 => ([(3, .sv (.int .i64 v3))], [])) (fun v6 => ([(0, .any), (3, .any)], [])) (fun r => Xio C T Tryz.f225.results.toList (Xky r) (Xkx r)) hl ?_ ?_ ?_ ?_
 apply Xbx hC []
 exact co
 rfl
 decide
 rfl
 intro v3 s hs
 have h := hs
 unfold Xb5 at h
 refine Xaw ?_
 refine Xaa ?_
 iterate 4 refine kO hT hC ?_
 refine Vc.nil ?_
 refine kS h ?_ ?_ <;> intro b7 h
 refine kt b7 ?_
 refine Xaf ?_
 refine Xag ?_
 refine Xaw ?_
 refine Xa2 ?_
 refine kL [0,3] [] [_,_] [] ?_
 refine kA h (fun v7 => ([(19, .sv (.bool v7))], [])) (fun v7 h => ?_) fun v7 h => ?_
 refine Xac ?_
 iterate 2 refine kO hT hC ?_
 refine kQ hT hC h fun h => ?_
 iterate 2 refine kO hT hC ?_
 refine kS h ?_ ?_ <;> intro b8 h
 iterate 2 refine kI hT hC b8 ?_
 refine kJ hT hC b8 h fun h => ?_
 refine kI hT hC b8 ?_
 refine kP hC true b8 ?_
 refine Vc.nil ?_
 exact kM
 iterate 4 refine kF hC b8 ?_
 refine kP hC false b8 ?_
 refine Vc.nil ?_
 exact kM
 refine kS h ?_ ?_ <;> intro b9 h
 refine kt b9 ?_
 refine Xaa ?_
 refine kO hT hC ?_
 refine Vc.nil ?_
 refine Xae ?_
 refine Xdg ?_
 refine Xak ?_
 obtain rfl := kj h
 refine Xje ?_
 refine Xjd ?_
 exact Xc6 (Xf3.refl _) rfl trivial
 refine kf b9 ?_
 refine Xaf ?_
 refine Xbc ?_
 refine Xag ?_
 refine Xac ?_
 iterate 3 refine kO hT hC ?_
 refine Vc.nil ?_
 exact kG
 refine kf b7 ?_
 refine Xba ?_
 refine Xbt ?_
 exact kb
 intro v6 e
 subst e
 refine Xag ?_
 refine Xaa ?_
 refine kO hT hC ?_
 refine Vc.nil ?_
 refine Xae ?_
 exact kR
 intro r' σ' e hE
 subst e
 obtain rfl := kj h
 refine Xak ?_
 exact hE
def Xv7 (r : Bool) : AV := .sv (.bool r)
def Xv6 (r : Bool) : Xa8 := []
theorem Xn4 {p0 r} (h : Xer p0 = some r) : AC Tryz.prog 164 [.sv (.str p0)] [] (Xv7 r) (Xv6 r) := by
 refine Xad hT Tryz.func164 rfl fun C hC => ?_
 unfold Xer at h
 refine Xaa ?_
 refine kO hT hC ?_
 refine Vc.nil ?_
 refine kL [0,2] [] [_,_] [] ?_
 refine kA h (fun v1 => ([(2, .sv (.bool v1)), (0, .any)], [])) (fun v1 h => ?_) fun v1 h => ?_
 refine Xac ?_
 iterate 4 refine kO hT hC ?_
 refine kS h ?_ ?_ <;> intro b1 h
 refine kI hT hC b1 ?_
 refine kE hC b1 [] Tryz.call225 h (fun _ => Xwg) fun q2 h => ?_
 refine kP hC true b1 ?_
 refine kO hT hC ?_
 refine Vc.nil ?_
 exact kM
 iterate 2 refine kF hC b1 ?_
 refine kP hC false b1 ?_
 refine kO hT hC ?_
 refine Vc.nil ?_
 exact kM
 refine Xae ?_
 exact kR
def Xwd (r : Bool) : AV := .sv (.bool r)
def Xwc (r : Bool) : Xa8 := []
theorem Xbb {p0 p1 p2 r} (h : Xa9 p0 p1 p2 = some r) : AC Tryz.prog 149 [.sv (.int .i64 p0), .sv (.int .i64 p1), .sv (.int .i64 p2)] [] (Xwd r) (Xwc r) := by
 refine Xad hT Tryz.func149 rfl fun C hC => ?_
 unfold Xa9 at h
 refine Xaa ?_
 refine kO hT hC ?_
 refine Vc.nil ?_
 refine kL [0,1,2,6] [] [_,_,_,_] [] ?_
 refine kA h (fun v1 => ([(6, .sv (.bool v1)), (0, .any), (1, .any), (2, .any)], [])) (fun v1 h => ?_) fun v1 h => ?_
 refine Xac ?_
 iterate 4 refine kO hT hC ?_
 refine kS h ?_ ?_ <;> intro b1 h
 iterate 3 refine kI hT hC b1 ?_
 refine kP hC true b1 ?_
 refine kO hT hC ?_
 refine Vc.nil ?_
 exact kM
 iterate 3 refine kF hC b1 ?_
 refine kP hC false b1 ?_
 refine kO hT hC ?_
 refine Vc.nil ?_
 exact kM
 refine Xae ?_
 exact kR
def Xk0 (r : Int) : AV := .sv (.int .i64 r)
def Xkz (r : Int) : Xa8 := []
theorem Xl6 {p0 r} (h : Xgg p0 = some r) : AC Tryz.prog 120 [.sv (.ints .i64 p0)] [] (Xk0 r) (Xkz r) := by
 refine Xad hT Tryz.func120 rfl fun C hC => ?_
 unfold Xgg at h
 refine Xaa ?_
 refine kO hT hC ?_
 refine Vc.nil ?_
 refine Xaw ?_
 refine kL [0] [] [_] [] ?_
 refine kA h (fun v1 => ([(12, .sv (.bool v1))], [])) (fun v1 h => ?_) fun v1 h => ?_
 refine Xac ?_
 iterate 4 refine kO hT hC ?_
 refine kS h ?_ ?_ <;> intro b1 h
 iterate 3 refine kF hC b1 ?_
 refine kP hC true b1 ?_
 refine Vc.nil ?_
 exact kM
 iterate 3 refine kI hT hC b1 ?_
 refine kP hC false b1 ?_
 refine Vc.nil ?_
 exact kM
 refine kS h ?_ ?_ <;> intro b2 h
 refine kt b2 ?_
 refine Xaa ?_
 refine kO hT hC ?_
 refine Vc.nil ?_
 refine Xae ?_
 refine Xak ?_
 exact kR
 refine kf b2 ?_
 refine Xaf ?_
 refine Xag ?_
 refine Xaa ?_
 refine kO hT hC ?_
 refine Vc.nil ?_
 refine Xaw ?_
 refine Xaa ?_
 refine kO hT hC ?_
 refine Vc.nil ?_
 refine kL [0,3,4] [] [_,_,_] [] ?_
 obtain ⟨o9, hl, h⟩ := Xbs h
 refine Xd4 (fun v4 => ([(3, .sv (.int .i64 v4.1)), (4, .sv (.int .i64 v4.2))], [])) (fun v7 => ([(3, .sv (.int .i64 v7)), (0, .any), (4, .any)], [])) (fun r => Xio C T Tryz.f120.results.toList (Xk0 r) (Xkz r)) hl ?_ ?_ ?_ ?_
 try dsimp only
 apply Xbx hC []
 exact co
 rfl
 decide
 rfl
 intro v4 s hs
 have h := hs
 unfold Xd2 at h
 refine Xaw ?_
 refine Xaa ?_
 iterate 4 refine kO hT hC ?_
 refine Vc.nil ?_
 refine kS h ?_ ?_ <;> intro b7 h
 refine kt b7 ?_
 refine Xaf ?_
 refine Xag ?_
 refine Xaw ?_
 refine Xa2 ?_
 refine Xaw ?_
 refine Xaa ?_
 iterate 2 refine kO hT hC ?_
 refine kQ hT hC h fun h => ?_
 refine kO hT hC ?_
 refine kC hC [] Tryz.call149 h (fun _ => Xbb) fun q8 h => ?_
 refine kO hT hC ?_
 refine Vc.nil ?_
 refine kS h ?_ ?_ <;> intro b8 h
 refine kt b8 ?_
 refine Xaa ?_
 refine kO hT hC ?_
 refine Vc.nil ?_
 refine Xae ?_
 refine Xak ?_
 refine Xdg ?_
 refine Xak ?_
 obtain rfl := kj h
 refine Xje ?_
 refine Xjd ?_
 exact Xc6 (Xf3.refl _) rfl trivial
 refine kf b8 ?_
 refine Xaf ?_
 refine Xag ?_
 refine Xac ?_
 iterate 3 refine kO hT hC ?_
 refine kQ hT hC h fun h => ?_
 iterate 3 refine kO hT hC ?_
 refine Vc.nil ?_
 refine Xbc ?_
 refine Xag ?_
 refine Xac ?_
 iterate 3 refine kO hT hC ?_
 refine Vc.nil ?_
 exact kG
 refine kf b7 ?_
 refine Xba ?_
 refine Xbt ?_
 exact kb
 intro v7 e
 subst e
 refine Xag ?_
 refine Xaa ?_
 iterate 2 refine kO hT hC ?_
 refine Vc.nil ?_
 refine Xae ?_
 exact kR
 intro r' σ' e hE
 subst e
 obtain rfl := kj h
 refine Xak ?_
 exact hE
def Xn6 (r : Int) : AV := .sv (.int .i64 r)
def Xn5 (r : Int) : Xa8 := []
theorem Xpp {p0 r} (h : Xe4 p0 = some r) : AC Tryz.prog 193 [.agg [.sv (.int .i64 p0.Level), .sv (.int .i64 p0.Bits), .sv (.ints .i64 p0.Cols), .sv (.ints .i64 p0.Rows)]] [] (Xn6 r) (Xn5 r) := by
 refine Xad hT Tryz.func193 rfl fun C hC => ?_
 unfold Xe4 at h
 refine Xaa ?_
 iterate 2 refine kO hT hC ?_
 refine Vc.nil ?_
 refine Xec hm ?_
 iterate 2 refine kO hT hC ?_
 refine kC hC [] Tryz.call120 h (fun _ => Xl6) fun q1 h => ?_
 iterate 2 refine kO hT hC ?_
 refine kC hC [] Tryz.call120 h (fun _ => Xl6) fun q2 h => ?_
 iterate 2 refine kO hT hC ?_
 refine kD ?_
 refine Xae ?_
 exact kR
def Xkw (r : Int) : AV := .sv (.int .i64 r)
def Xkv (r : Int) : Xa8 := []
theorem Xlr {p0 r} (h : Xdb p0 = some r) : AC Tryz.prog 194 [.sv (.int .i64 p0)] [] (Xkw r) (Xkv r) := by
 refine Xad hT Tryz.func194 rfl fun C hC => ?_
 unfold Xdb at h
 refine Xaa ?_
 refine kO hT hC ?_
 refine Vc.nil ?_
 refine Xaw ?_
 refine Xaa ?_
 refine kO hT hC ?_
 refine Vc.nil ?_
 refine Xa2 ?_
 refine Xaa ?_
 iterate 2 refine kO hT hC ?_
 refine Vc.nil ?_
 refine kS h ?_ ?_ <;> intro b1 h
 refine kt b1 ?_
 refine Xaa ?_
 refine kO hT hC ?_
 refine Vc.nil ?_
 refine Xae ?_
 refine Xdg ?_
 refine Xak ?_
 exact kR
 refine kf b1 ?_
 refine Xaa ?_
 iterate 2 refine kO hT hC ?_
 refine Vc.nil ?_
 refine kS h ?_ ?_ <;> intro b2 h
 refine kt b2 ?_
 refine Xaa ?_
 refine kO hT hC ?_
 refine Vc.nil ?_
 refine Xae ?_
 refine Xdg ?_
 refine Xak ?_
 exact kR
 refine kf b2 ?_
 refine Xaa ?_
 iterate 2 refine kO hT hC ?_
 refine Vc.nil ?_
 refine kS h ?_ ?_ <;> intro b3 h
 refine kt b3 ?_
 refine Xaa ?_
 refine kO hT hC ?_
 refine Vc.nil ?_
 refine Xae ?_
 refine Xdg ?_
 refine Xak ?_
 exact kR
 refine kf b3 ?_
 refine Xaf ?_
 refine Xbc ?_
 refine Xag ?_
 refine Xaa ?_
 refine kO hT hC ?_
 refine Vc.nil ?_
 refine Xae ?_
 exact kR
def Xv9 (r : Bool) : AV := .sv (.bool r)
def Xv8 (r : Bool) : Xa8 := []
theorem Xjx {p0 r} (h : Xge p0 = some r) : AC Tryz.prog 119 [.agg [.sv (.int .i64 p0.Level), .sv (.int .i64 p0.Bits), .sv (.ints .i64 p0.Cols), .sv (.ints .i64 p0.Rows)]] [] (Xv9 r) (Xv8 r) := by
 refine Xad hT Tryz.func119 rfl fun C hC => ?_
 unfold Xge at h
 refine Xaa ?_
 iterate 2 refine kO hT hC ?_
 refine Vc.nil ?_
 refine kL [1,2] [16] [_,_] [_] ?_
 refine kA h (fun v1 => ([(2, .sv (.bool v1)), (1, .any)], [(16, none)])) (fun v1 h => ?_) fun v1 h => ?_
 refine Xid hm ?_
 refine kO hT hC ?_
 refine kC hC [] Tryz.call193 h (fun _ => Xpp) fun q2 h => ?_
 iterate 2 refine kO hT hC ?_
 refine kC hC [] Tryz.call194 h (fun _ => Xlr) fun q3 h => ?_
 refine kC hC [] Tryz.call149 h (fun _ => Xbb) fun q4 h => ?_
 refine kO hT hC ?_
 refine kS h ?_ ?_ <;> intro b1 h
 iterate 2 refine kI hT hC b1 ?_
 refine kE hC b1 [] Tryz.call149 h (fun _ => Xbb) fun q5 h => ?_
 refine kP hC true b1 ?_
 refine kO hT hC ?_
 refine kD ?_
 exact kM
 iterate 3 refine kF hC b1 ?_
 refine kP hC false b1 ?_
 refine kO hT hC ?_
 refine kD ?_
 exact kM
 refine Xae ?_
 exact kR
def Xrt (r : Int) : AV := .sv (.int .i64 r)
def Xrs (r : Int) : Xa8 := []
theorem Xfy {p0 r} (h : Xc2 p0 = some r) : AC Tryz.prog 101 [.agg [.sv (.int .i64 p0.Level), .sv (.int .i64 p0.Bits), .sv (.ints .i64 p0.Cols), .sv (.ints .i64 p0.Rows)]] [] (Xrt r) (Xrs r) := by
 refine Xad hT Tryz.func101 rfl fun C hC => ?_
 unfold Xc2 at h
 refine Xaa ?_
 iterate 2 refine kO hT hC ?_
 refine Vc.nil ?_
 refine Xaw ?_
 refine Xaa ?_
 refine kO hT hC ?_
 refine kC hC [] Tryz.call119 h (fun _ => Xjx) fun q1 h => ?_
 refine kO hT hC ?_
 refine Vc.nil ?_
 refine kS h ?_ ?_ <;> intro b1 h
 refine kt b1 ?_
 refine Xaa ?_
 refine kO hT hC ?_
 refine Vc.nil ?_
 refine Xae ?_
 refine Xak ?_
 exact kR
 refine kf b1 ?_
 refine Xaf ?_
 refine Xag ?_
 refine Xaa ?_
 iterate 8 refine kO hT hC ?_
 refine Vc.nil ?_
 refine Xae ?_
 exact kR
def Xv4 (r : Bool) : AV := .sv (.bool r)
def Xv3 (r : Bool) : Xa8 := []
theorem Xeq {p0 r} (h : Xd0 p0 = some r) : AC Tryz.prog 96 [.agg [.sv (.int .i64 p0.Qp), .sv (.bool p0.Large), .sv (.bool p0.Exact), .sv (.bool p0.Confined)]] [] (Xv4 r) (Xv3 r) := by
 refine Xad hT Tryz.func96 rfl fun C hC => ?_
 unfold Xd0 at h
 refine Xaa ?_
 iterate 2 refine kO hT hC ?_
 refine Vc.nil ?_
 refine kL [1,2] [16] [_,_] [_] ?_
 refine kA h (fun v1 => ([(2, .sv (.bool v1)), (1, .any)], [(16, none)])) (fun v1 h => ?_) fun v1 h => ?_
 refine Xac ?_
 iterate 2 refine kO hT hC ?_
 refine kC hC [] Tryz.call149 h (fun _ => Xbb) fun q2 h => ?_
 refine kO hT hC ?_
 refine kS h ?_ ?_ <;> intro b1 h
 iterate 3 refine kI hT hC b1 ?_
 refine kS h ?_ ?_ <;> intro b2 h
 iterate 2 refine kI hT hC b2 ?_
 refine Xb0 hC rfl rfl rfl rfl b1 rfl rfl (b := true) b2 rfl rfl rfl trivial ?_
 refine kI hT hC b1 ?_
 refine kP hC true b1 ?_
 refine kO hT hC ?_
 refine Vc.nil ?_
 exact kM
 iterate 2 refine kF hC b2 ?_
 refine Xb0 hC rfl rfl rfl rfl b1 rfl rfl (b := false) b2 rfl rfl rfl trivial ?_
 refine kI hT hC b1 ?_
 refine kP hC true b1 ?_
 refine kO hT hC ?_
 refine Vc.nil ?_
 exact kM
 iterate 3 refine kF hC b1 ?_
 iterate 2 refine Xmb hC rfl rfl rfl rfl rfl rfl ?_
 iterate 2 refine kF hC b1 ?_
 refine kP hC false b1 ?_
 refine kO hT hC ?_
 refine Vc.nil ?_
 exact kM
 refine Xae ?_
 exact kR
def Xuh (r : Bool) : AV := .sv (.bool r)
def Xug (r : Bool) : Xa8 := []
theorem Xv0 {p0 p1 p2 r} (h : Xhv p0 p1 p2 = some r) : AC Tryz.prog 158 [.agg [.sv (.int .i64 p0.Level), .sv (.int .i64 p0.Bits), .sv (.ints .i64 p0.Cols), .sv (.ints .i64 p0.Rows)], .agg [.sv (.int .i64 p1.Qp), .sv (.bool p1.Large), .sv (.bool p1.Exact), .sv (.bool p1.Confined)], .agg [.sv (.int .i64 p2.Tile), .sv (.int .i64 p2.Frame), .sv (.int .i64 p2.Qp)]] [] (Xuh r) (Xug r) := by
 refine Xad hT Tryz.func158 rfl fun C hC => ?_
 unfold Xhv at h
 refine Xaa ?_
 iterate 4 refine kO hT hC ?_
 refine Vc.nil ?_
 refine kL [3,4,5,6] [48,64,80] [_,_,_,_] [_,_,_] ?_
 refine kA h (fun v1 => ([(6, .sv (.bool v1)), (3, .any), (4, .any), (5, .any)], [(48, none), (64, none), (80, none)])) (fun v1 h => ?_) fun v1 h => ?_
 refine Xid hm ?_
 refine kO hT hC ?_
 refine kC hC [] Tryz.call96 h (fun _ => Xeq) fun q2 h => ?_
 refine kO hT hC ?_
 refine kS h ?_ ?_ <;> intro b1 h
 iterate 3 refine kI hT hC b1 ?_
 refine kP hC true b1 ?_
 refine kO hT hC ?_
 refine kS h ?_ ?_ <;> intro b2 h
 iterate 3 refine kI hT hC b2 ?_
 refine kE hC b2 [] Tryz.call101 h (fun _ => Xfy) fun q3 h => ?_
 refine kI hT hC b2 ?_
 refine kP hC true b2 ?_
 refine kO hT hC ?_
 refine kS h ?_ ?_ <;> intro b3 h
 iterate 3 refine kI hT hC b3 ?_
 refine kP hC true b3 ?_
 refine kO hT hC ?_
 refine kS h ?_ ?_ <;> intro b4 h
 iterate 5 refine kI hT hC b4 ?_
 refine kJ hT hC b4 h fun h => ?_
 refine kI hT hC b4 ?_
 refine kP hC true b4 ?_
 refine kO hT hC ?_
 refine kS h ?_ ?_ <;> intro b5 h
 iterate 2 refine kI hT hC b5 ?_
 refine kE hC b5 [] Tryz.call149 h (fun _ => Xbb) fun q4 h => ?_
 refine kP hC true b5 ?_
 refine kO hT hC ?_
 refine kD ?_
 exact kM
 iterate 3 refine kF hC b5 ?_
 refine kP hC false b5 ?_
 refine kO hT hC ?_
 refine kD ?_
 exact kM
 iterate 7 refine kF hC b4 ?_
 refine kP hC false b4 ?_
 refine kO hT hC ?_
 iterate 3 refine kF hC rfl ?_
 iterate 2 refine kO hT hC ?_
 refine kD ?_
 exact kM
 iterate 3 refine kF hC b3 ?_
 refine kP hC false b3 ?_
 refine kO hT hC ?_
 iterate 7 refine kF hC rfl ?_
 iterate 2 refine kO hT hC ?_
 iterate 3 refine kF hC rfl ?_
 iterate 2 refine kO hT hC ?_
 refine kD ?_
 exact kM
 iterate 5 refine kF hC b2 ?_
 refine kP hC false b2 ?_
 refine kO hT hC ?_
 iterate 3 refine kF hC rfl ?_
 iterate 2 refine kO hT hC ?_
 iterate 7 refine kF hC rfl ?_
 iterate 2 refine kO hT hC ?_
 iterate 3 refine kF hC rfl ?_
 iterate 2 refine kO hT hC ?_
 refine kD ?_
 exact kM
 iterate 3 refine kF hC b1 ?_
 refine kP hC false b1 ?_
 refine kO hT hC ?_
 iterate 5 refine kF hC rfl ?_
 iterate 2 refine kO hT hC ?_
 iterate 3 refine kF hC rfl ?_
 iterate 2 refine kO hT hC ?_
 iterate 7 refine kF hC rfl ?_
 iterate 2 refine kO hT hC ?_
 iterate 3 refine kF hC rfl ?_
 iterate 2 refine kO hT hC ?_
 refine kD ?_
 exact kM
 refine Xae ?_
 exact kR
def Xog (r : Int) : AV := .sv (.int .i64 r)
def Xof (r : Int) : Xa8 := []
theorem Xji {p0 p1 r} (h : Xe6 p0 p1 = some r) : AC Tryz.prog 229 [.sv (.ints .i64 p0), .sv (.int .i64 p1)] [] (Xog r) (Xof r) := by
 refine Xad hT Tryz.func229 rfl fun C hC => ?_
 unfold Xe6 at h
 refine Xaa ?_
 refine kO hT hC ?_
 refine kN ?_
 refine kO hT hC ?_
 refine Vc.nil ?_
 refine Xaw ?_
 refine Xaa ?_
 refine kO hT hC ?_
 refine Vc.nil ?_
 refine kL [0,1,5,6] [] [_,_,_,_] [] ?_
 refine kX h (fun v2 => ([(5, .sv (.int .i64 v2.1)), (6, .sv (.int .i64 v2.2))], [])) (fun v4 => ([(5, .sv (.int .i64 v4)), (0, .any), (1, .any), (6, .any)], [])) (kW hC []) (fun v2 s h => ?_) fun v4 h => ?_
 unfold Xdc at h
 refine Xaw ?_
 refine Xaa ?_
 iterate 3 refine kO hT hC ?_
 refine Vc.nil ?_
 refine kS h ?_ ?_ <;> intro b3 h
 refine kt b3 ?_
 refine Xaf ?_
 refine Xag ?_
 refine Xaw ?_
 refine Xa2 ?_
 refine Xac ?_
 iterate 3 refine kO hT hC ?_
 refine kQ hT hC h fun h => ?_
 iterate 3 refine kO hT hC ?_
 refine Vc.nil ?_
 refine Xbc ?_
 refine Xag ?_
 refine Xac ?_
 iterate 3 refine kO hT hC ?_
 refine Vc.nil ?_
 exact kG
 refine kf b3 ?_
 refine Xba ?_
 refine Xbt ?_
 exact ku
 refine Xag ?_
 refine Xaa ?_
 iterate 2 refine kO hT hC ?_
 refine Vc.nil ?_
 refine Xae ?_
 exact kR
def Xps (r : (Yer × Bool)) : AV := .tup [.agg [.sv (.int .i64 r.1.Left), .sv (.int .i64 r.1.Top), .sv (.int .i64 r.1.Wide), .sv (.int .i64 r.1.High)], .sv (.bool r.2)]
def Xpr (r : (Yer × Bool)) : Xa8 := []
theorem Xrr {p0 p1 r} (h : Xfx p0 p1 = some r) : AC Tryz.prog 178 [.agg [.sv (.int .i64 p0.Level), .sv (.int .i64 p0.Bits), .sv (.ints .i64 p0.Cols), .sv (.ints .i64 p0.Rows)], .sv (.int .i64 p1)] [] (Xps r) (Xpr r) := by
 refine Xad hT Tryz.func178 rfl fun C hC => ?_
 unfold Xfx at h
 refine Xaa ?_
 iterate 3 refine kO hT hC ?_
 refine Vc.nil ?_
 refine Xaw ?_
 refine kL [1,2,4] [32,64] [_,_,_] [_,_] ?_
 refine kA h (fun v1 => ([(15, .sv (.bool v1))], [])) (fun v1 h => ?_) fun v1 h => ?_
 refine Xac ?_
 iterate 3 refine kO hT hC ?_
 refine kS h ?_ ?_ <;> intro b1 h
 iterate 4 refine kF hC b1 ?_
 refine kP hC true b1 ?_
 refine Vc.nil ?_
 exact kM
 iterate 2 refine kI hT hC b1 ?_
 refine kE hC b1 [] Tryz.call101 h (fun _ => Xfy) fun q2 h => ?_
 refine kI hT hC b1 ?_
 refine kP hC false b1 ?_
 refine Vc.nil ?_
 exact kM
 refine kS h ?_ ?_ <;> intro b2 h
 refine kt b2 ?_
 refine Xaa ?_
 iterate 3 refine kO hT hC ?_
 refine Vc.nil ?_
 refine Xae ?_
 refine Xak ?_
 exact kR
 refine kf b2 ?_
 refine Xaf ?_
 refine Xag ?_
 refine Xaa ?_
 iterate 4 refine kO hT hC ?_
 refine kQ hT hC h fun h => ?_
 refine kO hT hC ?_
 refine kN ?_
 iterate 4 refine kO hT hC ?_
 refine kQ hT hC h fun h => ?_
 refine kO hT hC ?_
 refine Vc.nil ?_
 refine Xec hm ?_
 iterate 3 refine kO hT hC ?_
 refine kC hC [] Tryz.call229 h (fun _ => Xji) fun q3 h => ?_
 iterate 4 refine kO hT hC ?_
 refine kC hC [] Tryz.call229 h (fun _ => Xji) fun q4 h => ?_
 iterate 4 refine kO hT hC ?_
 refine kQ hT hC h fun h => ?_
 iterate 5 refine kO hT hC ?_
 refine kQ hT hC h fun h => ?_
 iterate 5 refine kO hT hC ?_
 refine kD ?_
 refine Xae ?_
 exact kR
def Xlu (r : Int) : AV := .sv (.int .i64 r)
def Xlt (r : Int) : Xa8 := []
theorem Xmp {p0 p1 r} (h : Xcd p0 p1 = some r) : AC Tryz.prog 104 [.agg [.sv (.int .i64 p0.Level), .sv (.int .i64 p0.Bits), .sv (.ints .i64 p0.Cols), .sv (.ints .i64 p0.Rows)], .sv (.int .i64 p1)] [] (Xlu r) (Xlt r) := by
 refine Xad hT Tryz.func104 rfl fun C hC => ?_
 unfold Xcd at h
 refine Xaa ?_
 iterate 2 refine kO hT hC ?_
 refine kN ?_
 iterate 2 refine kO hT hC ?_
 refine kC hC [] Tryz.call178 h (fun _ => Xrr) fun q1 h => ?_
 iterate 6 refine kO hT hC ?_
 refine kN ?_
 iterate 2 refine kO hT hC ?_
 refine kQ hT hC h fun h => ?_
 iterate 2 refine kO hT hC ?_
 refine kQ hT hC h fun h => ?_
 iterate 2 refine kO hT hC ?_
 refine Vc.nil ?_
 refine Xae ?_
 exact kR
def Xo3 (r : (List Int)) : AV := .own 16
def Xo2 (r : (List Int)) : Xa8 := [(16, .ints .i64 r)]
theorem Xj2 {p0 r} (h : Xfp p0 = some r) : AC Tryz.prog 146 [.sv (.ints .i64 p0)] [] (Xo3 r) (Xo2 r) := by
 refine Xad hT Tryz.func146 rfl fun C hC => ?_
 unfold Xfp at h
 refine Xaa ?_
 refine kO hT hC ?_
 refine kN ?_
 iterate 2 refine kO hT hC ?_
 refine kT hT hC h fun h => ?_
 refine kO hT hC ?_
 refine Vc.nil ?_
 refine Xae ?_
 obtain rfl := kj h
 exact Xc6 (τ := ⟨[(2, .own 16)], [(16, some (.ints .i64 (([] : List Int) ++ p0)))]⟩) (kW hC [(16, 80)]) rfl ⟨rfl, trivial⟩
def Xqs (r : Seq) : AV := .agg [.sv (.int .i64 r.Level), .sv (.int .i64 r.Bits), .own 16, .own 17]
def Xqr (r : Seq) : Xa8 := [(16, .ints .i64 r.Cols), (17, .ints .i64 r.Rows)]
theorem Xko {p0 r} (h : Xfe p0 = some r) : AC Tryz.prog 71 [.agg [.sv (.int .i64 p0.Level), .sv (.int .i64 p0.Bits), .sv (.ints .i64 p0.Cols), .sv (.ints .i64 p0.Rows)]] [] (Xqs r) (Xqr r) := by
 refine Xad hT Tryz.func71 rfl fun C hC => ?_
 unfold Xfe at h
 refine Xaa ?_
 iterate 2 refine kO hT hC ?_
 refine kN ?_
 iterate 2 refine kO hT hC ?_
 refine kC hC [(16, 80)] Tryz.call146 h (fun _ => Xj2) fun q1 h => ?_
 iterate 2 refine kO hT hC ?_
 refine kN ?_
 iterate 2 refine kO hT hC ?_
 refine kC hC [(16, 144)] Tryz.call146 h (fun _ => Xj2) fun q2 h => ?_
 iterate 2 refine kO hT hC ?_
 refine kN ?_
 iterate 2 refine kO hT hC ?_
 refine Vc.nil ?_
 refine Xae ?_
 obtain rfl := kj h
 exact Xc6 (τ := ⟨[(2, .ptr 2000000 0)], [(16, some (.ints .i64 q1)), (17, some (.ints .i64 q2)), (2000000, some (.box [.sv (.int .i64 p0.Level), .sv (.int .i64 p0.Bits), .own 16, .own 17]))]⟩) (kW hC [(16, 80), (17, 144), (2000000, 32)]) rfl ⟨rfl, rfl, trivial⟩
def Xqw (r : Bool) : AV := .sv (.bool r)
def Xqv (r : Bool) : Xa8 := []
theorem Xs4 {p0 r} (h : Xgs p0 = some r) : AC Tryz.prog 142 [.agg [.sv (.int .i64 p0.Level), .sv (.int .i64 p0.Bits), .sv (.ints .i64 p0.Cols), .sv (.ints .i64 p0.Rows)]] [] (Xqw r) (Xqv r) := by
 refine Xad hT Tryz.func142 rfl fun C hC => ?_
 unfold Xgs at h
 refine Xaa ?_
 iterate 2 refine kO hT hC ?_
 refine Vc.nil ?_
 refine kL [1,2] [16] [_,_] [_] ?_
 refine kA h (fun v1 => ([(2, .sv (.bool v1)), (1, .any)], [(16, none)])) (fun v1 h => ?_) fun v1 h => ?_
 refine Xac ?_
 iterate 4 refine kO hT hC ?_
 refine kS h ?_ ?_ <;> intro b1 h
 iterate 3 refine kI hT hC b1 ?_
 refine kP hC true b1 ?_
 refine kO hT hC ?_
 refine kS h ?_ ?_ <;> intro b2 h
 iterate 4 refine kI hT hC b2 ?_
 refine kP hC true b2 ?_
 refine kO hT hC ?_
 refine kS h ?_ ?_ <;> intro b3 h
 iterate 4 refine kI hT hC b3 ?_
 refine kP hC true b3 ?_
 refine kO hT hC ?_
 refine Vc.nil ?_
 exact kM
 iterate 4 refine kF hC b3 ?_
 refine kP hC false b3 ?_
 refine kO hT hC ?_
 refine Vc.nil ?_
 exact kM
 iterate 4 refine kF hC b2 ?_
 refine kP hC false b2 ?_
 refine kO hT hC ?_
 iterate 4 refine kF hC rfl ?_
 iterate 2 refine kO hT hC ?_
 refine Vc.nil ?_
 exact kM
 iterate 3 refine kF hC b1 ?_
 refine kP hC false b1 ?_
 refine kO hT hC ?_
 iterate 4 refine kF hC rfl ?_
 iterate 2 refine kO hT hC ?_
 iterate 4 refine kF hC rfl ?_
 iterate 2 refine kO hT hC ?_
 refine Vc.nil ?_
 exact kM
 refine Xae ?_
 exact kR
def Xs9 (r : Bool) : AV := .sv (.bool r)
def Xs8 (r : Bool) : Xa8 := []
theorem Xau {p0 p1 p2 r} (h : Xaq p0 p1 p2 = some r) : AC Tryz.prog 116 [.sv (.int .i64 p0), .sv (.int .i64 p1), .sv (.int .i64 p2)] [] (Xs9 r) (Xs8 r) := by
 refine Xad hT Tryz.func116 rfl fun C hC => ?_
 unfold Xaq at h
 refine Xaa ?_
 refine kO hT hC ?_
 refine Vc.nil ?_
 refine kL [0,1,2,6] [] [_,_,_,_] [] ?_
 refine kA h (fun v1 => ([(6, .sv (.bool v1)), (0, .any), (1, .any), (2, .any)], [])) (fun v1 h => ?_) fun v1 h => ?_
 refine Xac ?_
 iterate 4 refine kO hT hC ?_
 refine kS h ?_ ?_ <;> intro b1 h
 iterate 3 refine kI hT hC b1 ?_
 refine kP hC true b1 ?_
 refine kO hT hC ?_
 refine Vc.nil ?_
 exact kM
 iterate 3 refine kF hC b1 ?_
 refine kP hC false b1 ?_
 refine kO hT hC ?_
 refine Vc.nil ?_
 exact kM
 refine Xae ?_
 exact kR
def Xvl (r : Int) : AV := .sv (.int .i64 r)
def Xvk (r : Int) : Xa8 := []
theorem Xni {p0 r} (h : Xel p0 = some r) : AC Tryz.prog 195 [.sv (.ints .i64 p0)] [] (Xvl r) (Xvk r) := by
 refine Xad hT Tryz.func195 rfl fun C hC => ?_
 unfold Xel at h
 refine Xaa ?_
 refine kO hT hC ?_
 refine kN ?_
 refine kO hT hC ?_
 refine Vc.nil ?_
 refine Xaw ?_
 refine Xaa ?_
 iterate 3 refine kO hT hC ?_
 refine Vc.nil ?_
 refine kL [3,6,7,8] [] [_,_,_,_] [] ?_
 refine kX h (fun v2 => ([(3, .sv (.int .i64 v2.1)), (8, .sv (.int .i64 v2.2))], [])) (fun v4 => ([(3, .sv (.int .i64 v4)), (6, .any), (7, .any), (8, .any)], [])) (kW hC []) (fun v2 s h => ?_) fun v4 h => ?_
 unfold Xcz at h
 refine Xaa ?_
 refine kO hT hC ?_
 refine Vc.nil ?_
 refine Xaw ?_
 refine kS h ?_ ?_ <;> intro b3 h
 refine kt b3 ?_
 refine Xaf ?_
 refine Xag ?_
 refine Xaw ?_
 refine Xa2 ?_
 refine Xaa ?_
 refine kQ hT hC h fun h => ?_
 iterate 2 refine kO hT hC ?_
 refine Vc.nil ?_
 refine Xac ?_
 iterate 4 refine kO hT hC ?_
 refine Vc.nil ?_
 refine Xbc ?_
 refine Xag ?_
 refine Xac ?_
 iterate 2 refine kO hT hC ?_
 refine Vc.nil ?_
 exact kG
 refine kf b3 ?_
 refine Xba ?_
 refine Xbt ?_
 exact ku
 refine Xag ?_
 refine Xaa ?_
 iterate 2 refine kO hT hC ?_
 refine Vc.nil ?_
 refine Xae ?_
 exact kR
def Xfm (r : Int) : AV := .sv (.int .i64 r)
def Xfl (r : Int) : Xa8 := []
theorem Xiv {p0 r} (h : Xch p0 = some r) : AC Tryz.prog 145 [.agg [.sv (.int .i64 p0.Level), .sv (.int .i64 p0.Bits), .sv (.ints .i64 p0.Cols), .sv (.ints .i64 p0.Rows)]] [] (Xfm r) (Xfl r) := by
 refine Xad hT Tryz.func145 rfl fun C hC => ?_
 unfold Xch at h
 refine Xaa ?_
 iterate 2 refine kO hT hC ?_
 refine Vc.nil ?_
 refine Xaw ?_
 refine Xaa ?_
 iterate 7 refine kO hT hC ?_
 refine Vc.nil ?_
 refine kL [1,11,12,13] [16,176] [_,_,_,_] [_,_] ?_
 obtain ⟨o32, hl, h⟩ := Xbs h
 refine Xd4 (fun v11 => ([(13, .sv (.int .i64 v11))], [])) (fun v22 => ([(11, .any), (12, .any), (13, .any)], [(176, none)])) (fun r => Xio C T Tryz.f145.results.toList (Xfm r) (Xfl r)) hl ?_ ?_ ?_ ?_
 apply Xbx hC []
 exact co
 rfl
 decide
 rfl
 intro v11 s hs
 have h := hs
 unfold Xb9 at h
 refine Xaa ?_
 refine kO hT hC ?_
 refine Vc.nil ?_
 refine Xaw ?_
 refine kS h ?_ ?_ <;> intro b17 h
 refine kt b17 ?_
 refine Xaf ?_
 refine Xag ?_
 refine Xaw ?_
 refine Xa2 ?_
 refine Xaa ?_
 iterate 2 refine kQ hT hC h fun h => ?_
 refine kO hT hC ?_
 refine Vc.nil ?_
 refine Xaw ?_
 refine Xaa ?_
 iterate 2 refine kO hT hC ?_
 refine kC hC [] Tryz.call116 h (fun _ => Xau) fun q23 h => ?_
 refine kO hT hC ?_
 refine Vc.nil ?_
 refine kS h ?_ ?_ <;> intro b18 h
 refine kt b18 ?_
 refine Xaa ?_
 refine kO hT hC ?_
 refine Vc.nil ?_
 refine Xae ?_
 refine Xak ?_
 refine Xdg ?_
 refine Xak ?_
 obtain rfl := kj h
 refine Xje ?_
 refine Xjd ?_
 exact Xc6 (Xf3.refl _) rfl trivial
 refine kf b18 ?_
 refine Xaf ?_
 refine Xag ?_
 refine Xaa ?_
 iterate 3 refine kO hT hC ?_
 refine Vc.nil ?_
 refine kL [1,11,12,13,21,22,23] [16,176] [_,_,_,_,_,_,_] [_,_] ?_
 obtain ⟨o31, hl, h⟩ := Xbs h
 refine Xd4 (fun v26 => ([(23, .sv (.int .i64 v26))], [])) (fun v29 => ([(21, .any), (22, .any), (23, .any)], [])) (fun r => Xio C T Tryz.f145.results.toList (Xfm r) (Xfl r)) hl ?_ ?_ ?_ ?_
 apply Xbx hC []
 exact co
 rfl
 decide
 rfl
 intro v26 s hs
 have h := hs
 unfold Xbu at h
 refine Xaa ?_
 refine kO hT hC ?_
 refine Vc.nil ?_
 refine Xaw ?_
 refine kS h ?_ ?_ <;> intro b23 h
 refine kt b23 ?_
 refine Xaf ?_
 refine Xag ?_
 refine Xaw ?_
 refine Xa2 ?_
 refine Xaa ?_
 refine kQ hT hC h fun h => ?_
 iterate 2 refine kO hT hC ?_
 refine kN ?_
 refine kO hT hC ?_
 refine kC hC [] Tryz.call116 h (fun _ => Xau) fun q30 h => ?_
 refine kO hT hC ?_
 refine Vc.nil ?_
 refine kS h ?_ ?_ <;> intro b24 h
 refine kt b24 ?_
 refine Xaa ?_
 refine kO hT hC ?_
 refine Vc.nil ?_
 refine Xae ?_
 refine Xdg ?_
 refine Xak ?_
 obtain rfl := kj h
 refine Xje ?_
 refine Xjd ?_
 exact Xc6 (Xf3.refl _) rfl trivial
 refine kf b24 ?_
 refine Xaf ?_
 refine Xbc ?_
 refine Xag ?_
 refine Xac ?_
 iterate 2 refine kO hT hC ?_
 refine Vc.nil ?_
 exact kG
 refine kf b23 ?_
 refine Xba ?_
 refine Xbt ?_
 exact kb
 intro v29 e
 subst e
 refine Xbc ?_
 refine Xag ?_
 refine Xac ?_
 iterate 2 refine kO hT hC ?_
 refine Vc.nil ?_
 exact kG
 intro r' σ' e hE
 subst e
 obtain rfl := kj h
 refine Xdg ?_
 refine Xak ?_
 refine Xje ?_
 refine Xjd ?_
 exact hE
 refine kf b17 ?_
 refine Xba ?_
 refine Xbt ?_
 exact kb
 intro v22 e
 subst e
 refine Xag ?_
 refine Xec hm ?_
 iterate 2 refine kO hT hC ?_
 refine kC hC [] Tryz.call195 h (fun _ => Xni) fun q33 h => ?_
 iterate 2 refine kO hT hC ?_
 refine kC hC [] Tryz.call195 h (fun _ => Xni) fun q34 h => ?_
 iterate 2 refine kO hT hC ?_
 refine kD ?_
 refine Xae ?_
 exact kR
 intro r' σ' e hE
 subst e
 obtain rfl := kj h
 refine Xak ?_
 exact hE
def Xkn (r : Int) : AV := .sv (.int .i64 r)
def Xkm (r : Int) : Xa8 := []
theorem Xlh {p0 r} (h : Xc7 p0 = some r) : AC Tryz.prog 231 [.sv (.int .i64 p0)] [] (Xkn r) (Xkm r) := by
 refine Xad hT Tryz.func231 rfl fun C hC => ?_
 unfold Xc7 at h
 refine Xaa ?_
 refine kO hT hC ?_
 refine Vc.nil ?_
 refine Xaw ?_
 refine Xaa ?_
 refine kO hT hC ?_
 refine kC hC [] Tryz.call116 h (fun _ => Xau) fun q1 h => ?_
 refine kO hT hC ?_
 refine Vc.nil ?_
 refine kS h ?_ ?_ <;> intro b1 h
 refine kt b1 ?_
 refine Xaa ?_
 refine kO hT hC ?_
 refine Vc.nil ?_
 refine Xae ?_
 refine Xak ?_
 exact kR
 refine kf b1 ?_
 refine Xaf ?_
 refine Xag ?_
 refine Xaa ?_
 iterate 3 refine kO hT hC ?_
 iterate 2 refine kQ hT hC h fun h => ?_
 refine kO hT hC ?_
 refine Vc.nil ?_
 refine Xae ?_
 exact kR
def Xve (r : Bool) : AV := .sv (.bool r)
def Xvd (r : Bool) : Xa8 := []
theorem Xhf {p0 r} (h : Xfd p0 = some r) : AC Tryz.prog 182 [.agg [.sv (.int .i64 p0.Level), .sv (.int .i64 p0.Bits), .sv (.ints .i64 p0.Cols), .sv (.ints .i64 p0.Rows)]] [] (Xve r) (Xvd r) := by
 refine Xad hT Tryz.func182 rfl fun C hC => ?_
 unfold Xfd at h
 refine Xaa ?_
 iterate 2 refine kO hT hC ?_
 refine Vc.nil ?_
 refine kL [1,2] [16] [_,_] [_] ?_
 refine kA h (fun v1 => ([(2, .sv (.bool v1)), (1, .any)], [(16, none)])) (fun v1 h => ?_) fun v1 h => ?_
 refine Xid hm ?_
 refine kO hT hC ?_
 refine kC hC [] Tryz.call145 h (fun _ => Xiv) fun q2 h => ?_
 iterate 2 refine kO hT hC ?_
 refine kC hC [] Tryz.call231 h (fun _ => Xlh) fun q3 h => ?_
 refine kC hC [] Tryz.call116 h (fun _ => Xau) fun q4 h => ?_
 refine kO hT hC ?_
 refine kS h ?_ ?_ <;> intro b1 h
 iterate 2 refine kI hT hC b1 ?_
 refine kE hC b1 [] Tryz.call116 h (fun _ => Xau) fun q5 h => ?_
 refine kP hC true b1 ?_
 refine kO hT hC ?_
 refine kD ?_
 exact kM
 iterate 3 refine kF hC b1 ?_
 refine kP hC false b1 ?_
 refine kO hT hC ?_
 refine kD ?_
 exact kM
 refine Xae ?_
 exact kR
def Xvb (r : Bool) : AV := .sv (.bool r)
def Xva (r : Bool) : Xa8 := []
theorem Xei {p0 r} (h : Xdv p0 = some r) : AC Tryz.prog 69 [.agg [.sv (.int .i64 p0.Qp), .sv (.bool p0.Large), .sv (.bool p0.Exact), .sv (.bool p0.Confined)]] [] (Xvb r) (Xva r) := by
 refine Xad hT Tryz.func69 rfl fun C hC => ?_
 unfold Xdv at h
 refine Xaa ?_
 iterate 2 refine kO hT hC ?_
 refine Vc.nil ?_
 refine kL [1,2] [16] [_,_] [_] ?_
 refine kA h (fun v1 => ([(2, .sv (.bool v1)), (1, .any)], [(16, none)])) (fun v1 h => ?_) fun v1 h => ?_
 refine Xac ?_
 iterate 2 refine kO hT hC ?_
 refine kC hC [] Tryz.call116 h (fun _ => Xau) fun q2 h => ?_
 refine kO hT hC ?_
 refine kS h ?_ ?_ <;> intro b1 h
 iterate 3 refine kI hT hC b1 ?_
 refine kS h ?_ ?_ <;> intro b2 h
 iterate 2 refine kI hT hC b2 ?_
 refine Xb0 hC rfl rfl rfl rfl b1 rfl rfl (b := true) b2 rfl rfl rfl trivial ?_
 refine kI hT hC b1 ?_
 refine kP hC true b1 ?_
 refine kO hT hC ?_
 refine Vc.nil ?_
 exact kM
 iterate 2 refine kF hC b2 ?_
 refine Xb0 hC rfl rfl rfl rfl b1 rfl rfl (b := false) b2 rfl rfl rfl trivial ?_
 refine kI hT hC b1 ?_
 refine kP hC true b1 ?_
 refine kO hT hC ?_
 refine Vc.nil ?_
 exact kM
 iterate 3 refine kF hC b1 ?_
 iterate 2 refine Xmb hC rfl rfl rfl rfl rfl rfl ?_
 iterate 2 refine kF hC b1 ?_
 refine kP hC false b1 ?_
 refine kO hT hC ?_
 refine Vc.nil ?_
 exact kM
 refine Xae ?_
 exact kR
def Xqq (r : Int) : AV := .sv (.int .i64 r)
def Xqp (r : Int) : Xa8 := []
theorem Xho {p0 r} (h : Xcy p0 = some r) : AC Tryz.prog 123 [.agg [.sv (.int .i64 p0.Level), .sv (.int .i64 p0.Bits), .sv (.ints .i64 p0.Cols), .sv (.ints .i64 p0.Rows)]] [] (Xqq r) (Xqp r) := by
 refine Xad hT Tryz.func123 rfl fun C hC => ?_
 unfold Xcy at h
 refine Xaa ?_
 iterate 2 refine kO hT hC ?_
 refine Vc.nil ?_
 refine Xaw ?_
 refine Xaa ?_
 refine kO hT hC ?_
 refine kC hC [] Tryz.call182 h (fun _ => Xhf) fun q1 h => ?_
 refine kO hT hC ?_
 refine Vc.nil ?_
 refine kS h ?_ ?_ <;> intro b1 h
 refine kt b1 ?_
 refine Xaa ?_
 refine kO hT hC ?_
 refine Vc.nil ?_
 refine Xae ?_
 refine Xak ?_
 exact kR
 refine kf b1 ?_
 refine Xaf ?_
 refine Xag ?_
 refine Xaa ?_
 iterate 8 refine kO hT hC ?_
 refine Vc.nil ?_
 refine Xae ?_
 exact kR
def Xs3 (r : Bool) : AV := .sv (.bool r)
def Xs2 (r : Bool) : Xa8 := []
theorem Xvi {p0 r} (h : Xhp p0 = some r) : AC Tryz.prog 140 [.sv (.int .i64 p0)] [] (Xs3 r) (Xs2 r) := by
 refine Xad hT Tryz.func140 rfl fun C hC => ?_
 unfold Xhp at h
 refine Xaa ?_
 refine kO hT hC ?_
 refine Vc.nil ?_
 refine kL [0,2] [] [_,_] [] ?_
 refine kA h (fun v1 => ([(2, .sv (.bool v1)), (0, .any)], [])) (fun v1 h => ?_) fun v1 h => ?_
 refine Xac ?_
 iterate 3 refine kO hT hC ?_
 refine kS h ?_ ?_ <;> intro b1 h
 iterate 2 refine kF hC b1 ?_
 refine kP hC true b1 ?_
 refine kO hT hC ?_
 iterate 2 refine kF hC rfl ?_
 iterate 2 refine kO hT hC ?_
 iterate 2 refine kF hC rfl ?_
 iterate 2 refine kO hT hC ?_
 refine Vc.nil ?_
 exact kM
 iterate 2 refine kI hT hC b1 ?_
 refine kP hC false b1 ?_
 refine kO hT hC ?_
 refine kS h ?_ ?_ <;> intro b2 h
 iterate 2 refine kF hC b2 ?_
 refine kP hC true b2 ?_
 refine kO hT hC ?_
 iterate 2 refine kF hC rfl ?_
 iterate 2 refine kO hT hC ?_
 refine Vc.nil ?_
 exact kM
 iterate 2 refine kI hT hC b2 ?_
 refine kP hC false b2 ?_
 refine kO hT hC ?_
 refine kS h ?_ ?_ <;> intro b3 h
 iterate 2 refine kF hC b3 ?_
 refine kP hC true b3 ?_
 refine kO hT hC ?_
 refine Vc.nil ?_
 exact kM
 iterate 2 refine kI hT hC b3 ?_
 refine kP hC false b3 ?_
 refine kO hT hC ?_
 refine Vc.nil ?_
 exact kM
 refine Xae ?_
 exact kR
def Xow (r : (ByteArray × Bool)) : AV := .tup [.sv (.str r.1), .sv (.bool r.2)]
def Xov (r : (ByteArray × Bool)) : Xa8 := []
theorem Xqf {p0 r} (h : Xeh p0 = some r) : AC Tryz.prog 183 [.sv (.str p0)] [] (Xow r) (Xov r) := by
 refine Xad hT Tryz.func183 rfl fun C hC => ?_
 unfold Xeh at h
 refine Xaa ?_
 iterate 2 refine kO hT hC ?_
 refine kN ?_
 iterate 4 refine kO hT hC ?_
 refine Vc.nil ?_
 refine Xaw ?_
 refine kL [0,4] [] [_,_] [] ?_
 refine kA h (fun v1 => ([(23, .sv (.bool v1))], [])) (fun v1 h => ?_) fun v1 h => ?_
 refine Xac ?_
 iterate 3 refine kO hT hC ?_
 refine kS h ?_ ?_ <;> intro b1 h
 iterate 6 refine kF hC b1 ?_
 refine kP hC true b1 ?_
 refine kO hT hC ?_
 iterate 2 refine kF hC rfl ?_
 refine kO hT hC ?_
 refine Vc.nil ?_
 exact kM
 iterate 4 refine kI hT hC b1 ?_
 refine kJ hT hC b1 h fun h => ?_
 refine kI hT hC b1 ?_
 refine kP hC false b1 ?_
 refine kO hT hC ?_
 refine kS h ?_ ?_ <;> intro b2 h
 iterate 2 refine kF hC b2 ?_
 refine kP hC true b2 ?_
 refine Vc.nil ?_
 exact kM
 iterate 2 refine kI hT hC b2 ?_
 refine kP hC false b2 ?_
 refine Vc.nil ?_
 exact kM
 refine kS h ?_ ?_ <;> intro b3 h
 refine kt b3 ?_
 refine Xaa ?_
 iterate 2 refine kO hT hC ?_
 refine Vc.nil ?_
 refine Xae ?_
 refine Xak ?_
 exact kR
 refine kf b3 ?_
 refine Xaf ?_
 refine Xag ?_
 refine Xaa ?_
 refine kO hT hC ?_
 obtain ⟨hq, h⟩ := Xc1 h
 refine Yb4 hT hC rfl rfl rfl rfl ⟨hq.1, hq.2.1, hq.2.2, by decide⟩ ?_
 refine kO hT hC ?_
 refine Vc.nil ?_
 refine Xaw ?_
 refine Xaa ?_
 refine kO hT hC ?_
 refine Vc.nil ?_
 refine kL [0,4,5,6] [400] [_,_,_,_] [_] ?_
 refine kX h (fun v3 => ([(6, .sv (.int .i64 v3.1))], [(400, some (.ints .u8 v3.2))])) (fun v5 => ([(0, .any), (6, .any)], [(400, some (.ints .u8 v5))])) (kW hC []) (fun v3 s h => ?_) fun v5 h => ?_
 unfold Xct at h
 refine Xaw ?_
 refine Xaa ?_
 iterate 3 refine kO hT hC ?_
 refine Vc.nil ?_
 refine kS h ?_ ?_ <;> intro b6 h
 refine kt b6 ?_
 refine Xaf ?_
 refine Xag ?_
 refine Xaw ?_
 refine Xa2 ?_
 refine Xac ?_
 iterate 3 refine kO hT hC ?_
 iterate 2 refine kQ hT hC h fun h => ?_
 refine kO hT hC ?_
 refine kQ hT hC h fun h => ?_
 refine kO hT hC ?_
 refine kQ hT hC h fun h => ?_
 iterate 3 refine kO hT hC ?_
 refine kT hT hC h fun h => ?_
 refine kO hT hC ?_
 refine Vc.nil ?_
 refine Xbc ?_
 refine Xag ?_
 refine Xac ?_
 iterate 3 refine kO hT hC ?_
 refine Vc.nil ?_
 obtain rfl := kj h
 exact Ydw (kW hC [(400, 688)])
 refine kf b6 ?_
 refine Xba ?_
 refine Xbt ?_
 exact ku
 refine Xag ?_
 refine Xaw ?_
 refine kL [4,5] [400] [_,_] [_] ?_
 refine kX h (fun v8 => ([(4, .sv (.int .i64 v8))], [])) (fun v10 => ([(4, .sv (.int .i64 v10))], [])) (kW hC []) (fun v8 s h => ?_) fun v10 h => ?_
 unfold Xcu at h
 refine Xaw ?_
 refine Xaa ?_
 iterate 3 refine kO hT hC ?_
 iterate 2 refine kQ hT hC h fun h => ?_
 refine kO hT hC ?_
 refine Vc.nil ?_
 refine kS h ?_ ?_ <;> intro b9 h
 refine kt b9 ?_
 refine Xaf ?_
 refine Xag ?_
 refine Xa2 ?_
 refine Xac ?_
 iterate 3 refine kO hT hC ?_
 refine Vc.nil ?_
 refine Xbc ?_
 exact kG
 refine kf b9 ?_
 refine Xba ?_
 refine Xbt ?_
 exact ku
 refine Xag ?_
 refine Xaw ?_
 refine Xaa ?_
 iterate 3 refine kO hT hC ?_
 refine Vc.nil ?_
 refine kS h ?_ ?_ <;> intro b10 h
 refine kt b10 ?_
 refine Xaa ?_
 iterate 2 refine kO hT hC ?_
 refine Vc.nil ?_
 refine Xae ?_
 refine Xak ?_
 exact kR
 refine kf b10 ?_
 refine Xaf ?_
 refine Xag ?_
 refine Xaa ?_
 iterate 3 refine kO hT hC ?_
 iterate 2 refine kQ hT hC h fun h => ?_
 iterate 2 refine kO hT hC ?_
 refine Vc.nil ?_
 refine Xae ?_
 exact kR
def Xs0 (r : (Int × ByteArray × Bool)) : AV := .tup [.sv (.int .i64 r.1), .sv (.str r.2.1), .sv (.bool r.2.2)]
def Xsz (r : (Int × ByteArray × Bool)) : Xa8 := []
theorem Xvf {p0 r} (h : Xdi p0 = some r) : AC Tryz.prog 112 [.sv (.str p0)] [] (Xs0 r) (Xsz r) := by
 refine Xad hT Tryz.func112 rfl fun C hC => ?_
 unfold Xdi at h
 refine Xaa ?_
 iterate 3 refine kO hT hC ?_
 refine Vc.nil ?_
 refine Xaw ?_
 refine kL [0] [] [_] [] ?_
 refine kA h (fun v1 => ([(15, .sv (.bool v1))], [])) (fun v1 h => ?_) fun v1 h => ?_
 refine Xac ?_
 iterate 3 refine kO hT hC ?_
 refine kS h ?_ ?_ <;> intro b1 h
 iterate 5 refine kF hC b1 ?_
 refine kP hC true b1 ?_
 refine Vc.nil ?_
 exact kM
 refine kI hT hC b1 ?_
 refine kJ hT hC b1 h fun h => ?_
 refine kI hT hC b1 ?_
 refine kE hC b1 [] Tryz.call140 h (fun _ => Xvi) fun q2 h => ?_
 refine kI hT hC b1 ?_
 refine kP hC false b1 ?_
 refine Vc.nil ?_
 exact kM
 refine kS h ?_ ?_ <;> intro b2 h
 refine kt b2 ?_
 refine Xaa ?_
 iterate 3 refine kO hT hC ?_
 refine Vc.nil ?_
 refine Xae ?_
 refine Xak ?_
 exact kR
 refine kf b2 ?_
 refine Xaf ?_
 refine Xag ?_
 refine Xaa ?_
 refine kO hT hC ?_
 refine kQ hT hC h fun h => ?_
 refine kC hC [] Tryz.call183 h (fun _ => Xqf) fun q3 h => ?_
 iterate 5 refine kO hT hC ?_
 refine Vc.nil ?_
 refine Xaw ?_
 refine Xaa ?_
 iterate 2 refine kO hT hC ?_
 refine Vc.nil ?_
 refine kS h ?_ ?_ <;> intro b3 h
 refine kt b3 ?_
 refine Xaa ?_
 iterate 3 refine kO hT hC ?_
 refine Vc.nil ?_
 refine Xae ?_
 refine Xak ?_
 exact kR
 refine kf b3 ?_
 refine Xaf ?_
 refine Xag ?_
 refine Xaa ?_
 refine kO hT hC ?_
 refine kQ hT hC h fun h => ?_
 iterate 5 refine kO hT hC ?_
 refine Vc.nil ?_
 refine Xae ?_
 exact kR
def Xlx (r : Bool) : AV := .sv (.bool r)
def Xlw (r : Bool) : Xa8 := []
theorem Xxf {p0 r} (h : Xfc p0 = some r) : AC Tryz.prog 215 [.sv (.str p0)] [] (Xlx r) (Xlw r) := by
 refine Xad hT Tryz.func215 rfl fun C hC => ?_
 unfold Xfc at h
 refine Xaa ?_
 refine kO hT hC ?_
 refine Vc.nil ?_
 refine Xaw ?_
 refine Xaa ?_
 iterate 3 refine kO hT hC ?_
 refine Vc.nil ?_
 refine kS h ?_ ?_ <;> intro b1 h
 refine kt b1 ?_
 refine Xaa ?_
 refine kO hT hC ?_
 refine Vc.nil ?_
 refine Xae ?_
 refine Xak ?_
 exact kR
 refine kf b1 ?_
 refine Xaf ?_
 refine Xag ?_
 refine Xaw ?_
 refine Xaa ?_
 refine kO hT hC ?_
 refine Vc.nil ?_
 refine kL [0,3] [] [_,_] [] ?_
 obtain ⟨o8, hl, h⟩ := Xbs h
 refine Xd4 (fun v3 => ([(3, .sv (.int .i64 v3))], [])) (fun v6 => ([(0, .any), (3, .any)], [])) (fun r => Xio C T Tryz.f215.results.toList (Xlx r) (Xlw r)) hl ?_ ?_ ?_ ?_
 apply Xbx hC []
 exact co
 rfl
 decide
 rfl
 intro v3 s hs
 have h := hs
 unfold Xej at h
 refine Xaw ?_
 refine Xaa ?_
 iterate 4 refine kO hT hC ?_
 refine Vc.nil ?_
 refine kS h ?_ ?_ <;> intro b8 h
 refine kt b8 ?_
 refine Xaf ?_
 refine Xag ?_
 refine Xaw ?_
 refine Xa2 ?_
 refine kL [0,3] [] [_,_] [] ?_
 refine kA h (fun v7 => ([(22, .sv (.bool v7))], [])) (fun v7 h => ?_) fun v7 h => ?_
 refine Xac ?_
 iterate 2 refine kO hT hC ?_
 refine kQ hT hC h fun h => ?_
 iterate 2 refine kO hT hC ?_
 refine kS h ?_ ?_ <;> intro b9 h
 iterate 2 refine kI hT hC b9 ?_
 refine kJ hT hC b9 h fun h => ?_
 refine kI hT hC b9 ?_
 refine kP hC true b9 ?_
 refine Vc.nil ?_
 exact kM
 iterate 4 refine kF hC b9 ?_
 refine kP hC false b9 ?_
 refine Vc.nil ?_
 exact kM
 refine kS h ?_ ?_ <;> intro b10 h
 refine kt b10 ?_
 refine Xaa ?_
 refine kO hT hC ?_
 refine Vc.nil ?_
 refine Xae ?_
 refine Xdg ?_
 refine Xak ?_
 obtain rfl := kj h
 refine Xje ?_
 refine Xjd ?_
 exact Xc6 (Xf3.refl _) rfl trivial
 refine kf b10 ?_
 refine Xaf ?_
 refine Xbc ?_
 refine Xag ?_
 refine Xac ?_
 iterate 3 refine kO hT hC ?_
 refine Vc.nil ?_
 exact kG
 refine kf b8 ?_
 refine Xba ?_
 refine Xbt ?_
 exact kb
 intro v6 e
 subst e
 refine Xag ?_
 refine Xaa ?_
 refine kO hT hC ?_
 refine Vc.nil ?_
 refine Xae ?_
 exact kR
 intro r' σ' e hE
 subst e
 obtain rfl := kj h
 refine Xak ?_
 exact hE
def Xs7 (r : Xf2) : AV := .ptr 16 0
def Xs6 (r : Xf2) : Xa8 := [(16, .box [.sv (.str r.row_), .sv (.int .i64 r.at_), .sv (.bool r.bad_)])]
theorem Xgl {p0 p1 r} (h : Xc4 p0 p1 = some r) : AC Tryz.prog 184 [.sv (.str p0), .sv (.int .i64 p1)] [] (Xs7 r) (Xs6 r) := by
 refine Xad hT Tryz.func184 rfl fun C hC => ?_
 unfold Xc4 at h
 refine Xaa ?_
 refine kO hT hC ?_
 refine Vc.nil ?_
 refine kL [0,1] [] [_,_] [] ?_
 refine kA h (fun v1 => ([(4, .ptr 321 0), (0, .any), (1, .any)], [(321, some (.box [.sv (.str p0), .sv (.int .i64 p1), .sv (.bool v1)]))])) (fun v1 h => ?_) fun v1 h => ?_
 refine Xac ?_
 iterate 3 refine kO hT hC ?_
 refine kC hC [] Tryz.call215 h (fun _ => Xxf) fun q2 h => ?_
 iterate 2 refine kO hT hC ?_
 refine kS h ?_ ?_ <;> intro b1 h
 iterate 3 refine kI hT hC (kn b1) ?_
 refine kE hC (kn b1) [] Tryz.call116 h (fun _ => Xau) fun q3 h => ?_
 refine kI hT hC (kn b1) ?_
 refine kP hC false (kn b1) ?_
 iterate 3 refine kO hT hC ?_
 refine Vc.nil ?_
 obtain rfl := kj h
 exact Xp9 (kW hC [(321, 288)])
 iterate 5 refine kF hC (kn b1) ?_
 refine kP hC true (kn b1) ?_
 iterate 3 refine kO hT hC ?_
 refine Vc.nil ?_
 obtain rfl := kj h
 exact Xp9 (kW hC [(321, 288)])
 refine Xae ?_
 obtain rfl := kj h
 exact Xc6 (τ := ⟨[(4, .ptr 16 0)], [(16, some (.box [.sv (.str p0), .sv (.int .i64 p1), .sv (.bool v1)]))]⟩) (kW hC [(16, 321)]) rfl ⟨rfl, trivial⟩
def Xo5 (r : (Int × Xf2)) : AV := .sv (.int .i64 r.1)
def Xo4 (r : (Int × Xf2)) : Xa8 := [(0, .box [.sv (.str r.2.row_), .sv (.int .i64 r.2.at_), .sv (.bool r.2.bad_)])]
theorem Xca {p0 p1 r} (h : Xap p0 p1 = some r) : AC Tryz.prog 186 [.ptr 0 0, .sv (.int .i64 p1)] [(0, .box [.sv (.str p0.row_), .sv (.int .i64 p0.at_), .sv (.bool p0.bad_)])] (Xo5 r) (Xo4 r) := by
 refine Xad hT Tryz.func186 rfl fun C hC => ?_
 unfold Xap at h
 refine Xaa ?_
 refine kO hT hC ?_
 refine Vc.nil ?_
 refine Xaw ?_
 refine kL [0,1] [0] [_,_] [_] ?_
 refine kA h (fun v1 => ([(24, .sv (.bool v1))], [])) (fun v1 h => ?_) fun v1 h => ?_
 refine Xid hm ?_
 iterate 5 refine kO hT hC ?_
 refine kS h ?_ ?_ <;> intro b1 h
 iterate 12 refine kF hC b1 ?_
 refine kP hC true b1 ?_
 refine kD ?_
 exact kM
 iterate 12 refine kI hT hC b1 ?_
 refine kP hC false b1 ?_
 refine kD ?_
 exact kM
 refine kS h ?_ ?_ <;> intro b2 h
 refine kt b2 ?_
 refine Xaa ?_
 iterate 4 refine kO hT hC ?_
 refine kN ?_
 refine kO hT hC ?_
 refine Vc.nil ?_
 refine Xae ?_
 refine Xak ?_
 obtain rfl := kj h
 exact Xc6 (Xf3.refl _) rfl ⟨rfl, trivial⟩
 refine kf b2 ?_
 refine Xaf ?_
 refine Xag ?_
 refine Xaa ?_
 refine kO hT hC ?_
 refine Vc.nil ?_
 refine Xaw ?_
 refine Xaa ?_
 refine kO hT hC ?_
 refine Vc.nil ?_
 refine kL [0,1,5,6] [0] [_,_,_,_] [_] ?_
 refine kX h (fun v3 => ([(5, .sv (.int .i64 v3.1)), (6, .sv (.int .i64 v3.2))], [])) (fun v5 => ([(5, .sv (.int .i64 v5)), (6, .any)], [])) (kW hC []) (fun v3 s h => ?_) fun v5 h => ?_
 unfold Xdq at h
 refine Xaw ?_
 refine Xaa ?_
 iterate 3 refine kO hT hC ?_
 refine Vc.nil ?_
 refine kS h ?_ ?_ <;> intro b5 h
 refine kt b5 ?_
 refine Xaf ?_
 refine Xag ?_
 refine Xaw ?_
 refine Xa2 ?_
 refine Xid hm ?_
 refine kO hT hC ?_
 refine kQ hT hC h fun h => ?_
 iterate 10 refine kO hT hC ?_
 refine kQ hT hC h fun h => ?_
 iterate 4 refine kO hT hC ?_
 refine kD ?_
 refine Xbc ?_
 refine Xag ?_
 refine Xac ?_
 iterate 3 refine kO hT hC ?_
 refine Vc.nil ?_
 exact kG
 refine kf b5 ?_
 refine Xba ?_
 refine Xbt ?_
 exact ku
 refine Xag ?_
 refine Xaa ?_
 iterate 10 refine kO hT hC ?_
 refine kN ?_
 iterate 2 refine kO hT hC ?_
 refine Vc.nil ?_
 refine Xae ?_
 obtain rfl := kj h
 exact Xc6 (Xf3.refl _) rfl ⟨rfl, trivial⟩
def Xq0 (r : (Int × Xf2)) : AV := .sv (.int .i64 r.1)
def Xqz (r : (Int × Xf2)) : Xa8 := [(0, .box [.sv (.str r.2.row_), .sv (.int .i64 r.2.at_), .sv (.bool r.2.bad_)])]
theorem Xbv {p0 r} (h : Xa6 p0 = some r) : AC Tryz.prog 185 [.ptr 0 0] [(0, .box [.sv (.str p0.row_), .sv (.int .i64 p0.at_), .sv (.bool p0.bad_)])] (Xq0 r) (Xqz r) := by
 refine Xad hT Tryz.func185 rfl fun C hC => ?_
 unfold Xa6 at h
 refine Xaa ?_
 refine kO hT hC ?_
 refine kN ?_
 refine kO hT hC ?_
 refine Vc.nil ?_
 refine Xaw ?_
 refine kL [0,3] [0] [_,_] [_] ?_
 refine kX h (fun v3 => ([(3, .sv (.int .i64 v3))], [])) (fun v6 => ([(3, .sv (.int .i64 v6))], [])) (kW hC []) (fun v3 s h => ?_) fun v6 h => ?_
 unfold Xck at h
 refine Xaw ?_
 refine kL [0,3] [0] [_,_] [_] ?_
 refine kA h (fun v7 => ([(37, .sv (.bool v7))], [])) (fun v7 h => ?_) fun v7 h => ?_
 refine Xid hm ?_
 iterate 6 refine kO hT hC ?_
 refine kS h ?_ ?_ <;> intro b7 h
 iterate 12 refine kF hC (kn b7) ?_
 refine kP hC false (kn b7) ?_
 refine kO hT hC ?_
 iterate 12 refine kF hC rfl ?_
 refine kO hT hC ?_
 refine kD ?_
 exact kM
 iterate 12 refine kI hT hC (kn b7) ?_
 refine kP hC true (kn b7) ?_
 refine kO hT hC ?_
 refine kS h ?_ ?_ <;> intro b8 h
 iterate 10 refine kI hT hC b8 ?_
 refine kJ hT hC b8 h fun h => ?_
 refine kI hT hC b8 ?_
 refine kP hC true b8 ?_
 refine kD ?_
 exact kM
 iterate 12 refine kF hC b8 ?_
 refine kP hC false b8 ?_
 refine kD ?_
 exact kM
 refine kS h ?_ ?_ <;> intro b9 h
 refine kt b9 ?_
 refine Xaf ?_
 refine Xag ?_
 refine Xa2 ?_
 refine Xac ?_
 iterate 3 refine kO hT hC ?_
 refine Vc.nil ?_
 refine Xbc ?_
 exact kG
 refine kf b9 ?_
 refine Xba ?_
 refine Xbt ?_
 exact ku
 refine Xag ?_
 refine kL [0,3] [0] [_,_] [_] ?_
 refine kA h (fun v9 => ([], [(0, some (.box [.sv (.str p0.row_), .sv (.int .i64 p0.at_), .sv (.bool v9)]))])) (fun v9 h => ?_) fun v9 h => ?_
 refine Xaa ?_
 iterate 2 refine kO hT hC ?_
 refine Vc.nil ?_
 refine kS h ?_ ?_ <;> intro b10 h
 refine kt b10 ?_
 refine Xac ?_
 iterate 4 refine kO hT hC ?_
 refine Vc.nil ?_
 exact kM
 refine kf b10 ?_
 refine Xaf ?_
 exact kM
 refine Xaa ?_
 iterate 4 refine kO hT hC ?_
 refine kC hC [(0, 0)] Tryz.call186 h (fun _ => Xca) fun q10 h => ?_
 iterate 2 refine kO hT hC ?_
 refine Vc.nil ?_
 refine Xaw ?_
 refine kL [0,4] [0] [_,_] [_] ?_
 refine kA h (fun v11 => ([(58, .sv (.bool v11))], [])) (fun v11 h => ?_) fun v11 h => ?_
 refine Xac ?_
 iterate 5 refine kO hT hC ?_
 refine kS h ?_ ?_ <;> intro b11 h
 iterate 2 refine kF hC b11 ?_
 refine kP hC true b11 ?_
 refine Vc.nil ?_
 exact kM
 iterate 2 refine kI hT hC b11 ?_
 refine kP hC false b11 ?_
 refine Vc.nil ?_
 exact kM
 refine kS h ?_ ?_ <;> intro b12 h
 refine kt b12 ?_
 refine Xaa ?_
 iterate 4 refine kO hT hC ?_
 refine kN ?_
 refine kO hT hC ?_
 refine Vc.nil ?_
 refine Xae ?_
 refine Xak ?_
 obtain rfl := kj h
 exact Xc6 (Xf3.refl _) rfl ⟨rfl, trivial⟩
 refine kf b12 ?_
 refine Xaf ?_
 refine Xag ?_
 refine Xaa ?_
 iterate 2 refine kO hT hC ?_
 refine Vc.nil ?_
 refine Xae ?_
 obtain rfl := kj h
 exact Xc6 (Xf3.refl _) rfl ⟨rfl, trivial⟩
def Xnf (r : ((List Int) × Xf2)) : AV := .own 16
def Xne (r : ((List Int) × Xf2)) : Xa8 := [(16, .ints .i64 r.1), (0, .box [.sv (.str r.2.row_), .sv (.int .i64 r.2.at_), .sv (.bool r.2.bad_)])]
theorem Xi1 {p0 r} (h : Xb3 p0 = some r) : AC Tryz.prog 187 [.ptr 0 0] [(0, .box [.sv (.str p0.row_), .sv (.int .i64 p0.at_), .sv (.bool p0.bad_)])] (Xnf r) (Xne r) := by
 refine Xad hT Tryz.func187 rfl fun C hC => ?_
 unfold Xb3 at h
 refine Xaa ?_
 refine kO hT hC ?_
 refine kN ?_
 iterate 2 refine kO hT hC ?_
 refine kN ?_
 refine kO hT hC ?_
 refine kC hC [(0, 0)] Tryz.call185 h (fun _ => Xbv) fun q1 h => ?_
 refine kO hT hC ?_
 refine Vc.nil ?_
 refine kL [0,3,4] [0,96] [_,_,_] [_,_] ?_
 refine kA h (fun v2 => ([], [(0, some (.box [.sv (.str q1.2.row_), .sv (.int .i64 q1.2.at_), .sv (.bool v2)]))])) (fun v2 h => ?_) fun v2 h => ?_
 refine Xaa ?_
 iterate 2 refine kO hT hC ?_
 refine Vc.nil ?_
 refine kS h ?_ ?_ <;> intro b1 h
 refine kt b1 ?_
 refine Xac ?_
 iterate 4 refine kO hT hC ?_
 refine Vc.nil ?_
 exact kM
 refine kf b1 ?_
 refine Xaf ?_
 exact kM
 refine Xaw ?_
 refine Xaa ?_
 refine kO hT hC ?_
 refine Vc.nil ?_
 refine kL [0,3,4,5] [0,96] [_,_,_,_] [_,_] ?_
 refine kX h (fun v6 => ([(5, .sv (.int .i64 v6.1))], [(0, some (.box [.sv (.str v6.2.1), .sv (.int .i64 v6.2.2.1), .sv (.bool v6.2.2.2.1)])), (96, some (.ints .i64 v6.2.2.2.2))])) (fun v10 => ([(0, .any), (4, .any), (5, .any)], [(0, some (.box [.sv (.str v10.2.1), .sv (.int .i64 v10.2.2.1), .sv (.bool v10.2.2.2)])), (96, some (.ints .i64 v10.1))])) (kW hC []) (fun v6 s h => ?_) fun v10 h => ?_
 unfold Xar at h
 refine Xaw ?_
 refine kL [0,3,4,5] [0,96] [_,_,_,_] [_,_] ?_
 refine kA h (fun v11 => ([(23, .sv (.bool v11))], [])) (fun v11 h => ?_) fun v11 h => ?_
 refine Xac ?_
 iterate 4 refine kO hT hC ?_
 refine kS h ?_ ?_ <;> intro b6 h
 iterate 5 refine kI hT hC b6 ?_
 refine kP hC true b6 ?_
 refine Vc.nil ?_
 exact kM
 iterate 5 refine kF hC b6 ?_
 refine kP hC false b6 ?_
 refine Vc.nil ?_
 exact kM
 refine kS h ?_ ?_ <;> intro b7 h
 refine kt b7 ?_
 refine Xaf ?_
 refine Xag ?_
 refine Xaw ?_
 refine Xa2 ?_
 refine Xac ?_
 iterate 2 refine kO hT hC ?_
 refine kC hC [(0, 0)] Tryz.call185 h (fun _ => Xbv) fun q12 h => ?_
 refine kO hT hC ?_
 refine kT hT hC h fun h => ?_
 refine kO hT hC ?_
 refine Vc.nil ?_
 refine Xbc ?_
 refine Xag ?_
 refine Xac ?_
 iterate 3 refine kO hT hC ?_
 refine Vc.nil ?_
 obtain rfl := kj h
 exact Ydw (kW hC [(96, 480)])
 refine kf b7 ?_
 refine Xba ?_
 refine Xbt ?_
 exact ku
 refine Xag ?_
 refine Xaa ?_
 iterate 2 refine kO hT hC ?_
 refine Vc.nil ?_
 refine Xae ?_
 obtain rfl := kj h
 exact Xc6 (τ := ⟨[(2, .own 16)], [(16, some (.ints .i64 v10.1)), (0, some (.box [.sv (.str v10.2.1), .sv (.int .i64 v10.2.2.1), .sv (.bool v10.2.2.2)]))]⟩) (kW hC [(16, 96)]) rfl ⟨rfl, rfl, trivial⟩
def Xqm (r : (Seq × Int × Bool)) : AV := .tup [.agg [.sv (.int .i64 r.1.Level), .sv (.int .i64 r.1.Bits), .own 16, .own 17], .sv (.int .i64 r.2.1), .sv (.bool r.2.2)]
def Xql (r : (Seq × Int × Bool)) : Xa8 := [(16, .ints .i64 r.1.Cols), (17, .ints .i64 r.1.Rows)]
theorem Xsy {p0 p1 r} (h : Xd6 p0 p1 = some r) : AC Tryz.prog 113 [.sv (.str p0), .sv (.int .i64 p1)] [] (Xqm r) (Xql r) := by
 refine Xad hT Tryz.func113 rfl fun C hC => ?_
 unfold Xd6 at h
 refine Xaa ?_
 iterate 3 refine kO hT hC ?_
 refine kN ?_
 iterate 2 refine kO hT hC ?_
 refine kC hC [(16, 176)] Tryz.call184 h (fun _ => Xgl) fun q1 h => ?_
 refine kO hT hC ?_
 refine kN ?_
 iterate 3 refine kO hT hC ?_
 refine kN ?_
 refine kO hT hC ?_
 refine kC hC [(0, 176)] Tryz.call185 h (fun _ => Xbv) fun q2 h => ?_
 iterate 2 refine kO hT hC ?_
 refine kN ?_
 refine kO hT hC ?_
 refine kC hC [(0, 176)] Tryz.call186 h (fun _ => Xca) fun q3 h => ?_
 iterate 2 refine kO hT hC ?_
 refine kN ?_
 refine kO hT hC ?_
 refine kC hC [(16, 320), (0, 176)] Tryz.call187 h (fun _ => Xi1) fun q4 h => ?_
 iterate 2 refine kO hT hC ?_
 refine kN ?_
 refine kO hT hC ?_
 refine kC hC [(16, 368), (0, 176)] Tryz.call187 h (fun _ => Xi1) fun q5 h => ?_
 iterate 2 refine kO hT hC ?_
 refine Vc.nil ?_
 refine Xaw ?_
 refine kL [4,7,8] [64,128,176,320,368] [_,_,_] [_,_,_,_,_] ?_
 refine kA h (fun v6 => ([(33, .sv (.bool v6))], [])) (fun v6 h => ?_) fun v6 h => ?_
 refine Xac ?_
 iterate 5 refine kO hT hC ?_
 refine kS h ?_ ?_ <;> intro b1 h
 iterate 3 refine kF hC b1 ?_
 refine kP hC true b1 ?_
 refine Vc.nil ?_
 exact kM
 refine kI hT hC b1 ?_
 refine kE hC b1 [] Tryz.call182 h (fun _ => Xhf) fun q7 h => ?_
 refine kI hT hC b1 ?_
 refine kP hC false b1 ?_
 refine Vc.nil ?_
 exact kM
 refine kS h ?_ ?_ <;> intro b2 h
 refine kt b2 ?_
 refine Xaa ?_
 iterate 4 refine kO hT hC ?_
 refine Vc.nil ?_
 refine Xae ?_
 refine Xak ?_
 obtain rfl := kj h
 refine Xc6 (τ := ⟨[(4, .ptr 2000000 0), (5, .sv (.int .i64 0)), (6, .sv (.bool false))], [(16, some (.ints .i64 [])), (17, some (.ints .i64 [])), (2000000, some (.box [.sv (.int .i64 0), .sv (.int .i64 0), .own 16, .own 17]))]⟩) ?_ rfl ⟨rfl, rfl, trivial⟩
 refine Xg0 hC 64 2 657 (.ints .i64 []) rfl rfl rfl rfl rfl trivial ?_
 refine Xg0 hC 64 3 658 (.ints .i64 []) rfl rfl rfl rfl rfl trivial ?_
 apply Xbx hC [(16, 657), (17, 658), (2000000, 64)]
 exact co
 rfl
 decide
 rfl
 refine kf b2 ?_
 refine Xaf ?_
 refine Xag ?_
 refine Xec hm ?_
 iterate 8 refine kO hT hC ?_
 refine kD ?_
 refine Xae ?_
 obtain rfl := kj h
 exact Xc6 (τ := ⟨[(4, .ptr 2000000 0), (5, .sv (.int .i64 q5.2.at_)), (6, .sv (.bool true))], [(16, some (.ints .i64 q4.1)), (17, some (.ints .i64 q5.1)), (2000000, some (.box [.sv (.int .i64 q2.1), .sv (.int .i64 q3.1), .own 16, .own 17]))]⟩) (kW hC [(16, 320), (17, 368), (2000000, 64)]) rfl ⟨rfl, rfl, trivial⟩
def Xqk (r : (Par × Int × Bool)) : AV := .tup [.agg [.sv (.int .i64 r.1.Qp), .sv (.bool r.1.Large), .sv (.bool r.1.Exact), .sv (.bool r.1.Confined)], .sv (.int .i64 r.2.1), .sv (.bool r.2.2)]
def Xqj (r : (Par × Int × Bool)) : Xa8 := []
theorem Xsx {p0 p1 r} (h : Xd5 p0 p1 = some r) : AC Tryz.prog 114 [.sv (.str p0), .sv (.int .i64 p1)] [] (Xqk r) (Xqj r) := by
 refine Xad hT Tryz.func114 rfl fun C hC => ?_
 unfold Xd5 at h
 refine Xaa ?_
 iterate 3 refine kO hT hC ?_
 refine kN ?_
 iterate 2 refine kO hT hC ?_
 refine kC hC [(16, 176)] Tryz.call184 h (fun _ => Xgl) fun q1 h => ?_
 refine kO hT hC ?_
 refine kN ?_
 refine kO hT hC ?_
 refine kC hC [(0, 176)] Tryz.call186 h (fun _ => Xca) fun q2 h => ?_
 iterate 3 refine kO hT hC ?_
 refine kN ?_
 refine kO hT hC ?_
 refine kC hC [(0, 176)] Tryz.call186 h (fun _ => Xca) fun q3 h => ?_
 iterate 3 refine kO hT hC ?_
 refine kN ?_
 refine kO hT hC ?_
 refine kC hC [(0, 176)] Tryz.call186 h (fun _ => Xca) fun q4 h => ?_
 iterate 3 refine kO hT hC ?_
 refine kN ?_
 refine kO hT hC ?_
 refine kC hC [(0, 176)] Tryz.call186 h (fun _ => Xca) fun q5 h => ?_
 iterate 3 refine kO hT hC ?_
 refine Vc.nil ?_
 refine Xaw ?_
 refine kL [4,7,8] [64,128,176] [_,_,_] [_,_,_] ?_
 refine kA h (fun v6 => ([(35, .sv (.bool v6))], [])) (fun v6 h => ?_) fun v6 h => ?_
 refine Xac ?_
 iterate 5 refine kO hT hC ?_
 refine kS h ?_ ?_ <;> intro b1 h
 iterate 3 refine kF hC b1 ?_
 refine kP hC true b1 ?_
 refine Vc.nil ?_
 exact kM
 refine kI hT hC b1 ?_
 refine kE hC b1 [] Tryz.call69 h (fun _ => Xei) fun q7 h => ?_
 refine kI hT hC b1 ?_
 refine kP hC false b1 ?_
 refine Vc.nil ?_
 exact kM
 refine kS h ?_ ?_ <;> intro b2 h
 refine kt b2 ?_
 refine Xaa ?_
 iterate 4 refine kO hT hC ?_
 refine Vc.nil ?_
 refine Xae ?_
 refine Xak ?_
 exact kR
 refine kf b2 ?_
 refine Xaf ?_
 refine Xag ?_
 refine Xec hm ?_
 iterate 8 refine kO hT hC ?_
 refine kD ?_
 refine Xae ?_
 exact kR
def Xsu (r : (Int × Bool)) : AV := .tup [.sv (.int .i64 r.1), .sv (.bool r.2)]
def Xst (r : (Int × Bool)) : Xa8 := []
theorem Xu9 {p0 r} (h : Xhn p0 = some r) : AC Tryz.prog 250 [.sv (.int .i64 p0)] [] (Xsu r) (Xst r) := by
 refine Xad hT Tryz.func250 rfl fun C hC => ?_
 unfold Xhn at h
 refine Xaa ?_
 iterate 2 refine kO hT hC ?_
 refine Vc.nil ?_
 refine Xaw ?_
 refine Xa2 ?_
 refine Xaa ?_
 refine kO hT hC ?_
 refine kC hC [] Tryz.call116 h (fun _ => Xau) fun q1 h => ?_
 iterate 2 refine kO hT hC ?_
 refine Vc.nil ?_
 refine kS h ?_ ?_ <;> intro b1 h
 refine kt b1 ?_
 refine Xaa ?_
 iterate 2 refine kO hT hC ?_
 refine Vc.nil ?_
 refine Xae ?_
 refine Xdg ?_
 refine Xak ?_
 exact kR
 refine kf b1 ?_
 refine Xaa ?_
 refine kO hT hC ?_
 refine kQ hT hC h fun h => ?_
 iterate 2 refine kO hT hC ?_
 refine Vc.nil ?_
 refine kS h ?_ ?_ <;> intro b2 h
 refine kt b2 ?_
 refine Xaa ?_
 iterate 2 refine kO hT hC ?_
 refine kQ hT hC h fun h => ?_
 iterate 2 refine kO hT hC ?_
 refine Vc.nil ?_
 refine Xae ?_
 refine Xdg ?_
 refine Xak ?_
 exact kR
 refine kf b2 ?_
 refine Xaf ?_
 refine Xbc ?_
 refine Xag ?_
 refine Xaa ?_
 iterate 2 refine kO hT hC ?_
 refine kQ hT hC h fun h => ?_
 iterate 2 refine kO hT hC ?_
 refine Vc.nil ?_
 refine Xae ?_
 exact kR
def Xqy (r : (Int × Xf2)) : AV := .sv (.int .i64 r.1)
def Xqx (r : (Int × Xf2)) : Xa8 := [(0, .box [.sv (.str r.2.row_), .sv (.int .i64 r.2.at_), .sv (.bool r.2.bad_)])]
theorem Xfq {p0 r} (h : Xbm p0 = some r) : AC Tryz.prog 216 [.ptr 0 0] [(0, .box [.sv (.str p0.row_), .sv (.int .i64 p0.at_), .sv (.bool p0.bad_)])] (Xqy r) (Xqx r) := by
 refine Xad hT Tryz.func216 rfl fun C hC => ?_
 unfold Xbm at h
 refine Xaa ?_
 refine kO hT hC ?_
 refine kN ?_
 refine kO hT hC ?_
 refine kC hC [(0, 0)] Tryz.call185 h (fun _ => Xbv) fun q1 h => ?_
 refine kC hC [] Tryz.call250 h (fun _ => Xu9) fun q2 h => ?_
 iterate 5 refine kO hT hC ?_
 refine Vc.nil ?_
 refine kL [0,3,4] [0] [_,_,_] [_] ?_
 refine kA h (fun v3 => ([(0, .any), (4, .any)], [(0, some (.box [.sv (.str q1.2.row_), .sv (.int .i64 q1.2.at_), .sv (.bool v3)]))])) (fun v3 h => ?_) fun v3 h => ?_
 refine Xac ?_
 iterate 6 refine kO hT hC ?_
 refine kS h ?_ ?_ <;> intro b1 h
 iterate 2 refine kF hC b1 ?_
 refine kP hC true b1 ?_
 iterate 3 refine kO hT hC ?_
 refine Vc.nil ?_
 exact kM
 iterate 2 refine kI hT hC b1 ?_
 refine kP hC false b1 ?_
 iterate 3 refine kO hT hC ?_
 refine Vc.nil ?_
 exact kM
 refine Xaa ?_
 iterate 2 refine kO hT hC ?_
 refine Vc.nil ?_
 refine Xae ?_
 obtain rfl := kj h
 exact Xc6 (Xf3.refl _) rfl ⟨rfl, trivial⟩
def Xss (r : Bool) : AV := .sv (.bool r)
def Xsr (r : Bool) : Xa8 := []
theorem Xu7 {p0 p1 p2 r} (h : Xhm p0 p1 p2 = some r) : AC Tryz.prog 132 [.agg [.sv (.int .i64 p0.Level), .sv (.int .i64 p0.Bits), .sv (.ints .i64 p0.Cols), .sv (.ints .i64 p0.Rows)], .agg [.sv (.int .i64 p1.Qp), .sv (.bool p1.Large), .sv (.bool p1.Exact), .sv (.bool p1.Confined)], .agg [.sv (.int .i64 p2.Tile), .sv (.int .i64 p2.Frame), .sv (.int .i64 p2.Qp)]] [] (Xss r) (Xsr r) := by
 refine Xad hT Tryz.func132 rfl fun C hC => ?_
 unfold Xhm at h
 refine Xaa ?_
 iterate 4 refine kO hT hC ?_
 refine Vc.nil ?_
 refine kL [3,4,5,6] [48,64,80] [_,_,_,_] [_,_,_] ?_
 refine kA h (fun v1 => ([(6, .sv (.bool v1)), (3, .any), (4, .any), (5, .any)], [(48, none), (64, none), (80, none)])) (fun v1 h => ?_) fun v1 h => ?_
 refine Xid hm ?_
 refine kO hT hC ?_
 refine kC hC [] Tryz.call182 h (fun _ => Xhf) fun q2 h => ?_
 refine kO hT hC ?_
 refine kS h ?_ ?_ <;> intro b1 h
 refine kI hT hC b1 ?_
 refine kE hC b1 [] Tryz.call69 h (fun _ => Xei) fun q3 h => ?_
 refine kP hC true b1 ?_
 refine kO hT hC ?_
 refine kS h ?_ ?_ <;> intro b2 h
 iterate 3 refine kI hT hC b2 ?_
 refine kE hC b2 [] Tryz.call123 h (fun _ => Xho) fun q4 h => ?_
 refine kI hT hC b2 ?_
 refine kE hC b2 [] Tryz.call116 h (fun _ => Xau) fun q5 h => ?_
 refine kP hC true b2 ?_
 refine kO hT hC ?_
 refine kS h ?_ ?_ <;> intro b3 h
 iterate 4 refine kI hT hC b3 ?_
 refine kJ hT hC b3 h fun h => ?_
 refine kI hT hC b3 ?_
 refine kE hC b3 [] Tryz.call116 h (fun _ => Xau) fun q6 h => ?_
 refine kP hC true b3 ?_
 refine kO hT hC ?_
 refine kS h ?_ ?_ <;> intro b4 h
 iterate 2 refine kI hT hC b4 ?_
 refine kE hC b4 [] Tryz.call116 h (fun _ => Xau) fun q7 h => ?_
 refine kP hC true b4 ?_
 refine kO hT hC ?_
 refine kD ?_
 exact kM
 iterate 3 refine kF hC b4 ?_
 refine kP hC false b4 ?_
 refine kO hT hC ?_
 refine kD ?_
 exact kM
 iterate 7 refine kF hC b3 ?_
 refine kP hC false b3 ?_
 refine kO hT hC ?_
 iterate 3 refine kF hC rfl ?_
 iterate 2 refine kO hT hC ?_
 refine kD ?_
 exact kM
 iterate 6 refine kF hC b2 ?_
 refine kP hC false b2 ?_
 refine kO hT hC ?_
 iterate 7 refine kF hC rfl ?_
 iterate 2 refine kO hT hC ?_
 iterate 3 refine kF hC rfl ?_
 iterate 2 refine kO hT hC ?_
 refine kD ?_
 exact kM
 iterate 2 refine kF hC b1 ?_
 refine kP hC false b1 ?_
 refine kO hT hC ?_
 iterate 6 refine kF hC rfl ?_
 iterate 2 refine kO hT hC ?_
 iterate 7 refine kF hC rfl ?_
 iterate 2 refine kO hT hC ?_
 iterate 3 refine kF hC rfl ?_
 iterate 2 refine kO hT hC ?_
 refine kD ?_
 exact kM
 refine Xae ?_
 exact kR
def Xoy (r : (Xjk × Int × Bool)) : AV := .tup [.agg [.sv (.int .i64 r.1.Tile), .sv (.int .i64 r.1.Frame), .sv (.int .i64 r.1.Qp)], .sv (.int .i64 r.2.1), .sv (.bool r.2.2)]
def Xox (r : (Xjk × Int × Bool)) : Xa8 := []
theorem Xqi {p0 p1 p2 r} (h : Xdh p0 p1 p2 = some r) : AC Tryz.prog 143 [.agg [.sv (.int .i64 p0.Level), .sv (.int .i64 p0.Bits), .sv (.ints .i64 p0.Cols), .sv (.ints .i64 p0.Rows)], .agg [.sv (.int .i64 p1.Qp), .sv (.bool p1.Large), .sv (.bool p1.Exact), .sv (.bool p1.Confined)], .sv (.str p2)] [] (Xoy r) (Xox r) := by
 refine Xad hT Tryz.func143 rfl fun C hC => ?_
 unfold Xdh at h
 refine Xaa ?_
 iterate 5 refine kO hT hC ?_
 refine kN ?_
 refine kO hT hC ?_
 refine kC hC [(16, 192)] Tryz.call184 h (fun _ => Xgl) fun q1 h => ?_
 refine kO hT hC ?_
 refine Vc.nil ?_
 refine Xaw ?_
 refine kL [3,4,6,9] [48,64,96,192] [_,_,_,_] [_,_,_,_] ?_
 refine kA h (fun v2 => ([(20, .sv (.bool v2))], [])) (fun v2 h => ?_) fun v2 h => ?_
 refine Xac ?_
 refine kO hT hC ?_
 refine kC hC [] Tryz.call182 h (fun _ => Xhf) fun q3 h => ?_
 iterate 2 refine kO hT hC ?_
 refine kS h ?_ ?_ <;> intro b1 h
 refine kI hT hC (kn b1) ?_
 refine kE hC (kn b1) [] Tryz.call69 h (fun _ => Xei) fun q4 h => ?_
 refine kI hT hC (kn b1) ?_
 refine kP hC false (kn b1) ?_
 refine Vc.nil ?_
 exact kM
 iterate 3 refine kF hC (kn b1) ?_
 refine kP hC true (kn b1) ?_
 refine Vc.nil ?_
 exact kM
 refine kS h ?_ ?_ <;> intro b2 h
 refine kt b2 ?_
 refine Xaa ?_
 iterate 4 refine kO hT hC ?_
 refine Vc.nil ?_
 refine Xae ?_
 refine Xak ?_
 exact kR
 refine kf b2 ?_
 refine Xaf ?_
 refine Xag ?_
 refine Xaa ?_
 refine kO hT hC ?_
 refine kC hC [(0, 192)] Tryz.call185 h (fun _ => Xbv) fun q5 h => ?_
 iterate 3 refine kO hT hC ?_
 refine kN ?_
 iterate 3 refine kO hT hC ?_
 refine kC hC [(0, 192)] Tryz.call186 h (fun _ => Xca) fun q6 h => ?_
 iterate 2 refine kO hT hC ?_
 refine kN ?_
 refine kO hT hC ?_
 refine kC hC [(0, 192)] Tryz.call216 h (fun _ => Xfq) fun q7 h => ?_
 iterate 2 refine kO hT hC ?_
 refine kN ?_
 iterate 7 refine kO hT hC ?_
 refine Vc.nil ?_
 refine Xaw ?_
 refine kL [3,4,6,9,10] [48,64,96,160,192] [_,_,_,_,_] [_,_,_,_,_] ?_
 refine kA h (fun v8 => ([(49, .sv (.bool v8)), (3, .any), (4, .any)], [(48, none), (64, none)])) (fun v8 h => ?_) fun v8 h => ?_
 refine Xac ?_
 iterate 5 refine kO hT hC ?_
 refine kS h ?_ ?_ <;> intro b3 h
 iterate 5 refine kF hC b3 ?_
 refine kP hC true b3 ?_
 refine Vc.nil ?_
 exact kM
 iterate 3 refine kI hT hC b3 ?_
 refine kE hC b3 [] Tryz.call132 h (fun _ => Xu7) fun q9 h => ?_
 refine kI hT hC b3 ?_
 refine kP hC false b3 ?_
 refine Vc.nil ?_
 exact kM
 refine kS h ?_ ?_ <;> intro b4 h
 refine kt b4 ?_
 refine Xaa ?_
 iterate 4 refine kO hT hC ?_
 refine Vc.nil ?_
 refine Xae ?_
 refine Xak ?_
 exact kR
 refine kf b4 ?_
 refine Xaf ?_
 refine Xag ?_
 refine Xec hm ?_
 iterate 8 refine kO hT hC ?_
 refine kD ?_
 refine Xae ?_
 exact kR
def Xsq (r : Bool) : AV := .sv (.bool r)
def Xsp (r : Bool) : Xa8 := []
theorem Xu6 {p0 r} (h : Xhl p0 = some r) : AC Tryz.prog 127 [.agg [.sv (.bool p0.Key), .sv (.int .i64 p0.Qp), .sv (.bool p0.Large), .sv (.bool p0.Exact)]] [] (Xsq r) (Xsp r) := by
 refine Xad hT Tryz.func127 rfl fun C hC => ?_
 unfold Xhl at h
 refine Xaa ?_
 iterate 2 refine kO hT hC ?_
 refine Vc.nil ?_
 refine kL [1,2] [16] [_,_] [_] ?_
 refine kA h (fun v1 => ([(2, .sv (.bool v1)), (1, .any)], [(16, none)])) (fun v1 h => ?_) fun v1 h => ?_
 refine Xac ?_
 iterate 2 refine kO hT hC ?_
 refine kC hC [] Tryz.call116 h (fun _ => Xau) fun q2 h => ?_
 refine kO hT hC ?_
 refine kS h ?_ ?_ <;> intro b1 h
 iterate 3 refine kI hT hC b1 ?_
 refine kS h ?_ ?_ <;> intro b2 h
 iterate 2 refine kI hT hC b2 ?_
 refine Xb0 hC rfl rfl rfl rfl b1 rfl rfl (b := true) b2 rfl rfl rfl trivial ?_
 refine kI hT hC b1 ?_
 refine kP hC true b1 ?_
 refine kO hT hC ?_
 refine Vc.nil ?_
 exact kM
 iterate 2 refine kF hC b2 ?_
 refine Xb0 hC rfl rfl rfl rfl b1 rfl rfl (b := false) b2 rfl rfl rfl trivial ?_
 refine kI hT hC b1 ?_
 refine kP hC true b1 ?_
 refine kO hT hC ?_
 refine Vc.nil ?_
 exact kM
 iterate 3 refine kF hC b1 ?_
 iterate 2 refine Xmb hC rfl rfl rfl rfl rfl rfl ?_
 iterate 2 refine kF hC b1 ?_
 refine kP hC false b1 ?_
 refine kO hT hC ?_
 refine Vc.nil ?_
 exact kM
 refine Xae ?_
 exact kR
def Xnh (r : ((List Int) × Xf2)) : AV := .own 16
def Xng (r : ((List Int) × Xf2)) : Xa8 := [(16, .ints .i64 r.1), (0, .box [.sv (.str r.2.row_), .sv (.int .i64 r.2.at_), .sv (.bool r.2.bad_)])]
theorem Xi2 {p0 p1 r} (h : Xb4 p0 p1 = some r) : AC Tryz.prog 297 [.ptr 0 0, .sv (.int .i64 p1)] [(0, .box [.sv (.str p0.row_), .sv (.int .i64 p0.at_), .sv (.bool p0.bad_)])] (Xnh r) (Xng r) := by
 refine Xad hT Tryz.func297 rfl fun C hC => ?_
 unfold Xb4 at h
 refine Xaa ?_
 refine kO hT hC ?_
 refine kN ?_
 refine kO hT hC ?_
 obtain ⟨hq, h⟩ := Xc1 h
 refine Yb4 hT hC rfl rfl rfl rfl ⟨hq.1, hq.2.1, hq.2.2, by decide⟩ ?_
 refine kO hT hC ?_
 refine kN ?_
 refine kO hT hC ?_
 refine Vc.nil ?_
 refine Xaw ?_
 refine Xaa ?_
 refine kO hT hC ?_
 refine kC hC [(0, 0)] Tryz.call185 h (fun _ => Xbv) fun q1 h => ?_
 refine kO hT hC ?_
 refine Vc.nil ?_
 refine kL [0,1,5,6,7] [0,160] [_,_,_,_,_] [_,_] ?_
 refine kX h (fun v8 => ([(6, .sv (.int .i64 v8.1)), (7, .sv (.int .i64 v8.2.1))], [(0, some (.box [.sv (.str v8.2.2.1), .sv (.int .i64 v8.2.2.2.1), .sv (.bool v8.2.2.2.2.1)])), (160, some (.ints .i64 v8.2.2.2.2.2))])) (fun v15 => ([(0, .any), (1, .any), (6, .any), (7, .any)], [(0, some (.box [.sv (.str v15.2.1), .sv (.int .i64 v15.2.2.1), .sv (.bool v15.2.2.2)])), (160, some (.ints .i64 v15.1))])) (kW hC []) (fun v8 s h => ?_) fun v15 h => ?_
 unfold Xa4 at h
 refine Xaw ?_
 refine kL [0,1,5,6,7] [0,160] [_,_,_,_,_] [_,_] ?_
 refine kA h (fun v16 => ([(21, .sv (.bool v16))], [])) (fun v16 h => ?_) fun v16 h => ?_
 refine Xac ?_
 iterate 3 refine kO hT hC ?_
 refine kS h ?_ ?_ <;> intro b11 h
 iterate 5 refine kI hT hC b11 ?_
 refine kP hC true b11 ?_
 refine Vc.nil ?_
 exact kM
 iterate 5 refine kF hC b11 ?_
 refine kP hC false b11 ?_
 refine Vc.nil ?_
 exact kM
 refine kS h ?_ ?_ <;> intro b12 h
 refine kt b12 ?_
 refine Xaf ?_
 refine Xag ?_
 refine Xaw ?_
 refine Xa2 ?_
 refine Xaa ?_
 iterate 2 refine kO hT hC ?_
 refine kC hC [(0, 0)] Tryz.call185 h (fun _ => Xbv) fun q17 h => ?_
 iterate 2 refine kO hT hC ?_
 refine kN ?_
 refine kO hT hC ?_
 refine kC hC [(0, 0)] Tryz.call216 h (fun _ => Xfq) fun q18 h => ?_
 refine kO hT hC ?_
 refine Vc.nil ?_
 refine Xaw ?_
 refine kL [0,1,5,6,7,8] [0,160] [_,_,_,_,_,_] [_,_] ?_
 refine kA h (fun v19 => ([(41, .sv (.bool v19))], [])) (fun v19 h => ?_) fun v19 h => ?_
 refine Xac ?_
 iterate 4 refine kO hT hC ?_
 refine kS h ?_ ?_ <;> intro b13 h
 iterate 2 refine kF hC b13 ?_
 refine kP hC true b13 ?_
 refine kO hT hC ?_
 iterate 3 refine kF hC rfl ?_
 refine kO hT hC ?_
 refine Vc.nil ?_
 exact kM
 iterate 2 refine kI hT hC b13 ?_
 refine kP hC false b13 ?_
 refine kO hT hC ?_
 refine kS h ?_ ?_ <;> intro b14 h
 iterate 3 refine kF hC b14 ?_
 refine kP hC true b14 ?_
 refine Vc.nil ?_
 exact kM
 refine kI hT hC b14 ?_
 refine kE hC b14 [] Tryz.call116 h (fun _ => Xau) fun q20 h => ?_
 refine kI hT hC b14 ?_
 refine kP hC false b14 ?_
 refine Vc.nil ?_
 exact kM
 refine kS h ?_ ?_ <;> intro b15 h
 refine kt b15 ?_
 refine Xaa ?_
 iterate 4 refine kO hT hC ?_
 refine Vc.nil ?_
 refine Xba ?_
 refine Xbt ?_
 refine Yge rfl ?_
 refine Xbt ?_
 exact ku
 refine kf b15 ?_
 refine Xaf ?_
 refine Xag ?_
 refine Xaa ?_
 iterate 3 refine kO hT hC ?_
 iterate 2 refine kQ hT hC h fun h => ?_
 refine Vc.nil ?_
 refine Xac ?_
 iterate 3 refine kO hT hC ?_
 refine Vc.nil ?_
 refine Xbc ?_
 refine Xag ?_
 refine Xac ?_
 iterate 3 refine kO hT hC ?_
 refine Vc.nil ?_
 exact kG
 refine kf b12 ?_
 refine Xba ?_
 refine Xbt ?_
 exact ku
 refine Xag ?_
 refine Xaa ?_
 iterate 2 refine kO hT hC ?_
 refine Vc.nil ?_
 refine Xae ?_
 obtain rfl := kj h
 exact Xc6 (τ := ⟨[(4, .own 16)], [(16, some (.ints .i64 v15.1)), (0, some (.box [.sv (.str v15.2.1), .sv (.int .i64 v15.2.2.1), .sv (.bool v15.2.2.2)]))]⟩) (kW hC [(16, 160)]) rfl ⟨rfl, rfl, trivial⟩
def Xlk (r : ((List Int) × Xf2)) : AV := .own 16
def Xlj (r : ((List Int) × Xf2)) : Xa8 := [(16, .ints .i64 r.1), (0, .box [.sv (.str r.2.row_), .sv (.int .i64 r.2.at_), .sv (.bool r.2.bad_)])]
theorem Xhq {p0 p1 r} (h : Xbd p0 p1 = some r) : AC Tryz.prog 265 [.ptr 0 0, .agg [.sv (.bool p1.Key), .sv (.int .i64 p1.Qp), .sv (.bool p1.Large), .sv (.bool p1.Exact)]] [(0, .box [.sv (.str p0.row_), .sv (.int .i64 p0.at_), .sv (.bool p0.bad_)])] (Xlk r) (Xlj r) := by
 refine Xad hT Tryz.func265 rfl fun C hC => ?_
 unfold Xbd at h
 refine Xaa ?_
 iterate 2 refine kO hT hC ?_
 refine Vc.nil ?_
 refine Xaw ?_
 refine kL [0,3] [0,48] [_,_] [_,_] ?_
 refine kA h (fun v1 => ([(11, .sv (.bool v1)), (3, .any)], [(48, none)])) (fun v1 h => ?_) fun v1 h => ?_
 refine Xac ?_
 iterate 3 refine kO hT hC ?_
 refine kS h ?_ ?_ <;> intro b1 h
 iterate 2 refine kF hC b1 ?_
 refine kP hC true b1 ?_
 refine Vc.nil ?_
 exact kM
 iterate 2 refine kI hT hC b1 ?_
 refine kP hC false b1 ?_
 refine Vc.nil ?_
 exact kM
 refine kS h ?_ ?_ <;> intro b2 h
 refine kt b2 ?_
 refine Xaa ?_
 refine kO hT hC ?_
 refine kC hC [(16, 208), (0, 0)] Tryz.call297 h (fun _ => Xi2) fun q2 h => ?_
 refine kO hT hC ?_
 refine Vc.nil ?_
 refine Xae ?_
 refine Xak ?_
 obtain rfl := kj h
 exact Xc6 (τ := ⟨[(4, .own 16)], [(16, some (.ints .i64 q2.1)), (0, some (.box [.sv (.str q2.2.row_), .sv (.int .i64 q2.2.at_), .sv (.bool q2.2.bad_)]))]⟩) (kW hC [(16, 208)]) rfl ⟨rfl, rfl, trivial⟩
 refine kf b2 ?_
 refine Xaf ?_
 refine Xag ?_
 refine Xaa ?_
 iterate 2 refine kO hT hC ?_
 refine Vc.nil ?_
 refine Xaw ?_
 refine Xaa ?_
 refine kO hT hC ?_
 refine Vc.nil ?_
 refine kL [0,5,15] [0,224] [_,_,_] [_,_] ?_
 refine kX h (fun v5 => ([(15, .sv (.int .i64 v5.1))], [(0, some (.box [.sv (.str v5.2.1), .sv (.int .i64 v5.2.2.1), .sv (.bool v5.2.2.2.1)])), (224, some (.ints .i64 v5.2.2.2.2))])) (fun v8 => ([(0, .any), (15, .any)], [(0, some (.box [.sv (.str v8.2.1), .sv (.int .i64 v8.2.2.1), .sv (.bool v8.2.2.2)])), (224, some (.ints .i64 v8.1))])) (kW hC []) (fun v5 s h => ?_) fun v8 h => ?_
 unfold Xa1 at h
 refine Xaa ?_
 refine kO hT hC ?_
 refine Vc.nil ?_
 refine Xaw ?_
 refine kS h ?_ ?_ <;> intro b5 h
 refine kt b5 ?_
 refine Xaf ?_
 refine Xag ?_
 refine Xaw ?_
 refine Xa2 ?_
 refine Xac ?_
 iterate 2 refine kO hT hC ?_
 refine kC hC [(16, 304), (0, 0)] Tryz.call297 h (fun _ => Xi2) fun q9 h => ?_
 refine kT hT hC h fun h => ?_
 refine kO hT hC ?_
 refine Vc.nil ?_
 refine Xbc ?_
 refine Xag ?_
 refine Xac ?_
 iterate 2 refine kO hT hC ?_
 refine Vc.nil ?_
 obtain rfl := kj h
 exact Ydw (kW hC [(224, 320)])
 refine kf b5 ?_
 refine Xba ?_
 refine Xbt ?_
 exact ku
 refine Xag ?_
 refine Xaa ?_
 iterate 2 refine kO hT hC ?_
 refine Vc.nil ?_
 refine Xae ?_
 obtain rfl := kj h
 exact Xc6 (τ := ⟨[(4, .own 16)], [(16, some (.ints .i64 v8.1)), (0, some (.box [.sv (.str v8.2.1), .sv (.int .i64 v8.2.2.1), .sv (.bool v8.2.2.2)]))]⟩) (kW hC [(16, 224)]) rfl ⟨rfl, rfl, trivial⟩
def Xlz (r : Bool) : AV := .sv (.bool r)
def Xly (r : Bool) : Xa8 := []
theorem Xxi {p0 p1 p2 p3 r} (h : Xix p0 p1 p2 p3 = some r) : AC Tryz.prog 197 [.sv (.ints .i64 p0), .sv (.int .i64 p1), .sv (.int .i64 p2), .sv (.int .i64 p3)] [] (Xlz r) (Xly r) := by
 refine Xad hT Tryz.func197 rfl fun C hC => ?_
 unfold Xix at h
 refine Xaa ?_
 refine kO hT hC ?_
 refine Vc.nil ?_
 refine Xaw ?_
 refine Xaa ?_
 iterate 3 refine kO hT hC ?_
 refine Vc.nil ?_
 refine kL [0,1,2,3,11,12,13] [] [_,_,_,_,_,_,_] [] ?_
 obtain ⟨o8, hl, h⟩ := Xbs h
 refine Xd4 (fun v3 => ([(13, .sv (.int .i64 v3))], [])) (fun v6 => ([(2, .any), (3, .any), (11, .any), (12, .any), (13, .any)], [])) (fun r => Xio C T Tryz.f197.results.toList (Xlz r) (Xly r)) hl ?_ ?_ ?_ ?_
 apply Xbx hC []
 exact co
 rfl
 decide
 rfl
 intro v3 s hs
 have h := hs
 unfold Xfo at h
 refine Xaa ?_
 refine kO hT hC ?_
 refine Vc.nil ?_
 refine Xaw ?_
 refine kS h ?_ ?_ <;> intro b5 h
 refine kt b5 ?_
 refine Xaf ?_
 refine Xag ?_
 refine Xaw ?_
 refine Xa2 ?_
 refine Xaa ?_
 refine kQ hT hC h fun h => ?_
 iterate 2 refine kO hT hC ?_
 refine kN ?_
 iterate 3 refine kO hT hC ?_
 refine kC hC [] Tryz.call116 h (fun _ => Xau) fun q7 h => ?_
 refine kO hT hC ?_
 refine Vc.nil ?_
 refine kS h ?_ ?_ <;> intro b6 h
 refine kt b6 ?_
 refine Xaa ?_
 refine kO hT hC ?_
 refine Vc.nil ?_
 refine Xae ?_
 refine Xdg ?_
 refine Xak ?_
 obtain rfl := kj h
 refine Xje ?_
 refine Xjd ?_
 exact Xc6 (Xf3.refl _) rfl trivial
 refine kf b6 ?_
 refine Xaf ?_
 refine Xbc ?_
 refine Xag ?_
 refine Xac ?_
 iterate 2 refine kO hT hC ?_
 refine Vc.nil ?_
 exact kG
 refine kf b5 ?_
 refine Xba ?_
 refine Xbt ?_
 exact kb
 intro v6 e
 subst e
 refine Xag ?_
 refine Xaa ?_
 iterate 5 refine kO hT hC ?_
 refine Vc.nil ?_
 refine Xae ?_
 exact kR
 intro r' σ' e hE
 subst e
 obtain rfl := kj h
 refine Xak ?_
 exact hE
def Xnb (r : Bool) : AV := .sv (.bool r)
def Xna (r : Bool) : Xa8 := []
theorem Xiy {p0 r} (h : Xdw p0 = some r) : AC Tryz.prog 248 [.sv (.ints .i64 p0)] [] (Xnb r) (Xna r) := by
 refine Xad hT Tryz.func248 rfl fun C hC => ?_
 unfold Xdw at h
 refine Xaa ?_
 refine kO hT hC ?_
 refine kN ?_
 refine kO hT hC ?_
 refine kC hC [] Tryz.call197 h (fun _ => Xxi) fun q1 h => ?_
 refine kO hT hC ?_
 refine Vc.nil ?_
 refine Xae ?_
 exact kR
def Xo0 (r : Bool) : AV := .sv (.bool r)
def Xoz (r : Bool) : Xa8 := []
theorem Xqo {p0 r} (h : Xek p0 = some r) : AC Tryz.prog 211 [.agg [.sv (.int .i64 p0.Kind), .sv (.int .i64 p0.Mode), .sv (.int .i64 p0.Dx), .sv (.int .i64 p0.Dy), .sv (.ints .i64 p0.Levels)]] [] (Xo0 r) (Xoz r) := by
 refine Xad hT Tryz.func211 rfl fun C hC => ?_
 unfold Xek at h
 refine Xaa ?_
 iterate 2 refine kO hT hC ?_
 refine Vc.nil ?_
 refine Xaw ?_
 refine Xaa ?_
 iterate 2 refine kO hT hC ?_
 refine Vc.nil ?_
 refine Xa2 ?_
 refine Xaa ?_
 iterate 2 refine kO hT hC ?_
 refine Vc.nil ?_
 refine kS h ?_ ?_ <;> intro b1 h
 refine kt b1 ?_
 refine kL [1,2] [16] [_,_] [_] ?_
 refine kA h (fun v1 => ([(2, .sv (.bool v1)), (1, .any)], [(16, none)])) (fun v1 h => ?_) fun v1 h => ?_
 refine Xac ?_
 iterate 4 refine kO hT hC ?_
 refine kS h ?_ ?_ <;> intro b2 h
 iterate 3 refine kI hT hC b2 ?_
 refine kP hC true b2 ?_
 refine kO hT hC ?_
 refine kS h ?_ ?_ <;> intro b3 h
 iterate 3 refine kI hT hC b3 ?_
 refine kP hC true b3 ?_
 refine kO hT hC ?_
 refine kS h ?_ ?_ <;> intro b4 h
 iterate 4 refine kI hT hC b4 ?_
 refine kP hC true b4 ?_
 refine kO hT hC ?_
 refine Vc.nil ?_
 exact kM
 iterate 4 refine kF hC b4 ?_
 refine kP hC false b4 ?_
 refine kO hT hC ?_
 refine Vc.nil ?_
 exact kM
 iterate 3 refine kF hC b3 ?_
 refine kP hC false b3 ?_
 refine kO hT hC ?_
 iterate 4 refine kF hC rfl ?_
 iterate 2 refine kO hT hC ?_
 refine Vc.nil ?_
 exact kM
 iterate 3 refine kF hC b2 ?_
 refine kP hC false b2 ?_
 refine kO hT hC ?_
 iterate 3 refine kF hC rfl ?_
 iterate 2 refine kO hT hC ?_
 iterate 4 refine kF hC rfl ?_
 iterate 2 refine kO hT hC ?_
 refine Vc.nil ?_
 exact kM
 refine Xae ?_
 refine Xdg ?_
 refine Xak ?_
 exact kR
 refine kf b1 ?_
 refine Xaa ?_
 iterate 2 refine kO hT hC ?_
 refine Vc.nil ?_
 refine kS h ?_ ?_ <;> intro b5 h
 refine kt b5 ?_
 refine kL [1,2] [16] [_,_] [_] ?_
 refine kA h (fun v2 => ([(2, .sv (.bool v2)), (1, .any)], [(16, none)])) (fun v2 h => ?_) fun v2 h => ?_
 refine Xac ?_
 iterate 4 refine kO hT hC ?_
 refine kS h ?_ ?_ <;> intro b6 h
 iterate 2 refine kI hT hC b6 ?_
 refine kE hC b6 [] Tryz.call116 h (fun _ => Xau) fun q3 h => ?_
 refine kP hC true b6 ?_
 refine kO hT hC ?_
 refine kS h ?_ ?_ <;> intro b7 h
 iterate 2 refine kI hT hC b7 ?_
 refine kE hC b7 [] Tryz.call116 h (fun _ => Xau) fun q4 h => ?_
 refine kP hC true b7 ?_
 refine kO hT hC ?_
 refine kS h ?_ ?_ <;> intro b8 h
 iterate 2 refine kI hT hC b8 ?_
 refine kE hC b8 [] Tryz.call248 h (fun _ => Xiy) fun q5 h => ?_
 refine kP hC true b8 ?_
 refine kO hT hC ?_
 refine Vc.nil ?_
 exact kM
 iterate 3 refine kF hC b8 ?_
 refine kP hC false b8 ?_
 refine kO hT hC ?_
 refine Vc.nil ?_
 exact kM
 iterate 3 refine kF hC b7 ?_
 refine kP hC false b7 ?_
 refine kO hT hC ?_
 iterate 3 refine kF hC rfl ?_
 iterate 2 refine kO hT hC ?_
 refine Vc.nil ?_
 exact kM
 iterate 3 refine kF hC b6 ?_
 refine kP hC false b6 ?_
 refine kO hT hC ?_
 iterate 3 refine kF hC rfl ?_
 iterate 2 refine kO hT hC ?_
 iterate 3 refine kF hC rfl ?_
 iterate 2 refine kO hT hC ?_
 refine Vc.nil ?_
 exact kM
 refine Xae ?_
 refine Xdg ?_
 refine Xak ?_
 exact kR
 refine kf b5 ?_
 refine Xaa ?_
 iterate 2 refine kO hT hC ?_
 refine Vc.nil ?_
 refine kS h ?_ ?_ <;> intro b9 h
 refine kt b9 ?_
 refine kL [1,2] [16] [_,_] [_] ?_
 refine kA h (fun v6 => ([(2, .sv (.bool v6)), (1, .any)], [(16, none)])) (fun v6 h => ?_) fun v6 h => ?_
 refine Xac ?_
 iterate 2 refine kO hT hC ?_
 refine kC hC [] Tryz.call116 h (fun _ => Xau) fun q7 h => ?_
 refine kO hT hC ?_
 refine kS h ?_ ?_ <;> intro b10 h
 iterate 3 refine kI hT hC b10 ?_
 refine kP hC true b10 ?_
 refine kO hT hC ?_
 refine kS h ?_ ?_ <;> intro b11 h
 iterate 3 refine kI hT hC b11 ?_
 refine kP hC true b11 ?_
 refine kO hT hC ?_
 refine kS h ?_ ?_ <;> intro b12 h
 iterate 2 refine kI hT hC b12 ?_
 refine kE hC b12 [] Tryz.call248 h (fun _ => Xiy) fun q8 h => ?_
 refine kP hC true b12 ?_
 refine kO hT hC ?_
 refine Vc.nil ?_
 exact kM
 iterate 3 refine kF hC b12 ?_
 refine kP hC false b12 ?_
 refine kO hT hC ?_
 refine Vc.nil ?_
 exact kM
 iterate 3 refine kF hC b11 ?_
 refine kP hC false b11 ?_
 refine kO hT hC ?_
 iterate 3 refine kF hC rfl ?_
 iterate 2 refine kO hT hC ?_
 refine Vc.nil ?_
 exact kM
 iterate 3 refine kF hC b10 ?_
 refine kP hC false b10 ?_
 refine kO hT hC ?_
 iterate 3 refine kF hC rfl ?_
 iterate 2 refine kO hT hC ?_
 iterate 3 refine kF hC rfl ?_
 iterate 2 refine kO hT hC ?_
 refine Vc.nil ?_
 exact kM
 refine Xae ?_
 refine Xdg ?_
 refine Xak ?_
 exact kR
 refine kf b9 ?_
 refine Xaf ?_
 refine Xbc ?_
 refine Xag ?_
 refine Xaa ?_
 refine kO hT hC ?_
 refine Vc.nil ?_
 refine Xae ?_
 exact kR
def Xlm (r : (Xas × Xf2)) : AV := .agg [.sv (.int .i64 r.1.Kind), .sv (.int .i64 r.1.Mode), .sv (.int .i64 r.1.Dx), .sv (.int .i64 r.1.Dy), .own 16]
def Xll (r : (Xas × Xf2)) : Xa8 := [(16, .ints .i64 r.1.Levels), (0, .box [.sv (.str r.2.row_), .sv (.int .i64 r.2.at_), .sv (.bool r.2.bad_)])]
theorem Xmh {p0 p1 r} (h : Xby p0 p1 = some r) : AC Tryz.prog 232 [.ptr 0 0, .agg [.sv (.bool p1.Key), .sv (.int .i64 p1.Qp), .sv (.bool p1.Large), .sv (.bool p1.Exact)]] [(0, .box [.sv (.str p0.row_), .sv (.int .i64 p0.at_), .sv (.bool p0.bad_)])] (Xlm r) (Xll r) := by
 refine Xad hT Tryz.func232 rfl fun C hC => ?_
 unfold Xby at h
 refine Xaa ?_
 iterate 2 refine kO hT hC ?_
 refine kN ?_
 iterate 3 refine kO hT hC ?_
 refine Vc.nil ?_
 refine kL [0,3,4,5] [0,48,64,80] [_,_,_,_] [_,_,_,_] ?_
 refine kA h (fun v1 => ([], [(0, some (.box [.sv (.str v1.1), .sv (.int .i64 v1.2.1), .sv (.bool v1.2.2.1)])), (80, some (.box [.sv (.int .i64 v1.2.2.2), .sv (.int .i64 0), .sv (.int .i64 0), .sv (.int .i64 0), .sv .nil]))])) (fun v1 h => ?_) fun v1 h => ?_
 refine Xaa ?_
 iterate 3 refine kO hT hC ?_
 refine Vc.nil ?_
 refine kS h ?_ ?_ <;> intro b1 h
 refine kt b1 ?_
 refine Xac ?_
 refine kO hT hC ?_
 refine kC hC [(0, 0)] Tryz.call185 h (fun _ => Xbv) fun q2 h => ?_
 iterate 2 refine kO hT hC ?_
 refine Vc.nil ?_
 exact kM
 refine kf b1 ?_
 refine Xaf ?_
 exact kM
 refine kL [0,3,4,5] [0,48,64,80] [_,_,_,_] [_,_,_,_] ?_
 refine kA h (fun v3 => ([(3, .any)], [(0, some (.box [.sv (.str v3.1), .sv (.int .i64 v3.2.1), .sv (.bool v3.2.2.1)])), (80, some (.box [.sv (.int .i64 v1.2.2.2), .sv (.int .i64 v3.2.2.2.1), .sv (.int .i64 v3.2.2.2.2.1), .sv (.int .i64 v3.2.2.2.2.2.1), .own 913])), (913, some (.ints .i64 v3.2.2.2.2.2.2)), (48, none)])) (fun v3 h => ?_) fun v3 h => ?_
 refine Xa2 ?_
 refine Xaa ?_
 iterate 5 refine kO hT hC ?_
 refine Vc.nil ?_
 refine kS h ?_ ?_ <;> intro b2 h
 refine kt b2 ?_
 refine Xaf ?_
 refine Xbc ?_
 obtain rfl := kj h
 refine Xp9 ?_
 refine Xg0 hC 80 4 914 (.ints .i64 []) rfl rfl rfl rfl rfl trivial ?_
 try dsimp only
 apply Xbx hC [(913, 914)]
 exact co
 rfl
 decide
 rfl
 refine kf b2 ?_
 refine Xaa ?_
 iterate 4 refine kO hT hC ?_
 refine Vc.nil ?_
 refine kS h ?_ ?_ <;> intro b3 h
 refine kt b3 ?_
 refine Xaa ?_
 refine kO hT hC ?_
 refine kC hC [(0, 0)] Tryz.call216 h (fun _ => Xfq) fun q4 h => ?_
 iterate 2 refine kO hT hC ?_
 refine kN ?_
 refine kO hT hC ?_
 refine kC hC [(0, 0)] Tryz.call216 h (fun _ => Xfq) fun q5 h => ?_
 iterate 2 refine kO hT hC ?_
 refine Vc.nil ?_
 refine Xac ?_
 iterate 2 refine kO hT hC ?_
 refine kC hC [(16, 480), (0, 0)] Tryz.call265 h (fun _ => Xhq) fun q6 h => ?_
 iterate 2 refine kO hT hC ?_
 refine Vc.nil ?_
 refine Xbc ?_
 obtain rfl := kj h
 exact Xp9 (kW hC [(913, 480)])
 refine kf b3 ?_
 refine Xaa ?_
 iterate 4 refine kO hT hC ?_
 refine Vc.nil ?_
 refine kS h ?_ ?_ <;> intro b4 h
 refine kt b4 ?_
 refine Xaa ?_
 refine kO hT hC ?_
 refine kC hC [(0, 0)] Tryz.call185 h (fun _ => Xbv) fun q7 h => ?_
 iterate 2 refine kO hT hC ?_
 refine Vc.nil ?_
 refine Xac ?_
 iterate 2 refine kO hT hC ?_
 refine kC hC [(16, 656), (0, 0)] Tryz.call265 h (fun _ => Xhq) fun q8 h => ?_
 iterate 2 refine kO hT hC ?_
 refine Vc.nil ?_
 refine Xbc ?_
 obtain rfl := kj h
 exact Xp9 (kW hC [(913, 656)])
 refine kf b4 ?_
 refine Xaf ?_
 refine Xbc ?_
 obtain rfl := kj h
 refine Xp9 ?_
 refine Xg0 hC 80 4 915 (.ints .i64 []) rfl rfl rfl rfl rfl trivial ?_
 try dsimp only
 apply Xbx hC [(913, 915)]
 exact co
 rfl
 decide
 rfl
 refine kL [0,4,5] [0,64,80,913] [_,_,_] [_,_,_,_] ?_
 refine kA h (fun v9 => ([(0, .any)], [(0, some (.box [.sv (.str v3.1), .sv (.int .i64 v3.2.1), .sv (.bool v9)]))])) (fun v9 h => ?_) fun v9 h => ?_
 refine Xac ?_
 iterate 6 refine kO hT hC ?_
 refine kS h ?_ ?_ <;> intro b5 h
 iterate 3 refine kF hC b5 ?_
 refine kP hC true b5 ?_
 iterate 3 refine kO hT hC ?_
 refine Vc.nil ?_
 exact kM
 refine kI hT hC b5 ?_
 refine kE hC b5 [] Tryz.call211 h (fun _ => Xqo) fun q10 h => ?_
 refine kI hT hC b5 ?_
 refine kP hC false b5 ?_
 iterate 3 refine kO hT hC ?_
 refine Vc.nil ?_
 exact kM
 refine Xaa ?_
 iterate 2 refine kO hT hC ?_
 refine Vc.nil ?_
 refine Xae ?_
 obtain rfl := kj h
 exact Xc6 (τ := ⟨[(4, .ptr 2000000 0)], [(16, some (.ints .i64 v3.2.2.2.2.2.2)), (0, some (.box [.sv (.str v3.1), .sv (.int .i64 v3.2.1), .sv (.bool v9)])), (2000000, some (.box [.sv (.int .i64 v1.2.2.2), .sv (.int .i64 v3.2.2.2.1), .sv (.int .i64 v3.2.2.2.2.1), .sv (.int .i64 v3.2.2.2.2.2.1), .own 16]))]⟩) (kW hC [(16, 913), (2000000, 64)]) rfl ⟨rfl, rfl, trivial⟩
def Xiu (r : ((List Xas) × Bool)) : AV := .tup [.own 16, .sv (.bool r.2)]
def Xit (r : ((List Xas) × Bool)) : Xa8 := [(16, .row Xcr r.1)]
theorem Xqn {p0 p1 p2 p3 r} (h : Xfk p0 p1 p2 p3 = some r) : AC Tryz.prog 188 [.sv (.str p0), .sv (.int .i64 p1), .sv (.int .i64 p2), .agg [.sv (.bool p3.Key), .sv (.int .i64 p3.Qp), .sv (.bool p3.Large), .sv (.bool p3.Exact)]] [] (Xiu r) (Xit r) := by
 refine Xad hT Tryz.func188 rfl fun C hC => ?_
 unfold Xfk at h
 refine Xaa ?_
 iterate 3 refine kO hT hC ?_
 refine kN ?_
 iterate 2 refine kO hT hC ?_
 refine kC hC [(16, 224)] Tryz.call184 h (fun _ => Xgl) fun q1 h => ?_
 refine kO hT hC ?_
 refine kN ?_
 iterate 2 refine kO hT hC ?_
 refine Vc.nil ?_
 refine Xaw ?_
 refine kL [0,2,7,10,11] [112,224,240] [_,_,_,_,_] [_,_,_] ?_
 refine kA h (fun v2 => ([(23, .sv (.bool v2))], [])) (fun v2 h => ?_) fun v2 h => ?_
 refine Xac ?_
 refine kO hT hC ?_
 refine kC hC [] Tryz.call116 h (fun _ => Xau) fun q3 h => ?_
 iterate 2 refine kO hT hC ?_
 refine kS h ?_ ?_ <;> intro b1 h
 refine kI hT hC (kn b1) ?_
 refine kE hC (kn b1) [] Tryz.call127 h (fun _ => Xu6) fun q4 h => ?_
 refine kI hT hC (kn b1) ?_
 refine kP hC false (kn b1) ?_
 refine Vc.nil ?_
 exact kM
 iterate 3 refine kF hC (kn b1) ?_
 refine kP hC true (kn b1) ?_
 refine Vc.nil ?_
 exact kM
 refine kS h ?_ ?_ <;> intro b2 h
 refine kt b2 ?_
 refine Xaa ?_
 iterate 3 refine kO hT hC ?_
 refine Vc.nil ?_
 refine Xae ?_
 refine Xak ?_
 obtain rfl := kj h
 exact Xc6 (τ := ⟨[(8, .own 16), (9, .sv (.bool false))], [(16, some (.row Xcr ([] : List Xas)))]⟩) (kW hC [(16, 240)]) rfl ⟨rfl, trivial⟩
 refine kf b2 ?_
 refine Xaf ?_
 refine Xag ?_
 refine Xaw ?_
 refine Xaa ?_
 iterate 2 refine kO hT hC ?_
 refine Vc.nil ?_
 refine kL [0,7,10,11,25,26] [112,224,240] [_,_,_,_,_,_] [_,_,_] ?_
 obtain ⟨o12, hl, h⟩ := Xbs h
 refine Xd4 (fun v7 => ([(26, .sv (.int .i64 v7.1))], [(224, some (.box [.sv (.str v7.2.1), .sv (.int .i64 v7.2.2.1), .sv (.bool v7.2.2.2.1)])), (240, some (.row Xcr v7.2.2.2.2))])) (fun v10 => ([(7, .any), (25, .any), (26, .any)], [(224, some (.box [.sv (.str v10.1), .sv (.int .i64 v10.2.1), .sv (.bool v10.2.2.1)])), (240, some (.row Xcr v10.2.2.2)), (112, none)])) (fun r => Xio C T Tryz.f188.results.toList (Xiu r) (Xit r)) hl ?_ ?_ ?_ ?_
 try dsimp only
 apply Xbx hC []
 exact co
 rfl
 decide
 rfl
 intro v7 s hs
 have h := hs
 unfold Xa0 at h
 refine Xaa ?_
 refine kO hT hC ?_
 refine Vc.nil ?_
 refine Xaw ?_
 refine kS h ?_ ?_ <;> intro b7 h
 refine kt b7 ?_
 refine Xaf ?_
 refine Xag ?_
 refine Xaw ?_
 refine Xa2 ?_
 refine Xaa ?_
 iterate 3 refine kO hT hC ?_
 refine kC hC [(16, 496), (0, 224)] Tryz.call232 h (fun _ => Xmh) fun q11 h => ?_
 refine kO hT hC ?_
 obtain ⟨hq, h⟩ := Xc1 h
 refine Yb4 hT hC rfl rfl rfl rfl ⟨fun _ _ => rfl, by rw [Xk9]; exact hq⟩ ?_
 rw [Xk9]
 refine kO hT hC ?_
 refine kN ?_
 iterate 4 refine kO hT hC ?_
 refine Vc.nil ?_
 refine kS h ?_ ?_ <;> intro b8 h
 refine kt b8 ?_
 refine Xaa ?_
 iterate 3 refine kO hT hC ?_
 refine Vc.nil ?_
 refine Xae ?_
 refine Xdg ?_
 refine Xak ?_
 obtain rfl := kj h
 refine Xje ?_
 refine Xjd ?_
 refine Xc6 (τ := ⟨[(8, .own 16), (9, .sv (.bool false))], [(16, some (.row Xcr ([] : List Xas)))]⟩) ?_ rfl ⟨rfl, trivial⟩
 apply Xbx hC [(16, 608)]
 exact co
 rfl
 decide
 rfl
 refine kf b8 ?_
 refine Xaf ?_
 refine Xbc ?_
 refine Xag ?_
 refine Xac ?_
 iterate 2 refine kO hT hC ?_
 refine Vc.nil ?_
 obtain rfl := kj h
 exact Ydw (kW hC [(240, 528)])
 refine kf b7 ?_
 refine Xba ?_
 refine Xbt ?_
 exact kb
 intro v10 e
 subst e
 refine Xag ?_
 refine Xaw ?_
 refine Xaa ?_
 iterate 7 refine kO hT hC ?_
 refine Vc.nil ?_
 refine kS h ?_ ?_ <;> intro b9 h
 refine kt b9 ?_
 refine Xaa ?_
 iterate 3 refine kO hT hC ?_
 refine Vc.nil ?_
 refine Xae ?_
 refine Xak ?_
 obtain rfl := kj h
 exact Xc6 (τ := ⟨[(8, .own 16), (9, .sv (.bool false))], [(16, some (.row Xcr ([] : List Xas)))]⟩) (kW hC [(16, 752)]) rfl ⟨rfl, trivial⟩
 refine kf b9 ?_
 refine Xaf ?_
 refine Xag ?_
 refine Xaa ?_
 iterate 3 refine kO hT hC ?_
 refine Vc.nil ?_
 refine Xae ?_
 obtain rfl := kj h
 exact Xc6 (τ := ⟨[(8, .own 16), (9, .sv (.bool true))], [(16, some (.row Xcr v10.2.2.2))]⟩) (kW hC [(16, 240)]) rfl ⟨rfl, trivial⟩
 intro r' σ' e hE
 subst e
 obtain rfl := kj h
 refine Xak ?_
 exact hE
def Xvh (r : Int) : AV := .sv (.int .i64 r)
def Xvg (r : Int) : Xa8 := []
theorem Xxh {p0 p1 r} (h : Xhi p0 p1 = some r) : AC Tryz.prog 72 [.sv (.int .i64 p0), .sv (.int .i64 p1)] [] (Xvh r) (Xvg r) := by
 refine Xad hT Tryz.func72 rfl fun C hC => ?_
 unfold Xhi at h
 refine Xaa ?_
 refine kO hT hC ?_
 refine kN ?_
 iterate 3 refine kO hT hC ?_
 iterate 2 refine kQ hT hC h fun h => ?_
 refine kO hT hC ?_
 refine Vc.nil ?_
 refine Xae ?_
 exact kR
def Xrk (r : Int) : AV := .sv (.int .i64 r)
def Xrj (r : Int) : Xa8 := []
theorem Xub {p0 p1 p2 r} (h : Xgy p0 p1 p2 = some r) : AC Tryz.prog 150 [.sv (.int .i64 p0), .sv (.int .i64 p1), .sv (.int .i64 p2)] [] (Xrk r) (Xrj r) := by
 refine Xad hT Tryz.func150 rfl fun C hC => ?_
 unfold Xgy at h
 refine Xaa ?_
 refine kO hT hC ?_
 refine Vc.nil ?_
 refine Xaw ?_
 refine kL [0,1,2] [] [_,_,_] [] ?_
 refine kA h (fun v1 => ([(14, .sv (.bool v1))], [])) (fun v1 h => ?_) fun v1 h => ?_
 refine Xac ?_
 iterate 4 refine kO hT hC ?_
 refine kS h ?_ ?_ <;> intro b1 h
 iterate 3 refine kF hC b1 ?_
 refine kP hC true b1 ?_
 refine Vc.nil ?_
 exact kM
 iterate 3 refine kI hT hC b1 ?_
 refine kP hC false b1 ?_
 refine Vc.nil ?_
 exact kM
 refine kS h ?_ ?_ <;> intro b2 h
 refine kt b2 ?_
 refine Xaa ?_
 iterate 2 refine kO hT hC ?_
 refine Vc.nil ?_
 refine Xae ?_
 refine Xak ?_
 exact kR
 refine kf b2 ?_
 refine Xaf ?_
 refine Xag ?_
 refine Xaw ?_
 refine Xaa ?_
 iterate 3 refine kO hT hC ?_
 refine Vc.nil ?_
 refine kS h ?_ ?_ <;> intro b3 h
 refine kt b3 ?_
 refine Xaa ?_
 iterate 2 refine kO hT hC ?_
 refine Vc.nil ?_
 refine Xae ?_
 refine Xak ?_
 exact kR
 refine kf b3 ?_
 refine Xaf ?_
 refine Xag ?_
 refine Xaa ?_
 iterate 2 refine kO hT hC ?_
 refine Vc.nil ?_
 refine Xae ?_
 exact kR
def Xnd (r : Admit) : AV := .agg [.sv (.bool r.Has), .sv (.bool r.Live), .sv (.int .i64 r.Seq.Level), .sv (.int .i64 r.Seq.Bits), .own 16, .own 17, .sv (.int .i64 r.Par.Qp), .sv (.bool r.Par.Large), .sv (.bool r.Par.Exact), .sv (.bool r.Par.Confined), .sv (.int .i64 r.Frame), .sv (.int .i64 r.Count), .sv (.int .i64 r.Gone)]
def Xnc (r : Admit) : Xa8 := [(16, .ints .i64 r.Seq.Cols), (17, .ints .i64 r.Seq.Rows)]
theorem Xiz {p0 r} (h : Xdx p0 = some r) : AC Tryz.prog 67 [.agg [.sv (.bool p0.Has), .sv (.bool p0.Live), .sv (.int .i64 p0.Seq.Level), .sv (.int .i64 p0.Seq.Bits), .sv (.ints .i64 p0.Seq.Cols), .sv (.ints .i64 p0.Seq.Rows), .sv (.int .i64 p0.Par.Qp), .sv (.bool p0.Par.Large), .sv (.bool p0.Par.Exact), .sv (.bool p0.Par.Confined), .sv (.int .i64 p0.Frame), .sv (.int .i64 p0.Count), .sv (.int .i64 p0.Gone)]] [] (Xnd r) (Xnc r) := by
 refine Xad hT Tryz.func67 rfl fun C hC => ?_
 unfold Xdx at h
 refine Xaa ?_
 iterate 2 refine kO hT hC ?_
 refine kN ?_
 iterate 2 refine kO hT hC ?_
 refine kC hC [(16, 80), (17, 81)] Tryz.call71 h (fun _ => Xko) fun q1 h => ?_
 iterate 2 refine kO hT hC ?_
 refine kN ?_
 iterate 2 refine kO hT hC ?_
 refine Vc.nil ?_
 refine Xae ?_
 obtain rfl := kj h
 exact Xc6 (τ := ⟨[(2, .ptr 2000000 0)], [(16, some (.ints .i64 q1.Cols)), (17, some (.ints .i64 q1.Rows)), (2000000, some (.box [.sv (.bool p0.Has), .sv (.bool p0.Live), .sv (.int .i64 q1.Level), .sv (.int .i64 q1.Bits), .own 16, .own 17, .sv (.int .i64 p0.Par.Qp), .sv (.bool p0.Par.Large), .sv (.bool p0.Par.Exact), .sv (.bool p0.Par.Confined), .sv (.int .i64 p0.Frame), .sv (.int .i64 p0.Count), .sv (.int .i64 p0.Gone)]))]⟩) (kW hC [(16, 80), (17, 81), (2000000, 32)]) rfl ⟨rfl, rfl, trivial⟩
def Xqe (r : Bool) : AV := .sv (.bool r)
def Xqd (r : Bool) : Xa8 := []
theorem Xkl {p0 r} (h : Xfb p0 = some r) : AC Tryz.prog 68 [.agg [.sv (.bool p0.Has), .sv (.bool p0.Live), .sv (.int .i64 p0.Seq.Level), .sv (.int .i64 p0.Seq.Bits), .sv (.ints .i64 p0.Seq.Cols), .sv (.ints .i64 p0.Seq.Rows), .sv (.int .i64 p0.Par.Qp), .sv (.bool p0.Par.Large), .sv (.bool p0.Par.Exact), .sv (.bool p0.Par.Confined), .sv (.int .i64 p0.Frame), .sv (.int .i64 p0.Count), .sv (.int .i64 p0.Gone)]] [] (Xqe r) (Xqd r) := by
 refine Xad hT Tryz.func68 rfl fun C hC => ?_
 unfold Xfb at h
 refine Xaa ?_
 iterate 2 refine kO hT hC ?_
 refine Vc.nil ?_
 refine Xaw ?_
 refine kL [1] [16] [_] [_] ?_
 refine kA h (fun v1 => ([(12, .sv (.bool v1))], [])) (fun v1 h => ?_) fun v1 h => ?_
 refine Xac ?_
 iterate 2 refine kO hT hC ?_
 refine kC hC [] Tryz.call116 h (fun _ => Xau) fun q2 h => ?_
 iterate 2 refine kO hT hC ?_
 refine kS h ?_ ?_ <;> intro b1 h
 iterate 2 refine kI hT hC (kn b1) ?_
 refine kE hC (kn b1) [] Tryz.call116 h (fun _ => Xau) fun q3 h => ?_
 refine kI hT hC (kn b1) ?_
 refine kP hC false (kn b1) ?_
 refine Vc.nil ?_
 exact kM
 iterate 4 refine kF hC (kn b1) ?_
 refine kP hC true (kn b1) ?_
 refine Vc.nil ?_
 exact kM
 refine kS h ?_ ?_ <;> intro b2 h
 refine kt b2 ?_
 refine Xaa ?_
 refine kO hT hC ?_
 refine Vc.nil ?_
 refine Xae ?_
 refine Xak ?_
 exact kR
 refine kf b2 ?_
 refine Xaf ?_
 refine Xag ?_
 refine Xaw ?_
 refine Xaa ?_
 iterate 3 refine kO hT hC ?_
 refine Vc.nil ?_
 refine kS h ?_ ?_ <;> intro b3 h
 refine kt b3 ?_
 refine kL [1] [16] [_] [_] ?_
 refine kA h (fun v4 => ([(2, .sv (.bool v4)), (1, .any)], [(16, none)])) (fun v4 h => ?_) fun v4 h => ?_
 refine Xac ?_
 iterate 4 refine kO hT hC ?_
 refine kS h ?_ ?_ <;> intro b4 h
 iterate 3 refine kF hC (kn b4) ?_
 refine kP hC false (kn b4) ?_
 refine kO hT hC ?_
 iterate 4 refine kF hC rfl ?_
 iterate 2 refine kO hT hC ?_
 iterate 3 refine kF hC rfl ?_
 iterate 2 refine kO hT hC ?_
 refine Vc.nil ?_
 exact kM
 iterate 2 refine kI hT hC (kn b4) ?_
 refine kE hC (kn b4) [] Tryz.call142 h (fun _ => Xs4) fun q5 h => ?_
 refine kP hC true (kn b4) ?_
 refine kO hT hC ?_
 refine kS h ?_ ?_ <;> intro b5 h
 iterate 3 refine kI hT hC b5 ?_
 refine Yeg hC rfl rfl rfl rfl b5 rfl rfl rfl Yf1 rfl rfl ?_
 refine kP hC true b5 ?_
 refine kO hT hC ?_
 refine kS h ?_ ?_ <;> intro b6 h
 iterate 3 refine kI hT hC b6 ?_
 refine kP hC true b6 ?_
 refine kO hT hC ?_
 refine Vc.nil ?_
 exact kM
 iterate 3 refine kF hC b6 ?_
 refine kP hC false b6 ?_
 refine kO hT hC ?_
 refine Vc.nil ?_
 exact kM
 iterate 4 refine kF hC b5 ?_
 refine kP hC false b5 ?_
 refine kO hT hC ?_
 iterate 3 refine kF hC rfl ?_
 iterate 2 refine kO hT hC ?_
 refine Vc.nil ?_
 exact kM
 refine Xae ?_
 refine Xak ?_
 exact kR
 refine kf b3 ?_
 refine Xaf ?_
 refine Xag ?_
 refine kL [1] [16] [_] [_] ?_
 refine kA h (fun v6 => ([(2, .sv (.bool v6)), (1, .any)], [(16, none)])) (fun v6 h => ?_) fun v6 h => ?_
 refine Xid hm ?_
 iterate 2 refine kO hT hC ?_
 refine kC hC [] Tryz.call123 h (fun _ => Xho) fun q7 h => ?_
 iterate 2 refine kO hT hC ?_
 refine kS h ?_ ?_ <;> intro b7 h
 iterate 2 refine kI hT hC b7 ?_
 refine kE hC b7 [] Tryz.call69 h (fun _ => Xei) fun q8 h => ?_
 refine kP hC true b7 ?_
 refine kO hT hC ?_
 refine kS h ?_ ?_ <;> intro b8 h
 iterate 5 refine kI hT hC b8 ?_
 refine kJ hT hC b8 h fun h => ?_
 refine kI hT hC b8 ?_
 refine kE hC b8 [] Tryz.call116 h (fun _ => Xau) fun q9 h => ?_
 refine kP hC true b8 ?_
 refine kO hT hC ?_
 refine kD ?_
 exact kM
 iterate 8 refine kF hC b8 ?_
 refine kP hC false b8 ?_
 refine kO hT hC ?_
 refine kD ?_
 exact kM
 iterate 3 refine kF hC b7 ?_
 refine kP hC false b7 ?_
 refine kO hT hC ?_
 iterate 8 refine kF hC rfl ?_
 iterate 2 refine kO hT hC ?_
 refine kD ?_
 exact kM
 refine Xae ?_
 exact kR
def Xqh (r : Xmv) : AV := .agg [.sv (.bool r.Key), .sv (.int .i64 r.Qp), .sv (.bool r.Large), .sv (.bool r.Exact)]
def Xqg (r : Xmv) : Xa8 := []
theorem Xso {p0 p1 r} (h : Xh4 p0 p1 = some r) : AC Tryz.prog 217 [.agg [.sv (.int .i64 p0.Qp), .sv (.bool p0.Large), .sv (.bool p0.Exact), .sv (.bool p0.Confined)], .agg [.sv (.bool p1.Key), .sv (.int .i64 p1.Qp), .sv (.str p1.Row)]] [] (Xqh r) (Xqg r) := by
 refine Xad hT Tryz.func217 rfl fun C hC => ?_
 unfold Xh4 at h
 refine Xaa ?_
 iterate 3 refine kO hT hC ?_
 refine kN ?_
 iterate 10 refine kO hT hC ?_
 refine Vc.nil ?_
 refine Xae ?_
 exact kR
def Xsw (r : Bool) : AV := .sv (.bool r)
def Xsv (r : Bool) : Xa8 := []
theorem Xvc {p0 p1 p2 r} (h : Xf4 p0 p1 p2 = some r) : AC Tryz.prog 144 [.agg [.sv (.int .i64 p0.Qp), .sv (.bool p0.Large), .sv (.bool p0.Exact), .sv (.bool p0.Confined)], .agg [.sv (.bool p1.Key), .sv (.int .i64 p1.Qp), .sv (.str p1.Row)], .sv (.int .i64 p2)] [] (Xsw r) (Xsv r) := by
 refine Xad hT Tryz.func144 rfl fun C hC => ?_
 unfold Xf4 at h
 refine Xaa ?_
 iterate 3 refine kO hT hC ?_
 refine Vc.nil ?_
 refine Xec hm ?_
 iterate 5 refine kO hT hC ?_
 refine kC hC [] Tryz.call217 h (fun _ => Xso) fun q1 h => ?_
 refine kC hC [(16, 256)] Tryz.call188 h (fun _ => Xqn) fun q2 h => ?_
 iterate 5 refine kO hT hC ?_
 refine kD ?_
 refine kL [3,6,8] [48] [_,_,_] [_] ?_
 refine kA h (fun v3 => ([(6, .sv (.bool v3)), (3, .any), (8, .any)], [(48, none)])) (fun v3 h => ?_) fun v3 h => ?_
 refine Xac ?_
 iterate 2 refine kO hT hC ?_
 refine kS h ?_ ?_ <;> intro b1 h
 refine kI hT hC b1 ?_
 refine kE hC b1 [] Tryz.call69 h (fun _ => Xei) fun q4 h => ?_
 refine kP hC true b1 ?_
 refine kO hT hC ?_
 refine Vc.nil ?_
 exact kM
 iterate 2 refine kF hC b1 ?_
 refine kP hC false b1 ?_
 refine kO hT hC ?_
 refine Vc.nil ?_
 exact kM
 refine Xae ?_
 exact kR
def Xgr (r : (Int × Seq × Par × Xjk × Xhz)) : AV := .tup [.sv (.int .i64 r.1), .agg [.sv (.int .i64 r.2.1.Level), .sv (.int .i64 r.2.1.Bits), .sv (.ints .i64 r.2.1.Cols), .sv (.ints .i64 r.2.1.Rows)], .agg [.sv (.int .i64 r.2.2.1.Qp), .sv (.bool r.2.2.1.Large), .sv (.bool r.2.2.1.Exact), .sv (.bool r.2.2.1.Confined)], .agg [.sv (.int .i64 r.2.2.2.1.Tile), .sv (.int .i64 r.2.2.2.1.Frame), .sv (.int .i64 r.2.2.2.1.Qp)], .agg [.sv (.bool r.2.2.2.2.Key), .sv (.int .i64 r.2.2.2.2.Qp), .sv (.str r.2.2.2.2.Row)]]
def Xgq (r : (Int × Seq × Par × Xjk × Xhz)) : Xa8 := []
theorem Xlg {p0 p1 p2 r} (h : Xa3 p0 p1 p2 = some r) : AC Tryz.prog 70 [.agg [.sv (.bool p0.Has), .sv (.bool p0.Live), .sv (.int .i64 p0.Seq.Level), .sv (.int .i64 p0.Seq.Bits), .sv (.ints .i64 p0.Seq.Cols), .sv (.ints .i64 p0.Seq.Rows), .sv (.int .i64 p0.Par.Qp), .sv (.bool p0.Par.Large), .sv (.bool p0.Par.Exact), .sv (.bool p0.Par.Confined), .sv (.int .i64 p0.Frame), .sv (.int .i64 p0.Count), .sv (.int .i64 p0.Gone)], .sv (Xao.sv p1), .agg [.sv (.int .i64 p2.Qp), .sv (.bool p2.Large), .sv (.bool p2.Exact), .sv (.bool p2.Confined)]] [] (Xgr r) (Xgq r) := by
 refine Xad hT Tryz.func70 rfl fun C hC => ?_
 unfold Xa3 at h
 refine Xaa ?_
 iterate 7 refine kO hT hC ?_
 refine kN ?_
 iterate 4 refine kO hT hC ?_
 refine Vc.nil ?_
 refine Xaw ?_
 refine Xaa ?_
 iterate 3 refine kO hT hC ?_
 refine Vc.nil ?_
 refine kL [3,5,7,8,9,10,11,12,34,35,36] [48,80,112,128,144,160,512,528] [_,_,_,_,_,_,_,_,_,_,_] [_,_,_,_,_,_,_,_] ?_
 obtain ⟨o11, hl, h⟩ := Xbs h
 refine Xd4 (fun v4 => ([(36, .sv (.int .i64 v4.1))], [(512, some (.ints .i64 v4.2.1)), (528, some (.row Xao v4.2.2))])) (fun v8 => ([(34, .any), (35, .any), (36, .any)], [(512, some (.ints .i64 v8.1)), (528, some (.row Xao v8.2))])) (fun r => Xio C T Tryz.f70.results.toList (Xgr r) (Xgq r)) hl ?_ ?_ ?_ ?_
 try dsimp only
 apply Xbx hC []
 exact co
 rfl
 decide
 rfl
 intro v4 s hs
 have h := hs
 unfold Xan at h
 refine Xaa ?_
 refine kO hT hC ?_
 refine Vc.nil ?_
 refine Xaw ?_
 refine kS h ?_ ?_ <;> intro b7 h
 refine kt b7 ?_
 refine Xaf ?_
 refine Xag ?_
 refine Xaw ?_
 refine Xa2 ?_
 refine Xaa ?_
 refine kQ hT hC h fun h => ?_
 iterate 2 refine kO hT hC ?_
 refine kN ?_
 refine kO hT hC ?_
 refine kC hC [] Tryz.call112 h (fun _ => Xvf) fun q9 h => ?_
 iterate 7 refine kO hT hC ?_
 refine Vc.nil ?_
 refine Xaw ?_
 refine kL [3,5,7,8,9,10,11,12,15,16,17,34,35,36] [48,80,112,128,144,160,512,528] [_,_,_,_,_,_,_,_,_,_,_,_,_,_] [_,_,_,_,_,_,_,_] ?_
 refine kA h (fun v10 => ([(52, .sv (.bool v10)), (17, .any)], [])) (fun v10 h => ?_) fun v10 h => ?_
 refine Xac ?_
 iterate 3 refine kO hT hC ?_
 refine kS h ?_ ?_ <;> intro b8 h
 iterate 3 refine kI hT hC (kn b8) ?_
 refine kP hC false (kn b8) ?_
 refine Vc.nil ?_
 exact kM
 iterate 3 refine kF hC (kn b8) ?_
 refine kP hC true (kn b8) ?_
 refine Vc.nil ?_
 exact kM
 refine kS h ?_ ?_ <;> intro b9 h
 refine kt b9 ?_
 refine Xaa ?_
 iterate 9 refine kO hT hC ?_
 refine Vc.nil ?_
 refine Xae ?_
 refine Xak ?_
 refine Xdg ?_
 refine Xak ?_
 obtain rfl := kj h
 refine Xje ?_
 refine Xjd ?_
 refine Xc6 (τ := ⟨[(6, .sv (.int .i64 2)), (7, .ptr 2000001 0), (8, .ptr 2000002 0), (9, .ptr 2000003 0), (10, .ptr 2000004 0)], [(2000001, some (.box [.sv (.int .i64 0), .sv (.int .i64 0), .sv (.ints .i64 []), .sv (.ints .i64 [])])), (2000002, some (.box [.sv (.int .i64 0), .sv (.bool false), .sv (.bool false), .sv (.bool false)])), (2000003, some (.box [.sv (.int .i64 0), .sv (.int .i64 0), .sv (.int .i64 0)])), (2000004, some (.box [.sv (.bool false), .sv (.int .i64 0), .sv (.str ⟨#[]⟩)]))]⟩) ?_ rfl trivial
 apply Xbx hC [(2000001, 112), (2000002, 128), (2000003, 144), (2000004, 160)]
 exact co
 rfl
 decide
 rfl
 refine kf b9 ?_
 refine Xaf ?_
 refine Xag ?_
 refine Xaa ?_
 iterate 3 refine kO hT hC ?_
 refine kT hT hC h fun h => ?_
 refine kO hT hC ?_
 refine Vc.nil ?_
 refine Xac ?_
 iterate 3 refine kO hT hC ?_
 obtain ⟨hq, h⟩ := Xc1 h
 refine Yb4 hT hC rfl rfl rfl rfl ⟨fun _ _ => rfl, by rw [Xhe]; exact hq⟩ ?_
 rw [Xhe]
 refine kO hT hC ?_
 refine Vc.nil ?_
 refine Xbc ?_
 refine Xag ?_
 refine Xac ?_
 iterate 2 refine kO hT hC ?_
 refine Vc.nil ?_
 obtain rfl := kj h
 exact Ydw (kW hC [(512, 960), (528, 1024)])
 refine kf b7 ?_
 refine Xba ?_
 refine Xbt ?_
 exact kb
 intro v8 e
 subst e
 refine Xag ?_
 refine Xec hm ?_
 iterate 8 refine kO hT hC ?_
 refine kD ?_
 refine Xaa ?_
 iterate 4 refine kO hT hC ?_
 refine Vc.nil ?_
 refine kL [3,5,7,8,9,10,11,12,18,19,20] [48,80,112,128,144,160,288,304,512,528] [_,_,_,_,_,_,_,_,_,_,_] [_,_,_,_,_,_,_,_,_,_] ?_
 refine Xr5 h (fun (v12 : (Int × Int × (List Int) × (List Int) × Int × Bool × Bool × Bool)) => ([(5, .any), (11, .any)], [(288, some (.box [.sv (.int .i64 v12.1), .sv (.int .i64 v12.2.1), .sv (.ints .i64 v12.2.2.1), .sv (.ints .i64 v12.2.2.2.1)])), (304, some (.box [.sv (.int .i64 v12.2.2.2.2.1), .sv (.bool v12.2.2.2.2.2.1), .sv (.bool v12.2.2.2.2.2.2.1), .sv (.bool v12.2.2.2.2.2.2.2)])), (80, none), (512, none)])) (fun v12 h => ?_) (fun h => ?_)
 refine Xaa ?_
 iterate 4 refine kO hT hC ?_
 iterate 2 refine kQ hT hC h fun h => ?_
 refine kO hT hC ?_
 refine kN ?_
 iterate 3 refine kO hT hC ?_
 refine kC hC [] Tryz.call143 h (fun _ => Xqi) fun q18 h => ?_
 iterate 8 refine kO hT hC ?_
 refine Vc.nil ?_
 refine Xaw ?_
 refine Xa2 ?_
 refine Xaa ?_
 iterate 3 refine kO hT hC ?_
 refine Vc.nil ?_
 refine kS h ?_ ?_ <;> intro b26 h
 refine kt b26 ?_
 refine Xaa ?_
 iterate 9 refine kO hT hC ?_
 refine Vc.nil ?_
 refine Xae ?_
 refine Xdg ?_
 refine Xak ?_
 obtain rfl := kj h
 exact Xc6 (τ := ⟨[(6, .sv (.int .i64 5)), (7, .ptr 2000001 0), (8, .ptr 2000002 0), (9, .ptr 2000003 0), (10, .ptr 2000004 0)], [(2000001, some (.box [.sv (.int .i64 0), .sv (.int .i64 0), .sv (.ints .i64 []), .sv (.ints .i64 [])])), (2000002, some (.box [.sv (.int .i64 0), .sv (.bool false), .sv (.bool false), .sv (.bool false)])), (2000003, some (.box [.sv (.int .i64 0), .sv (.int .i64 0), .sv (.int .i64 0)])), (2000004, some (.box [.sv (.bool false), .sv (.int .i64 0), .sv (.str ⟨#[]⟩)]))]⟩) (kW hC [(2000001, 112), (2000002, 128), (2000003, 144), (2000004, 160)]) rfl trivial
 refine kf b26 ?_
 refine kL [3,7,8,9,10,18,19,20,27,28,29] [48,112,128,144,160,288,304,448] [_,_,_,_,_,_,_,_,_,_,_] [_,_,_,_,_,_,_,_] ?_
 refine kA h (fun v19 => ([(211, .sv (.bool v19))], [])) (fun v19 h => ?_) fun v19 h => ?_
 refine Xac ?_
 iterate 3 refine kO hT hC ?_
 refine kS h ?_ ?_ <;> intro b27 h
 iterate 3 refine kF hC (kn b27) ?_
 refine kP hC false (kn b27) ?_
 refine kO hT hC ?_
 refine Vc.nil ?_
 exact kM
 iterate 3 refine kI hT hC (kn b27) ?_
 refine kP hC true (kn b27) ?_
 refine kO hT hC ?_
 refine Vc.nil ?_
 exact kM
 refine kS h ?_ ?_ <;> intro b28 h
 refine kt b28 ?_
 refine Xaa ?_
 iterate 9 refine kO hT hC ?_
 refine Vc.nil ?_
 refine Xae ?_
 refine Xdg ?_
 refine Xak ?_
 obtain rfl := kj h
 exact Xc6 (τ := ⟨[(6, .sv (.int .i64 6)), (7, .ptr 2000001 0), (8, .ptr 2000002 0), (9, .ptr 2000003 0), (10, .ptr 2000004 0)], [(2000001, some (.box [.sv (.int .i64 0), .sv (.int .i64 0), .sv (.ints .i64 []), .sv (.ints .i64 [])])), (2000002, some (.box [.sv (.int .i64 0), .sv (.bool false), .sv (.bool false), .sv (.bool false)])), (2000003, some (.box [.sv (.int .i64 0), .sv (.int .i64 0), .sv (.int .i64 0)])), (2000004, some (.box [.sv (.bool false), .sv (.int .i64 0), .sv (.str ⟨#[]⟩)]))]⟩) (kW hC [(2000001, 112), (2000002, 128), (2000003, 144), (2000004, 160)]) rfl trivial
 refine kf b28 ?_
 refine kL [3,7,8,9,10,18,19,20,27,28,29] [48,112,128,144,160,288,304,448] [_,_,_,_,_,_,_,_,_,_,_] [_,_,_,_,_,_,_,_] ?_
 refine kA h (fun v20 => ([(223, .sv (.bool v20)), (3, .any)], [(48, none)])) (fun v20 h => ?_) fun v20 h => ?_
 refine Xac ?_
 iterate 3 refine kO hT hC ?_
 refine kS h ?_ ?_ <;> intro b29 h
 iterate 5 refine kF hC (kn b29) ?_
 refine kP hC false (kn b29) ?_
 refine kO hT hC ?_
 refine Vc.nil ?_
 exact kM
 iterate 5 refine kI hT hC (kn b29) ?_
 refine kP hC true (kn b29) ?_
 refine kO hT hC ?_
 refine Vc.nil ?_
 exact kM
 refine kS h ?_ ?_ <;> intro b30 h
 refine kt b30 ?_
 refine Xaa ?_
 iterate 9 refine kO hT hC ?_
 refine Vc.nil ?_
 refine Xae ?_
 refine Xdg ?_
 refine Xak ?_
 obtain rfl := kj h
 exact Xc6 (τ := ⟨[(6, .sv (.int .i64 7)), (7, .ptr 2000001 0), (8, .ptr 2000002 0), (9, .ptr 2000003 0), (10, .ptr 2000004 0)], [(2000001, some (.box [.sv (.int .i64 0), .sv (.int .i64 0), .sv (.ints .i64 []), .sv (.ints .i64 [])])), (2000002, some (.box [.sv (.int .i64 0), .sv (.bool false), .sv (.bool false), .sv (.bool false)])), (2000003, some (.box [.sv (.int .i64 0), .sv (.int .i64 0), .sv (.int .i64 0)])), (2000004, some (.box [.sv (.bool false), .sv (.int .i64 0), .sv (.str ⟨#[]⟩)]))]⟩) (kW hC [(2000001, 112), (2000002, 128), (2000003, 144), (2000004, 160)]) rfl trivial
 refine kf b30 ?_
 refine Xaf ?_
 refine Xbc ?_
 refine Xag ?_
 refine Xec hm ?_
 iterate 5 refine kO hT hC ?_
 refine kQ hT hC h fun h => ?_
 iterate 3 refine kO hT hC ?_
 refine kD ?_
 refine Xaw ?_
 refine Xec hm ?_
 iterate 3 refine kO hT hC ?_
 refine kC hC [] Tryz.call145 h (fun _ => Xiv) fun q21 h => ?_
 refine kC hC [] Tryz.call144 h (fun _ => Xvc) fun q22 h => ?_
 refine kO hT hC ?_
 refine kD ?_
 refine kS h ?_ ?_ <;> intro b31 h
 refine kt b31 ?_
 refine Xaa ?_
 iterate 9 refine kO hT hC ?_
 refine Vc.nil ?_
 refine Xae ?_
 refine Xak ?_
 obtain rfl := kj h
 exact Xc6 (τ := ⟨[(6, .sv (.int .i64 8)), (7, .ptr 2000001 0), (8, .ptr 2000002 0), (9, .ptr 2000003 0), (10, .ptr 2000004 0)], [(2000001, some (.box [.sv (.int .i64 0), .sv (.int .i64 0), .sv (.ints .i64 []), .sv (.ints .i64 [])])), (2000002, some (.box [.sv (.int .i64 0), .sv (.bool false), .sv (.bool false), .sv (.bool false)])), (2000003, some (.box [.sv (.int .i64 0), .sv (.int .i64 0), .sv (.int .i64 0)])), (2000004, some (.box [.sv (.bool false), .sv (.int .i64 0), .sv (.str ⟨#[]⟩)]))]⟩) (kW hC [(2000001, 112), (2000002, 128), (2000003, 144), (2000004, 160)]) rfl trivial
 refine kf b31 ?_
 refine Xaf ?_
 refine Xag ?_
 refine Xec hm ?_
 iterate 9 refine kO hT hC ?_
 refine kD ?_
 refine Xae ?_
 exact kR
 refine Xa2 ?_
 refine kL [3,5,7,8,9,10,11,12,18,19,20] [48,80,112,128,144,160,288,304,512,528] [_,_,_,_,_,_,_,_,_,_,_] [_,_,_,_,_,_,_,_,_,_] ?_
 refine kA h (fun v13 => ([(73, .sv (.bool v13)), (11, .any)], [(512, none)])) (fun v13 h => ?_) fun v13 h => ?_
 refine Xac ?_
 iterate 2 refine kO hT hC ?_
 refine kS h ?_ ?_ <;> intro b10 h
 refine kI hT hC b10 ?_
 iterate 2 refine kJ hT hC b10 h fun h => ?_
 iterate 2 refine kI hT hC b10 ?_
 refine kS h ?_ ?_ <;> intro b11 h
 iterate 4 refine kF hC b11 ?_
 refine Xb0 hC rfl rfl rfl rfl b10 rfl rfl (b := true) b11 rfl rfl rfl trivial ?_
 refine kI hT hC b10 ?_
 iterate 4 refine kF hC rfl ?_
 refine Xb0 hC rfl rfl rfl rfl b10 rfl rfl (b := true) rfl rfl rfl rfl trivial ?_
 refine kP hC true b10 ?_
 refine kO hT hC ?_
 iterate 3 refine kF hC rfl ?_
 iterate 9 refine Xmb hC rfl rfl rfl rfl rfl rfl ?_
 refine kF hC rfl ?_
 iterate 2 refine kO hT hC ?_
 refine Vc.nil ?_
 exact kM
 refine kI hT hC b11 ?_
 iterate 2 refine kJ hT hC b11 h fun h => ?_
 refine kI hT hC b11 ?_
 refine Xb0 hC rfl rfl rfl rfl b10 rfl rfl (b := false) b11 rfl rfl rfl trivial ?_
 refine kI hT hC b10 ?_
 refine kS h ?_ ?_ <;> intro b12 h
 iterate 4 refine kF hC b12 ?_
 refine Xb0 hC rfl rfl rfl rfl b10 rfl rfl (b := true) b12 rfl rfl rfl trivial ?_
 refine kP hC true b10 ?_
 refine kO hT hC ?_
 iterate 3 refine kF hC rfl ?_
 iterate 9 refine Xmb hC rfl rfl rfl rfl rfl rfl ?_
 refine kF hC rfl ?_
 iterate 2 refine kO hT hC ?_
 refine Vc.nil ?_
 exact kM
 refine kI hT hC b12 ?_
 iterate 2 refine kJ hT hC b12 h fun h => ?_
 refine kI hT hC b12 ?_
 refine Xb0 hC rfl rfl rfl rfl b10 rfl rfl (b := false) b12 rfl rfl rfl trivial ?_
 refine kP hC true b10 ?_
 refine kO hT hC ?_
 refine kS h ?_ ?_ <;> intro b13 h
 iterate 3 refine kF hC b13 ?_
 iterate 9 refine Xmb hC rfl rfl rfl rfl rfl rfl ?_
 refine kF hC b13 ?_
 refine kP hC true b13 ?_
 refine kO hT hC ?_
 refine Vc.nil ?_
 exact kM
 iterate 3 refine kI hT hC b13 ?_
 iterate 4 refine kF hC (kn b10) ?_
 iterate 4 refine Xmb hC rfl rfl rfl rfl rfl rfl ?_
 refine kF hC (kn b10) ?_
 refine Xb0 hC rfl rfl rfl rfl b13 rfl rfl (b := false) (kn b10) rfl rfl rfl trivial ?_
 refine kP hC false b13 ?_
 refine kO hT hC ?_
 refine Vc.nil ?_
 exact kM
 iterate 5 refine kF hC b10 ?_
 iterate 4 refine Xmb hC rfl rfl rfl rfl rfl rfl ?_
 iterate 2 refine kF hC b10 ?_
 iterate 4 refine Xmb hC rfl rfl rfl rfl rfl rfl ?_
 refine kF hC b10 ?_
 refine kP hC false b10 ?_
 refine kO hT hC ?_
 iterate 3 refine kI hT hC rfl ?_
 iterate 4 refine kI hT hC (kn b10) ?_
 refine kS h ?_ ?_ <;> intro b14 h
 iterate 4 refine kF hC b14 ?_
 refine Xb0 hC rfl rfl rfl rfl (kn b10) rfl rfl (b := true) b14 rfl rfl rfl trivial ?_
 refine Xb0 hC rfl rfl rfl rfl rfl rfl rfl (b := true) (kn b10) rfl rfl rfl trivial ?_
 iterate 2 refine kO hT hC ?_
 refine Vc.nil ?_
 exact kM
 refine kI hT hC b14 ?_
 iterate 2 refine kJ hT hC b14 h fun h => ?_
 refine kI hT hC b14 ?_
 refine Xb0 hC rfl rfl rfl rfl (kn b10) rfl rfl (b := false) b14 rfl rfl rfl trivial ?_
 refine Xb0 hC rfl rfl rfl rfl rfl rfl rfl (b := true) (kn b10) rfl rfl rfl trivial ?_
 iterate 2 refine kO hT hC ?_
 refine Vc.nil ?_
 exact kM
 refine kS h ?_ ?_ <;> intro b15 h
 refine kt b15 ?_
 refine Xaa ?_
 iterate 9 refine kO hT hC ?_
 refine Vc.nil ?_
 refine Xae ?_
 refine Xdg ?_
 refine Yag ?_
 obtain rfl := kj h
 exact Xc6 (τ := ⟨[(6, .sv (.int .i64 2)), (7, .ptr 2000001 0), (8, .ptr 2000002 0), (9, .ptr 2000003 0), (10, .ptr 2000004 0)], [(2000001, some (.box [.sv (.int .i64 0), .sv (.int .i64 0), .sv (.ints .i64 []), .sv (.ints .i64 [])])), (2000002, some (.box [.sv (.int .i64 0), .sv (.bool false), .sv (.bool false), .sv (.bool false)])), (2000003, some (.box [.sv (.int .i64 0), .sv (.int .i64 0), .sv (.int .i64 0)])), (2000004, some (.box [.sv (.bool false), .sv (.int .i64 0), .sv (.str ⟨#[]⟩)]))]⟩) (kW hC [(2000001, 112), (2000002, 128), (2000003, 144), (2000004, 160)]) rfl trivial
 refine kf b15 ?_
 refine Xaa ?_
 iterate 2 refine kO hT hC ?_
 refine Vc.nil ?_
 refine kS h ?_ ?_ <;> intro b16 h
 refine kt b16 ?_
 refine Xaa ?_
 refine kO hT hC ?_
 iterate 2 refine kQ hT hC h fun h => ?_
 refine kC hC [(16, 1888), (17, 1889)] Tryz.call113 h (fun _ => Xsy) fun q14 h => ?_
 iterate 8 refine kO hT hC ?_
 refine kN ?_
 refine kO hT hC ?_
 iterate 2 refine kQ hT hC h fun h => ?_
 refine kC hC [] Tryz.call114 h (fun _ => Xsx) fun q15 h => ?_
 iterate 8 refine kO hT hC ?_
 refine Vc.nil ?_
 refine Xaw ?_
 refine kL [3,5,7,8,9,10,12,18,19,20,21,22,23,24,25,26] [48,80,112,128,144,160,288,304,336,384,528,1888,1889] [_,_,_,_,_,_,_,_,_,_,_,_,_,_,_,_] [_,_,_,_,_,_,_,_,_,_,_,_,_] ?_
 refine kA h (fun v16 => ([(175, .sv (.bool v16)), (5, .any), (22, .any), (23, .any), (25, .any), (26, .any)], [(80, none)])) (fun v16 h => ?_) fun v16 h => ?_
 refine Xac ?_
 iterate 3 refine kO hT hC ?_
 refine kS h ?_ ?_ <;> intro b17 h
 iterate 2 refine kI hT hC (kn b17) ?_
 iterate 2 refine kJ hT hC (kn b17) h fun h => ?_
 iterate 2 refine kI hT hC (kn b17) ?_
 refine kP hC false (kn b17) ?_
 refine kO hT hC ?_
 refine kS h ?_ ?_ <;> intro b18 h
 iterate 2 refine kF hC b18 ?_
 refine kP hC true b18 ?_
 refine kO hT hC ?_
 iterate 6 refine kF hC rfl ?_
 iterate 2 refine kO hT hC ?_
 iterate 3 refine kF hC rfl ?_
 iterate 2 refine kO hT hC ?_
 iterate 3 refine kF hC rfl ?_
 iterate 2 refine kO hT hC ?_
 iterate 5 refine kF hC rfl ?_
 iterate 2 refine kO hT hC ?_
 iterate 5 refine kF hC rfl ?_
 refine kO hT hC ?_
 refine Vc.nil ?_
 exact kM
 iterate 2 refine kI hT hC b18 ?_
 refine kP hC false b18 ?_
 refine kO hT hC ?_
 refine kS h ?_ ?_ <;> intro b19 h
 iterate 2 refine kI hT hC (kn b19) ?_
 iterate 2 refine kJ hT hC (kn b19) h fun h => ?_
 iterate 2 refine kI hT hC (kn b19) ?_
 refine kP hC false (kn b19) ?_
 refine kO hT hC ?_
 refine kS h ?_ ?_ <;> intro b20 h
 iterate 3 refine kF hC b20 ?_
 refine kP hC true b20 ?_
 refine kO hT hC ?_
 iterate 3 refine kF hC rfl ?_
 iterate 2 refine kO hT hC ?_
 iterate 5 refine kF hC rfl ?_
 iterate 2 refine kO hT hC ?_
 iterate 5 refine kF hC rfl ?_
 refine kO hT hC ?_
 refine Vc.nil ?_
 exact kM
 refine kI hT hC b20 ?_
 refine kE hC b20 [] Tryz.call123 h (fun _ => Xho) fun q17 h => ?_
 refine kI hT hC b20 ?_
 refine kP hC false b20 ?_
 refine kO hT hC ?_
 refine kS h ?_ ?_ <;> intro b21 h
 iterate 3 refine kF hC b21 ?_
 refine kP hC true b21 ?_
 refine kO hT hC ?_
 iterate 5 refine kF hC rfl ?_
 iterate 2 refine kO hT hC ?_
 iterate 5 refine kF hC rfl ?_
 refine kO hT hC ?_
 refine Vc.nil ?_
 exact kM
 iterate 3 refine kI hT hC b21 ?_
 refine kP hC false b21 ?_
 refine kO hT hC ?_
 refine kS h ?_ ?_ <;> intro b22 h
 iterate 5 refine kI hT hC (kn b22) ?_
 refine kP hC false (kn b22) ?_
 refine kO hT hC ?_
 refine kS h ?_ ?_ <;> intro b23 h
 iterate 5 refine kI hT hC (kn b23) ?_
 refine kP hC false (kn b23) ?_
 refine Vc.nil ?_
 exact kM
 iterate 5 refine kF hC (kn b23) ?_
 refine kP hC true (kn b23) ?_
 refine Vc.nil ?_
 exact kM
 iterate 5 refine kF hC (kn b22) ?_
 refine kP hC true (kn b22) ?_
 refine kO hT hC ?_
 iterate 5 refine kF hC rfl ?_
 refine kO hT hC ?_
 refine Vc.nil ?_
 exact kM
 iterate 6 refine kF hC (kn b19) ?_
 refine kP hC true (kn b19) ?_
 refine kO hT hC ?_
 iterate 3 refine kF hC rfl ?_
 iterate 2 refine kO hT hC ?_
 iterate 3 refine kF hC rfl ?_
 iterate 2 refine kO hT hC ?_
 iterate 5 refine kF hC rfl ?_
 iterate 2 refine kO hT hC ?_
 iterate 5 refine kF hC rfl ?_
 refine kO hT hC ?_
 refine Vc.nil ?_
 exact kM
 iterate 6 refine kF hC (kn b17) ?_
 refine kP hC true (kn b17) ?_
 refine kO hT hC ?_
 iterate 2 refine kF hC rfl ?_
 iterate 2 refine kO hT hC ?_
 iterate 6 refine kF hC rfl ?_
 iterate 2 refine kO hT hC ?_
 iterate 3 refine kF hC rfl ?_
 iterate 2 refine kO hT hC ?_
 iterate 3 refine kF hC rfl ?_
 iterate 2 refine kO hT hC ?_
 iterate 5 refine kF hC rfl ?_
 iterate 2 refine kO hT hC ?_
 iterate 5 refine kF hC rfl ?_
 refine kO hT hC ?_
 refine Vc.nil ?_
 exact kM
 refine kS h ?_ ?_ <;> intro b24 h
 refine kt b24 ?_
 refine Xaa ?_
 iterate 9 refine kO hT hC ?_
 refine Vc.nil ?_
 refine Xae ?_
 refine Xak ?_
 refine Xdg ?_
 refine Yag ?_
 obtain rfl := kj h
 exact Xc6 (τ := ⟨[(6, .sv (.int .i64 3)), (7, .ptr 2000001 0), (8, .ptr 2000002 0), (9, .ptr 2000003 0), (10, .ptr 2000004 0)], [(2000001, some (.box [.sv (.int .i64 0), .sv (.int .i64 0), .sv (.ints .i64 []), .sv (.ints .i64 [])])), (2000002, some (.box [.sv (.int .i64 0), .sv (.bool false), .sv (.bool false), .sv (.bool false)])), (2000003, some (.box [.sv (.int .i64 0), .sv (.int .i64 0), .sv (.int .i64 0)])), (2000004, some (.box [.sv (.bool false), .sv (.int .i64 0), .sv (.str ⟨#[]⟩)]))]⟩) (kW hC [(2000001, 112), (2000002, 128), (2000003, 144), (2000004, 160)]) rfl trivial
 refine kf b24 ?_
 refine Xaf ?_
 refine Xag ?_
 refine Xid hm ?_
 iterate 4 refine kO hT hC ?_
 refine kD ?_
 refine Xbc ?_
 exact Xp6 (q14.1.Level, q14.1.Bits, q14.1.Cols, q14.1.Rows, q15.1.Qp, q15.1.Large, q15.1.Exact, q15.1.Confined) h (kW hC [])
 refine kf b16 ?_
 refine Xaa ?_
 iterate 4 refine kO hT hC ?_
 refine Vc.nil ?_
 refine kS h ?_ ?_ <;> intro b25 h
 refine kt b25 ?_
 refine Xaa ?_
 iterate 9 refine kO hT hC ?_
 refine Vc.nil ?_
 refine Xae ?_
 refine Xdg ?_
 refine Yag ?_
 obtain rfl := kj h
 exact Xc6 (τ := ⟨[(6, .sv (.int .i64 4)), (7, .ptr 2000001 0), (8, .ptr 2000002 0), (9, .ptr 2000003 0), (10, .ptr 2000004 0)], [(2000001, some (.box [.sv (.int .i64 0), .sv (.int .i64 0), .sv (.ints .i64 []), .sv (.ints .i64 [])])), (2000002, some (.box [.sv (.int .i64 0), .sv (.bool false), .sv (.bool false), .sv (.bool false)])), (2000003, some (.box [.sv (.int .i64 0), .sv (.int .i64 0), .sv (.int .i64 0)])), (2000004, some (.box [.sv (.bool false), .sv (.int .i64 0), .sv (.str ⟨#[]⟩)]))]⟩) (kW hC [(2000001, 112), (2000002, 128), (2000003, 144), (2000004, 160)]) rfl trivial
 refine kf b25 ?_
 refine Xaf ?_
 refine Xbc ?_
 exact Xp6 (p0.Seq.Level, p0.Seq.Bits, p0.Seq.Cols, p0.Seq.Rows, p0.Par.Qp, p0.Par.Large, p0.Par.Exact, p0.Par.Confined) h (kW hC [])
 intro r' σ' e hE
 subst e
 obtain rfl := kj h
 refine Xak ?_
 exact hE
def Xqu (r : Int) : AV := .sv (.int .i64 r)
def Xqt (r : Int) : Xa8 := []
theorem Xkp {p0 r} (h : Xff p0 = some r) : AC Tryz.prog 73 [.sv (.int .i64 p0)] [] (Xqu r) (Xqt r) := by
 refine Xad hT Tryz.func73 rfl fun C hC => ?_
 unfold Xff at h
 refine Xaa ?_
 refine kO hT hC ?_
 refine kN ?_
 iterate 4 refine kO hT hC ?_
 refine Vc.nil ?_
 refine Xae ?_
 exact kR
def Xm6 (r : Admit) : AV := .agg [.sv (.bool r.Has), .sv (.bool r.Live), .sv (.int .i64 r.Seq.Level), .sv (.int .i64 r.Seq.Bits), .own 16, .own 17, .sv (.int .i64 r.Par.Qp), .sv (.bool r.Par.Large), .sv (.bool r.Par.Exact), .sv (.bool r.Par.Confined), .sv (.int .i64 r.Frame), .sv (.int .i64 r.Count), .sv (.int .i64 r.Gone)]
def Xm5 (r : Admit) : Xa8 := [(16, .ints .i64 r.Seq.Cols), (17, .ints .i64 r.Seq.Rows)]
theorem Xot {p0 r} (h : Xex p0 = some r) : AC Tryz.prog 18 [.agg [.sv (.bool p0.Has), .sv (.bool p0.Live), .sv (.int .i64 p0.Seq.Level), .sv (.int .i64 p0.Seq.Bits), .sv (.ints .i64 p0.Seq.Cols), .sv (.ints .i64 p0.Seq.Rows), .sv (.int .i64 p0.Par.Qp), .sv (.bool p0.Par.Large), .sv (.bool p0.Par.Exact), .sv (.bool p0.Par.Confined), .sv (.int .i64 p0.Frame), .sv (.int .i64 p0.Count), .sv (.int .i64 p0.Gone)]] [] (Xm6 r) (Xm5 r) := by
 refine Xad hT Tryz.func18 rfl fun C hC => ?_
 unfold Xex at h
 refine Xaa ?_
 iterate 2 refine kO hT hC ?_
 refine kN ?_
 refine kO hT hC ?_
 refine kC hC [(16, 80), (17, 81)] Tryz.call67 h (fun _ => Xiz) fun q1 h => ?_
 iterate 2 refine kO hT hC ?_
 refine Vc.nil ?_
 refine kL [1,2,3] [16,32,48,80,81] [_,_,_] [_,_,_,_,_] ?_
 refine kA h (fun v2 => ([(1, .any)], [(48, some (.box [.sv (.bool q1.Has), .sv (.bool v2.1), .sv (.int .i64 q1.Seq.Level), .sv (.int .i64 q1.Seq.Bits), .own 80, .own 81, .sv (.int .i64 q1.Par.Qp), .sv (.bool q1.Par.Large), .sv (.bool q1.Par.Exact), .sv (.bool q1.Par.Confined), .sv (.int .i64 q1.Frame), .sv (.int .i64 q1.Count), .sv (.int .i64 v2.2)])), (16, none)])) (fun v2 h => ?_) fun v2 h => ?_
 refine Xaa ?_
 refine kO hT hC ?_
 refine kC hC [] Tryz.call68 h (fun _ => Xkl) fun q3 h => ?_
 refine Vc.nil ?_
 refine kS h ?_ ?_ <;> intro b1 h
 refine kt b1 ?_
 refine Xaa ?_
 iterate 2 refine kO hT hC ?_
 refine Vc.nil ?_
 refine Xac ?_
 iterate 2 refine kO hT hC ?_
 refine kC hC [] Tryz.call73 h (fun _ => Xkp) fun q4 h => ?_
 iterate 2 refine kO hT hC ?_
 refine Vc.nil ?_
 exact kM
 refine kf b1 ?_
 refine Xaf ?_
 exact kM
 refine Xaa ?_
 iterate 2 refine kO hT hC ?_
 refine Vc.nil ?_
 refine Xae ?_
 obtain rfl := kj h
 exact Xc6 (τ := ⟨[(2, .ptr 2000000 0)], [(16, some (.ints .i64 q1.Seq.Cols)), (17, some (.ints .i64 q1.Seq.Rows)), (2000000, some (.box [.sv (.bool q1.Has), .sv (.bool v2.1), .sv (.int .i64 q1.Seq.Level), .sv (.int .i64 q1.Seq.Bits), .own 16, .own 17, .sv (.int .i64 q1.Par.Qp), .sv (.bool q1.Par.Large), .sv (.bool q1.Par.Exact), .sv (.bool q1.Par.Confined), .sv (.int .i64 q1.Frame), .sv (.int .i64 q1.Count), .sv (.int .i64 v2.2)]))]⟩) (kW hC [(16, 80), (17, 81), (2000000, 32)]) rfl ⟨rfl, rfl, trivial⟩
def Xm8 (r : (Admit × Int × Xhz)) : AV := .tup [.agg [.sv (.bool r.1.Has), .sv (.bool r.1.Live), .sv (.int .i64 r.1.Seq.Level), .sv (.int .i64 r.1.Seq.Bits), .own 16, .own 17, .sv (.int .i64 r.1.Par.Qp), .sv (.bool r.1.Par.Large), .sv (.bool r.1.Par.Exact), .sv (.bool r.1.Par.Confined), .sv (.int .i64 r.1.Frame), .sv (.int .i64 r.1.Count), .sv (.int .i64 r.1.Gone)], .sv (.int .i64 r.2.1), .agg [.sv (.bool r.2.2.Key), .sv (.int .i64 r.2.2.Qp), .sv (.str r.2.2.Row)]]
def Xm7 (r : (Admit × Int × Xhz)) : Xa8 := [(16, .ints .i64 r.1.Seq.Cols), (17, .ints .i64 r.1.Seq.Rows)]
theorem Xis {p0 p1 p2 r} (h : Xbp p0 p1 p2 = some r) : AC Tryz.prog 17 [.agg [.sv (.bool p0.Has), .sv (.bool p0.Live), .sv (.int .i64 p0.Seq.Level), .sv (.int .i64 p0.Seq.Bits), .sv (.ints .i64 p0.Seq.Cols), .sv (.ints .i64 p0.Seq.Rows), .sv (.int .i64 p0.Par.Qp), .sv (.bool p0.Par.Large), .sv (.bool p0.Par.Exact), .sv (.bool p0.Par.Confined), .sv (.int .i64 p0.Frame), .sv (.int .i64 p0.Count), .sv (.int .i64 p0.Gone)], .sv (Xao.sv p1), .agg [.sv (.int .i64 p2.Qp), .sv (.bool p2.Large), .sv (.bool p2.Exact), .sv (.bool p2.Confined)]] [] (Xm8 r) (Xm7 r) := by
 refine Xad hT Tryz.func17 rfl fun C hC => ?_
 unfold Xbp at h
 refine Xaa ?_
 iterate 5 refine kO hT hC ?_
 refine kN ?_
 refine kO hT hC ?_
 refine kC hC [(16, 256), (17, 257)] Tryz.call67 h (fun _ => Xiz) fun q1 h => ?_
 iterate 2 refine kO hT hC ?_
 refine Vc.nil ?_
 refine Xaw ?_
 refine kL [1,3,5,6,8,9] [48,80,96,128,144,256,257] [_,_,_,_,_,_] [_,_,_,_,_,_,_] ?_
 refine kA h (fun v2 => ([(24, .sv (.bool v2))], [])) (fun v2 h => ?_) fun v2 h => ?_
 refine Xac ?_
 refine kO hT hC ?_
 refine kC hC [] Tryz.call68 h (fun _ => Xkl) fun q3 h => ?_
 iterate 2 refine kO hT hC ?_
 refine kS h ?_ ?_ <;> intro b1 h
 refine kI hT hC (kn b1) ?_
 refine kE hC (kn b1) [] Tryz.call69 h (fun _ => Xei) fun q4 h => ?_
 refine kI hT hC (kn b1) ?_
 refine kP hC false (kn b1) ?_
 refine Vc.nil ?_
 exact kM
 iterate 3 refine kF hC (kn b1) ?_
 refine kP hC true (kn b1) ?_
 refine Vc.nil ?_
 exact kM
 refine kS h ?_ ?_ <;> intro b2 h
 refine kt b2 ?_
 refine Xaa ?_
 iterate 5 refine kO hT hC ?_
 refine Vc.nil ?_
 refine Xae ?_
 refine Xak ?_
 obtain rfl := kj h
 exact Xc6 (τ := ⟨[(6, .ptr 2000000 0), (7, .sv (.int .i64 1)), (8, .ptr 2000002 0)], [(16, some (.ints .i64 q1.Seq.Cols)), (17, some (.ints .i64 q1.Seq.Rows)), (2000000, some (.box [.sv (.bool q1.Has), .sv (.bool q1.Live), .sv (.int .i64 q1.Seq.Level), .sv (.int .i64 q1.Seq.Bits), .own 16, .own 17, .sv (.int .i64 q1.Par.Qp), .sv (.bool q1.Par.Large), .sv (.bool q1.Par.Exact), .sv (.bool q1.Par.Confined), .sv (.int .i64 q1.Frame), .sv (.int .i64 q1.Count), .sv (.int .i64 q1.Gone)])), (2000002, some (.box [.sv (.bool false), .sv (.int .i64 0), .sv (.str ⟨#[]⟩)]))]⟩) (kW hC [(16, 256), (17, 257), (2000000, 96), (2000002, 128)]) rfl ⟨rfl, rfl, trivial⟩
 refine kf b2 ?_
 refine Xaf ?_
 refine Xag ?_
 refine Xaa ?_
 iterate 3 refine kO hT hC ?_
 refine kC hC [] Tryz.call70 h (fun _ => Xlg) fun q5 h => ?_
 iterate 15 refine kO hT hC ?_
 refine Vc.nil ?_
 refine Xaw ?_
 refine Xaa ?_
 iterate 2 refine kO hT hC ?_
 refine Vc.nil ?_
 refine kS h ?_ ?_ <;> intro b3 h
 refine kt b3 ?_
 refine Xaa ?_
 refine kO hT hC ?_
 refine kC hC [(16, 640), (17, 641)] Tryz.call18 h (fun _ => Xot) fun q6 h => ?_
 iterate 5 refine kO hT hC ?_
 refine Vc.nil ?_
 refine Xae ?_
 refine Xak ?_
 obtain rfl := kj h
 exact Xc6 (τ := ⟨[(6, .ptr 2000000 0), (7, .sv (.int .i64 q5.1)), (8, .ptr 2000002 0)], [(16, some (.ints .i64 q6.Seq.Cols)), (17, some (.ints .i64 q6.Seq.Rows)), (2000000, some (.box [.sv (.bool q6.Has), .sv (.bool q6.Live), .sv (.int .i64 q6.Seq.Level), .sv (.int .i64 q6.Seq.Bits), .own 16, .own 17, .sv (.int .i64 q6.Par.Qp), .sv (.bool q6.Par.Large), .sv (.bool q6.Par.Exact), .sv (.bool q6.Par.Confined), .sv (.int .i64 q6.Frame), .sv (.int .i64 q6.Count), .sv (.int .i64 q6.Gone)])), (2000002, some (.box [.sv (.bool false), .sv (.int .i64 0), .sv (.str ⟨#[]⟩)]))]⟩) (kW hC [(16, 640), (17, 641), (2000000, 96), (2000002, 128)]) rfl ⟨rfl, rfl, trivial⟩
 refine kf b3 ?_
 refine Xaf ?_
 refine Xag ?_
 refine Xaa ?_
 iterate 2 refine kO hT hC ?_
 refine kN ?_
 iterate 2 refine kO hT hC ?_
 refine kN ?_
 refine kO hT hC ?_
 refine kC hC [(16, 736), (17, 737)] Tryz.call71 h (fun _ => Xko) fun q7 h => ?_
 iterate 2 refine kO hT hC ?_
 refine kN ?_
 iterate 3 refine kO hT hC ?_
 refine kN ?_
 iterate 4 refine kO hT hC ?_
 refine kC hC [] Tryz.call72 h (fun _ => Xxh) fun q8 h => ?_
 iterate 2 refine kO hT hC ?_
 refine kN ?_
 iterate 2 refine kO hT hC ?_
 refine kC hC [] Tryz.call73 h (fun _ => Xkp) fun q9 h => ?_
 iterate 2 refine kO hT hC ?_
 refine Vc.nil ?_
 refine Xec hm ?_
 iterate 5 refine kO hT hC ?_
 refine kD ?_
 refine Xae ?_
 obtain rfl := kj h
 exact Xc6 (τ := ⟨[(6, .ptr 2000000 0), (7, .sv (.int .i64 0)), (8, .ptr 2000002 0)], [(16, some (.ints .i64 q7.Cols)), (17, some (.ints .i64 q7.Rows)), (2000000, some (.box [.sv (.bool true), .sv (.bool true), .sv (.int .i64 q7.Level), .sv (.int .i64 q7.Bits), .own 16, .own 17, .sv (.int .i64 q5.2.2.1.Qp), .sv (.bool q5.2.2.1.Large), .sv (.bool q5.2.2.1.Exact), .sv (.bool q5.2.2.1.Confined), .sv (.int .i64 q8), .sv (.int .i64 q9), .sv (.int .i64 q1.Gone)])), (2000002, some (.box [.sv (.bool q5.2.2.2.2.Key), .sv (.int .i64 q5.2.2.2.2.Qp), .sv (.str q5.2.2.2.2.Row)]))]⟩) (kW hC [(16, 736), (17, 737), (2000000, 96), (2000002, 128)]) rfl ⟨rfl, rfl, trivial⟩
def Xtn (r : Int) : AV := .sv (.int .i64 r)
def Xtm (r : Int) : Xa8 := []
theorem Xl1 {p0 p1 r} (h : Xf6 p0 p1 = some r) : AC Tryz.prog 147 [.sv (.ints .i64 p0), .sv (.int .i64 p1)] [] (Xtn r) (Xtm r) := by
 refine Xad hT Tryz.func147 rfl fun C hC => ?_
 unfold Xf6 at h
 refine Xaa ?_
 refine kO hT hC ?_
 refine kN ?_
 iterate 5 refine kO hT hC ?_
 refine Vc.nil ?_
 refine Xaw ?_
 refine Xaa ?_
 iterate 2 refine kO hT hC ?_
 refine Vc.nil ?_
 refine kS h ?_ ?_ <;> intro b1 h
 refine kt b1 ?_
 refine Xaa ?_
 refine kO hT hC ?_
 refine Vc.nil ?_
 refine Xae ?_
 refine Xak ?_
 exact kR
 refine kf b1 ?_
 refine Xaf ?_
 refine Xag ?_
 refine Xaa ?_
 iterate 2 refine kO hT hC ?_
 refine Vc.nil ?_
 refine Xae ?_
 exact kR
def Xvr (r : Int) : AV := .sv (.int .i64 r)
def Xvq (r : Int) : Xa8 := []
theorem Xxp {p0 p1 r} (h : Xjc p0 p1 = some r) : AC Tryz.prog 74 [.agg [.sv (.int .i64 p0.Level), .sv (.int .i64 p0.Bits), .sv (.ints .i64 p0.Cols), .sv (.ints .i64 p0.Rows)], .sv (.int .i64 p1)] [] (Xvr r) (Xvq r) := by
 refine Xad hT Tryz.func74 rfl fun C hC => ?_
 unfold Xjc at h
 refine Xaa ?_
 iterate 2 refine kO hT hC ?_
 refine kN ?_
 iterate 3 refine kO hT hC ?_
 refine kC hC [] Tryz.call147 h (fun _ => Xl1) fun q1 h => ?_
 refine kO hT hC ?_
 refine Vc.nil ?_
 refine Xaw ?_
 refine Xaa ?_
 iterate 2 refine kO hT hC ?_
 refine Vc.nil ?_
 refine kS h ?_ ?_ <;> intro b1 h
 refine kt b1 ?_
 refine Xaa ?_
 refine kO hT hC ?_
 refine Vc.nil ?_
 refine Xae ?_
 refine Xak ?_
 exact kR
 refine kf b1 ?_
 refine Xaf ?_
 refine Xag ?_
 refine Xaa ?_
 iterate 3 refine kO hT hC ?_
 refine kC hC [] Tryz.call147 h (fun _ => Xl1) fun q2 h => ?_
 refine kO hT hC ?_
 refine Vc.nil ?_
 refine Xaw ?_
 refine Xaa ?_
 iterate 2 refine kO hT hC ?_
 refine Vc.nil ?_
 refine kS h ?_ ?_ <;> intro b2 h
 refine kt b2 ?_
 refine Xaa ?_
 refine kO hT hC ?_
 refine Vc.nil ?_
 refine Xae ?_
 refine Xak ?_
 exact kR
 refine kf b2 ?_
 refine Xaf ?_
 refine Xag ?_
 refine Xaa ?_
 iterate 2 refine kO hT hC ?_
 refine Vc.nil ?_
 refine Xae ?_
 exact kR
def Xtq (r : (List Int)) : AV := .own 16
def Xtp (r : (List Int)) : Xa8 := [(16, .ints .i64 r)]
theorem Xl3 {p0 r} (h : Xf7 p0 = some r) : AC Tryz.prog 166 [.sv (.ints .i64 p0)] [] (Xtq r) (Xtp r) := by
 refine Xad hT Tryz.func166 rfl fun C hC => ?_
 unfold Xf7 at h
 refine Xaa ?_
 refine kO hT hC ?_
 refine kN ?_
 iterate 2 refine kO hT hC ?_
 obtain ⟨hq, h⟩ := Xc1 h
 refine Yb4 hT hC rfl rfl rfl rfl ⟨hq.1, hq.2.1, hq.2.2, by decide⟩ ?_
 refine kO hT hC ?_
 refine Vc.nil ?_
 refine Xaw ?_
 refine Xaa ?_
 refine kO hT hC ?_
 refine Vc.nil ?_
 refine kL [0,3,4] [112] [_,_,_] [_] ?_
 refine kX h (fun v2 => ([(4, .sv (.int .i64 v2.1))], [(112, some (.ints .i64 v2.2))])) (fun v4 => ([(0, .any), (4, .any)], [(112, some (.ints .i64 v4))])) (kW hC []) (fun v2 s h => ?_) fun v4 h => ?_
 unfold Xe2 at h
 refine Xaw ?_
 refine Xaa ?_
 iterate 4 refine kO hT hC ?_
 refine Vc.nil ?_
 refine kS h ?_ ?_ <;> intro b3 h
 refine kt b3 ?_
 refine Xaf ?_
 refine Xag ?_
 refine Xaw ?_
 refine Xa2 ?_
 refine Xac ?_
 iterate 4 refine kO hT hC ?_
 refine kQ hT hC h fun h => ?_
 refine kO hT hC ?_
 iterate 2 refine kQ hT hC h fun h => ?_
 refine Vc.nil ?_
 refine Xbc ?_
 refine Xag ?_
 refine Xac ?_
 iterate 3 refine kO hT hC ?_
 refine Vc.nil ?_
 exact kG
 refine kf b3 ?_
 refine Xba ?_
 refine Xbt ?_
 exact ku
 refine Xag ?_
 refine Xaa ?_
 iterate 2 refine kO hT hC ?_
 refine Vc.nil ?_
 refine Xae ?_
 obtain rfl := kj h
 exact Xc6 (τ := ⟨[(2, .own 16)], [(16, some (.ints .i64 v4))]⟩) (kW hC [(16, 112)]) rfl ⟨rfl, trivial⟩
def Xvv (r : Seq) : AV := .agg [.sv (.int .i64 r.Level), .sv (.int .i64 r.Bits), .own 16, .own 17]
def Xvu (r : Seq) : Xa8 := [(16, .ints .i64 r.Cols), (17, .ints .i64 r.Rows)]
theorem Xnt {p0 r} (h : Xhk p0 = some r) : AC Tryz.prog 86 [.agg [.sv (.int .i64 p0.Level), .sv (.int .i64 p0.Bits), .sv (.ints .i64 p0.Cols), .sv (.ints .i64 p0.Rows)]] [] (Xvv r) (Xvu r) := by
 refine Xad hT Tryz.func86 rfl fun C hC => ?_
 unfold Xhk at h
 refine Xaa ?_
 iterate 2 refine kO hT hC ?_
 refine kN ?_
 refine kO hT hC ?_
 refine kN ?_
 iterate 4 refine kO hT hC ?_
 refine kN ?_
 iterate 4 refine kO hT hC ?_
 refine kN ?_
 iterate 2 refine kO hT hC ?_
 refine kC hC [(16, 192)] Tryz.call166 h (fun _ => Xl3) fun q1 h => ?_
 iterate 2 refine kO hT hC ?_
 refine kN ?_
 iterate 2 refine kO hT hC ?_
 refine kC hC [(16, 256)] Tryz.call166 h (fun _ => Xl3) fun q2 h => ?_
 iterate 2 refine kO hT hC ?_
 refine kN ?_
 iterate 2 refine kO hT hC ?_
 refine Vc.nil ?_
 refine Xae ?_
 obtain rfl := kj h
 exact Xc6 (τ := ⟨[(2, .ptr 2000000 0)], [(16, some (.ints .i64 q1)), (17, some (.ints .i64 q2)), (2000000, some (.box [.sv (.int .i64 p0.Level), .sv (.int .i64 p0.Bits), .own 16, .own 17]))]⟩) (kW hC [(16, 192), (17, 256), (2000000, 32)]) rfl ⟨rfl, rfl, trivial⟩
def Xvt (r : Par) : AV := .agg [.sv (.int .i64 r.Qp), .sv (.bool r.Large), .sv (.bool r.Exact), .sv (.bool r.Confined)]
def Xvs (r : Par) : Xa8 := []
theorem Xfu {p0 r} (h : Xeo p0 = some r) : AC Tryz.prog 36 [.agg [.sv (.int .i64 p0.Qp), .sv (.bool p0.Large), .sv (.bool p0.Exact), .sv (.bool p0.Confined)]] [] (Xvt r) (Xvs r) := by
 refine Xad hT Tryz.func36 rfl fun C hC => ?_
 unfold Xeo at h
 refine Xaa ?_
 iterate 2 refine kO hT hC ?_
 refine kN ?_
 refine kO hT hC ?_
 refine kN ?_
 iterate 4 refine kO hT hC ?_
 refine kN ?_
 iterate 4 refine kO hT hC ?_
 refine kN ?_
 iterate 4 refine kO hT hC ?_
 refine kN ?_
 iterate 4 refine kO hT hC ?_
 refine kN ?_
 iterate 2 refine kO hT hC ?_
 refine Vc.nil ?_
 refine Xae ?_
 exact kR
def Xuf (r : Bool) : AV := .sv (.bool r)
def Xue (r : Bool) : Xa8 := []
theorem Xvz {p0 r} (h : Xhu p0 = some r) : AC Tryz.prog 152 [.agg [.sv (.bool p0.Key), .sv (.int .i64 p0.Qp), .sv (.bool p0.Large), .sv (.bool p0.Exact)]] [] (Xuf r) (Xue r) := by
 refine Xad hT Tryz.func152 rfl fun C hC => ?_
 unfold Xhu at h
 refine Xaa ?_
 iterate 2 refine kO hT hC ?_
 refine Vc.nil ?_
 refine kL [1,2] [16] [_,_] [_] ?_
 refine kA h (fun v1 => ([(2, .sv (.bool v1)), (1, .any)], [(16, none)])) (fun v1 h => ?_) fun v1 h => ?_
 refine Xac ?_
 iterate 2 refine kO hT hC ?_
 refine kC hC [] Tryz.call149 h (fun _ => Xbb) fun q2 h => ?_
 refine kO hT hC ?_
 refine kS h ?_ ?_ <;> intro b1 h
 iterate 3 refine kI hT hC b1 ?_
 refine kS h ?_ ?_ <;> intro b2 h
 iterate 2 refine kI hT hC b2 ?_
 refine Xb0 hC rfl rfl rfl rfl b1 rfl rfl (b := true) b2 rfl rfl rfl trivial ?_
 refine kI hT hC b1 ?_
 refine kP hC true b1 ?_
 refine kO hT hC ?_
 refine Vc.nil ?_
 exact kM
 iterate 2 refine kF hC b2 ?_
 refine Xb0 hC rfl rfl rfl rfl b1 rfl rfl (b := false) b2 rfl rfl rfl trivial ?_
 refine kI hT hC b1 ?_
 refine kP hC true b1 ?_
 refine kO hT hC ?_
 refine Vc.nil ?_
 exact kM
 iterate 3 refine kF hC b1 ?_
 iterate 2 refine Xmb hC rfl rfl rfl rfl rfl rfl ?_
 iterate 2 refine kF hC b1 ?_
 refine kP hC false b1 ?_
 refine kO hT hC ?_
 refine Vc.nil ?_
 exact kM
 refine Xae ?_
 exact kR
def Xk2 (r : Bool) : AV := .sv (.bool r)
def Xk1 (r : Bool) : Xa8 := []
theorem Xl8 {p0 p1 p2 r} (h : Xgh p0 p1 p2 = some r) : AC Tryz.prog 282 [.sv (.ints .i64 p0), .sv (.int .i64 p1), .sv (.int .i64 p2)] [] (Xk2 r) (Xk1 r) := by
 refine Xad hT Tryz.func282 rfl fun C hC => ?_
 unfold Xgh at h
 refine Xaa ?_
 refine kO hT hC ?_
 refine Vc.nil ?_
 refine Xaw ?_
 refine Xaa ?_
 iterate 4 refine kO hT hC ?_
 refine Vc.nil ?_
 refine kS h ?_ ?_ <;> intro b1 h
 refine kt b1 ?_
 refine Xaa ?_
 refine kO hT hC ?_
 refine Vc.nil ?_
 refine Xae ?_
 refine Xak ?_
 exact kR
 refine kf b1 ?_
 refine Xaf ?_
 refine Xag ?_
 refine Xaw ?_
 refine Xaa ?_
 refine kO hT hC ?_
 refine Vc.nil ?_
 refine kL [0,1,2,7] [] [_,_,_,_] [] ?_
 obtain ⟨o8, hl, h⟩ := Xbs h
 refine Xd4 (fun v3 => ([(7, .sv (.int .i64 v3))], [])) (fun v6 => ([(0, .any), (1, .any), (2, .any), (7, .any)], [])) (fun r => Xio C T Tryz.f282.results.toList (Xk2 r) (Xk1 r)) hl ?_ ?_ ?_ ?_
 apply Xbx hC []
 exact co
 rfl
 decide
 rfl
 intro v3 s hs
 have h := hs
 unfold Xe7 at h
 refine Xaw ?_
 refine Xaa ?_
 iterate 3 refine kO hT hC ?_
 refine Vc.nil ?_
 refine kS h ?_ ?_ <;> intro b6 h
 refine kt b6 ?_
 refine Xaf ?_
 refine Xag ?_
 refine Xaw ?_
 refine Xa2 ?_
 refine Xaa ?_
 iterate 2 refine kO hT hC ?_
 refine kQ hT hC h fun h => ?_
 iterate 4 refine kO hT hC ?_
 refine kC hC [] Tryz.call149 h (fun _ => Xbb) fun q7 h => ?_
 refine kO hT hC ?_
 refine Vc.nil ?_
 refine kS h ?_ ?_ <;> intro b7 h
 refine kt b7 ?_
 refine Xaa ?_
 refine kO hT hC ?_
 refine Vc.nil ?_
 refine Xae ?_
 refine Xdg ?_
 refine Xak ?_
 obtain rfl := kj h
 refine Xje ?_
 refine Xjd ?_
 exact Xc6 (Xf3.refl _) rfl trivial
 refine kf b7 ?_
 refine Xaf ?_
 refine Xbc ?_
 refine Xag ?_
 refine Xac ?_
 iterate 3 refine kO hT hC ?_
 refine Vc.nil ?_
 exact kG
 refine kf b6 ?_
 refine Xba ?_
 refine Xbt ?_
 exact kb
 intro v6 e
 subst e
 refine Xag ?_
 refine Xaa ?_
 refine kO hT hC ?_
 refine Vc.nil ?_
 refine Xae ?_
 exact kR
 intro r' σ' e hE
 subst e
 obtain rfl := kj h
 refine Xak ?_
 exact hE
def Xpo (r : Bool) : AV := .sv (.bool r)
def Xpn (r : Bool) : Xa8 := []
theorem Xrq {p0 r} (h : Xdn p0 = some r) : AC Tryz.prog 259 [.agg [.sv (.int .i64 p0.Kind), .sv (.int .i64 p0.Mode), .sv (.int .i64 p0.Dx), .sv (.int .i64 p0.Dy), .sv (.ints .i64 p0.Levels)]] [] (Xpo r) (Xpn r) := by
 refine Xad hT Tryz.func259 rfl fun C hC => ?_
 unfold Xdn at h
 refine Xaa ?_
 iterate 2 refine kO hT hC ?_
 refine Vc.nil ?_
 refine Xaw ?_
 refine Xaa ?_
 iterate 2 refine kO hT hC ?_
 refine Vc.nil ?_
 refine Xa2 ?_
 refine Xaa ?_
 iterate 2 refine kO hT hC ?_
 refine Vc.nil ?_
 refine kS h ?_ ?_ <;> intro b1 h
 refine kt b1 ?_
 refine kL [1,2] [16] [_,_] [_] ?_
 refine kA h (fun v1 => ([(2, .sv (.bool v1)), (1, .any)], [(16, none)])) (fun v1 h => ?_) fun v1 h => ?_
 refine Xac ?_
 iterate 4 refine kO hT hC ?_
 refine kS h ?_ ?_ <;> intro b2 h
 iterate 3 refine kI hT hC b2 ?_
 refine kP hC true b2 ?_
 refine kO hT hC ?_
 refine kS h ?_ ?_ <;> intro b3 h
 iterate 3 refine kI hT hC b3 ?_
 refine kP hC true b3 ?_
 refine kO hT hC ?_
 refine kS h ?_ ?_ <;> intro b4 h
 iterate 4 refine kI hT hC b4 ?_
 refine kP hC true b4 ?_
 refine kO hT hC ?_
 refine Vc.nil ?_
 exact kM
 iterate 4 refine kF hC b4 ?_
 refine kP hC false b4 ?_
 refine kO hT hC ?_
 refine Vc.nil ?_
 exact kM
 iterate 3 refine kF hC b3 ?_
 refine kP hC false b3 ?_
 refine kO hT hC ?_
 iterate 4 refine kF hC rfl ?_
 iterate 2 refine kO hT hC ?_
 refine Vc.nil ?_
 exact kM
 iterate 3 refine kF hC b2 ?_
 refine kP hC false b2 ?_
 refine kO hT hC ?_
 iterate 3 refine kF hC rfl ?_
 iterate 2 refine kO hT hC ?_
 iterate 4 refine kF hC rfl ?_
 iterate 2 refine kO hT hC ?_
 refine Vc.nil ?_
 exact kM
 refine Xae ?_
 refine Xdg ?_
 refine Xak ?_
 exact kR
 refine kf b1 ?_
 refine Xaa ?_
 iterate 2 refine kO hT hC ?_
 refine Vc.nil ?_
 refine kS h ?_ ?_ <;> intro b5 h
 refine kt b5 ?_
 refine kL [1,2] [16] [_,_] [_] ?_
 refine kA h (fun v2 => ([(2, .sv (.bool v2)), (1, .any)], [(16, none)])) (fun v2 h => ?_) fun v2 h => ?_
 refine Xac ?_
 iterate 4 refine kO hT hC ?_
 refine kS h ?_ ?_ <;> intro b6 h
 iterate 2 refine kI hT hC b6 ?_
 refine kE hC b6 [] Tryz.call149 h (fun _ => Xbb) fun q3 h => ?_
 refine kP hC true b6 ?_
 refine kO hT hC ?_
 refine kS h ?_ ?_ <;> intro b7 h
 iterate 2 refine kI hT hC b7 ?_
 refine kE hC b7 [] Tryz.call149 h (fun _ => Xbb) fun q4 h => ?_
 refine kP hC true b7 ?_
 refine kO hT hC ?_
 refine kS h ?_ ?_ <;> intro b8 h
 iterate 2 refine kI hT hC b8 ?_
 refine kE hC b8 [] Tryz.call282 h (fun _ => Xl8) fun q5 h => ?_
 refine kP hC true b8 ?_
 refine kO hT hC ?_
 refine Vc.nil ?_
 exact kM
 iterate 3 refine kF hC b8 ?_
 refine kP hC false b8 ?_
 refine kO hT hC ?_
 refine Vc.nil ?_
 exact kM
 iterate 3 refine kF hC b7 ?_
 refine kP hC false b7 ?_
 refine kO hT hC ?_
 iterate 3 refine kF hC rfl ?_
 iterate 2 refine kO hT hC ?_
 refine Vc.nil ?_
 exact kM
 iterate 3 refine kF hC b6 ?_
 refine kP hC false b6 ?_
 refine kO hT hC ?_
 iterate 3 refine kF hC rfl ?_
 iterate 2 refine kO hT hC ?_
 iterate 3 refine kF hC rfl ?_
 iterate 2 refine kO hT hC ?_
 refine Vc.nil ?_
 exact kM
 refine Xae ?_
 refine Xdg ?_
 refine Xak ?_
 exact kR
 refine kf b5 ?_
 refine Xaa ?_
 iterate 2 refine kO hT hC ?_
 refine Vc.nil ?_
 refine kS h ?_ ?_ <;> intro b9 h
 refine kt b9 ?_
 refine kL [1,2] [16] [_,_] [_] ?_
 refine kA h (fun v6 => ([(2, .sv (.bool v6)), (1, .any)], [(16, none)])) (fun v6 h => ?_) fun v6 h => ?_
 refine Xac ?_
 iterate 2 refine kO hT hC ?_
 refine kC hC [] Tryz.call149 h (fun _ => Xbb) fun q7 h => ?_
 refine kO hT hC ?_
 refine kS h ?_ ?_ <;> intro b10 h
 iterate 3 refine kI hT hC b10 ?_
 refine kP hC true b10 ?_
 refine kO hT hC ?_
 refine kS h ?_ ?_ <;> intro b11 h
 iterate 3 refine kI hT hC b11 ?_
 refine kP hC true b11 ?_
 refine kO hT hC ?_
 refine kS h ?_ ?_ <;> intro b12 h
 iterate 2 refine kI hT hC b12 ?_
 refine kE hC b12 [] Tryz.call282 h (fun _ => Xl8) fun q8 h => ?_
 refine kP hC true b12 ?_
 refine kO hT hC ?_
 refine Vc.nil ?_
 exact kM
 iterate 3 refine kF hC b12 ?_
 refine kP hC false b12 ?_
 refine kO hT hC ?_
 refine Vc.nil ?_
 exact kM
 iterate 3 refine kF hC b11 ?_
 refine kP hC false b11 ?_
 refine kO hT hC ?_
 iterate 3 refine kF hC rfl ?_
 iterate 2 refine kO hT hC ?_
 refine Vc.nil ?_
 exact kM
 iterate 3 refine kF hC b10 ?_
 refine kP hC false b10 ?_
 refine kO hT hC ?_
 iterate 3 refine kF hC rfl ?_
 iterate 2 refine kO hT hC ?_
 iterate 3 refine kF hC rfl ?_
 iterate 2 refine kO hT hC ?_
 refine Vc.nil ?_
 exact kM
 refine Xae ?_
 refine Xdg ?_
 refine Xak ?_
 exact kR
 refine kf b9 ?_
 refine Xaf ?_
 refine Xbc ?_
 refine Xag ?_
 refine Xaa ?_
 refine kO hT hC ?_
 refine Vc.nil ?_
 refine Xae ?_
 exact kR
def Xks (r : Bool) : AV := .sv (.bool r)
def Xkr (r : Bool) : Xa8 := []
theorem Xl0 {p0 p1 r} (h : Xf5 p0 p1 = some r) : AC Tryz.prog 167 [.sv (.ints .i64 p0), .sv (.ints .i64 p1)] [] (Xks r) (Xkr r) := by
 refine Xad hT Tryz.func167 rfl fun C hC => ?_
 unfold Xf5 at h
 refine Xaa ?_
 refine kO hT hC ?_
 refine Vc.nil ?_
 refine Xaw ?_
 refine Xaa ?_
 iterate 5 refine kO hT hC ?_
 refine Vc.nil ?_
 refine kS h ?_ ?_ <;> intro b1 h
 refine kt b1 ?_
 refine Xaa ?_
 refine kO hT hC ?_
 refine Vc.nil ?_
 refine Xae ?_
 refine Xak ?_
 exact kR
 refine kf b1 ?_
 refine Xaf ?_
 refine Xag ?_
 refine Xaw ?_
 refine Xaa ?_
 refine kO hT hC ?_
 refine Vc.nil ?_
 refine kL [0,1,5] [] [_,_,_] [] ?_
 obtain ⟨o5, hl, h⟩ := Xbs h
 refine Xd4 (fun v2 => ([(5, .sv (.int .i64 v2))], [])) (fun v4 => ([(0, .any), (1, .any), (5, .any)], [])) (fun r => Xio C T Tryz.f167.results.toList (Xks r) (Xkr r)) hl ?_ ?_ ?_ ?_
 apply Xbx hC []
 exact co
 rfl
 decide
 rfl
 intro v2 s hs
 have h := hs
 unfold Xey at h
 refine Xaw ?_
 refine Xaa ?_
 iterate 4 refine kO hT hC ?_
 refine Vc.nil ?_
 refine kS h ?_ ?_ <;> intro b6 h
 refine kt b6 ?_
 refine Xaf ?_
 refine Xag ?_
 refine Xaw ?_
 refine Xa2 ?_
 refine Xec hm ?_
 iterate 2 refine kO hT hC ?_
 refine kQ hT hC h fun h => ?_
 iterate 3 refine kO hT hC ?_
 refine kQ hT hC h fun h => ?_
 iterate 2 refine kO hT hC ?_
 refine kD ?_
 refine kS h ?_ ?_ <;> intro b7 h
 refine kt b7 ?_
 refine Xaa ?_
 refine kO hT hC ?_
 refine Vc.nil ?_
 refine Xae ?_
 refine Xdg ?_
 refine Xak ?_
 obtain rfl := kj h
 refine Xje ?_
 refine Xjd ?_
 exact Xc6 (Xf3.refl _) rfl trivial
 refine kf b7 ?_
 refine Xaf ?_
 refine Xbc ?_
 refine Xag ?_
 refine Xac ?_
 iterate 3 refine kO hT hC ?_
 refine Vc.nil ?_
 exact kG
 refine kf b6 ?_
 refine Xba ?_
 refine Xbt ?_
 exact kb
 intro v4 e
 subst e
 refine Xag ?_
 refine Xaa ?_
 refine kO hT hC ?_
 refine Vc.nil ?_
 refine Xae ?_
 exact kR
 intro r' σ' e hE
 subst e
 obtain rfl := kj h
 refine Xak ?_
 exact hE
def Xvp (r : Bool) : AV := .sv (.bool r)
def Xvo (r : Bool) : Xa8 := []
theorem Xxo {p0 p1 r} (h : Xi7 p0 p1 = some r) : AC Tryz.prog 88 [.agg [.sv (.int .i64 p0.Level), .sv (.int .i64 p0.Bits), .sv (.ints .i64 p0.Cols), .sv (.ints .i64 p0.Rows)], .agg [.sv (.int .i64 p1.Level), .sv (.int .i64 p1.Bits), .sv (.ints .i64 p1.Cols), .sv (.ints .i64 p1.Rows)]] [] (Xvp r) (Xvo r) := by
 refine Xad hT Tryz.func88 rfl fun C hC => ?_
 unfold Xi7 at h
 refine Xaa ?_
 iterate 3 refine kO hT hC ?_
 refine Vc.nil ?_
 refine Xaw ?_
 refine Xaa ?_
 iterate 5 refine kO hT hC ?_
 refine Vc.nil ?_
 refine kS h ?_ ?_ <;> intro b1 h
 refine kt b1 ?_
 refine Xaa ?_
 refine kO hT hC ?_
 refine Vc.nil ?_
 refine Xae ?_
 refine Xak ?_
 exact kR
 refine kf b1 ?_
 refine Xaf ?_
 refine Xag ?_
 refine Xaw ?_
 refine Xaa ?_
 iterate 5 refine kO hT hC ?_
 refine Vc.nil ?_
 refine kS h ?_ ?_ <;> intro b2 h
 refine kt b2 ?_
 refine Xaa ?_
 refine kO hT hC ?_
 refine Vc.nil ?_
 refine Xae ?_
 refine Xak ?_
 exact kR
 refine kf b2 ?_
 refine Xaf ?_
 refine Xag ?_
 refine Xaw ?_
 refine Xaa ?_
 iterate 4 refine kO hT hC ?_
 refine kC hC [] Tryz.call167 h (fun _ => Xl0) fun q1 h => ?_
 refine kO hT hC ?_
 refine Vc.nil ?_
 refine kS h ?_ ?_ <;> intro b3 h
 refine kt b3 ?_
 refine Xaa ?_
 refine kO hT hC ?_
 refine Vc.nil ?_
 refine Xae ?_
 refine Xak ?_
 exact kR
 refine kf b3 ?_
 refine Xaf ?_
 refine Xag ?_
 refine Xaw ?_
 refine Xaa ?_
 iterate 4 refine kO hT hC ?_
 refine kC hC [] Tryz.call167 h (fun _ => Xl0) fun q2 h => ?_
 refine kO hT hC ?_
 refine Vc.nil ?_
 refine kS h ?_ ?_ <;> intro b4 h
 refine kt b4 ?_
 refine Xaa ?_
 refine kO hT hC ?_
 refine Vc.nil ?_
 refine Xae ?_
 refine Xak ?_
 exact kR
 refine kf b4 ?_
 refine Xaf ?_
 refine Xag ?_
 refine Xaa ?_
 refine kO hT hC ?_
 refine Vc.nil ?_
 refine Xae ?_
 exact kR
def Xvn (r : Bool) : AV := .sv (.bool r)
def Xvm (r : Bool) : Xa8 := []
theorem Xxn {p0 p1 r} (h : Xi6 p0 p1 = some r) : AC Tryz.prog 89 [.agg [.sv (.int .i64 p0.Qp), .sv (.bool p0.Large), .sv (.bool p0.Exact), .sv (.bool p0.Confined)], .agg [.sv (.int .i64 p1.Qp), .sv (.bool p1.Large), .sv (.bool p1.Exact), .sv (.bool p1.Confined)]] [] (Xvn r) (Xvm r) := by
 refine Xad hT Tryz.func89 rfl fun C hC => ?_
 unfold Xi6 at h
 refine Xaa ?_
 iterate 3 refine kO hT hC ?_
 refine Vc.nil ?_
 refine Xaw ?_
 refine Xaa ?_
 iterate 5 refine kO hT hC ?_
 refine Vc.nil ?_
 refine kS h ?_ ?_ <;> intro b1 h
 refine kt b1 ?_
 refine Xaa ?_
 refine kO hT hC ?_
 refine Vc.nil ?_
 refine Xae ?_
 refine Xak ?_
 exact kR
 refine kf b1 ?_
 refine Xaf ?_
 refine Xag ?_
 refine Xaw ?_
 refine Xaa ?_
 iterate 5 refine kO hT hC ?_
 refine Vc.nil ?_
 refine kS h ?_ ?_ <;> intro b2 h
 refine kt b2 ?_
 refine Xaa ?_
 refine kO hT hC ?_
 refine Vc.nil ?_
 refine Xae ?_
 refine Xak ?_
 exact kR
 refine kf b2 ?_
 refine Xaf ?_
 refine Xag ?_
 refine Xaw ?_
 refine Xaa ?_
 iterate 5 refine kO hT hC ?_
 refine Vc.nil ?_
 refine kS h ?_ ?_ <;> intro b3 h
 refine kt b3 ?_
 refine Xaa ?_
 refine kO hT hC ?_
 refine Vc.nil ?_
 refine Xae ?_
 refine Xak ?_
 exact kR
 refine kf b3 ?_
 refine Xaf ?_
 refine Xag ?_
 refine Xaw ?_
 refine Xaa ?_
 iterate 5 refine kO hT hC ?_
 refine Vc.nil ?_
 refine kS h ?_ ?_ <;> intro b4 h
 refine kt b4 ?_
 refine Xaa ?_
 refine kO hT hC ?_
 refine Vc.nil ?_
 refine Xae ?_
 refine Xak ?_
 exact kR
 refine kf b4 ?_
 refine Xaf ?_
 refine Xag ?_
 refine Xaa ?_
 refine kO hT hC ?_
 refine Vc.nil ?_
 refine Xae ?_
 exact kR
def Xh7 (r : Bool) : AV := .sv (.bool r)
def Xh6 (r : Bool) : Xa8 := []
theorem Xo6 {p0 p1 r} (h : Xez p0 p1 = some r) : AC Tryz.prog 26 [.sv (Xao.sv p0), .sv (Xao.sv p1)] [] (Xh7 r) (Xh6 r) := by
 refine Xad hT Tryz.func26 rfl fun C hC => ?_
 unfold Xez at h
 refine Xaa ?_
 refine kO hT hC ?_
 refine Vc.nil ?_
 refine Xaw ?_
 refine Xaa ?_
 iterate 5 refine kO hT hC ?_
 refine Vc.nil ?_
 refine kS h ?_ ?_ <;> intro b1 h
 refine kt b1 ?_
 refine Xaa ?_
 refine kO hT hC ?_
 refine Vc.nil ?_
 refine Xae ?_
 refine Xak ?_
 exact kR
 refine kf b1 ?_
 refine Xaf ?_
 refine Xag ?_
 refine Xaw ?_
 refine Xaa ?_
 refine kO hT hC ?_
 refine Vc.nil ?_
 refine kL [0,1,5] [] [_,_,_] [] ?_
 obtain ⟨o5, hl, h⟩ := Xbs h
 refine Xd4 (fun v2 => ([(5, .sv (.int .i64 v2))], [])) (fun v4 => ([(0, .any), (1, .any), (5, .any)], [])) (fun r => Xio C T Tryz.f26.results.toList (Xh7 r) (Xh6 r)) hl ?_ ?_ ?_ ?_
 apply Xbx hC []
 exact co
 rfl
 decide
 rfl
 intro v2 s hs
 have h := hs
 unfold Xc8 at h
 refine Xaw ?_
 refine Xaa ?_
 iterate 4 refine kO hT hC ?_
 refine Vc.nil ?_
 refine kS h ?_ ?_ <;> intro b6 h
 refine kt b6 ?_
 refine Xaf ?_
 refine Xag ?_
 refine Xaw ?_
 refine Xa2 ?_
 refine Xec hm ?_
 iterate 2 refine kO hT hC ?_
 refine kQ hT hC h fun h => ?_
 iterate 3 refine kO hT hC ?_
 refine kQ hT hC h fun h => ?_
 iterate 2 refine kO hT hC ?_
 refine kD ?_
 refine kS h ?_ ?_ <;> intro b7 h
 refine kt b7 ?_
 refine Xaa ?_
 refine kO hT hC ?_
 refine Vc.nil ?_
 refine Xae ?_
 refine Xdg ?_
 refine Xak ?_
 obtain rfl := kj h
 refine Xje ?_
 refine Xjd ?_
 exact Xc6 (Xf3.refl _) rfl trivial
 refine kf b7 ?_
 refine Xaf ?_
 refine Xbc ?_
 refine Xag ?_
 refine Xac ?_
 iterate 3 refine kO hT hC ?_
 refine Vc.nil ?_
 exact kG
 refine kf b6 ?_
 refine Xba ?_
 refine Xbt ?_
 exact kb
 intro v4 e
 subst e
 refine Xag ?_
 refine Xaa ?_
 refine kO hT hC ?_
 refine Vc.nil ?_
 refine Xae ?_
 exact kR
 intro r' σ' e hE
 subst e
 obtain rfl := kj h
 refine Xak ?_
 exact hE
def Xo8 (r : (Int × (List Int))) : AV := .sv (.int .i64 r.1)
def Xo7 (r : (Int × (List Int))) : Xa8 := [(0, .ints .i64 r.2)]
theorem Xj6 {p0 p1 r} (h : Xen p0 p1 = some r) : AC Tryz.prog 168 [.own 0, .sv (.int .i64 p1)] [(0, .ints .i64 p0)] (Xo8 r) (Xo7 r) := by
 refine Xad hT Tryz.func168 rfl fun C hC => ?_
 unfold Xen at h
 refine Xaa ?_
 refine kO hT hC ?_
 refine Vc.nil ?_
 refine Xaw ?_
 refine Xaa ?_
 refine kO hT hC ?_
 refine Vc.nil ?_
 refine kL [0,1,5] [0] [_,_,_] [_] ?_
 refine kX h (fun v2 => ([(1, .sv (.int .i64 v2.1)), (5, .sv (.int .i64 v2.2.1))], [(0, some (.ints .i64 v2.2.2))])) (fun v4 => ([(1, .sv (.int .i64 v4.1)), (0, .any), (5, .any)], [(0, some (.ints .i64 v4.2))])) (kW hC []) (fun v2 s h => ?_) fun v4 h => ?_
 unfold Xds at h
 refine Xaw ?_
 refine Xaa ?_
 iterate 4 refine kO hT hC ?_
 refine Vc.nil ?_
 refine kS h ?_ ?_ <;> intro b3 h
 refine kt b3 ?_
 refine Xaf ?_
 refine Xag ?_
 refine Xaw ?_
 refine Xa2 ?_
 refine Xaa ?_
 iterate 3 refine kO hT hC ?_
 iterate 2 refine kQ hT hC h fun h => ?_
 refine Vc.nil ?_
 refine Xac ?_
 iterate 3 refine kO hT hC ?_
 refine Vc.nil ?_
 refine Xbc ?_
 refine Xag ?_
 refine Xac ?_
 iterate 3 refine kO hT hC ?_
 refine Vc.nil ?_
 exact kG
 refine kf b3 ?_
 refine Xba ?_
 refine Xbt ?_
 exact ku
 refine Xag ?_
 refine Xaa ?_
 iterate 2 refine kO hT hC ?_
 refine Vc.nil ?_
 refine Xae ?_
 obtain rfl := kj h
 exact Xc6 (Xf3.refl _) rfl ⟨rfl, trivial⟩
def Xq7 (r : (Int × Seq)) : AV := .sv (.int .i64 r.1)
def Xq6 (r : (Int × Seq)) : Xa8 := [(2, .ints .i64 r.2.Cols), (3, .ints .i64 r.2.Rows)]
theorem Xti {p0 p1 r} (h : Xgu p0 p1 = some r) : AC Tryz.prog 92 [.agg [.sv (.int .i64 p0.Level), .sv (.int .i64 p0.Bits), .own 2, .own 3], .sv (.int .i64 p1)] [(2, .ints .i64 p0.Cols), (3, .ints .i64 p0.Rows)] (Xq7 r) (Xq6 r) := by
 refine Xad hT Tryz.func92 rfl fun C hC => ?_
 unfold Xgu at h
 refine Xaa ?_
 iterate 2 refine kO hT hC ?_
 refine kN ?_
 iterate 3 refine kO hT hC ?_
 refine kC hC [(0, 2)] Tryz.call168 h (fun _ => Xj6) fun q1 h => ?_
 refine kO hT hC ?_
 refine kN ?_
 iterate 3 refine kO hT hC ?_
 refine kC hC [(0, 3)] Tryz.call168 h (fun _ => Xj6) fun q2 h => ?_
 refine kO hT hC ?_
 refine kN ?_
 iterate 2 refine kO hT hC ?_
 refine Vc.nil ?_
 refine Xae ?_
 obtain rfl := kj h
 exact Xc6 (Xf3.refl _) rfl ⟨rfl, rfl, trivial⟩
def Xpa (r : ByteArray) : AV := .sv (.str r)
def Xo9 (r : ByteArray) : Xa8 := []
theorem Xq8 {p0 r} (h : Xdj p0 = some r) : AC Tryz.prog 93 [.sv (.int .i64 p0)] [] (Xpa r) (Xo9 r) := by
 refine Xad hT Tryz.func93 rfl fun C hC => ?_
 unfold Xdj at h
 refine Xaa ?_
 refine kO hT hC ?_
 refine Vc.nil ?_
 refine Xaw ?_
 refine Xaa ?_
 iterate 2 refine kO hT hC ?_
 refine Vc.nil ?_
 refine kS h ?_ ?_ <;> intro b1 h
 refine kt b1 ?_
 refine Xaa ?_
 refine kO hT hC ?_
 refine Vc.nil ?_
 refine Xae ?_
 refine Xak ?_
 exact kR
 refine kf b1 ?_
 refine Xaf ?_
 refine Xag ?_
 refine Xaa ?_
 refine kO hT hC ?_
 refine Vc.nil ?_
 refine Xaw ?_
 refine kL [0,3] [] [_,_] [] ?_
 refine kX h (fun v2 => ([(0, .sv (.int .i64 v2.1)), (3, .sv (.str v2.2))], [])) (fun v4 => ([(3, .sv (.str v4)), (0, .any)], [])) (kW hC []) (fun v2 s h => ?_) fun v4 h => ?_
 unfold Xe8 at h
 refine Xaw ?_
 refine Xaa ?_
 iterate 2 refine kO hT hC ?_
 refine Vc.nil ?_
 refine kS h ?_ ?_ <;> intro b4 h
 refine kt b4 ?_
 refine Xaf ?_
 refine Xag ?_
 refine Xa2 ?_
 refine Xaa ?_
 refine kO hT hC ?_
 refine kQ hT hC h fun h => ?_
 iterate 5 refine kO hT hC ?_
 refine kQ hT hC h fun h => ?_
 refine kO hT hC ?_
 refine Vc.nil ?_
 refine Xac ?_
 refine kO hT hC ?_
 refine kQ hT hC h fun h => ?_
 refine kO hT hC ?_
 refine Vc.nil ?_
 refine Xbc ?_
 exact kG
 refine kf b4 ?_
 refine Xba ?_
 refine Xbt ?_
 exact ku
 refine Xag ?_
 refine Xaa ?_
 refine kO hT hC ?_
 refine kQ hT hC h fun h => ?_
 refine kO hT hC ?_
 refine Vc.nil ?_
 refine Xae ?_
 exact kR
def Xlo (r : (Int × (List ByteArray))) : AV := .sv (.int .i64 r.1)
def Xln (r : (Int × (List ByteArray))) : Xa8 := [(0, .row Xao r.2)]
theorem Xmk {p0 p1 r} (h : Xdt p0 p1 = some r) : AC Tryz.prog 28 [.own 0, .sv (.int .i64 p1)] [(0, .row Xao p0)] (Xlo r) (Xln r) := by
 refine Xad hT Tryz.func28 rfl fun C hC => ?_
 unfold Xdt at h
 refine Xaa ?_
 refine kO hT hC ?_
 refine Vc.nil ?_
 refine Xaw ?_
 refine Xaa ?_
 refine kO hT hC ?_
 refine Vc.nil ?_
 refine kL [0,1,5] [0] [_,_,_] [_] ?_
 refine kX h (fun v3 => ([(1, .sv (.int .i64 v3.1)), (5, .sv (.int .i64 v3.2.1))], [(0, some (.row Xao v3.2.2))])) (fun v6 => ([(1, .sv (.int .i64 v6.1)), (0, .any), (5, .any)], [(0, some (.row Xao v6.2))])) (kW hC []) (fun v3 s h => ?_) fun v6 h => ?_
 unfold Xcl at h
 refine Xaw ?_
 refine Xaa ?_
 iterate 4 refine kO hT hC ?_
 refine Vc.nil ?_
 refine kS h ?_ ?_ <;> intro b3 h
 refine kt b3 ?_
 refine Xaf ?_
 refine Xag ?_
 refine Xaw ?_
 refine Xa2 ?_
 refine Xaa ?_
 iterate 3 refine kO hT hC ?_
 refine kC hC [] Tryz.call93 h (fun _ => Xq8) fun q7 h => ?_
 iterate 2 refine kQ hT hC h fun h => ?_
 refine Vc.nil ?_
 refine Xac ?_
 iterate 3 refine kO hT hC ?_
 refine Vc.nil ?_
 refine Xbc ?_
 refine Xag ?_
 refine Xac ?_
 iterate 3 refine kO hT hC ?_
 refine Vc.nil ?_
 exact kG
 refine kf b3 ?_
 refine Xba ?_
 refine Xbt ?_
 exact ku
 refine Xag ?_
 refine Xaa ?_
 iterate 2 refine kO hT hC ?_
 refine Vc.nil ?_
 refine Xae ?_
 obtain rfl := kj h
 exact Xc6 (Xf3.refl _) rfl ⟨rfl, trivial⟩
def Xja (r : Int) : AV := .sv (.int .i64 r)
def Xi9 (r : Int) : Xa8 := []
theorem Xj4 {p0 p1 r} (h : Xem p0 p1 = some r) : AC Tryz.prog 169 [.sv (.ints .i64 p0), .sv (.int .i64 p1)] [] (Xja r) (Xi9 r) := by
 refine Xad hT Tryz.func169 rfl fun C hC => ?_
 unfold Xem at h
 refine Xaa ?_
 refine kO hT hC ?_
 refine Vc.nil ?_
 refine Xaw ?_
 refine Xaa ?_
 refine kO hT hC ?_
 refine Vc.nil ?_
 refine kL [0,1,5] [] [_,_,_] [] ?_
 obtain ⟨o5, hl, h⟩ := Xbs h
 refine Xd4 (fun v2 => ([(1, .sv (.int .i64 v2.1)), (5, .sv (.int .i64 v2.2))], [])) (fun v4 => ([(1, .sv (.int .i64 v4)), (0, .any), (5, .any)], [])) (fun r => Xio C T Tryz.f169.results.toList (Xja r) (Xi9 r)) hl ?_ ?_ ?_ ?_
 try dsimp only
 apply Xbx hC []
 exact co
 rfl
 decide
 rfl
 intro v2 s hs
 have h := hs
 unfold Xdr at h
 refine Xaw ?_
 refine Xaa ?_
 iterate 4 refine kO hT hC ?_
 refine Vc.nil ?_
 refine kS h ?_ ?_ <;> intro b5 h
 refine kt b5 ?_
 refine Xaf ?_
 refine Xag ?_
 refine Xaw ?_
 refine Xa2 ?_
 refine Xaw ?_
 refine Xaa ?_
 iterate 2 refine kO hT hC ?_
 refine kQ hT hC h fun h => ?_
 iterate 3 refine kO hT hC ?_
 refine Vc.nil ?_
 refine kS h ?_ ?_ <;> intro b6 h
 refine kt b6 ?_
 refine Xaa ?_
 refine kO hT hC ?_
 refine Vc.nil ?_
 refine Xae ?_
 refine Xak ?_
 refine Xdg ?_
 refine Xak ?_
 obtain rfl := kj h
 refine Xje ?_
 refine Xjd ?_
 exact Xc6 (Xf3.refl _) rfl trivial
 refine kf b6 ?_
 refine Xaf ?_
 refine Xag ?_
 refine Xac ?_
 iterate 3 refine kO hT hC ?_
 refine Vc.nil ?_
 refine Xbc ?_
 refine Xag ?_
 refine Xac ?_
 iterate 3 refine kO hT hC ?_
 refine Vc.nil ?_
 exact kG
 refine kf b5 ?_
 refine Xba ?_
 refine Xbt ?_
 exact kb
 intro v4 e
 subst e
 refine Xag ?_
 refine Xaa ?_
 iterate 2 refine kO hT hC ?_
 refine Vc.nil ?_
 refine Xae ?_
 exact kR
 intro r' σ' e hE
 subst e
 obtain rfl := kj h
 refine Xak ?_
 exact hE
def Xq5 (r : Int) : AV := .sv (.int .i64 r)
def Xq4 (r : Int) : Xa8 := []
theorem Xtg {p0 p1 r} (h : Xgt p0 p1 = some r) : AC Tryz.prog 94 [.agg [.sv (.int .i64 p0.Level), .sv (.int .i64 p0.Bits), .sv (.ints .i64 p0.Cols), .sv (.ints .i64 p0.Rows)], .sv (.int .i64 p1)] [] (Xq5 r) (Xq4 r) := by
 refine Xad hT Tryz.func94 rfl fun C hC => ?_
 unfold Xgt at h
 refine Xaa ?_
 iterate 2 refine kO hT hC ?_
 refine kN ?_
 iterate 3 refine kO hT hC ?_
 refine kC hC [] Tryz.call169 h (fun _ => Xj4) fun q1 h => ?_
 refine kO hT hC ?_
 refine Vc.nil ?_
 refine Xaw ?_
 refine Xaa ?_
 iterate 2 refine kO hT hC ?_
 refine Vc.nil ?_
 refine kS h ?_ ?_ <;> intro b1 h
 refine kt b1 ?_
 refine Xaa ?_
 refine kO hT hC ?_
 refine Vc.nil ?_
 refine Xae ?_
 refine Xak ?_
 exact kR
 refine kf b1 ?_
 refine Xaf ?_
 refine Xag ?_
 refine Xaa ?_
 iterate 3 refine kO hT hC ?_
 refine kC hC [] Tryz.call169 h (fun _ => Xj4) fun q2 h => ?_
 refine kO hT hC ?_
 refine Vc.nil ?_
 refine Xaw ?_
 refine Xaa ?_
 iterate 2 refine kO hT hC ?_
 refine Vc.nil ?_
 refine kS h ?_ ?_ <;> intro b2 h
 refine kt b2 ?_
 refine Xaa ?_
 refine kO hT hC ?_
 refine Vc.nil ?_
 refine Xae ?_
 refine Xak ?_
 exact kR
 refine kf b2 ?_
 refine Xaf ?_
 refine Xag ?_
 refine Xaa ?_
 iterate 2 refine kO hT hC ?_
 refine Vc.nil ?_
 refine Xae ?_
 exact kR
def Xrc (r : Int) : AV := .sv (.int .i64 r)
def Xrb (r : Int) : Xa8 := []
theorem Xtk {p0 p1 r} (h : Xgv p0 p1 = some r) : AC Tryz.prog 31 [.agg [.sv (.bool p0.Has), .sv (.bool p0.Live), .sv (.int .i64 p0.Seq.Level), .sv (.int .i64 p0.Seq.Bits), .sv (.ints .i64 p0.Seq.Cols), .sv (.ints .i64 p0.Seq.Rows), .sv (.int .i64 p0.Par.Qp), .sv (.bool p0.Par.Large), .sv (.bool p0.Par.Exact), .sv (.bool p0.Par.Confined), .sv (.int .i64 p0.Frame), .sv (.int .i64 p0.Count), .sv (.int .i64 p0.Gone)], .sv (.int .i64 p1)] [] (Xrc r) (Xrb r) := by
 refine Xad hT Tryz.func31 rfl fun C hC => ?_
 unfold Xgv at h
 refine Xaa ?_
 iterate 2 refine kO hT hC ?_
 refine kN ?_
 iterate 3 refine kO hT hC ?_
 refine kC hC [] Tryz.call74 h (fun _ => Xxp) fun q1 h => ?_
 refine kO hT hC ?_
 refine Vc.nil ?_
 refine Xaw ?_
 refine Xaa ?_
 iterate 2 refine kO hT hC ?_
 refine Vc.nil ?_
 refine kS h ?_ ?_ <;> intro b1 h
 refine kt b1 ?_
 refine Xaa ?_
 refine kO hT hC ?_
 refine Vc.nil ?_
 refine Xae ?_
 refine Xak ?_
 exact kR
 refine kf b1 ?_
 refine Xaf ?_
 refine Xag ?_
 refine Xaa ?_
 iterate 2 refine kO hT hC ?_
 refine Vc.nil ?_
 refine Xae ?_
 exact kR
def Xia (r : Int) : AV := .sv (.int .i64 r)
def Xh9 (r : Int) : Xa8 := []
theorem Xpb {p0 p1 r} (h : Xe0 p0 p1 = some r) : AC Tryz.prog 32 [.sv (Xao.sv p0), .sv (.int .i64 p1)] [] (Xia r) (Xh9 r) := by
 refine Xad hT Tryz.func32 rfl fun C hC => ?_
 unfold Xe0 at h
 refine Xaa ?_
 refine kO hT hC ?_
 refine kN ?_
 iterate 5 refine kO hT hC ?_
 refine Vc.nil ?_
 refine Xaw ?_
 refine Xaa ?_
 iterate 2 refine kO hT hC ?_
 refine Vc.nil ?_
 refine kS h ?_ ?_ <;> intro b1 h
 refine kt b1 ?_
 refine Xaa ?_
 refine kO hT hC ?_
 refine Vc.nil ?_
 refine Xae ?_
 refine Xak ?_
 exact kR
 refine kf b1 ?_
 refine Xaf ?_
 refine Xag ?_
 refine Xaw ?_
 refine Xaa ?_
 refine kO hT hC ?_
 refine Vc.nil ?_
 refine kL [0,1,5] [] [_,_,_] [] ?_
 obtain ⟨o5, hl, h⟩ := Xbs h
 refine Xd4 (fun v2 => ([(1, .sv (.int .i64 v2.1)), (5, .sv (.int .i64 v2.2))], [])) (fun v4 => ([(1, .sv (.int .i64 v4)), (0, .any), (5, .any)], [])) (fun r => Xio C T Tryz.f32.results.toList (Xia r) (Xh9 r)) hl ?_ ?_ ?_ ?_
 try dsimp only
 apply Xbx hC []
 exact co
 rfl
 decide
 rfl
 intro v2 s hs
 have h := hs
 unfold Xb1 at h
 refine Xaw ?_
 refine Xaa ?_
 iterate 4 refine kO hT hC ?_
 refine Vc.nil ?_
 refine kS h ?_ ?_ <;> intro b6 h
 refine kt b6 ?_
 refine Xaf ?_
 refine Xag ?_
 refine Xaw ?_
 refine Xa2 ?_
 refine Xaa ?_
 iterate 3 refine kO hT hC ?_
 refine kQ hT hC h fun h => ?_
 iterate 4 refine kO hT hC ?_
 refine kN ?_
 iterate 2 refine kO hT hC ?_
 refine Vc.nil ?_
 refine kS h ?_ ?_ <;> intro b7 h
 refine kt b7 ?_
 refine Xaa ?_
 refine kO hT hC ?_
 refine Vc.nil ?_
 refine Xae ?_
 refine Xdg ?_
 refine Xak ?_
 obtain rfl := kj h
 refine Xje ?_
 refine Xjd ?_
 exact Xc6 (Xf3.refl _) rfl trivial
 refine kf b7 ?_
 refine Xaf ?_
 refine Xbc ?_
 refine Xag ?_
 refine Xac ?_
 iterate 3 refine kO hT hC ?_
 refine Vc.nil ?_
 exact kG
 refine kf b6 ?_
 refine Xba ?_
 refine Xbt ?_
 exact kb
 intro v4 e
 subst e
 refine Xag ?_
 refine Xaa ?_
 iterate 2 refine kO hT hC ?_
 refine Vc.nil ?_
 refine Xae ?_
 exact kR
 intro r' σ' e hE
 subst e
 obtain rfl := kj h
 refine Xak ?_
 exact hE
def Xre (r : Admit) : AV := .agg [.sv (.bool r.Has), .sv (.bool r.Live), .sv (.int .i64 r.Seq.Level), .sv (.int .i64 r.Seq.Bits), .own 16, .own 17, .sv (.int .i64 r.Par.Qp), .sv (.bool r.Par.Large), .sv (.bool r.Par.Exact), .sv (.bool r.Par.Confined), .sv (.int .i64 r.Frame), .sv (.int .i64 r.Count), .sv (.int .i64 r.Gone)]
def Xrd (r : Admit) : Xa8 := [(16, .ints .i64 r.Seq.Cols), (17, .ints .i64 r.Seq.Rows)]
theorem Xhr {p0 r} (h : Xd7 p0 = some r) : AC Tryz.prog 34 [.agg [.sv (.bool p0.Has), .sv (.bool p0.Live), .sv (.int .i64 p0.Seq.Level), .sv (.int .i64 p0.Seq.Bits), .sv (.ints .i64 p0.Seq.Cols), .sv (.ints .i64 p0.Seq.Rows), .sv (.int .i64 p0.Par.Qp), .sv (.bool p0.Par.Large), .sv (.bool p0.Par.Exact), .sv (.bool p0.Par.Confined), .sv (.int .i64 p0.Frame), .sv (.int .i64 p0.Count), .sv (.int .i64 p0.Gone)]] [] (Xre r) (Xrd r) := by
 refine Xad hT Tryz.func34 rfl fun C hC => ?_
 unfold Xd7 at h
 refine Xaa ?_
 iterate 2 refine kO hT hC ?_
 refine kN ?_
 refine kO hT hC ?_
 refine kN ?_
 iterate 4 refine kO hT hC ?_
 refine kN ?_
 iterate 4 refine kO hT hC ?_
 refine kN ?_
 iterate 2 refine kO hT hC ?_
 refine kC hC [(16, 192), (17, 193)] Tryz.call86 h (fun _ => Xnt) fun q1 h => ?_
 iterate 2 refine kO hT hC ?_
 refine kN ?_
 iterate 2 refine kO hT hC ?_
 refine kC hC [] Tryz.call36 h (fun _ => Xfu) fun q2 h => ?_
 iterate 2 refine kO hT hC ?_
 refine kN ?_
 iterate 4 refine kO hT hC ?_
 refine kN ?_
 iterate 4 refine kO hT hC ?_
 refine kN ?_
 iterate 4 refine kO hT hC ?_
 refine kN ?_
 iterate 2 refine kO hT hC ?_
 refine Vc.nil ?_
 refine Xae ?_
 obtain rfl := kj h
 exact Xc6 (τ := ⟨[(2, .ptr 2000000 0)], [(16, some (.ints .i64 q1.Cols)), (17, some (.ints .i64 q1.Rows)), (2000000, some (.box [.sv (.bool p0.Has), .sv (.bool p0.Live), .sv (.int .i64 q1.Level), .sv (.int .i64 q1.Bits), .own 16, .own 17, .sv (.int .i64 q2.Qp), .sv (.bool q2.Large), .sv (.bool q2.Exact), .sv (.bool q2.Confined), .sv (.int .i64 p0.Frame), .sv (.int .i64 p0.Count), .sv (.int .i64 p0.Gone)]))]⟩) (kW hC [(16, 192), (17, 193), (2000000, 32)]) rfl ⟨rfl, rfl, trivial⟩
def Xnv (r : (List ByteArray)) : AV := .own 16
def Xnu (r : (List ByteArray)) : Xa8 := [(16, .row Xao r)]
theorem Xf8 {p0 r} (h : Xc5 p0 = some r) : AC Tryz.prog 35 [.sv (Xao.sv p0)] [] (Xnv r) (Xnu r) := by
 refine Xad hT Tryz.func35 rfl fun C hC => ?_
 unfold Xc5 at h
 refine Xaa ?_
 refine kO hT hC ?_
 refine kN ?_
 iterate 2 refine kO hT hC ?_
 obtain ⟨hq, h⟩ := Xc1 h
 refine Yb4 hT hC rfl rfl rfl rfl ⟨hq.1, hq.2.1, hq.2.2, by decide⟩ ?_
 refine kO hT hC ?_
 refine Vc.nil ?_
 refine Xaw ?_
 refine Xaa ?_
 refine kO hT hC ?_
 refine Vc.nil ?_
 refine kL [0,3,4] [112] [_,_,_] [_] ?_
 refine kX h (fun v2 => ([(4, .sv (.int .i64 v2.1))], [(112, some (.row Xao v2.2))])) (fun v4 => ([(0, .any), (4, .any)], [(112, some (.row Xao v4))])) (kW hC []) (fun v2 s h => ?_) fun v4 h => ?_
 unfold Xc9 at h
 refine Xaw ?_
 refine Xaa ?_
 iterate 4 refine kO hT hC ?_
 refine Vc.nil ?_
 refine kS h ?_ ?_ <;> intro b3 h
 refine kt b3 ?_
 refine Xaf ?_
 refine Xag ?_
 refine Xaw ?_
 refine Xa2 ?_
 refine Xac ?_
 iterate 4 refine kO hT hC ?_
 refine kQ hT hC h fun h => ?_
 refine kO hT hC ?_
 iterate 2 refine kQ hT hC h fun h => ?_
 refine Vc.nil ?_
 refine Xbc ?_
 refine Xag ?_
 refine Xac ?_
 iterate 3 refine kO hT hC ?_
 refine Vc.nil ?_
 exact kG
 refine kf b3 ?_
 refine Xba ?_
 refine Xbt ?_
 exact ku
 refine Xag ?_
 refine Xaa ?_
 iterate 2 refine kO hT hC ?_
 refine Vc.nil ?_
 refine Xae ?_
 obtain rfl := kj h
 exact Xc6 (τ := ⟨[(2, .own 16)], [(16, some (.row Xao v4))]⟩) (kW hC [(16, 112)]) rfl ⟨rfl, trivial⟩
def Xpw (r : Bool) : AV := .sv (.bool r)
def Xpv (r : Bool) : Xa8 := []
theorem Xkd {p0 r} (h : Xet p0 = some r) : AC Tryz.prog 170 [.sv (.int .i64 p0)] [] (Xpw r) (Xpv r) := by
 refine Xad hT Tryz.func170 rfl fun C hC => ?_
 unfold Xet at h
 refine Xaa ?_
 refine kO hT hC ?_
 refine kN ?_
 refine kO hT hC ?_
 refine kC hC [] Tryz.call149 h (fun _ => Xbb) fun q1 h => ?_
 refine kO hT hC ?_
 refine Vc.nil ?_
 refine Xae ?_
 exact kR
def Xri (r : Bool) : AV := .sv (.bool r)
def Xrh (r : Bool) : Xa8 := []
theorem Xt9 {p0 r} (h : Xfh p0 = some r) : AC Tryz.prog 95 [.agg [.sv (.bool p0.Has), .sv (.bool p0.Live), .sv (.int .i64 p0.Seq.Level), .sv (.int .i64 p0.Seq.Bits), .sv (.ints .i64 p0.Seq.Cols), .sv (.ints .i64 p0.Seq.Rows), .sv (.int .i64 p0.Par.Qp), .sv (.bool p0.Par.Large), .sv (.bool p0.Par.Exact), .sv (.bool p0.Par.Confined), .sv (.int .i64 p0.Frame), .sv (.int .i64 p0.Count), .sv (.int .i64 p0.Gone)]] [] (Xri r) (Xrh r) := by
 refine Xad hT Tryz.func95 rfl fun C hC => ?_
 unfold Xfh at h
 refine Xaa ?_
 iterate 2 refine kO hT hC ?_
 refine Vc.nil ?_
 refine Xaw ?_
 refine kL [1] [16] [_] [_] ?_
 refine kA h (fun v1 => ([(12, .sv (.bool v1))], [])) (fun v1 h => ?_) fun v1 h => ?_
 refine Xac ?_
 iterate 2 refine kO hT hC ?_
 refine kC hC [] Tryz.call170 h (fun _ => Xkd) fun q2 h => ?_
 iterate 2 refine kO hT hC ?_
 refine kS h ?_ ?_ <;> intro b1 h
 iterate 2 refine kI hT hC (kn b1) ?_
 refine kE hC (kn b1) [] Tryz.call170 h (fun _ => Xkd) fun q3 h => ?_
 refine kI hT hC (kn b1) ?_
 refine kP hC false (kn b1) ?_
 refine Vc.nil ?_
 exact kM
 iterate 4 refine kF hC (kn b1) ?_
 refine kP hC true (kn b1) ?_
 refine Vc.nil ?_
 exact kM
 refine kS h ?_ ?_ <;> intro b2 h
 refine kt b2 ?_
 refine Xaa ?_
 refine kO hT hC ?_
 refine Vc.nil ?_
 refine Xae ?_
 refine Xak ?_
 exact kR
 refine kf b2 ?_
 refine Xaf ?_
 refine Xag ?_
 refine Xaw ?_
 refine Xaa ?_
 iterate 3 refine kO hT hC ?_
 refine Vc.nil ?_
 refine kS h ?_ ?_ <;> intro b3 h
 refine kt b3 ?_
 refine kL [1] [16] [_] [_] ?_
 refine kA h (fun v4 => ([(2, .sv (.bool v4)), (1, .any)], [(16, none)])) (fun v4 h => ?_) fun v4 h => ?_
 refine Xac ?_
 iterate 4 refine kO hT hC ?_
 refine kS h ?_ ?_ <;> intro b4 h
 iterate 4 refine kF hC (kn b4) ?_
 refine kP hC false (kn b4) ?_
 refine kO hT hC ?_
 iterate 4 refine kF hC rfl ?_
 iterate 2 refine kO hT hC ?_
 iterate 5 refine kF hC rfl ?_
 iterate 2 refine kO hT hC ?_
 iterate 5 refine kF hC rfl ?_
 iterate 2 refine kO hT hC ?_
 iterate 4 refine kF hC rfl ?_
 iterate 2 refine kO hT hC ?_
 iterate 3 refine kF hC rfl ?_
 iterate 2 refine kO hT hC ?_
 refine Vc.nil ?_
 exact kM
 iterate 4 refine kI hT hC (kn b4) ?_
 refine kP hC true (kn b4) ?_
 refine kO hT hC ?_
 refine kS h ?_ ?_ <;> intro b5 h
 iterate 4 refine kI hT hC b5 ?_
 refine kP hC true b5 ?_
 refine kO hT hC ?_
 refine kS h ?_ ?_ <;> intro b6 h
 iterate 5 refine kI hT hC b6 ?_
 refine kP hC true b6 ?_
 refine kO hT hC ?_
 refine kS h ?_ ?_ <;> intro b7 h
 iterate 5 refine kI hT hC b7 ?_
 refine kP hC true b7 ?_
 refine kO hT hC ?_
 refine kS h ?_ ?_ <;> intro b8 h
 iterate 3 refine kI hT hC b8 ?_
 refine Yeg hC rfl rfl rfl rfl b8 rfl rfl rfl Yf1 rfl rfl ?_
 refine kP hC true b8 ?_
 refine kO hT hC ?_
 refine kS h ?_ ?_ <;> intro b9 h
 iterate 3 refine kI hT hC b9 ?_
 refine kP hC true b9 ?_
 refine kO hT hC ?_
 refine Vc.nil ?_
 exact kM
 iterate 3 refine kF hC b9 ?_
 refine kP hC false b9 ?_
 refine kO hT hC ?_
 refine Vc.nil ?_
 exact kM
 iterate 4 refine kF hC b8 ?_
 refine kP hC false b8 ?_
 refine kO hT hC ?_
 iterate 3 refine kF hC rfl ?_
 iterate 2 refine kO hT hC ?_
 refine Vc.nil ?_
 exact kM
 iterate 5 refine kF hC b7 ?_
 refine kP hC false b7 ?_
 refine kO hT hC ?_
 iterate 4 refine kF hC rfl ?_
 iterate 2 refine kO hT hC ?_
 iterate 3 refine kF hC rfl ?_
 iterate 2 refine kO hT hC ?_
 refine Vc.nil ?_
 exact kM
 iterate 5 refine kF hC b6 ?_
 refine kP hC false b6 ?_
 refine kO hT hC ?_
 iterate 5 refine kF hC rfl ?_
 iterate 2 refine kO hT hC ?_
 iterate 4 refine kF hC rfl ?_
 iterate 2 refine kO hT hC ?_
 iterate 3 refine kF hC rfl ?_
 iterate 2 refine kO hT hC ?_
 refine Vc.nil ?_
 exact kM
 iterate 4 refine kF hC b5 ?_
 refine kP hC false b5 ?_
 refine kO hT hC ?_
 iterate 5 refine kF hC rfl ?_
 iterate 2 refine kO hT hC ?_
 iterate 5 refine kF hC rfl ?_
 iterate 2 refine kO hT hC ?_
 iterate 4 refine kF hC rfl ?_
 iterate 2 refine kO hT hC ?_
 iterate 3 refine kF hC rfl ?_
 iterate 2 refine kO hT hC ?_
 refine Vc.nil ?_
 exact kM
 refine Xae ?_
 refine Xak ?_
 exact kR
 refine kf b3 ?_
 refine Xaf ?_
 refine Xag ?_
 refine kL [1] [16] [_] [_] ?_
 refine kA h (fun v5 => ([(2, .sv (.bool v5)), (1, .any)], [(16, none)])) (fun v5 h => ?_) fun v5 h => ?_
 refine Xac ?_
 iterate 2 refine kO hT hC ?_
 refine kC hC [] Tryz.call101 h (fun _ => Xfy) fun q6 h => ?_
 iterate 2 refine kO hT hC ?_
 refine kS h ?_ ?_ <;> intro b10 h
 iterate 2 refine kI hT hC b10 ?_
 refine kE hC b10 [] Tryz.call96 h (fun _ => Xeq) fun q7 h => ?_
 refine kP hC true b10 ?_
 refine kO hT hC ?_
 refine kS h ?_ ?_ <;> intro b11 h
 iterate 3 refine kI hT hC b11 ?_
 refine kP hC true b11 ?_
 refine kO hT hC ?_
 refine kS h ?_ ?_ <;> intro b12 h
 iterate 6 refine kI hT hC b12 ?_
 refine kJ hT hC b12 h fun h => ?_
 refine kI hT hC b12 ?_
 refine kP hC true b12 ?_
 refine kO hT hC ?_
 refine Vc.nil ?_
 exact kM
 iterate 8 refine kF hC b12 ?_
 refine kP hC false b12 ?_
 refine kO hT hC ?_
 refine Vc.nil ?_
 exact kM
 iterate 3 refine kF hC b11 ?_
 refine kP hC false b11 ?_
 refine kO hT hC ?_
 iterate 8 refine kF hC rfl ?_
 iterate 2 refine kO hT hC ?_
 refine Vc.nil ?_
 exact kM
 iterate 3 refine kF hC b10 ?_
 refine kP hC false b10 ?_
 refine kO hT hC ?_
 iterate 3 refine kF hC rfl ?_
 iterate 2 refine kO hT hC ?_
 iterate 8 refine kF hC rfl ?_
 iterate 2 refine kO hT hC ?_
 refine Vc.nil ?_
 exact kM
 refine Xae ?_
 exact kR
def Xpk (r : (ByteArray × Bool)) : AV := .tup [.sv (.str r.1), .sv (.bool r.2)]
def Xpj (r : (ByteArray × Bool)) : Xa8 := []
theorem Xrl {p0 r} (h : Xep p0 = some r) : AC Tryz.prog 226 [.sv (.str p0)] [] (Xpk r) (Xpj r) := by
 refine Xad hT Tryz.func226 rfl fun C hC => ?_
 unfold Xep at h
 refine Xaa ?_
 iterate 2 refine kO hT hC ?_
 refine Vc.nil ?_
 refine Xaw ?_
 refine kL [0] [] [_] [] ?_
 refine kA h (fun v1 => ([(22, .sv (.bool v1))], [])) (fun v1 h => ?_) fun v1 h => ?_
 refine Xac ?_
 iterate 4 refine kO hT hC ?_
 refine kS h ?_ ?_ <;> intro b1 h
 iterate 3 refine kF hC b1 ?_
 refine kP hC true b1 ?_
 refine kO hT hC ?_
 iterate 6 refine kF hC rfl ?_
 refine kO hT hC ?_
 refine Vc.nil ?_
 exact kM
 iterate 3 refine kI hT hC b1 ?_
 refine kP hC false b1 ?_
 refine kO hT hC ?_
 refine kS h ?_ ?_ <;> intro b2 h
 iterate 6 refine kF hC b2 ?_
 refine kP hC true b2 ?_
 refine Vc.nil ?_
 exact kM
 iterate 4 refine kI hT hC b2 ?_
 refine kJ hT hC b2 h fun h => ?_
 refine kI hT hC b2 ?_
 refine kP hC false b2 ?_
 refine Vc.nil ?_
 exact kM
 refine kS h ?_ ?_ <;> intro b3 h
 refine kt b3 ?_
 refine Xaa ?_
 iterate 2 refine kO hT hC ?_
 refine Vc.nil ?_
 refine Xae ?_
 refine Xak ?_
 exact kR
 refine kf b3 ?_
 refine Xaf ?_
 refine Xag ?_
 refine Xaa ?_
 iterate 2 refine kO hT hC ?_
 refine Vc.nil ?_
 refine Xaw ?_
 refine Xaa ?_
 refine kO hT hC ?_
 refine Vc.nil ?_
 refine kL [0,4,5] [368] [_,_,_] [_] ?_
 refine kX h (fun v4 => ([(5, .sv (.int .i64 v4.1))], [(368, some (.ints .u8 v4.2))])) (fun v7 => ([(0, .any), (5, .any)], [(368, some (.ints .u8 v7))])) (kW hC []) (fun v4 s h => ?_) fun v7 h => ?_
 unfold Xcv at h
 refine Xaw ?_
 refine Xaa ?_
 iterate 4 refine kO hT hC ?_
 refine Vc.nil ?_
 refine kS h ?_ ?_ <;> intro b6 h
 refine kt b6 ?_
 refine Xaf ?_
 refine Xag ?_
 refine Xaw ?_
 refine Xa2 ?_
 refine Xac ?_
 iterate 3 refine kO hT hC ?_
 refine kQ hT hC h fun h => ?_
 refine kO hT hC ?_
 refine kC hC [] Tryz.call160 h (fun _ => Xwe) fun q8 h => ?_
 refine kT hT hC h fun h => ?_
 refine kO hT hC ?_
 refine Vc.nil ?_
 refine Xbc ?_
 refine Xag ?_
 refine Xac ?_
 iterate 3 refine kO hT hC ?_
 refine Vc.nil ?_
 obtain rfl := kj h
 exact Ydw (kW hC [(368, 576)])
 refine kf b6 ?_
 refine Xba ?_
 refine Xbt ?_
 exact ku
 refine Xag ?_
 refine Xaa ?_
 iterate 3 refine kO hT hC ?_
 refine Vc.nil ?_
 refine Xaw ?_
 refine kL [4,6] [368] [_,_] [_] ?_
 refine kX h (fun v12 => ([(6, .sv (.int .i64 v12))], [])) (fun v15 => ([(6, .sv (.int .i64 v15))], [])) (kW hC []) (fun v12 s h => ?_) fun v15 h => ?_
 unfold Xcw at h
 refine Xaw ?_
 refine kL [4,6] [368] [_,_] [_] ?_
 refine kA h (fun v16 => ([(48, .sv (.bool v16))], [])) (fun v16 h => ?_) fun v16 h => ?_
 refine Xac ?_
 iterate 3 refine kO hT hC ?_
 refine kS h ?_ ?_ <;> intro b11 h
 iterate 3 refine kI hT hC b11 ?_
 iterate 2 refine kJ hT hC b11 h fun h => ?_
 refine kI hT hC b11 ?_
 refine kP hC true b11 ?_
 refine Vc.nil ?_
 exact kM
 iterate 6 refine kF hC b11 ?_
 refine kP hC false b11 ?_
 refine Vc.nil ?_
 exact kM
 refine kS h ?_ ?_ <;> intro b12 h
 refine kt b12 ?_
 refine Xaf ?_
 refine Xag ?_
 refine Xa2 ?_
 refine Xac ?_
 iterate 3 refine kO hT hC ?_
 refine Vc.nil ?_
 refine Xbc ?_
 exact kG
 refine kf b12 ?_
 refine Xba ?_
 refine Xbt ?_
 exact ku
 refine Xag ?_
 refine Xaw ?_
 refine Xaa ?_
 iterate 3 refine kO hT hC ?_
 refine Vc.nil ?_
 refine kS h ?_ ?_ <;> intro b13 h
 refine kt b13 ?_
 refine Xaa ?_
 iterate 2 refine kO hT hC ?_
 refine Vc.nil ?_
 refine Xae ?_
 refine Xak ?_
 exact kR
 refine kf b13 ?_
 refine Xaf ?_
 refine Xag ?_
 refine Xaa ?_
 iterate 3 refine kO hT hC ?_
 iterate 2 refine kQ hT hC h fun h => ?_
 iterate 2 refine kO hT hC ?_
 refine Vc.nil ?_
 refine Xae ?_
 exact kR
def Xun (r : (Int × ByteArray × Bool)) : AV := .tup [.sv (.int .i64 r.1), .sv (.str r.2.1), .sv (.bool r.2.2)]
def Xum (r : (Int × ByteArray × Bool)) : Xa8 := []
theorem Xwb {p0 r} (h : Xdo p0 = some r) : AC Tryz.prog 171 [.sv (.str p0)] [] (Xun r) (Xum r) := by
 refine Xad hT Tryz.func171 rfl fun C hC => ?_
 unfold Xdo at h
 refine Xaa ?_
 iterate 3 refine kO hT hC ?_
 refine Vc.nil ?_
 refine Xaw ?_
 refine kL [0] [] [_] [] ?_
 refine kA h (fun v1 => ([(16, .sv (.bool v1))], [])) (fun v1 h => ?_) fun v1 h => ?_
 refine Xac ?_
 iterate 4 refine kO hT hC ?_
 refine kS h ?_ ?_ <;> intro b1 h
 iterate 5 refine kF hC b1 ?_
 refine kP hC true b1 ?_
 refine Vc.nil ?_
 exact kM
 refine kI hT hC b1 ?_
 refine kJ hT hC b1 h fun h => ?_
 refine kI hT hC b1 ?_
 refine kE hC b1 [] Tryz.call163 h (fun _ => Xuq) fun q2 h => ?_
 refine kI hT hC b1 ?_
 refine kP hC false b1 ?_
 refine Vc.nil ?_
 exact kM
 refine kS h ?_ ?_ <;> intro b2 h
 refine kt b2 ?_
 refine Xaa ?_
 iterate 3 refine kO hT hC ?_
 refine Vc.nil ?_
 refine Xae ?_
 refine Xak ?_
 exact kR
 refine kf b2 ?_
 refine Xaf ?_
 refine Xag ?_
 refine Xaa ?_
 refine kO hT hC ?_
 refine kQ hT hC h fun h => ?_
 refine kC hC [] Tryz.call226 h (fun _ => Xrl) fun q3 h => ?_
 iterate 5 refine kO hT hC ?_
 refine Vc.nil ?_
 refine Xaw ?_
 refine Xaa ?_
 iterate 2 refine kO hT hC ?_
 refine Vc.nil ?_
 refine kS h ?_ ?_ <;> intro b3 h
 refine kt b3 ?_
 refine Xaa ?_
 iterate 3 refine kO hT hC ?_
 refine Vc.nil ?_
 refine Xae ?_
 refine Xak ?_
 exact kR
 refine kf b3 ?_
 refine Xaf ?_
 refine Xag ?_
 refine Xaa ?_
 refine kO hT hC ?_
 refine kQ hT hC h fun h => ?_
 iterate 5 refine kO hT hC ?_
 refine Vc.nil ?_
 refine Xae ?_
 exact kR
def Xkg (r : ((List ByteArray) × Bool)) : AV := .tup [.own 16, .sv (.bool r.2)]
def Xkf (r : ((List ByteArray) × Bool)) : Xa8 := [(16, .row Xao r.1)]
theorem Xuu {p0 r} (h : Xbo p0 = some r) : AC Tryz.prog 97 [.sv (Xao.sv p0)] [] (Xkg r) (Xkf r) := by
 refine Xad hT Tryz.func97 rfl fun C hC => ?_
 unfold Xbo at h
 refine Xaa ?_
 iterate 2 refine kO hT hC ?_
 refine kN ?_
 iterate 2 refine kO hT hC ?_
 refine kN ?_
 iterate 2 refine kO hT hC ?_
 refine Vc.nil ?_
 refine kL [0,4,5] [160,176] [_,_,_] [_,_] ?_
 refine kA h (fun v1 => ([], [(176, some (.ints .i64 v1))])) (fun v1 h => ?_) fun v1 h => ?_
 refine Xaa ?_
 iterate 3 refine kO hT hC ?_
 refine Vc.nil ?_
 refine kS h ?_ ?_ <;> intro b1 h
 refine kt b1 ?_
 refine Xac ?_
 iterate 2 refine kO hT hC ?_
 refine Vc.nil ?_
 obtain rfl := kj h
 exact Xp9 (kW hC [(176, 240)])
 refine kf b1 ?_
 refine Xaf ?_
 exact kM
 refine Xaw ?_
 refine Xaa ?_
 iterate 5 refine kO hT hC ?_
 refine Vc.nil ?_
 refine kS h ?_ ?_ <;> intro b2 h
 refine kt b2 ?_
 refine Xaa ?_
 iterate 3 refine kO hT hC ?_
 refine Vc.nil ?_
 refine Xae ?_
 refine Xak ?_
 obtain rfl := kj h
 exact Xc6 (τ := ⟨[(2, .own 16), (3, .sv (.bool false))], [(16, some (.row Xao ([] : List ByteArray)))]⟩) (kW hC [(16, 160)]) rfl ⟨rfl, trivial⟩
 refine kf b2 ?_
 refine Xaf ?_
 refine Xag ?_
 refine Xaw ?_
 refine Xaa ?_
 refine kO hT hC ?_
 refine Vc.nil ?_
 refine kL [0,4,5,6] [160,176] [_,_,_,_] [_,_] ?_
 obtain ⟨o12, hl, h⟩ := Xbs h
 refine Xd4 (fun v5 => ([(6, .sv (.int .i64 v5.1))], [(160, some (.row Xao v5.2))])) (fun v9 => ([(0, .any), (5, .any), (6, .any)], [(160, some (.row Xao v9)), (176, none)])) (fun r => Xio C T Tryz.f97.results.toList (Xkg r) (Xkf r)) hl ?_ ?_ ?_ ?_
 try dsimp only
 apply Xbx hC []
 exact co
 rfl
 decide
 rfl
 intro v5 s hs
 have h := hs
 unfold Xbe at h
 refine Xaw ?_
 refine Xaa ?_
 iterate 4 refine kO hT hC ?_
 refine Vc.nil ?_
 refine kS h ?_ ?_ <;> intro b9 h
 refine kt b9 ?_
 refine Xaf ?_
 refine Xag ?_
 refine Xaw ?_
 refine Xa2 ?_
 refine Xaa ?_
 iterate 2 refine kO hT hC ?_
 refine kQ hT hC h fun h => ?_
 refine kO hT hC ?_
 refine kC hC [] Tryz.call171 h (fun _ => Xwb) fun q10 h => ?_
 iterate 7 refine kO hT hC ?_
 refine Vc.nil ?_
 refine Xaw ?_
 refine kL [0,4,5,6,7,8,9] [160,176] [_,_,_,_,_,_,_] [_,_] ?_
 refine kA h (fun v11 => ([(46, .sv (.bool v11)), (7, .any), (9, .any)], [])) (fun v11 h => ?_) fun v11 h => ?_
 refine Xac ?_
 iterate 3 refine kO hT hC ?_
 refine kS h ?_ ?_ <;> intro b10 h
 iterate 3 refine kI hT hC (kn b10) ?_
 iterate 2 refine kJ hT hC (kn b10) h fun h => ?_
 refine kI hT hC (kn b10) ?_
 refine kP hC false (kn b10) ?_
 refine Vc.nil ?_
 exact kM
 iterate 6 refine kF hC (kn b10) ?_
 refine kP hC true (kn b10) ?_
 refine Vc.nil ?_
 exact kM
 refine kS h ?_ ?_ <;> intro b11 h
 refine kt b11 ?_
 refine Xaa ?_
 iterate 3 refine kO hT hC ?_
 refine Vc.nil ?_
 refine Xae ?_
 refine Xak ?_
 refine Xdg ?_
 refine Xak ?_
 obtain rfl := kj h
 refine Xje ?_
 refine Xjd ?_
 refine Xc6 (τ := ⟨[(2, .own 16), (3, .sv (.bool false))], [(16, some (.row Xao ([] : List ByteArray)))]⟩) ?_ rfl ⟨rfl, trivial⟩
 apply Xbx hC [(16, 752)]
 exact co
 rfl
 decide
 rfl
 refine kf b11 ?_
 refine Xaf ?_
 refine Xag ?_
 refine Xac ?_
 iterate 3 refine kO hT hC ?_
 obtain ⟨hq, h⟩ := Xc1 h
 refine Yb4 hT hC rfl rfl rfl rfl ⟨fun _ _ => rfl, by rw [Xhe]; exact hq⟩ ?_
 rw [Xhe]
 refine kO hT hC ?_
 refine Vc.nil ?_
 refine Xbc ?_
 refine Xag ?_
 refine Xac ?_
 iterate 3 refine kO hT hC ?_
 refine Vc.nil ?_
 obtain rfl := kj h
 exact Ydw (kW hC [(160, 816)])
 refine kf b9 ?_
 refine Xba ?_
 refine Xbt ?_
 exact kb
 intro v9 e
 subst e
 refine Xag ?_
 refine Xaa ?_
 iterate 3 refine kO hT hC ?_
 refine Vc.nil ?_
 refine Xae ?_
 obtain rfl := kj h
 exact Xc6 (τ := ⟨[(2, .own 16), (3, .sv (.bool true))], [(16, some (.row Xao v9))]⟩) (kW hC [(16, 160)]) rfl ⟨rfl, trivial⟩
 intro r' σ' e hE
 subst e
 obtain rfl := kj h
 refine Xak ?_
 exact hE
def Xr1 (r : Int) : AV := .sv (.int .i64 r)
def Xr0 (r : Int) : Xa8 := []
theorem Xk4 {p0 r} (h : Xef p0 = some r) : AC Tryz.prog 105 [.sv (.int .i64 p0)] [] (Xr1 r) (Xr0 r) := by
 refine Xad hT Tryz.func105 rfl fun C hC => ?_
 unfold Xef at h
 refine Xaa ?_
 refine kO hT hC ?_
 refine kN ?_
 iterate 2 refine kO hT hC ?_
 refine kC hC [] Tryz.call150 h (fun _ => Xub) fun q1 h => ?_
 refine kO hT hC ?_
 refine Vc.nil ?_
 refine Xae ?_
 exact kR
def Xr3 (r : Admit) : AV := .agg [.sv (.bool r.Has), .sv (.bool r.Live), .sv (.int .i64 r.Seq.Level), .sv (.int .i64 r.Seq.Bits), .sv (.ints .i64 r.Seq.Cols), .sv (.ints .i64 r.Seq.Rows), .sv (.int .i64 r.Par.Qp), .sv (.bool r.Par.Large), .sv (.bool r.Par.Exact), .sv (.bool r.Par.Confined), .sv (.int .i64 r.Frame), .sv (.int .i64 r.Count), .sv (.int .i64 r.Gone)]
def Xr2 (r : Admit) : Xa8 := []
theorem Xcp {p0 r} (h : Xb8 p0 = some r) : AC Tryz.prog 98 [.agg [.sv (.bool p0.Has), .sv (.bool p0.Live), .sv (.int .i64 p0.Seq.Level), .sv (.int .i64 p0.Seq.Bits), .sv (.ints .i64 p0.Seq.Cols), .sv (.ints .i64 p0.Seq.Rows), .sv (.int .i64 p0.Par.Qp), .sv (.bool p0.Par.Large), .sv (.bool p0.Par.Exact), .sv (.bool p0.Par.Confined), .sv (.int .i64 p0.Frame), .sv (.int .i64 p0.Count), .sv (.int .i64 p0.Gone)]] [] (Xr3 r) (Xr2 r) := by
 refine Xad hT Tryz.func98 rfl fun C hC => ?_
 unfold Xb8 at h
 refine Xaa ?_
 iterate 2 refine kO hT hC ?_
 refine kN ?_
 iterate 2 refine kO hT hC ?_
 refine kN ?_
 iterate 2 refine kO hT hC ?_
 refine kC hC [] Tryz.call105 h (fun _ => Xk4) fun q1 h => ?_
 iterate 2 refine kO hT hC ?_
 refine kN ?_
 iterate 2 refine kO hT hC ?_
 refine Vc.nil ?_
 refine Xae ?_
 exact kR
def Xrv (r : (Int × Int × Bool)) : AV := .tup [.sv (.int .i64 r.1), .sv (.int .i64 r.2.1), .sv (.bool r.2.2)]
def Xru (r : (Int × Int × Bool)) : Xa8 := []
theorem Xf0 {p0 p1 p2 r} (h : Xbn p0 p1 p2 = some r) : AC Tryz.prog 173 [.sv (.str p0), .sv (.int .i64 p1), .sv (.int .i64 p2)] [] (Xrv r) (Xru r) := by
 refine Xad hT Tryz.func173 rfl fun C hC => ?_
 unfold Xbn at h
 refine Xaa ?_
 iterate 3 refine kO hT hC ?_
 refine Vc.nil ?_
 refine Xaw ?_
 refine Xaa ?_
 iterate 6 refine kO hT hC ?_
 refine Vc.nil ?_
 refine kS h ?_ ?_ <;> intro b1 h
 refine kt b1 ?_
 refine Xaa ?_
 iterate 3 refine kO hT hC ?_
 refine Vc.nil ?_
 refine Xae ?_
 refine Xak ?_
 exact kR
 refine kf b1 ?_
 refine Xaf ?_
 refine Xag ?_
 refine Xaa ?_
 refine kO hT hC ?_
 refine Vc.nil ?_
 refine Xaw ?_
 refine Xaa ?_
 iterate 2 refine kO hT hC ?_
 refine Vc.nil ?_
 refine kL [0,1,2,9,10] [] [_,_,_,_,_] [] ?_
 refine kX h (fun v2 => ([(9, .sv (.int .i64 v2.1)), (10, .sv (.int .i64 v2.2))], [])) (fun v4 => ([(9, .sv (.int .i64 v4)), (0, .any), (10, .any)], [])) (kW hC []) (fun v2 s h => ?_) fun v4 h => ?_
 unfold Xed at h
 refine Xaw ?_
 refine Xaa ?_
 iterate 5 refine kO hT hC ?_
 refine Vc.nil ?_
 refine kS h ?_ ?_ <;> intro b4 h
 refine kt b4 ?_
 refine Xaf ?_
 refine Xag ?_
 refine Xaw ?_
 refine Xa2 ?_
 refine Xac ?_
 iterate 4 refine kO hT hC ?_
 refine kQ hT hC h fun h => ?_
 iterate 4 refine kO hT hC ?_
 refine Vc.nil ?_
 refine Xbc ?_
 refine Xag ?_
 refine Xac ?_
 iterate 3 refine kO hT hC ?_
 refine Vc.nil ?_
 exact kG
 refine kf b4 ?_
 refine Xba ?_
 refine Xbt ?_
 exact ku
 refine Xag ?_
 refine Xaa ?_
 iterate 7 refine kO hT hC ?_
 refine Vc.nil ?_
 refine Xae ?_
 exact kR
end
end Go.Proofs.YtnhflbeahbcklabGreat.A
