/- Contracts of the functions that the law FnSquareFor reaches, part 0: each comes to what its pure function tells. Written by a program of this session. Conditions: as each statement tells. -/
import Derived.Test.YtlebkepfhdjnmacBFnSquareFor
namespace Go.Proofs.Ytlebkepfhdjnmac.A
open Go Go.Proofs Go.Proofs.YtlebkepfhdjnmacAL Go.RowKit
set_option linter.unusedVariables false
set_option linter.unusedSimpArgs false
set_option maxRecDepth 100000
set_option maxHeartbeats 8000000
noncomputable section
def Ya0 (r : Bool) : AV := .sv (.bool r)
def Yaz (r : Bool) : Xbb := []
theorem Yca {p0 r} (h : Xua p0 = some r) : AC Try.prog 8 [.sv (.ints .u8 p0)] [] (Ya0 r) (Yaz r) := by
 refine Xae hT Try.func8 rfl fun C hC => ?_
 unfold Xua at h
 refine Xad ?_
 refine kO hT hC ?_
 refine kN ?_
 iterate 4 refine kO hT hC ?_
 exact Vc.nil (Xai kR)
def Xv8 (r : Xa0) : AV := .ptr 16 0
def Xv7 (r : Xa0) : Xbb := [(16, .box [.sv (.ints .u8 r.b_), .sv (.int .i64 r.i_), .sv (.int .i64 r.h_)])]
theorem Xk4 {p0 r} (h : Xgl p0 = some r) : AC Try.prog 41 [.sv (.ints .u8 p0)] [] (Xv8 r) (Xv7 r) := by
 refine Xae hT Try.func41 rfl fun C hC => ?_
 unfold Xgl at h
 refine Xad ?_
 refine kO hT hC ?_
 refine kN ?_
 iterate 4 refine kO hT hC ?_
 refine Vc.nil (Xax (Xad ?_))
 refine kO hT hC ?_
 refine Vc.nil ?_
 refine kL [0,3,4] [] [_,_,_] [] ?_
 refine kX h (fun v3 => ([(3, .sv (.int .i64 v3.1)), (4, .sv (.int .i64 v3.2))], [])) (fun v6 => ([(3, .sv (.int .i64 v6)), (4, .any)], [])) (kW hC []) (fun v3 s h => ?_) fun v6 h => ?_
 unfold Xir at h
 refine Xax ?_
 refine kL [0,3,4] [] [_,_,_] [] ?_
 refine kA h (fun v7 => ([(15, .sv (.bool v7))], [])) (fun v7 h => ?_) fun v7 h => ?_
 refine Xac ?_
 iterate 5 refine kO hT hC ?_
 refine kS h ?_ ?_ <;> intro b5 h
 iterate 2 refine kI hT hC b5 ?_
 refine kP hC true b5 ?_
 exact Vc.nil kM
 iterate 2 refine kF hC b5 ?_
 refine kP hC false b5 ?_
 exact Vc.nil kM
 refine kS h ?_ ?_ <;> intro b6 h
 refine kt b6 (Xah (Xaf (Xax (Xap (Xac ?_)))))
 iterate 4 refine kO hT hC ?_
 refine kQ hT hC h fun h => ?_
 iterate 6 refine kO hT hC ?_
 refine Vc.nil (Xau (Xaf (Xac ?_)))
 iterate 3 refine kO hT hC ?_
 exact Vc.nil kG
 exact kf b6 (Xat (Xa7 ku))
 refine Xaf (Xad ?_)
 iterate 5 refine kO hT hC ?_
 refine Vc.nil (Xai ?_)
 obtain rfl := kj h
 exact Xgg (τ := ⟨[(2, .ptr 16 0)], [(16, some (.box [.sv (.ints .u8 p0), .sv (.int .i64 0), .sv (.int .i64 v6)]))]⟩) (kW hC [(16, 496)]) rfl ⟨rfl, trivial⟩
def Xtu (r : (Int × Xa0)) : AV := .sv (.int .i64 r.1)
def Xtt (r : (Int × Xa0)) : Xbb := [(0, .box [.sv (.ints .u8 r.2.b_), .sv (.int .i64 r.2.i_), .sv (.int .i64 r.2.h_)])]
theorem Xbw {p0 r} (h : Xbg p0 = some r) : AC Try.prog 45 [.ptr 0 0] [(0, .box [.sv (.ints .u8 p0.b_), .sv (.int .i64 p0.i_), .sv (.int .i64 p0.h_)])] (Xtu r) (Xtt r) := by
 refine Xae hT Try.func45 rfl fun C hC => ?_
 unfold Xbg at h
 refine Xad ?_
 refine kO hT hC ?_
 refine kN ?_
 iterate 10 refine kO hT hC ?_
 refine Vc.nil ?_
 refine Xgs hm ?_
 iterate 4 refine kO hT hC ?_
 refine kQ hT hC h fun h => ?_
 iterate 4 refine kO hT hC ?_
 refine kQ hT hC h fun h => ?_
 iterate 3 refine kO hT hC ?_
 refine kD ?_
 refine kL [0,3] [0] [_,_] [_] ?_
 refine kA h (fun v1 => ([(3, .sv (.int .i64 v1.1)), (0, .any)], [(0, some (.box [.sv (.ints .u8 p0.b_), .sv (.int .i64 v1.2), .sv (.int .i64 (Xaa .i64 ((Xaa .i64 (p0.h_ * 6364136223846793005)) + 1442695040888963407)))]))])) (fun v1 h => ?_) fun v1 h => ?_
 refine Xgs hm ?_
 iterate 10 refine kO hT hC ?_
 refine kD ?_
 refine kS h ?_ ?_ <;> intro b1 h
 refine kt b1 ?_
 refine Xgs hm ?_
 iterate 9 refine kO hT hC ?_
 refine kQ hT hC h fun h => ?_
 iterate 5 refine kO hT hC ?_
 refine kD (Xac ?_)
 iterate 9 refine kO hT hC ?_
 exact Vc.nil kM
 exact kf b1 (Xah kM)
 refine Xad ?_
 iterate 2 refine kO hT hC ?_
 refine Vc.nil (Xai ?_)
 obtain rfl := kj h
 exact Xgg (Xjn.refl _) rfl ⟨rfl, trivial⟩
def Xsd (r : (Int × Xa0)) : AV := .sv (.int .i64 r.1)
def Xsc (r : (Int × Xa0)) : Xbb := [(0, .box [.sv (.ints .u8 r.2.b_), .sv (.int .i64 r.2.i_), .sv (.int .i64 r.2.h_)])]
theorem Xa1 {p0 p1 r} (h : Xay p0 p1 = some r) : AC Try.prog 46 [.ptr 0 0, .sv (.int .i64 p1)] [(0, .box [.sv (.ints .u8 p0.b_), .sv (.int .i64 p0.i_), .sv (.int .i64 p0.h_)])] (Xsd r) (Xsc r) := by
 refine Xae hT Try.func46 rfl fun C hC => ?_
 unfold Xay at h
 refine Xad ?_
 refine kO hT hC ?_
 refine Vc.nil (Xax (Xad ?_))
 iterate 2 refine kO hT hC ?_
 refine Vc.nil ?_
 refine kS h ?_ ?_ <;> intro b1 h
 refine kt b1 (Xad ?_)
 refine kO hT hC ?_
 refine Vc.nil (Xai (Xbx ?_))
 obtain rfl := kj h
 exact Xgg (Xjn.refl _) rfl ⟨rfl, trivial⟩
 refine kf b1 (Xah (Xaf (Xax (Xad ?_))))
 iterate 2 refine kO hT hC ?_
 refine Vc.nil ?_
 refine kS h ?_ ?_ <;> intro b2 h
 refine kt b2 (Xad ?_)
 refine kO hT hC ?_
 refine kC hC [(0, 0)] Try.call45 h (fun _ => Xbw) fun q1 h => ?_
 refine kO hT hC ?_
 refine kQ hT hC h fun h => ?_
 refine kO hT hC ?_
 refine Vc.nil (Xai (Xbx ?_))
 obtain rfl := kj h
 exact Xgg (Xjn.refl _) rfl ⟨rfl, trivial⟩
 refine kf b2 (Xah (Xaf (Xad ?_)))
 refine kO hT hC ?_
 refine kC hC [(0, 0)] Try.call45 h (fun _ => Xbw) fun q2 h => ?_
 refine kO hT hC ?_
 refine kN ?_
 refine kO hT hC ?_
 refine kC hC [(0, 0)] Try.call45 h (fun _ => Xbw) fun q3 h => ?_
 refine kO hT hC ?_
 refine kN ?_
 refine kO hT hC ?_
 refine kC hC [(0, 0)] Try.call45 h (fun _ => Xbw) fun q4 h => ?_
 refine kO hT hC ?_
 refine kN ?_
 refine kO hT hC ?_
 refine kC hC [(0, 0)] Try.call45 h (fun _ => Xbw) fun q5 h => ?_
 refine kO hT hC ?_
 refine kN ?_
 iterate 11 refine kO hT hC ?_
 refine kQ hT hC h fun h => ?_
 refine kO hT hC ?_
 refine Vc.nil (Xai ?_)
 obtain rfl := kj h
 exact Xgg (Xjn.refl _) rfl ⟨rfl, trivial⟩
def Xty (r : (ByteArray × Xa0)) : AV := .sv (.str r.1)
def Xtx (r : (ByteArray × Xa0)) : Xbb := [(0, .box [.sv (.ints .u8 r.2.b_), .sv (.int .i64 r.2.i_), .sv (.int .i64 r.2.h_)])]
theorem Xv9 {p0 p1 r} (h : Xi1 p0 p1 = some r) : AC Try.prog 134 [.ptr 0 0, .sv (.int .i64 p1)] [(0, .box [.sv (.ints .u8 p0.b_), .sv (.int .i64 p0.i_), .sv (.int .i64 p0.h_)])] (Xty r) (Xtx r) := by
 refine Xae hT Try.func134 rfl fun C hC => ?_
 unfold Xi1 at h
 refine Xad ?_
 refine kO hT hC ?_
 refine kN ?_
 iterate 2 refine kO hT hC ?_
 refine kN ?_
 refine kO hT hC ?_
 refine kC hC [(0, 0)] Try.call45 h (fun _ => Xbw) fun q1 h => ?_
 refine kO hT hC ?_
 refine Vc.nil (Xax (Xad ?_))
 refine kO hT hC ?_
 refine Vc.nil ?_
 refine kL [0,1,5,6,7] [0,128] [_,_,_,_,_] [_,_] ?_
 refine kX h (fun v7 => ([(6, .sv (.int .i64 v7.1)), (7, .sv (.int .i64 v7.2.1))], [(0, some (.box [.sv (.ints .u8 v7.2.2.1), .sv (.int .i64 v7.2.2.2.1), .sv (.int .i64 v7.2.2.2.2.1)])), (128, some (.ints .u8 v7.2.2.2.2.2))])) (fun v13 => ([(0, .any), (1, .any), (6, .any), (7, .any)], [(0, some (.box [.sv (.ints .u8 v13.2.1), .sv (.int .i64 v13.2.2.1), .sv (.int .i64 v13.2.2.2)])), (128, some (.ints .u8 v13.1))])) (kW hC []) (fun v7 s h => ?_) fun v13 h => ?_
 unfold Xhm at h
 refine Xax (Xad ?_)
 iterate 3 refine kO hT hC ?_
 refine Vc.nil ?_
 refine kS h ?_ ?_ <;> intro b7 h
 refine kt b7 (Xah (Xaf (Xax (Xap ?_))))
 refine kL [0,1,5,6,7] [0,128] [_,_,_,_,_] [_,_] ?_
 refine kA h (fun v14 => ([(6, .sv (.int .i64 v14.1))], [(0, some (.box [.sv (.ints .u8 v14.2.1), .sv (.int .i64 v14.2.2.1), .sv (.int .i64 v14.2.2.2)]))])) (fun v14 h => ?_) fun v14 h => ?_
 refine Xad ?_
 refine kO hT hC ?_
 refine kC hC [(0, 0)] Try.call46 h (fun _ => Xa1) fun q15 h => ?_
 refine Vc.nil (Xap (Xad ?_))
 iterate 2 refine kO hT hC ?_
 refine Vc.nil ?_
 refine kS h ?_ ?_ <;> intro b8 h
 refine kt b8 (Xac ?_)
 refine kO hT hC ?_
 refine kC hC [(0, 0)] Try.call45 h (fun _ => Xbw) fun q16 h => ?_
 refine kO hT hC ?_
 exact Vc.nil (Xau kM)
 refine kf b8 (Xad ?_)
 iterate 2 refine kO hT hC ?_
 refine Vc.nil ?_
 refine kS h ?_ ?_ <;> intro b9 h
 refine kt b9 (Xac ?_)
 iterate 2 refine kO hT hC ?_
 refine kC hC [(0, 0)] Try.call46 h (fun _ => Xa1) fun q17 h => ?_
 iterate 4 refine kO hT hC ?_
 exact Vc.nil (Xau kM)
 exact kf b9 (Xah (Xau kM))
 refine Xac ?_
 iterate 4 refine kO hT hC ?_
 refine kT hT hC h fun h => ?_
 refine kO hT hC ?_
 refine Vc.nil (Xau (Xaf (Xac ?_)))
 iterate 3 refine kO hT hC ?_
 refine Vc.nil ?_
 obtain rfl := kj h
 exact Yec (kW hC [(128, 544)])
 exact kf b7 (Xat (Xa7 ku))
 refine Xaf (Xad ?_)
 iterate 3 refine kO hT hC ?_
 refine Vc.nil (Xai ?_)
 obtain rfl := kj h
 exact Xgg (Xjn.refl _) rfl ⟨rfl, trivial⟩
def Xsg (r : (Pic × Xa0)) : AV := .agg [.sv (.int .i64 r.1.Wide), .sv (.int .i64 r.1.High), .sv (.str r.1.Dots)]
def Xsf (r : (Pic × Xa0)) : Xbb := [(0, .box [.sv (.ints .u8 r.2.b_), .sv (.int .i64 r.2.i_), .sv (.int .i64 r.2.h_)])]
theorem Xtz {p0 p1 p2 r} (h : Xhn p0 p1 p2 = some r) : AC Try.prog 89 [.ptr 0 0, .sv (.int .i64 p1), .sv (.int .i64 p2)] [(0, .box [.sv (.ints .u8 p0.b_), .sv (.int .i64 p0.i_), .sv (.int .i64 p0.h_)])] (Xsg r) (Xsf r) := by
 refine Xae hT Try.func89 rfl fun C hC => ?_
 unfold Xhn at h
 refine Xad ?_
 refine kO hT hC ?_
 refine kN ?_
 iterate 6 refine kO hT hC ?_
 refine kC hC [(0, 0)] Try.call134 h (fun _ => Xv9) fun q1 h => ?_
 iterate 2 refine kO hT hC ?_
 refine Vc.nil (Xai ?_)
 obtain rfl := kj h
 exact Xgg (Xjn.refl _) rfl ⟨rfl, trivial⟩
def Xpn (r : (Pic × Xa0)) : AV := .agg [.sv (.int .i64 r.1.Wide), .sv (.int .i64 r.1.High), .sv (.str r.1.Dots)]
def Xpm (r : (Pic × Xa0)) : Xbb := [(0, .box [.sv (.ints .u8 r.2.b_), .sv (.int .i64 r.2.i_), .sv (.int .i64 r.2.h_)])]
theorem Xq4 {p0 r} (h : Xe3 p0 = some r) : AC Try.prog 42 [.ptr 0 0] [(0, .box [.sv (.ints .u8 p0.b_), .sv (.int .i64 p0.i_), .sv (.int .i64 p0.h_)])] (Xpn r) (Xpm r) := by
 refine Xae hT Try.func42 rfl fun C hC => ?_
 unfold Xe3 at h
 refine Xad ?_
 refine kO hT hC ?_
 refine kN ?_
 iterate 2 refine kO hT hC ?_
 refine kC hC [(0, 0)] Try.call46 h (fun _ => Xa1) fun q1 h => ?_
 iterate 3 refine kO hT hC ?_
 refine kC hC [(0, 0)] Try.call46 h (fun _ => Xa1) fun q2 h => ?_
 iterate 2 refine kO hT hC ?_
 refine kC hC [(0, 0)] Try.call89 h (fun _ => Xtz) fun q3 h => ?_
 refine kO hT hC ?_
 refine Vc.nil (Xai ?_)
 obtain rfl := kj h
 exact Xgg (Xjn.refl _) rfl ⟨rfl, trivial⟩
def Xtw (r : (Bool × Xa0)) : AV := .sv (.bool r.1)
def Xtv (r : (Bool × Xa0)) : Xbb := [(0, .box [.sv (.ints .u8 r.2.b_), .sv (.int .i64 r.2.i_), .sv (.int .i64 r.2.h_)])]
theorem Xj9 {p0 p1 r} (h : Xe2 p0 p1 = some r) : AC Try.prog 90 [.ptr 0 0, .sv (.int .i64 p1)] [(0, .box [.sv (.ints .u8 p0.b_), .sv (.int .i64 p0.i_), .sv (.int .i64 p0.h_)])] (Xtw r) (Xtv r) := by
 refine Xae hT Try.func90 rfl fun C hC => ?_
 unfold Xe2 at h
 refine Xad ?_
 refine kO hT hC ?_
 refine kN ?_
 iterate 2 refine kO hT hC ?_
 refine kC hC [(0, 0)] Try.call46 h (fun _ => Xa1) fun q1 h => ?_
 iterate 2 refine kO hT hC ?_
 refine Vc.nil (Xai ?_)
 obtain rfl := kj h
 exact Xgg (Xjn.refl _) rfl ⟨rfl, trivial⟩
def Xxs (r : Bool) : AV := .sv (.bool r)
def Xxr (r : Bool) : Xbb := []
theorem Xjl {p0 p1 p2 r} (h : Xal p0 p1 p2 = some r) : AC Try.prog 48 [.sv (.int .i64 p0), .sv (.int .i64 p1), .sv (.int .i64 p2)] [] (Xxs r) (Xxr r) := by
 refine Xae hT Try.func48 rfl fun C hC => ?_
 unfold Xal at h
 refine Xad ?_
 refine kO hT hC ?_
 refine Vc.nil ?_
 refine kL [0,1,2,6] [] [_,_,_,_] [] ?_
 refine kA h (fun v1 => ([(6, .sv (.bool v1)), (0, .any), (1, .any), (2, .any)], [])) (fun v1 h => ?_) fun v1 h => ?_
 refine Xac ?_
 iterate 4 refine kO hT hC ?_
 refine kS h ?_ ?_ <;> intro b1 h
 iterate 3 refine kI hT hC b1 ?_
 refine kP hC true b1 ?_
 refine kO hT hC ?_
 exact Vc.nil kM
 iterate 3 refine kF hC b1 ?_
 refine kP hC false b1 ?_
 refine kO hT hC ?_
 exact Vc.nil kM
 exact Xai kR
def Xxn (r : Bool) : AV := .sv (.bool r)
def Xxm (r : Bool) : Xbb := []
theorem Xq3 {p0 r} (h : Xed p0 = some r) : AC Try.prog 47 [.agg [.sv (.int .i64 p0.Wide), .sv (.int .i64 p0.High), .sv (.str p0.Dots)]] [] (Xxn r) (Xxm r) := by
 refine Xae hT Try.func47 rfl fun C hC => ?_
 unfold Xed at h
 refine Xad ?_
 iterate 2 refine kO hT hC ?_
 refine Vc.nil ?_
 refine kL [1,2] [16] [_,_] [_] ?_
 refine kA h (fun v1 => ([(2, .sv (.bool v1)), (1, .any)], [(16, none)])) (fun v1 h => ?_) fun v1 h => ?_
 refine Xac ?_
 iterate 2 refine kO hT hC ?_
 refine kC hC [] Try.call48 h (fun _ => Xjl) fun q2 h => ?_
 refine kO hT hC ?_
 refine kS h ?_ ?_ <;> intro b1 h
 iterate 2 refine kI hT hC b1 ?_
 refine kE hC b1 [] Try.call48 h (fun _ => Xjl) fun q3 h => ?_
 refine kP hC true b1 ?_
 refine kO hT hC ?_
 refine kS h ?_ ?_ <;> intro b2 h
 iterate 9 refine kI hT hC b2 ?_
 refine kP hC true b2 ?_
 refine kO hT hC ?_
 exact Vc.nil kM
 iterate 9 refine kF hC b2 ?_
 refine kP hC false b2 ?_
 refine kO hT hC ?_
 exact Vc.nil kM
 iterate 3 refine kF hC b1 ?_
 refine kP hC false b1 ?_
 refine kO hT hC ?_
 iterate 9 refine kF hC rfl ?_
 iterate 2 refine kO hT hC ?_
 exact Vc.nil kM
 exact Xai kR
def Xto (r : Int) : AV := .sv (.int .i64 r)
def Xtn (r : Int) : Xbb := []
theorem Xng {p0 p1 p2 r} (h : Xda p0 p1 p2 = some r) : AC Try.prog 91 [.sv (.int .i64 p0), .sv (.int .i64 p1), .sv (.int .i64 p2)] [] (Xto r) (Xtn r) := by
 refine Xae hT Try.func91 rfl fun C hC => ?_
 unfold Xda at h
 refine Xad ?_
 refine kO hT hC ?_
 refine Vc.nil (Xax ?_)
 refine kL [0,1,2] [] [_,_,_] [] ?_
 refine kA h (fun v1 => ([(14, .sv (.bool v1))], [])) (fun v1 h => ?_) fun v1 h => ?_
 refine Xac ?_
 iterate 4 refine kO hT hC ?_
 refine kS h ?_ ?_ <;> intro b1 h
 iterate 3 refine kF hC b1 ?_
 refine kP hC true b1 ?_
 exact Vc.nil kM
 iterate 3 refine kI hT hC b1 ?_
 refine kP hC false b1 ?_
 exact Vc.nil kM
 refine kS h ?_ ?_ <;> intro b2 h
 refine kt b2 (Xad ?_)
 iterate 2 refine kO hT hC ?_
 exact Vc.nil (Xai (Xbx kR))
 refine kf b2 (Xah (Xaf (Xax (Xad ?_))))
 iterate 3 refine kO hT hC ?_
 refine Vc.nil ?_
 refine kS h ?_ ?_ <;> intro b3 h
 refine kt b3 (Xad ?_)
 iterate 2 refine kO hT hC ?_
 exact Vc.nil (Xai (Xbx kR))
 refine kf b3 (Xah (Xaf (Xad ?_)))
 iterate 2 refine kO hT hC ?_
 exact Vc.nil (Xai kR)
def Xxk (r : Int) : AV := .sv (.int .i64 r)
def Xxj (r : Int) : Xbb := []
theorem Xqz {p0 p1 p2 r} (h : Xc0 p0 p1 p2 = some r) : AC Try.prog 49 [.agg [.sv (.int .i64 p0.Wide), .sv (.int .i64 p0.High), .sv (.str p0.Dots)], .sv (.int .i64 p1), .sv (.int .i64 p2)] [] (Xxk r) (Xxj r) := by
 refine Xae hT Try.func49 rfl fun C hC => ?_
 unfold Xc0 at h
 refine Xad ?_
 iterate 2 refine kO hT hC ?_
 refine Vc.nil (Xax (Xad ?_))
 refine kO hT hC ?_
 refine kC hC [] Try.call47 h (fun _ => Xq3) fun q1 h => ?_
 refine kO hT hC ?_
 refine Vc.nil ?_
 refine kS h ?_ ?_ <;> intro b1 h
 refine kt b1 (Xad ?_)
 refine kO hT hC ?_
 exact Vc.nil (Xai (Xbx kR))
 refine kf b1 (Xah (Xaf ?_))
 refine Xgs hm ?_
 iterate 6 refine kO hT hC ?_
 refine kC hC [] Try.call91 h (fun _ => Xng) fun q2 h => ?_
 iterate 7 refine kO hT hC ?_
 refine kC hC [] Try.call91 h (fun _ => Xng) fun q3 h => ?_
 refine kO hT hC ?_
 refine kQ hT hC h fun h => ?_
 iterate 2 refine kO hT hC ?_
 exact kD (Xai kR)
def Xt4 (r : (Pic × Xa0)) : AV := .agg [.sv (.int .i64 r.1.Wide), .sv (.int .i64 r.1.High), .sv (.str r.1.Dots)]
def Xt3 (r : (Pic × Xa0)) : Xbb := [(0, .box [.sv (.ints .u8 r.2.b_), .sv (.int .i64 r.2.i_), .sv (.int .i64 r.2.h_)])]
theorem Xwf {p0 p1 r} (h : Xi4 p0 p1 = some r) : AC Try.prog 43 [.ptr 0 0, .agg [.sv (.int .i64 p1.Wide), .sv (.int .i64 p1.High), .sv (.str p1.Dots)]] [(0, .box [.sv (.ints .u8 p0.b_), .sv (.int .i64 p0.i_), .sv (.int .i64 p0.h_)])] (Xt4 r) (Xt3 r) := by
 refine Xae hT Try.func43 rfl fun C hC => ?_
 unfold Xi4 at h
 refine Xad ?_
 iterate 2 refine kO hT hC ?_
 refine kN ?_
 refine kO hT hC ?_
 refine kC hC [(0, 0)] Try.call46 h (fun _ => Xa1) fun q1 h => ?_
 iterate 2 refine kO hT hC ?_
 refine kN ?_
 refine kO hT hC ?_
 refine kC hC [(0, 0)] Try.call46 h (fun _ => Xa1) fun q2 h => ?_
 iterate 2 refine kO hT hC ?_
 refine Vc.nil ?_
 refine kL [0,3,4,5,6] [0,48,64] [_,_,_,_,_] [_,_,_] ?_
 refine kA h (fun v3 => ([(5, .sv (.int .i64 v3.1)), (6, .sv (.int .i64 v3.2.1))], [(0, some (.box [.sv (.ints .u8 v3.2.2.1), .sv (.int .i64 v3.2.2.2.1), .sv (.int .i64 v3.2.2.2.2)]))])) (fun v3 h => ?_) fun v3 h => ?_
 refine Xad ?_
 refine kO hT hC ?_
 refine kC hC [(0, 0)] Try.call90 h (fun _ => Xj9) fun q4 h => ?_
 refine Vc.nil ?_
 refine kS h ?_ ?_ <;> intro b1 h
 refine kt b1 (Xad ?_)
 refine kO hT hC ?_
 refine Vc.nil (Xac ?_)
 refine kO hT hC ?_
 exact Vc.nil kM
 exact kf b1 (Xah kM)
 refine Xad ?_
 iterate 2 refine kO hT hC ?_
 refine Vc.nil (Xax (Xad ?_))
 refine kO hT hC ?_
 refine Vc.nil ?_
 refine kL [0,3,4,5,6,7,8] [0,48,64,288] [_,_,_,_,_,_,_] [_,_,_,_] ?_
 refine kX h (fun v7 => ([(8, .sv (.int .i64 v7.1))], [(288, some (.ints .u8 v7.2))])) (fun v10 => ([(5, .any), (6, .any), (8, .any)], [(288, some (.ints .u8 v10))])) (kW hC []) (fun v7 s h => ?_) fun v10 h => ?_
 unfold Xhq at h
 refine Xax (Xad ?_)
 iterate 5 refine kO hT hC ?_
 refine Vc.nil ?_
 refine kS h ?_ ?_ <;> intro b4 h
 refine kt b4 (Xah (Xaf (Xax (Xap ?_))))
 refine Xkw hm ?_
 iterate 5 refine kO hT hC ?_
 refine kQ hT hC h fun h => ?_
 iterate 5 refine kO hT hC ?_
 refine kQ hT hC h fun h => ?_
 iterate 2 refine kO hT hC ?_
 refine kC hC [] Try.call49 h (fun _ => Xqz) fun q11 h => ?_
 iterate 2 refine kO hT hC ?_
 refine kT hT hC h fun h => ?_
 refine kO hT hC ?_
 refine kD (Xau (Xaf (Xac ?_)))
 iterate 3 refine kO hT hC ?_
 refine Vc.nil ?_
 obtain rfl := kj h
 exact Yec (kW hC [(288, 688)])
 exact kf b4 (Xat (Xa7 ku))
 refine Xaf (Xax (Xad ?_))
 refine kO hT hC ?_
 refine Vc.nil ?_
 refine kL [0,3,4,7,9] [0,48,64,288] [_,_,_,_,_] [_,_,_,_] ?_
 refine kX h (fun v17 => ([(9, .sv (.int .i64 v17.1))], [(0, some (.box [.sv (.ints .u8 v17.2.1), .sv (.int .i64 v17.2.2.1), .sv (.int .i64 v17.2.2.2.1)])), (288, some (.ints .u8 v17.2.2.2.2))])) (fun v22 => ([(0, .any), (9, .any)], [(0, some (.box [.sv (.ints .u8 v22.2.1), .sv (.int .i64 v22.2.2.1), .sv (.int .i64 v22.2.2.2)])), (288, some (.ints .u8 v22.1))])) (kW hC []) (fun v17 s h => ?_) fun v22 h => ?_
 unfold Xhr at h
 refine Xax (Xad ?_)
 iterate 2 refine kO hT hC ?_
 refine kC hC [(0, 0)] Try.call46 h (fun _ => Xa1) fun q23 h => ?_
 refine kO hT hC ?_
 refine Vc.nil ?_
 refine kS h ?_ ?_ <;> intro b7 h
 refine kt b7 (Xah (Xaf (Xax (Xap (Xac ?_)))))
 iterate 4 refine kO hT hC ?_
 refine kC hC [(0, 0)] Try.call46 h (fun _ => Xa1) fun q24 h => ?_
 refine kO hT hC ?_
 refine kC hC [(0, 0)] Try.call45 h (fun _ => Xbw) fun q25 h => ?_
 refine kO hT hC ?_
 iterate 2 refine kQ hT hC h fun h => ?_
 refine Vc.nil (Xau (Xaf (Xac ?_)))
 iterate 3 refine kO hT hC ?_
 exact Vc.nil kG
 exact kf b7 (Xat (Xa7 ku))
 refine Xaf (Xad ?_)
 iterate 8 refine kO hT hC ?_
 refine Vc.nil (Xai ?_)
 obtain rfl := kj h
 exact Xgg (Xjn.refl _) rfl ⟨rfl, trivial⟩
def Xr9 (r : (Pic × Pic)) : AV := .tup [.agg [.sv (.int .i64 r.1.Wide), .sv (.int .i64 r.1.High), .sv (.str r.1.Dots)], .agg [.sv (.int .i64 r.2.Wide), .sv (.int .i64 r.2.High), .sv (.str r.2.Dots)]]
def Xr8 (r : (Pic × Pic)) : Xbb := []
theorem Xtr {p0 r} (h : Xhf p0 = some r) : AC Try.prog 9 [.sv (.ints .u8 p0)] [] (Xr9 r) (Xr8 r) := by
 refine Xae hT Try.func9 rfl fun C hC => ?_
 unfold Xhf at h
 refine Xad ?_
 iterate 2 refine kO hT hC ?_
 refine kN ?_
 refine kO hT hC ?_
 refine kC hC [(16, 112)] Try.call41 h (fun _ => Xk4) fun q1 h => ?_
 refine kO hT hC ?_
 refine kN ?_
 refine kO hT hC ?_
 refine kC hC [(0, 112)] Try.call42 h (fun _ => Xq4) fun q2 h => ?_
 iterate 2 refine kO hT hC ?_
 refine Vc.nil ?_
 refine Xgs hm ?_
 iterate 3 refine kO hT hC ?_
 refine kC hC [(0, 112)] Try.call43 h (fun _ => Xwf) fun q3 h => ?_
 iterate 2 refine kO hT hC ?_
 exact kD (Xai kR)
def Xn8 (r : (Par × Xa0)) : AV := .agg [.sv (.int .i64 r.1.Qp), .sv (.bool r.1.Large), .sv (.bool r.1.Exact), .sv (.bool r.1.Confined)]
def Xn7 (r : (Par × Xa0)) : Xbb := [(0, .box [.sv (.ints .u8 r.2.b_), .sv (.int .i64 r.2.i_), .sv (.int .i64 r.2.h_)])]
theorem Xpk {p0 r} (h : Xeb p0 = some r) : AC Try.prog 70 [.ptr 0 0] [(0, .box [.sv (.ints .u8 p0.b_), .sv (.int .i64 p0.i_), .sv (.int .i64 p0.h_)])] (Xn8 r) (Xn7 r) := by
 refine Xae hT Try.func70 rfl fun C hC => ?_
 unfold Xeb at h
 refine Xad ?_
 refine kO hT hC ?_
 refine kN ?_
 refine kO hT hC ?_
 refine kC hC [(0, 0)] Try.call46 h (fun _ => Xa1) fun q1 h => ?_
 refine kO hT hC ?_
 refine kC hC [(0, 0)] Try.call90 h (fun _ => Xj9) fun q2 h => ?_
 iterate 4 refine kO hT hC ?_
 refine Vc.nil ?_
 refine kL [0,2,3] [0,32,48] [_,_,_] [_,_,_] ?_
 refine kA h (fun v3 => ([(0, .any)], [(0, some (.box [.sv (.ints .u8 v3.2.2.1), .sv (.int .i64 v3.2.2.2.1), .sv (.int .i64 v3.2.2.2.2)])), (48, some (.box [.sv (.int .i64 q1.1), .sv (.bool v3.1), .sv (.bool v3.2.1), .sv (.bool (!q2.1))]))])) (fun v3 h => ?_) fun v3 h => ?_
 refine Xad ?_
 refine kO hT hC ?_
 refine kC hC [(0, 0)] Try.call46 h (fun _ => Xa1) fun q4 h => ?_
 refine Vc.nil (Xap (Xad ?_))
 iterate 2 refine kO hT hC ?_
 refine Vc.nil ?_
 refine kS h ?_ ?_ <;> intro b1 h
 refine kt b1 (Xac ?_)
 iterate 2 refine kO hT hC ?_
 exact Vc.nil (Xau kM)
 refine kf b1 (Xad ?_)
 iterate 2 refine kO hT hC ?_
 refine Vc.nil ?_
 refine kS h ?_ ?_ <;> intro b2 h
 refine kt b2 (Xac ?_)
 iterate 2 refine kO hT hC ?_
 exact Vc.nil (Xau kM)
 exact kf b2 (Xah (Xau kM))
 refine Xad ?_
 iterate 2 refine kO hT hC ?_
 refine Vc.nil (Xai ?_)
 obtain rfl := kj h
 exact Xgg (Xjn.refl _) rfl ⟨rfl, trivial⟩
def Xt2 (r : (Xjd × Xa0)) : AV := .agg [.sv (.bool r.1.Key), .sv (.int .i64 r.1.Qp), .sv (.bool r.1.Large), .sv (.bool r.1.Exact)]
def Xt1 (r : (Xjd × Xa0)) : Xbb := [(0, .box [.sv (.ints .u8 r.2.b_), .sv (.int .i64 r.2.i_), .sv (.int .i64 r.2.h_)])]
theorem Xwc {p0 r} (h : Xi2 p0 = some r) : AC Try.prog 44 [.ptr 0 0] [(0, .box [.sv (.ints .u8 p0.b_), .sv (.int .i64 p0.i_), .sv (.int .i64 p0.h_)])] (Xt2 r) (Xt1 r) := by
 refine Xae hT Try.func44 rfl fun C hC => ?_
 unfold Xi2 at h
 refine Xad ?_
 refine kO hT hC ?_
 refine kN ?_
 refine kO hT hC ?_
 refine kC hC [(0, 0)] Try.call70 h (fun _ => Xpk) fun q1 h => ?_
 iterate 2 refine kO hT hC ?_
 refine Vc.nil ?_
 refine Xgs hm ?_
 refine kO hT hC ?_
 refine kC hC [(0, 0)] Try.call90 h (fun _ => Xj9) fun q2 h => ?_
 iterate 8 refine kO hT hC ?_
 refine kD (Xai ?_)
 obtain rfl := kj h
 exact Xgg (Xjn.refl _) rfl ⟨rfl, trivial⟩
def Xr7 (r : Xjd) : AV := .agg [.sv (.bool r.Key), .sv (.int .i64 r.Qp), .sv (.bool r.Large), .sv (.bool r.Exact)]
def Xr6 (r : Xjd) : Xbb := []
theorem Xtp {p0 r} (h : Xhe p0 = some r) : AC Try.prog 10 [.sv (.ints .u8 p0)] [] (Xr7 r) (Xr6 r) := by
 refine Xae hT Try.func10 rfl fun C hC => ?_
 unfold Xhe at h
 refine Xad ?_
 refine kO hT hC ?_
 refine kN ?_
 refine kO hT hC ?_
 refine kC hC [(16, 64)] Try.call41 h (fun _ => Xk4) fun q1 h => ?_
 refine kC hC [(0, 64)] Try.call44 h (fun _ => Xwc) fun q2 h => ?_
 refine kO hT hC ?_
 exact Vc.nil (Xai kR)
def Xpi (r : (List Int)) : AV := .own 16
def Xph (r : (List Int)) : Xbb := [(16, .ints .i64 r)]
theorem Xq0 {p0 r} (h : Xex p0 = some r) : AC Try.prog 11 [.sv (.ints .u8 p0)] [] (Xpi r) (Xph r) := by
 refine Xae hT Try.func11 rfl fun C hC => ?_
 unfold Xex at h
 refine Xad ?_
 refine kO hT hC ?_
 refine kN ?_
 refine kO hT hC ?_
 refine kC hC [(16, 112)] Try.call41 h (fun _ => Xk4) fun q1 h => ?_
 refine kO hT hC ?_
 refine kN ?_
 refine kO hT hC ?_
 refine kC hC [(0, 112)] Try.call45 h (fun _ => Xbw) fun q2 h => ?_
 refine kN ?_
 iterate 2 refine kO hT hC ?_
 refine Vc.nil (Xax (Xad ?_))
 refine kO hT hC ?_
 refine Vc.nil ?_
 refine kL [3,4,5] [112,160] [_,_,_] [_,_] ?_
 refine kX h (fun v5 => ([(5, .sv (.int .i64 v5.1))], [(112, some (.box [.sv (.ints .u8 v5.2.1), .sv (.int .i64 v5.2.2.1), .sv (.int .i64 v5.2.2.2.1)])), (160, some (.ints .i64 v5.2.2.2.2))])) (fun v8 => ([(3, .any), (5, .any)], [(160, some (.ints .i64 v8)), (112, none)])) (kW hC []) (fun v5 s h => ?_) fun v8 h => ?_
 unfold Xeg at h
 refine Xax (Xad ?_)
 iterate 2 refine kO hT hC ?_
 refine Vc.nil ?_
 refine kS h ?_ ?_ <;> intro b3 h
 refine kt b3 (Xah (Xaf (Xax (Xap (Xac ?_)))))
 iterate 2 refine kO hT hC ?_
 refine kC hC [(0, 112)] Try.call46 h (fun _ => Xa1) fun q9 h => ?_
 refine kO hT hC ?_
 refine kT hT hC h fun h => ?_
 refine kO hT hC ?_
 refine Vc.nil (Xau (Xaf (Xac ?_)))
 iterate 3 refine kO hT hC ?_
 refine Vc.nil ?_
 obtain rfl := kj h
 exact Yec (kW hC [(160, 304)])
 exact kf b3 (Xat (Xa7 ku))
 refine Xaf (Xad ?_)
 iterate 2 refine kO hT hC ?_
 refine Vc.nil (Xai ?_)
 obtain rfl := kj h
 exact Xgg (τ := ⟨[(2, .own 16)], [(16, some (.ints .i64 v8))]⟩) (kW hC [(16, 160)]) rfl ⟨rfl, trivial⟩
def Xtm (r : (List Int)) : AV := .own 16
def Xtl (r : (List Int)) : Xbb := [(16, .ints .i64 r)]
theorem Xv3 {p0 p1 p2 r} (h : Xc9 p0 p1 p2 = some r) : AC Try.prog 12 [.agg [.sv (.int .i64 p0.Wide), .sv (.int .i64 p0.High), .sv (.str p0.Dots)], .sv (.int .i64 p1), .sv (.int .i64 p2)] [] (Xtm r) (Xtl r) := by
 refine Xae hT Try.func12 rfl fun C hC => ?_
 unfold Xc9 at h
 refine Xad ?_
 iterate 2 refine kO hT hC ?_
 refine kN ?_
 iterate 2 refine kO hT hC ?_
 refine Vc.nil (Xax ?_)
 refine kL [1,2,3,7] [48,144] [_,_,_,_] [_,_] ?_
 refine kA h (fun v1 => ([(22, .sv (.bool v1))], [])) (fun v1 h => ?_) fun v1 h => ?_
 refine Xac ?_
 refine kO hT hC ?_
 refine kC hC [] Try.call47 h (fun _ => Xq3) fun q2 h => ?_
 iterate 2 refine kO hT hC ?_
 refine kS h ?_ ?_ <;> intro b1 h
 refine kI hT hC (kn b1) ?_
 refine kE hC (kn b1) [] Try.call48 h (fun _ => Xjl) fun q3 h => ?_
 refine kI hT hC (kn b1) ?_
 refine kP hC false (kn b1) ?_
 refine kO hT hC ?_
 refine kS h ?_ ?_ <;> intro b2 h
 refine kI hT hC (kn b2) ?_
 refine kE hC (kn b2) [] Try.call48 h (fun _ => Xjl) fun q4 h => ?_
 refine kI hT hC (kn b2) ?_
 refine kP hC false (kn b2) ?_
 exact Vc.nil kM
 iterate 3 refine kF hC (kn b2) ?_
 refine kP hC true (kn b2) ?_
 exact Vc.nil kM
 iterate 3 refine kF hC (kn b1) ?_
 refine kP hC true (kn b1) ?_
 refine kO hT hC ?_
 iterate 3 refine kF hC rfl ?_
 refine kO hT hC ?_
 exact Vc.nil kM
 refine kS h ?_ ?_ <;> intro b3 h
 refine kt b3 (Xad ?_)
 iterate 2 refine kO hT hC ?_
 refine Vc.nil (Xai (Xbx ?_))
 obtain rfl := kj h
 exact Xgg (τ := ⟨[(6, .own 16)], [(16, some (.ints .i64 ([] : List Int)))]⟩) (kW hC [(16, 144)]) rfl ⟨rfl, trivial⟩
 refine kf b3 (Xah (Xaf (Xax (Xad ?_))))
 refine kO hT hC ?_
 refine Vc.nil ?_
 refine kL [1,2,3,7,8] [48,144] [_,_,_,_,_] [_,_] ?_
 refine kX h (fun v7 => ([(8, .sv (.int .i64 v7.1))], [(144, some (.ints .i64 v7.2))])) (fun v10 => ([(1, .any), (2, .any), (3, .any), (8, .any)], [(144, some (.ints .i64 v10)), (48, none)])) (kW hC []) (fun v7 s h => ?_) fun v10 h => ?_
 unfold Xew at h
 refine Xax (Xad ?_)
 iterate 2 refine kO hT hC ?_
 refine Vc.nil ?_
 refine kS h ?_ ?_ <;> intro b6 h
 refine kt b6 (Xah (Xaf (Xax (Xap (Xac ?_)))))
 iterate 4 refine kO hT hC ?_
 refine kQ hT hC h fun h => ?_
 iterate 3 refine kO hT hC ?_
 refine kQ hT hC h fun h => ?_
 refine kO hT hC ?_
 refine kC hC [] Try.call49 h (fun _ => Xqz) fun q11 h => ?_
 refine kO hT hC ?_
 refine kT hT hC h fun h => ?_
 refine kO hT hC ?_
 refine Vc.nil (Xau (Xaf (Xac ?_)))
 iterate 3 refine kO hT hC ?_
 refine Vc.nil ?_
 obtain rfl := kj h
 exact Yec (kW hC [(144, 640)])
 exact kf b6 (Xat (Xa7 ku))
 refine Xaf (Xad ?_)
 iterate 2 refine kO hT hC ?_
 refine Vc.nil (Xai ?_)
 obtain rfl := kj h
 exact Xgg (τ := ⟨[(6, .own 16)], [(16, some (.ints .i64 v10))]⟩) (kW hC [(16, 144)]) rfl ⟨rfl, trivial⟩
def Xvk (r : Bool) : AV := .sv (.bool r)
def Xvj (r : Bool) : Xbb := []
theorem Xaj {p0 p1 p2 r} (h : Xak p0 p1 p2 = some r) : AC Try.prog 53 [.sv (.int .i64 p0), .sv (.int .i64 p1), .sv (.int .i64 p2)] [] (Xvk r) (Xvj r) := by
 refine Xae hT Try.func53 rfl fun C hC => ?_
 unfold Xak at h
 refine Xad ?_
 refine kO hT hC ?_
 refine Vc.nil ?_
 refine kL [0,1,2,6] [] [_,_,_,_] [] ?_
 refine kA h (fun v1 => ([(6, .sv (.bool v1)), (0, .any), (1, .any), (2, .any)], [])) (fun v1 h => ?_) fun v1 h => ?_
 refine Xac ?_
 iterate 4 refine kO hT hC ?_
 refine kS h ?_ ?_ <;> intro b1 h
 iterate 3 refine kI hT hC b1 ?_
 refine kP hC true b1 ?_
 refine kO hT hC ?_
 exact Vc.nil kM
 iterate 3 refine kF hC b1 ?_
 refine kP hC false b1 ?_
 refine kO hT hC ?_
 exact Vc.nil kM
 exact Xai kR
def Xw3 (r : Bool) : AV := .sv (.bool r)
def Xw2 (r : Bool) : Xbb := []
theorem Xe8 {p0 r} (h : Xdl p0 = some r) : AC Try.prog 50 [.agg [.sv (.int .i64 p0.Wide), .sv (.int .i64 p0.High), .sv (.str p0.Dots)]] [] (Xw3 r) (Xw2 r) := by
 refine Xae hT Try.func50 rfl fun C hC => ?_
 unfold Xdl at h
 refine Xad ?_
 iterate 2 refine kO hT hC ?_
 refine Vc.nil ?_
 refine kL [1,2] [16] [_,_] [_] ?_
 refine kA h (fun v1 => ([(2, .sv (.bool v1)), (1, .any)], [(16, none)])) (fun v1 h => ?_) fun v1 h => ?_
 refine Xac ?_
 iterate 2 refine kO hT hC ?_
 refine kC hC [] Try.call53 h (fun _ => Xaj) fun q2 h => ?_
 refine kO hT hC ?_
 refine kS h ?_ ?_ <;> intro b1 h
 iterate 2 refine kI hT hC b1 ?_
 refine kE hC b1 [] Try.call53 h (fun _ => Xaj) fun q3 h => ?_
 refine kP hC true b1 ?_
 refine kO hT hC ?_
 refine kS h ?_ ?_ <;> intro b2 h
 iterate 9 refine kI hT hC b2 ?_
 refine kP hC true b2 ?_
 refine kO hT hC ?_
 exact Vc.nil kM
 iterate 9 refine kF hC b2 ?_
 refine kP hC false b2 ?_
 refine kO hT hC ?_
 exact Vc.nil kM
 iterate 3 refine kF hC b1 ?_
 refine kP hC false b1 ?_
 refine kO hT hC ?_
 iterate 9 refine kF hC rfl ?_
 iterate 2 refine kO hT hC ?_
 exact Vc.nil kM
 exact Xai kR
def Xm6 (r : Bool) : AV := .sv (.bool r)
def Xm5 (r : Bool) : Xbb := []
theorem Xdh {p0 p1 p2 r} (h : Xbc p0 p1 p2 = some r) : AC Try.prog 51 [.agg [.sv (.int .i64 p0.Wide), .sv (.int .i64 p0.High), .sv (.str p0.Dots)], .sv (.int .i64 p1), .sv (.int .i64 p2)] [] (Xm6 r) (Xm5 r) := by
 refine Xae hT Try.func51 rfl fun C hC => ?_
 unfold Xbc at h
 refine Xad ?_
 iterate 2 refine kO hT hC ?_
 refine Vc.nil ?_
 refine kL [1,2,3,6] [48] [_,_,_,_] [_] ?_
 refine kA h (fun v1 => ([(6, .sv (.bool v1)), (1, .any), (2, .any), (3, .any)], [(48, none)])) (fun v1 h => ?_) fun v1 h => ?_
 refine Xac ?_
 refine kO hT hC ?_
 refine kQ hT hC h fun h => ?_
 iterate 2 refine kO hT hC ?_
 refine kS h ?_ ?_ <;> intro b1 h
 refine kI hT hC b1 ?_
 refine kJ hT hC b1 h fun h => ?_
 refine kI hT hC b1 ?_
 refine kP hC true b1 ?_
 refine kO hT hC ?_
 refine kS h ?_ ?_ <;> intro b2 h
 iterate 4 refine kI hT hC b2 ?_
 refine kE hC b2 [] Try.call53 h (fun _ => Xaj) fun q2 h => ?_
 refine kP hC true b2 ?_
 refine kO hT hC ?_
 refine kS h ?_ ?_ <;> intro b3 h
 iterate 4 refine kI hT hC b3 ?_
 refine kE hC b3 [] Try.call53 h (fun _ => Xaj) fun q3 h => ?_
 refine kP hC true b3 ?_
 refine kO hT hC ?_
 exact Vc.nil kM
 iterate 5 refine kF hC b3 ?_
 refine kP hC false b3 ?_
 refine kO hT hC ?_
 exact Vc.nil kM
 iterate 5 refine kF hC b2 ?_
 refine kP hC false b2 ?_
 refine kO hT hC ?_
 iterate 5 refine kF hC rfl ?_
 iterate 2 refine kO hT hC ?_
 exact Vc.nil kM
 iterate 3 refine kF hC b1 ?_
 refine kP hC false b1 ?_
 refine kO hT hC ?_
 iterate 5 refine kF hC rfl ?_
 iterate 2 refine kO hT hC ?_
 iterate 5 refine kF hC rfl ?_
 iterate 2 refine kO hT hC ?_
 exact Vc.nil kM
 exact Xai kR
def Xoh (r : Bool) : AV := .sv (.bool r)
def Xog (r : Bool) : Xbb := []
theorem Xbd {p0 p1 p2 p3 r} (h : Xa4 p0 p1 p2 p3 = some r) : AC Try.prog 52 [.sv (.ints .i64 p0), .sv (.int .i64 p1), .sv (.int .i64 p2), .sv (.int .i64 p3)] [] (Xoh r) (Xog r) := by
 refine Xae hT Try.func52 rfl fun C hC => ?_
 unfold Xa4 at h
 refine Xad ?_
 refine kO hT hC ?_
 refine Vc.nil (Xax (Xad ?_))
 iterate 3 refine kO hT hC ?_
 refine Vc.nil ?_
 refine kL [0,1,2,3,11,12,13] [] [_,_,_,_,_,_,_] [] ?_
 obtain ⟨o8, hl, h⟩ := Xbr h
 refine Yck (fun v3 => ([(13, .sv (.int .i64 v3))], [])) (fun v6 => ([(2, .any), (3, .any), (11, .any), (12, .any), (13, .any)], [])) (fun r => Yeu C T Try.f52.results.toList (Xoh r) (Xog r)) hl ?_ ?_ ?_ ?_
 apply Xnp hC []
 exact co
 rfl
 decide
 rfl
 intro v3 s hs
 have h := hs
 unfold Xg4 at h
 refine Xad ?_
 refine kO hT hC ?_
 refine Vc.nil (Xax ?_)
 refine kS h ?_ ?_ <;> intro b5 h
 refine kt b5 (Xah (Xaf (Xax (Xap (Xad ?_)))))
 refine kQ hT hC h fun h => ?_
 iterate 2 refine kO hT hC ?_
 refine kN ?_
 iterate 3 refine kO hT hC ?_
 refine kC hC [] Try.call53 h (fun _ => Xaj) fun q7 h => ?_
 refine kO hT hC ?_
 refine Vc.nil ?_
 refine kS h ?_ ?_ <;> intro b6 h
 refine kt b6 (Xad ?_)
 refine kO hT hC ?_
 refine Vc.nil (Xai (Xwu (Xbx ?_)))
 obtain rfl := kj h
 refine Yiq (Yio ?_)
 exact Xgg (Xjn.refl _) rfl trivial
 refine kf b6 (Xah (Xau (Xaf (Xac ?_))))
 iterate 2 refine kO hT hC ?_
 exact Vc.nil kG
 exact kf b5 (Xat (Xa7 kb))
 intro v6 e
 subst e
 refine Xaf (Xad ?_)
 iterate 5 refine kO hT hC ?_
 exact Vc.nil (Xai kR)
 intro r' σ' e hE
 subst e
 obtain rfl := kj h
 refine Xbx ?_
 exact hE
def Xuv (r : Bool) : AV := .sv (.bool r)
def Xuu (r : Bool) : Xbb := []
theorem Xih {p0 r} (h : Xej p0 = some r) : AC Try.prog 27 [.agg [.sv (.bool p0.Key), .sv (.int .i64 p0.Qp), .sv (.bool p0.Large), .sv (.bool p0.Exact)]] [] (Xuv r) (Xuu r) := by
 refine Xae hT Try.func27 rfl fun C hC => ?_
 unfold Xej at h
 refine Xad ?_
 iterate 2 refine kO hT hC ?_
 refine Vc.nil ?_
 refine kL [1,2] [16] [_,_] [_] ?_
 refine kA h (fun v1 => ([(2, .sv (.bool v1)), (1, .any)], [(16, none)])) (fun v1 h => ?_) fun v1 h => ?_
 refine Xac ?_
 iterate 2 refine kO hT hC ?_
 refine kC hC [] Try.call53 h (fun _ => Xaj) fun q2 h => ?_
 refine kO hT hC ?_
 refine kS h ?_ ?_ <;> intro b1 h
 iterate 3 refine kI hT hC b1 ?_
 refine kS h ?_ ?_ <;> intro b2 h
 iterate 2 refine kI hT hC b2 ?_
 refine Xe5 hC rfl rfl rfl rfl b1 rfl rfl (b := true) b2 rfl rfl rfl trivial ?_
 refine kI hT hC b1 ?_
 refine kP hC true b1 ?_
 refine kO hT hC ?_
 exact Vc.nil kM
 iterate 2 refine kF hC b2 ?_
 refine Xe5 hC rfl rfl rfl rfl b1 rfl rfl (b := false) b2 rfl rfl rfl trivial ?_
 refine kI hT hC b1 ?_
 refine kP hC true b1 ?_
 refine kO hT hC ?_
 exact Vc.nil kM
 iterate 3 refine kF hC b1 ?_
 iterate 2 refine Xkf hC rfl rfl rfl rfl rfl rfl ?_
 iterate 2 refine kF hC b1 ?_
 refine kP hC false b1 ?_
 refine kO hT hC ?_
 exact Vc.nil kM
 exact Xai kR
def Xs0 (r : Int) : AV := .sv (.int .i64 r)
def Xsz (r : Int) : Xbb := []
theorem Xgx {p0 p1 p2 r} (h : Xc3 p0 p1 p2 = some r) : AC Try.prog 103 [.sv (.int .i64 p0), .sv (.int .i64 p1), .sv (.int .i64 p2)] [] (Xs0 r) (Xsz r) := by
 refine Xae hT Try.func103 rfl fun C hC => ?_
 unfold Xc3 at h
 refine Xad ?_
 refine kO hT hC ?_
 refine kN ?_
 iterate 6 refine kO hT hC ?_
 exact Vc.nil (Xai kR)
def Xs7 (r : Int) : AV := .sv (.int .i64 r)
def Xs6 (r : Int) : Xbb := []
theorem Xg1 {p0 p1 p2 r} (h : Xc7 p0 p1 p2 = some r) : AC Try.prog 92 [.agg [.sv (.int .i64 p0.Wide), .sv (.int .i64 p0.High), .sv (.str p0.Dots)], .sv (.int .i64 p1), .sv (.int .i64 p2)] [] (Xs7 r) (Xs6 r) := by
 refine Xae hT Try.func92 rfl fun C hC => ?_
 unfold Xc7 at h
 refine Xad ?_
 iterate 2 refine kO hT hC ?_
 refine Vc.nil ?_
 refine Xgs hm ?_
 iterate 6 refine kO hT hC ?_
 refine kC hC [] Try.call103 h (fun _ => Xgx) fun q1 h => ?_
 iterate 7 refine kO hT hC ?_
 refine kC hC [] Try.call103 h (fun _ => Xgx) fun q2 h => ?_
 refine kO hT hC ?_
 refine kQ hT hC h fun h => ?_
 iterate 2 refine kO hT hC ?_
 exact kD (Xai kR)
def Xs2 (r : (Xfm × Bool)) : AV := .tup [.agg [.own 16, .own 17, .sv (.int .i64 r.1.Corner)], .sv (.bool r.2)]
def Xs1 (r : (Xfm × Bool)) : Xbb := [(16, .ints .i64 r.1.Above), (17, .ints .i64 r.1.Left)]
theorem Xm2 {p0 p1 p2 r} (h : Xgn p0 p1 p2 = some r) : AC Try.prog 54 [.agg [.sv (.int .i64 p0.Wide), .sv (.int .i64 p0.High), .sv (.str p0.Dots)], .sv (.int .i64 p1), .sv (.int .i64 p2)] [] (Xs2 r) (Xs1 r) := by
 refine Xae hT Try.func54 rfl fun C hC => ?_
 unfold Xgn at h
 refine Xad ?_
 iterate 3 refine kO hT hC ?_
 refine Vc.nil (Xax ?_)
 refine kL [1,2,3,6] [48,96] [_,_,_,_] [_,_] ?_
 refine kA h (fun v1 => ([(19, .sv (.bool v1))], [])) (fun v1 h => ?_) fun v1 h => ?_
 refine Xac ?_
 refine kO hT hC ?_
 refine kC hC [] Try.call50 h (fun _ => Xe8) fun q2 h => ?_
 iterate 2 refine kO hT hC ?_
 refine kS h ?_ ?_ <;> intro b1 h
 iterate 3 refine kI hT hC (kn b1) ?_
 refine kE hC (kn b1) [] Try.call51 h (fun _ => Xdh) fun q3 h => ?_
 refine kI hT hC (kn b1) ?_
 refine kP hC false (kn b1) ?_
 exact Vc.nil kM
 iterate 5 refine kF hC (kn b1) ?_
 refine kP hC true (kn b1) ?_
 exact Vc.nil kM
 refine kS h ?_ ?_ <;> intro b2 h
 refine kt b2 (Xad ?_)
 iterate 3 refine kO hT hC ?_
 refine Vc.nil (Xai (Xbx ?_))
 obtain rfl := kj h
 refine Xgg (τ := ⟨[(6, .ptr 2000000 0), (7, .sv (.bool false))], [(16, some (.ints .i64 [])), (17, some (.ints .i64 [])), (2000000, some (.box [.own 16, .own 17, .sv (.int .i64 0)]))]⟩) ?_ rfl ⟨rfl, rfl, trivial⟩
 refine Xq6 hC 96 0 1105 (.ints .i64 []) rfl rfl rfl rfl rfl trivial ?_
 refine Xq6 hC 96 1 1106 (.ints .i64 []) rfl rfl rfl rfl rfl trivial ?_
 apply Xnp hC [(16, 1105), (17, 1106), (2000000, 96)]
 exact co
 rfl
 decide
 rfl
 refine kf b2 (Xah (Xaf (Xad ?_)))
 iterate 3 refine kO hT hC ?_
 refine Vc.nil (Xax (Xad ?_))
 refine kO hT hC ?_
 refine Vc.nil ?_
 refine kL [1,2,3,6,8,22] [48,96,128] [_,_,_,_,_,_] [_,_,_] ?_
 obtain ⟨v15, hl, h⟩ := Xbr h
 refine Yh5 (fun v9 => ([(22, .sv (.int .i64 v9.1))], [(128, some (.box [.own 1129, .own 1130, .sv (.int .i64 (-1))])), (1129, some (.ints .i64 v9.2.1)), (1130, some (.ints .i64 v9.2.2))])) (fun v15 => ([(22, .any)], [(128, some (.box [.own 1133, .own 1134, .sv (.int .i64 (-1))])), (1133, some (.ints .i64 v15.1)), (1134, some (.ints .i64 v15.2))])) hl ?_ ?_ ?_
 refine Xq6 hC 128 0 1135 (.ints .i64 []) rfl rfl rfl rfl rfl trivial ?_
 refine Xq6 hC 128 1 1136 (.ints .i64 []) rfl rfl rfl rfl rfl trivial ?_
 try dsimp only
 apply Xnp hC [(1129, 1135), (1130, 1136)]
 exact co
 rfl
 decide
 rfl
 intro v9 s hs
 have h := hs
 unfold Xgz at h
 refine Xad ?_
 refine kO hT hC ?_
 refine Vc.nil (Xax ?_)
 refine kS h ?_ ?_ <;> intro b9 h
 refine kt b9 (Xah (Xaf ?_))
 refine kL [1,2,3,6,8,22] [48,96,128,1129,1130] [_,_,_,_,_,_] [_,_,_,_,_] ?_
 refine kA h (fun v16 => ([], [(1129, some (.ints .i64 v16.1)), (1130, some (.ints .i64 v16.2))])) (fun v16 h => ?_) fun v16 h => ?_
 refine Xap (Xad ?_)
 iterate 2 refine kO hT hC ?_
 refine Vc.nil ?_
 refine kL [1,2,3,6,8,9,22] [48,96,128,1129,1130] [_,_,_,_,_,_,_] [_,_,_,_,_] ?_
 refine kA h (fun v17 => ([], [(1129, some (.ints .i64 v17))])) (fun v17 h => ?_) fun v17 h => ?_
 refine Xad ?_
 iterate 2 refine kO hT hC ?_
 refine Vc.nil ?_
 refine kS h ?_ ?_ <;> intro b10 h
 refine kt b10 ?_
 refine Xkw hm ?_
 iterate 8 refine kO hT hC ?_
 refine kC hC [] Try.call92 h (fun _ => Xg1) fun q18 h => ?_
 refine kO hT hC ?_
 refine kT hT hC h fun h => ?_
 iterate 2 refine kO hT hC ?_
 refine kD ?_
 obtain rfl := kj h
 exact Xne (kW hC [(1129, 592)])
 exact kf b10 (Xah kM)
 refine Xad ?_
 iterate 2 refine kO hT hC ?_
 refine Vc.nil ?_
 refine kS h ?_ ?_ <;> intro b11 h
 refine kt b11 ?_
 refine Xkw hm ?_
 iterate 8 refine kO hT hC ?_
 refine kC hC [] Try.call92 h (fun _ => Xg1) fun q19 h => ?_
 refine kO hT hC ?_
 refine kT hT hC h fun h => ?_
 iterate 2 refine kO hT hC ?_
 refine kD (Xau ?_)
 obtain rfl := kj h
 exact Xne (kW hC [(1130, 816)])
 exact kf b11 (Xah (Xau kM))
 refine Xac ?_
 iterate 2 refine kO hT hC ?_
 exact Vc.nil kG
 refine kf b9 (Xat (Xa7 ?_))
 obtain rfl := kj h
 exact Yfr (Yjj (kW hC [(1133, 1129), (1134, 1130)]))
 refine Xaf ?_
 refine kL [1,2,3,6,8] [48,96,128,1133,1134] [_,_,_,_,_] [_,_,_,_,_] ?_
 refine kA h (fun v21 => ([(1, .any), (2, .any), (3, .any)], [(128, some (.box [.own 1133, .own 1134, .sv (.int .i64 v21)])), (48, none)])) (fun v21 h => ?_) fun v21 h => ?_
 refine kL [1,2,3,6,8] [48,96,128,1133,1134] [_,_,_,_,_] [_,_,_,_,_] ?_
 refine kA h (fun v22 => ([(59, .sv (.bool v22))], [])) (fun v22 h => ?_) fun v22 h => ?_
 refine Xac ?_
 iterate 3 refine kO hT hC ?_
 refine kS h ?_ ?_ <;> intro b12 h
 iterate 2 refine kI hT hC b12 ?_
 refine kP hC true b12 ?_
 exact Vc.nil kM
 iterate 2 refine kF hC b12 ?_
 refine kP hC false b12 ?_
 exact Vc.nil kM
 refine kS h ?_ ?_ <;> intro b13 h
 refine kt b13 (Xac ?_)
 iterate 5 refine kO hT hC ?_
 refine kC hC [] Try.call92 h (fun _ => Xg1) fun q23 h => ?_
 iterate 2 refine kO hT hC ?_
 exact Vc.nil kM
 exact kf b13 (Xah kM)
 refine Xad ?_
 iterate 3 refine kO hT hC ?_
 refine Vc.nil (Xai ?_)
 obtain rfl := kj h
 exact Xgg (τ := ⟨[(6, .ptr 2000000 0), (7, .sv (.bool true))], [(16, some (.ints .i64 v15.1)), (17, some (.ints .i64 v15.2)), (2000000, some (.box [.own 16, .own 17, .sv (.int .i64 v21)]))]⟩) (kW hC [(16, 1133), (17, 1134), (2000000, 96)]) rfl ⟨rfl, rfl, trivial⟩
def Xmj (r : Bool) : AV := .sv (.bool r)
def Xmi (r : Bool) : Xbb := []
theorem Xm3 {p0 r} (h : Xgo p0 = some r) : AC Try.prog 93 [.agg [.sv (.ints .i64 p0.Above), .sv (.ints .i64 p0.Left), .sv (.int .i64 p0.Corner)]] [] (Xmj r) (Xmi r) := by
 refine Xae hT Try.func93 rfl fun C hC => ?_
 unfold Xgo at h
 refine Xad ?_
 iterate 2 refine kO hT hC ?_
 refine Vc.nil (Xax (Xad ?_))
 iterate 7 refine kO hT hC ?_
 refine Vc.nil ?_
 refine kL [1,9,10,11] [16,144] [_,_,_,_] [_,_] ?_
 obtain ⟨o11, hl, h⟩ := Xbr h
 refine Yck (fun v4 => ([(11, .sv (.int .i64 v4))], [])) (fun v8 => ([(9, .any), (10, .any), (11, .any)], [(144, none)])) (fun r => Yeu C T Try.f93.results.toList (Xmj r) (Xmi r)) hl ?_ ?_ ?_ ?_
 apply Xnp hC []
 exact co
 rfl
 decide
 rfl
 intro v4 s hs
 have h := hs
 unfold Xdj at h
 refine Xad ?_
 refine kO hT hC ?_
 refine Vc.nil (Xax ?_)
 refine kS h ?_ ?_ <;> intro b7 h
 refine kt b7 (Xah (Xaf (Xax (Xap (Xad ?_)))))
 iterate 2 refine kQ hT hC h fun h => ?_
 refine kO hT hC ?_
 refine Vc.nil ?_
 refine kL [1,4,9,10,11] [16,144] [_,_,_,_,_] [_,_] ?_
 refine kA h (fun v9 => ([(22, .sv (.bool v9)), (4, .any)], [])) (fun v9 h => ?_) fun v9 h => ?_
 refine Xac ?_
 iterate 4 refine kO hT hC ?_
 refine kS h ?_ ?_ <;> intro b8 h
 refine kI hT hC b8 ?_
 refine kE hC b8 [] Try.call52 h (fun _ => Xbd) fun q10 h => ?_
 refine kI hT hC b8 ?_
 refine kP hC true b8 ?_
 exact Vc.nil kM
 iterate 3 refine kF hC b8 ?_
 refine kP hC false b8 ?_
 exact Vc.nil kM
 refine kS h ?_ ?_ <;> intro b9 h
 refine kt b9 (Xad ?_)
 refine kO hT hC ?_
 refine Vc.nil (Xai (Xwu (Xbx ?_)))
 obtain rfl := kj h
 refine Yiq (Yio ?_)
 exact Xgg (Xjn.refl _) rfl trivial
 refine kf b9 (Xah (Xau (Xaf (Xac ?_))))
 iterate 2 refine kO hT hC ?_
 exact Vc.nil kG
 exact kf b7 (Xat (Xa7 kb))
 intro v8 e
 subst e
 refine Xaf (Xad ?_)
 iterate 2 refine kO hT hC ?_
 refine kC hC [] Try.call53 h (fun _ => Xaj) fun q12 h => ?_
 refine kO hT hC ?_
 exact Vc.nil (Xai kR)
 intro r' σ' e hE
 subst e
 obtain rfl := kj h
 refine Xbx ?_
 exact hE
def Xxf (r : Int) : AV := .sv (.int .i64 r)
def Xxe (r : Int) : Xbb := []
theorem Xqp {p0 r} (h : Xgr p0 = some r) : AC Try.prog 101 [.sv (.ints .i64 p0)] [] (Xxf r) (Xxe r) := by
 refine Xae hT Try.func101 rfl fun C hC => ?_
 unfold Xgr at h
 refine Xad ?_
 refine kO hT hC ?_
 refine kN ?_
 refine kO hT hC ?_
 refine Vc.nil (Xax (Xad ?_))
 iterate 3 refine kO hT hC ?_
 refine Vc.nil ?_
 refine kL [3,6,7,8] [] [_,_,_,_] [] ?_
 refine kX h (fun v2 => ([(3, .sv (.int .i64 v2.1)), (8, .sv (.int .i64 v2.2))], [])) (fun v4 => ([(3, .sv (.int .i64 v4)), (6, .any), (7, .any), (8, .any)], [])) (kW hC []) (fun v2 s h => ?_) fun v4 h => ?_
 unfold Xl3 at h
 refine Xad ?_
 refine kO hT hC ?_
 refine Vc.nil (Xax ?_)
 refine kS h ?_ ?_ <;> intro b3 h
 refine kt b3 (Xah (Xaf (Xax (Xap (Xad ?_)))))
 refine kQ hT hC h fun h => ?_
 iterate 2 refine kO hT hC ?_
 refine Vc.nil (Xac ?_)
 iterate 4 refine kO hT hC ?_
 refine Vc.nil (Xau (Xaf (Xac ?_)))
 iterate 2 refine kO hT hC ?_
 exact Vc.nil kG
 exact kf b3 (Xat (Xa7 ku))
 refine Xaf (Xad ?_)
 iterate 2 refine kO hT hC ?_
 exact Vc.nil (Xai kR)
def Xvg (r : (List Int)) : AV := .sv (.ints .i64 r)
def Xvf (r : (List Int)) : Xbb := []
theorem Xoi {p0 r} (h : Xh3 p0 = some r) : AC Try.prog 102 [.sv (.ints .i64 p0)] [] (Xvg r) (Xvf r) := by
 refine Xae hT Try.func102 rfl fun C hC => ?_
 unfold Xh3 at h
 refine Xad ?_
 refine kO hT hC ?_
 refine Vc.nil (Xax (Xad ?_))
 iterate 3 refine kO hT hC ?_
 refine Vc.nil ?_
 refine kS h ?_ ?_ <;> intro b1 h
 refine kt b1 (Xad ?_)
 iterate 2 refine kO hT hC ?_
 refine Vc.nil (Xai (Xbx ?_))
 obtain rfl := kj h
 exact Xgg (τ := ⟨[(2, .sv (.ints .i64 ([128, 128, 128, 128, 128, 128, 128, 128])))], []⟩) (kW hC []) rfl trivial
 refine kf b1 (Xah (Xaf (Xad ?_)))
 iterate 2 refine kO hT hC ?_
 exact Vc.nil (Xai kR)
def Xs5 (r : (List Int)) : AV := .own 16
def Xs4 (r : (List Int)) : Xbb := [(16, .ints .i64 r)]
theorem Xjw {p0 p1 r} (h : Xdv p0 p1 = some r) : AC Try.prog 58 [.sv (.int .i64 p0), .agg [.sv (.ints .i64 p1.Above), .sv (.ints .i64 p1.Left), .sv (.int .i64 p1.Corner)]] [] (Xs5 r) (Xs4 r) := by
 refine Xae hT Try.func58 rfl fun C hC => ?_
 unfold Xdv at h
 refine Xad ?_
 iterate 2 refine kO hT hC ?_
 refine kN ?_
 iterate 2 refine kO hT hC ?_
 refine Vc.nil (Xax ?_)
 refine kL [0,3,5] [48,208] [_,_,_] [_,_] ?_
 refine kA h (fun v1 => ([(21, .sv (.bool v1))], [])) (fun v1 h => ?_) fun v1 h => ?_
 refine Xac ?_
 refine kO hT hC ?_
 refine kC hC [] Try.call93 h (fun _ => Xm3) fun q2 h => ?_
 iterate 2 refine kO hT hC ?_
 refine kS h ?_ ?_ <;> intro b1 h
 refine kI hT hC (kn b1) ?_
 refine kE hC (kn b1) [] Try.call53 h (fun _ => Xaj) fun q3 h => ?_
 refine kI hT hC (kn b1) ?_
 refine kP hC false (kn b1) ?_
 exact Vc.nil kM
 iterate 3 refine kF hC (kn b1) ?_
 refine kP hC true (kn b1) ?_
 exact Vc.nil kM
 refine kS h ?_ ?_ <;> intro b2 h
 refine kt b2 (Xad ?_)
 iterate 2 refine kO hT hC ?_
 refine Vc.nil (Xai (Xbx ?_))
 obtain rfl := kj h
 exact Xgg (τ := ⟨[(4, .own 16)], [(16, some (.ints .i64 ([] : List Int)))]⟩) (kW hC [(16, 208)]) rfl ⟨rfl, trivial⟩
 refine kf b2 (Xah (Xaf (Xad ?_)))
 refine kO hT hC ?_
 refine Vc.nil ?_
 refine kL [0,3,5,6] [48,208] [_,_,_,_] [_,_] ?_
 refine kA h (fun v4 => ([(6, .sv (.int .i64 v4))], [])) (fun v4 h => ?_) fun v4 h => ?_
 refine Xad ?_
 iterate 8 refine kO hT hC ?_
 refine kN ?_
 iterate 2 refine kO hT hC ?_
 refine Vc.nil ?_
 refine kS h ?_ ?_ <;> intro b3 h
 refine kt b3 ?_
 refine Xkw hm ?_
 iterate 2 refine kO hT hC ?_
 refine kC hC [] Try.call101 h (fun _ => Xqp) fun q5 h => ?_
 iterate 2 refine kO hT hC ?_
 refine kC hC [] Try.call101 h (fun _ => Xqp) fun q6 h => ?_
 iterate 2 refine kO hT hC ?_
 refine kQ hT hC h fun h => ?_
 iterate 2 refine kO hT hC ?_
 refine kQ hT hC h fun h => ?_
 refine kO hT hC ?_
 exact kD kM
 exact kf b3 (Xah kM)
 refine Xgs hm ?_
 iterate 2 refine kO hT hC ?_
 refine kC hC [] Try.call102 h (fun _ => Xoi) fun q7 h => ?_
 iterate 2 refine kO hT hC ?_
 refine kC hC [] Try.call102 h (fun _ => Xoi) fun q8 h => ?_
 iterate 5 refine kO hT hC ?_
 refine kD ?_
 refine kL [0,5,6,8,9,10] [208] [_,_,_,_,_,_] [_] ?_
 refine kA h (fun v9 => ([(10, .sv (.int .i64 v9))], [])) (fun v9 h => ?_) fun v9 h => ?_
 refine Xad ?_
 iterate 2 refine kO hT hC ?_
 refine Vc.nil ?_
 refine kS h ?_ ?_ <;> intro b4 h
 refine kt b4 (Xac ?_)
 refine kO hT hC ?_
 exact Vc.nil kM
 exact kf b4 (Xah kM)
 refine Xax (Xad ?_)
 refine kO hT hC ?_
 refine Vc.nil ?_
 refine kL [0,5,6,8,9,10,54] [208] [_,_,_,_,_,_,_] [_] ?_
 refine kX h (fun v22 => ([(54, .sv (.int .i64 v22.1))], [(208, some (.ints .i64 v22.2))])) (fun v35 => ([(0, .any), (6, .any), (8, .any), (9, .any), (10, .any), (54, .any)], [(208, some (.ints .i64 v35))])) (kW hC []) (fun v22 s h => ?_) fun v35 h => ?_
 unfold Xi8 at h
 refine Xad ?_
 refine kO hT hC ?_
 refine Vc.nil (Xax ?_)
 refine kS h ?_ ?_ <;> intro b31 h
 refine kt b31 (Xah (Xaf (Xax (Xap (Xad ?_)))))
 iterate 2 refine kO hT hC ?_
 refine kN ?_
 refine kO hT hC ?_
 refine Vc.nil ?_
 refine kL [0,5,6,8,9,10,11,54,57] [208] [_,_,_,_,_,_,_,_,_] [_] ?_
 refine kX h (fun v39 => ([(57, .sv (.int .i64 v39.1))], [(208, some (.ints .i64 v39.2))])) (fun v43 => ([(11, .any), (57, .any)], [(208, some (.ints .i64 v43))])) (kW hC []) (fun v39 s h => ?_) fun v43 h => ?_
 unfold Xd9 at h
 refine Xad ?_
 refine kO hT hC ?_
 refine Vc.nil (Xax ?_)
 refine kS h ?_ ?_ <;> intro b40 h
 refine kt b40 (Xah (Xaf ?_))
 refine kL [0,5,6,8,9,10,11,54,57] [208] [_,_,_,_,_,_,_,_,_] [_] ?_
 refine kA h (fun v44 => ([(5, .own 1700)], [(1700, some (.ints .i64 v44)), (208, none)])) (fun v44 h => ?_) fun v44 h => ?_
 refine Xap (Xad ?_)
 iterate 2 refine kO hT hC ?_
 refine kN ?_
 refine kO hT hC ?_
 refine Vc.nil (Xap (Xad ?_))
 iterate 2 refine kO hT hC ?_
 refine Vc.nil ?_
 refine kS h ?_ ?_ <;> intro b41 h
 refine kt b41 (Xac ?_)
 iterate 3 refine kO hT hC ?_
 refine kT hT hC h fun h => ?_
 refine kO hT hC ?_
 refine Vc.nil ?_
 iterate 2 refine Xau ?_
 obtain rfl := kj h
 exact Xne (kW hC [(1700, 1296)])
 refine kf b41 (Xad ?_)
 iterate 2 refine kO hT hC ?_
 refine Vc.nil ?_
 refine kS h ?_ ?_ <;> intro b42 h
 refine kt b42 (Xac ?_)
 iterate 3 refine kO hT hC ?_
 refine kQ hT hC h fun h => ?_
 iterate 2 refine kO hT hC ?_
 refine kT hT hC h fun h => ?_
 refine kO hT hC ?_
 refine Vc.nil ?_
 iterate 2 refine Xau ?_
 obtain rfl := kj h
 exact Xne (kW hC [(1700, 1440)])
 refine kf b42 (Xad ?_)
 iterate 2 refine kO hT hC ?_
 refine Vc.nil ?_
 refine kS h ?_ ?_ <;> intro b43 h
 refine kt b43 (Xac ?_)
 iterate 3 refine kO hT hC ?_
 refine kQ hT hC h fun h => ?_
 iterate 2 refine kO hT hC ?_
 refine kT hT hC h fun h => ?_
 refine kO hT hC ?_
 refine Vc.nil ?_
 iterate 2 refine Xau ?_
 obtain rfl := kj h
 exact Xne (kW hC [(1700, 1584)])
 refine kf b43 ?_
 refine Xkw hm ?_
 iterate 3 refine kO hT hC ?_
 refine kQ hT hC h fun h => ?_
 iterate 3 refine kO hT hC ?_
 refine kQ hT hC h fun h => ?_
 iterate 4 refine kO hT hC ?_
 refine kC hC [] Try.call103 h (fun _ => Xgx) fun q45 h => ?_
 refine kO hT hC ?_
 refine kT hT hC h fun h => ?_
 refine kO hT hC ?_
 refine kD ?_
 iterate 2 refine Xau ?_
 obtain rfl := kj h
 exact Xne (kW hC [(1700, 1200)])
 refine Xac ?_
 iterate 2 refine kO hT hC ?_
 refine Vc.nil ?_
 obtain rfl := kj h
 exact Yec (kW hC [(208, 1700)])
 exact kf b40 (Xat (Xa7 ku))
 refine Xau (Xaf (Xac ?_))
 iterate 2 refine kO hT hC ?_
 exact Vc.nil kG
 exact kf b31 (Xat (Xa7 ku))
 refine Xaf (Xad ?_)
 iterate 2 refine kO hT hC ?_
 refine Vc.nil (Xai ?_)
 obtain rfl := kj h
 exact Xgg (τ := ⟨[(4, .own 16)], [(16, some (.ints .i64 v35))]⟩) (kW hC [(16, 208)]) rfl ⟨rfl, trivial⟩
def Xy9 (r : Int) : AV := .sv (.int .i64 r)
def Xy8 (r : Int) : Xbb := []
theorem Xm9 {p0 r} (h : Xiv p0 = some r) : AC Try.prog 104 [.sv (.int .i64 p0)] [] (Xy9 r) (Xy8 r) := by
 refine Xae hT Try.func104 rfl fun C hC => ?_
 unfold Xiv at h
 refine Xad ?_
 refine kO hT hC ?_
 refine kN ?_
 iterate 5 refine kO hT hC ?_
 exact Vc.nil (Xai kR)
def Yav (r : Int) : AV := .sv (.int .i64 r)
def Yau (r : Int) : Xbb := []
theorem Xpb {p0 p1 r} (h : Xkl p0 p1 = some r) : AC Try.prog 59 [.sv (.ints .i64 p0), .sv (.ints .i64 p1)] [] (Yav r) (Yau r) := by
 refine Xae hT Try.func59 rfl fun C hC => ?_
 unfold Xkl at h
 refine Xad ?_
 refine kO hT hC ?_
 refine kN ?_
 refine kO hT hC ?_
 refine Vc.nil (Xax (Xad ?_))
 iterate 3 refine kO hT hC ?_
 refine Vc.nil ?_
 refine kL [1,5,8,9,10] [] [_,_,_,_,_] [] ?_
 refine kX h (fun v3 => ([(5, .sv (.int .i64 v3.1)), (10, .sv (.int .i64 v3.2))], [])) (fun v6 => ([(5, .sv (.int .i64 v6)), (1, .any), (8, .any), (9, .any), (10, .any)], [])) (kW hC []) (fun v3 s h => ?_) fun v6 h => ?_
 unfold Xjy at h
 refine Xad ?_
 refine kO hT hC ?_
 refine Vc.nil (Xax ?_)
 refine kS h ?_ ?_ <;> intro b3 h
 refine kt b3 (Xah (Xaf (Xax (Xap (Xad ?_)))))
 refine kO hT hC ?_
 refine kQ hT hC h fun h => ?_
 iterate 3 refine kO hT hC ?_
 refine Vc.nil (Xac ?_)
 iterate 4 refine kO hT hC ?_
 refine kQ hT hC h fun h => ?_
 iterate 2 refine kO hT hC ?_
 refine kC hC [] Try.call104 h (fun _ => Xm9) fun q7 h => ?_
 iterate 2 refine kO hT hC ?_
 refine Vc.nil (Xau (Xaf (Xac ?_)))
 iterate 2 refine kO hT hC ?_
 exact Vc.nil kG
 exact kf b3 (Xat (Xa7 ku))
 refine Xaf (Xad ?_)
 iterate 2 refine kO hT hC ?_
 exact Vc.nil (Xai kR)
def Xqm (r : Int) : AV := .sv (.int .i64 r)
def Xql (r : Int) : Xbb := []
theorem Xrw {p0 r} (h : Xil p0 = some r) : AC Try.prog 150 [.sv (.int .i64 p0)] [] (Xqm r) (Xql r) := by
 refine Xae hT Try.func150 rfl fun C hC => ?_
 unfold Xil at h
 refine Xad ?_
 refine kO hT hC ?_
 refine kN ?_
 refine kO hT hC ?_
 refine Vc.nil (Xax ?_)
 refine kL [0,3] [] [_,_] [] ?_
 refine kX h (fun v2 => ([(0, .sv (.int .i64 v2.1)), (3, .sv (.int .i64 v2.2))], [])) (fun v4 => ([(3, .sv (.int .i64 v4)), (0, .any)], [])) (kW hC []) (fun v2 s h => ?_) fun v4 h => ?_
 unfold Xb0 at h
 refine Xax (Xad ?_)
 iterate 2 refine kO hT hC ?_
 refine Vc.nil ?_
 refine kS h ?_ ?_ <;> intro b3 h
 refine kt b3 (Xah (Xaf (Xax (Xap (Xac ?_)))))
 iterate 3 refine kO hT hC ?_
 refine Vc.nil (Xau (Xaf (Xac ?_)))
 refine kO hT hC ?_
 refine kQ hT hC h fun h => ?_
 refine kO hT hC ?_
 exact Vc.nil kG
 exact kf b3 (Xat (Xa7 ku))
 refine Xaf (Xad ?_)
 iterate 2 refine kO hT hC ?_
 exact Vc.nil (Xai kR)
def Xxd (r : ByteArray) : AV := .sv (.str r)
def Xxc (r : ByteArray) : Xbb := []
theorem Xy6 {p0 p1 r} (h : Xlf p0 p1 = some r) : AC Try.prog 149 [.sv (.int .i64 p0), .sv (.int .i64 p1)] [] (Xxd r) (Xxc r) := by
 refine Xae hT Try.func149 rfl fun C hC => ?_
 unfold Xlf at h
 refine Xad ?_
 refine kO hT hC ?_
 refine kN ?_
 refine kO hT hC ?_
 obtain ⟨hq, h⟩ := Xar h
 refine Yht hT hC rfl rfl rfl rfl ⟨hq.1, hq.2.1, hq.2.2, by decide⟩ ?_
 refine kO hT hC ?_
 refine Vc.nil (Xax (Xad ?_))
 iterate 3 refine kO hT hC ?_
 refine Vc.nil ?_
 refine kL [0,5,6] [128] [_,_,_] [_] ?_
 refine kX h (fun v2 => ([(0, .sv (.int .i64 v2.1)), (6, .sv (.int .i64 v2.2.1))], [(128, some (.ints .u8 v2.2.2))])) (fun v4 => ([(0, .any), (6, .any)], [(128, some (.ints .u8 v4))])) (kW hC []) (fun v2 s h => ?_) fun v4 h => ?_
 unfold Xg6 at h
 refine Xax (Xad ?_)
 iterate 2 refine kO hT hC ?_
 refine Vc.nil ?_
 refine kS h ?_ ?_ <;> intro b3 h
 refine kt b3 (Xah (Xaf (Xax (Xap (Xad ?_)))))
 iterate 6 refine kO hT hC ?_
 iterate 2 refine kQ hT hC h fun h => ?_
 refine Vc.nil (Xac ?_)
 refine kO hT hC ?_
 refine kQ hT hC h fun h => ?_
 refine kO hT hC ?_
 refine Vc.nil (Xau (Xaf (Xac ?_)))
 iterate 3 refine kO hT hC ?_
 exact Vc.nil kG
 exact kf b3 (Xat (Xa7 ku))
 refine Xaf (Xad ?_)
 iterate 3 refine kO hT hC ?_
 exact Vc.nil (Xai kR)
def Yb6 (r : ByteArray) : AV := .sv (.str r)
def Yb5 (r : ByteArray) : Xbb := []
theorem Yd7 {p0 r} (h : Xrz p0 = some r) : AC Try.prog 116 [.sv (.int .i64 p0)] [] (Yb6 r) (Yb5 r) := by
 refine Xae hT Try.func116 rfl fun C hC => ?_
 unfold Xrz at h
 refine Xad ?_
 refine kO hT hC ?_
 refine kN ?_
 iterate 4 refine kO hT hC ?_
 refine kC hC [] Try.call150 h (fun _ => Xrw) fun q1 h => ?_
 iterate 2 refine kO hT hC ?_
 refine kC hC [] Try.call149 h (fun _ => Xy6) fun q2 h => ?_
 refine kO hT hC ?_
 exact Vc.nil (Xai kR)
def Xw8 (r : (ByteArray × Bool)) : AV := .tup [.sv (.str r.1), .sv (.bool r.2)]
def Xw7 (r : (ByteArray × Bool)) : Xbb := []
theorem Xqg {p0 r} (h : Xjq p0 = some r) : AC Try.prog 135 [.sv (.int .i64 p0)] [] (Xw8 r) (Xw7 r) := by
 refine Xae hT Try.func135 rfl fun C hC => ?_
 unfold Xjq at h
 refine Xad ?_
 iterate 2 refine kO hT hC ?_
 refine Vc.nil (Xax (Xad ?_))
 refine kO hT hC ?_
 refine kC hC [] Try.call53 h (fun _ => Xaj) fun q1 h => ?_
 refine kO hT hC ?_
 refine Vc.nil ?_
 refine kS h ?_ ?_ <;> intro b1 h
 refine kt b1 (Xad ?_)
 iterate 2 refine kO hT hC ?_
 exact Vc.nil (Xai (Xbx kR))
 refine kf b1 (Xah (Xaf (Xad ?_)))
 refine kO hT hC ?_
 refine kC hC [] Try.call116 h (fun _ => Yd7) fun q2 h => ?_
 iterate 2 refine kO hT hC ?_
 exact Vc.nil (Xai kR)
def Xvd (r : Int) : AV := .sv (.int .i64 r)
def Xvc (r : Int) : Xbb := []
theorem Xw9 {p0 r} (h : Xh0 p0 = some r) : AC Try.prog 94 [.sv (.int .i64 p0)] [] (Xvd r) (Xvc r) := by
 refine Xae hT Try.func94 rfl fun C hC => ?_
 unfold Xh0 at h
 refine Xad ?_
 refine kO hT hC ?_
 refine kN ?_
 refine kO hT hC ?_
 refine kC hC [] Try.call135 h (fun _ => Xqg) fun q1 h => ?_
 iterate 5 refine kO hT hC ?_
 refine kN ?_
 iterate 3 refine kO hT hC ?_
 exact Vc.nil (Xai kR)
def Xpy (r : (Int × Int)) : AV := .tup [.sv (.int .i64 r.1), .sv (.int .i64 r.2)]
def Xpx (r : (Int × Int)) : Xbb := []
theorem Xrg {p0 p1 r} (h : Xfp p0 p1 = some r) : AC Try.prog 55 [.sv (.ints .i64 p0), .agg [.sv (.ints .i64 p1.Above), .sv (.ints .i64 p1.Left), .sv (.int .i64 p1.Corner)]] [] (Xpy r) (Xpx r) := by
 refine Xae hT Try.func55 rfl fun C hC => ?_
 unfold Xfp at h
 refine Xad ?_
 iterate 3 refine kO hT hC ?_
 refine Vc.nil (Xax ?_)
 refine kL [0,3] [48] [_,_] [_] ?_
 refine kA h (fun v1 => ([(17, .sv (.bool v1))], [])) (fun v1 h => ?_) fun v1 h => ?_
 refine Xac ?_
 refine kO hT hC ?_
 refine kC hC [] Try.call93 h (fun _ => Xm3) fun q2 h => ?_
 iterate 2 refine kO hT hC ?_
 refine kS h ?_ ?_ <;> intro b1 h
 refine kI hT hC (kn b1) ?_
 refine kE hC (kn b1) [] Try.call52 h (fun _ => Xbd) fun q3 h => ?_
 refine kI hT hC (kn b1) ?_
 refine kP hC false (kn b1) ?_
 exact Vc.nil kM
 iterate 3 refine kF hC (kn b1) ?_
 refine kP hC true (kn b1) ?_
 exact Vc.nil kM
 refine kS h ?_ ?_ <;> intro b2 h
 refine kt b2 (Xad ?_)
 iterate 2 refine kO hT hC ?_
 exact Vc.nil (Xai (Xbx kR))
 refine kf b2 (Xah (Xaf (Xad ?_)))
 iterate 2 refine kO hT hC ?_
 refine Vc.nil (Xax (Xad ?_))
 refine kO hT hC ?_
 refine Vc.nil ?_
 refine kL [0,3,6,7,8] [48] [_,_,_,_,_] [_] ?_
 refine kX h (fun v16 => ([(6, .sv (.int .i64 v16.1)), (7, .sv (.int .i64 v16.2.1)), (8, .sv (.int .i64 v16.2.2))], [])) (fun v23 => ([(6, .sv (.int .i64 v23.1)), (7, .sv (.int .i64 v23.2)), (0, .any), (3, .any), (8, .any)], [(48, none)])) (kW hC []) (fun v16 s h => ?_) fun v23 h => ?_
 unfold Xe6 at h
 refine Xax (Xad ?_)
 iterate 2 refine kO hT hC ?_
 refine Vc.nil ?_
 refine kS h ?_ ?_ <;> intro b12 h
 refine kt b12 (Xah (Xaf ?_))
 refine kL [0,3,6,7,8] [48] [_,_,_,_,_] [_] ?_
 refine kA h (fun v24 => ([(6, .sv (.int .i64 v24.1)), (7, .sv (.int .i64 v24.2))], [])) (fun v24 h => ?_) fun v24 h => ?_
 refine Xap (Xad ?_)
 iterate 3 refine kO hT hC ?_
 refine kC hC [(16, 400)] Try.call58 h (fun _ => Xjw) fun q25 h => ?_
 refine kC hC [] Try.call59 h (fun _ => Xpb) fun q26 h => ?_
 refine kO hT hC ?_
 refine kC hC [] Try.call94 h (fun _ => Xw9) fun q27 h => ?_
 iterate 2 refine kO hT hC ?_
 refine Vc.nil ?_
 refine kL [0,3,6,7,8,9] [48] [_,_,_,_,_,_] [_] ?_
 refine kA h (fun v28 => ([(36, .sv (.bool v28))], [])) (fun v28 h => ?_) fun v28 h => ?_
 refine Xac ?_
 iterate 3 refine kO hT hC ?_
 refine kS h ?_ ?_ <;> intro b13 h
 iterate 3 refine kF hC b13 ?_
 refine kP hC true b13 ?_
 exact Vc.nil kM
 iterate 3 refine kI hT hC b13 ?_
 refine kP hC false b13 ?_
 exact Vc.nil kM
 refine kS h ?_ ?_ <;> intro b14 h
 refine kt b14 (Xac ?_)
 iterate 4 refine kO hT hC ?_
 exact Vc.nil (Xau kM)
 exact kf b14 (Xah (Xau kM))
 refine Xac ?_
 iterate 3 refine kO hT hC ?_
 exact Vc.nil kG
 exact kf b12 (Xat (Xa7 ku))
 refine Xaf (Xad ?_)
 iterate 4 refine kO hT hC ?_
 exact Vc.nil (Xai kR)
def Xry (r : (List Int)) : AV := .own 16
def Xrx (r : (List Int)) : Xbb := [(16, .ints .i64 r)]
theorem Xmo {p0 p1 r} (h : Xd4 p0 p1 = some r) : AC Try.prog 57 [.sv (.ints .i64 p0), .sv (.ints .i64 p1)] [] (Xry r) (Xrx r) := by
 refine Xae hT Try.func57 rfl fun C hC => ?_
 unfold Xd4 at h
 refine Xad ?_
 refine kO hT hC ?_
 refine kN ?_
 iterate 2 refine kO hT hC ?_
 refine Vc.nil (Xax (Xad ?_))
 iterate 3 refine kO hT hC ?_
 refine Vc.nil ?_
 refine kL [1,5,9,10,11] [128] [_,_,_,_,_] [_] ?_
 refine kX h (fun v2 => ([(11, .sv (.int .i64 v2.1))], [(128, some (.ints .i64 v2.2))])) (fun v4 => ([(1, .any), (9, .any), (10, .any), (11, .any)], [(128, some (.ints .i64 v4))])) (kW hC []) (fun v2 s h => ?_) fun v4 h => ?_
 unfold Xf7 at h
 refine Xad ?_
 refine kO hT hC ?_
 refine Vc.nil (Xax ?_)
 refine kS h ?_ ?_ <;> intro b3 h
 refine kt b3 (Xah (Xaf (Xax (Xap (Xad ?_)))))
 refine kO hT hC ?_
 refine kQ hT hC h fun h => ?_
 iterate 3 refine kO hT hC ?_
 refine Vc.nil (Xac ?_)
 iterate 4 refine kO hT hC ?_
 refine kQ hT hC h fun h => ?_
 iterate 3 refine kO hT hC ?_
 refine kT hT hC h fun h => ?_
 refine kO hT hC ?_
 refine Vc.nil (Xau (Xaf (Xac ?_)))
 iterate 2 refine kO hT hC ?_
 refine Vc.nil ?_
 obtain rfl := kj h
 exact Yec (kW hC [(128, 384)])
 exact kf b3 (Xat (Xa7 ku))
 refine Xaf (Xad ?_)
 iterate 2 refine kO hT hC ?_
 refine Vc.nil (Xai ?_)
 obtain rfl := kj h
 exact Xgg (τ := ⟨[(4, .own 16)], [(16, some (.ints .i64 v4))]⟩) (kW hC [(16, 128)]) rfl ⟨rfl, trivial⟩
def Xqo (r : (List Int)) : AV := .own 16
def Xqn (r : (List Int)) : Xbb := [(16, .ints .i64 r)]
theorem Xld {p0 r} (h : Xec p0 = some r) : AC Try.prog 136 [.sv (.int .i64 p0)] [] (Xqo r) (Xqn r) := by
 refine Xae hT Try.func136 rfl fun C hC => ?_
 unfold Xec at h
 refine Xad ?_
 refine kO hT hC ?_
 refine kN ?_
 iterate 2 refine kO hT hC ?_
 refine Vc.nil (Xax (Xad ?_))
 refine kO hT hC ?_
 refine Vc.nil ?_
 refine kL [0,3,4] [128] [_,_,_] [_] ?_
 refine kX h (fun v16 => ([(4, .sv (.int .i64 v16.1))], [(128, some (.ints .i64 v16.2))])) (fun v32 => ([(0, .any), (4, .any)], [(128, some (.ints .i64 v32))])) (kW hC []) (fun v16 s h => ?_) fun v32 h => ?_
 unfold Xef at h
 refine Xax (Xad ?_)
 iterate 5 refine kO hT hC ?_
 refine Vc.nil ?_
 refine kS h ?_ ?_ <;> intro b27 h
 refine kt b27 (Xah (Xaf (Xax (Xap (Xad ?_)))))
 refine kO hT hC ?_
 refine Vc.nil ?_
 refine kL [0,3,4,5] [128] [_,_,_,_] [_] ?_
 refine kX h (fun v37 => ([(5, .sv (.int .i64 v37.1))], [(128, some (.ints .i64 v37.2))])) (fun v42 => ([(5, .any)], [(128, some (.ints .i64 v42))])) (kW hC []) (fun v37 s h => ?_) fun v42 h => ?_
 unfold Xg5 at h
 refine Xax (Xad ?_)
 iterate 3 refine kO hT hC ?_
 refine Vc.nil ?_
 refine kS h ?_ ?_ <;> intro b36 h
 refine kt b36 (Xah (Xaf ?_))
 refine kL [0,3,4,5] [128] [_,_,_,_] [_] ?_
 refine kA h (fun v43 => ([], [(128, some (.ints .i64 v43))])) (fun v43 h => ?_) fun v43 h => ?_
 refine Xap (Xad ?_)
 iterate 2 refine kO hT hC ?_
 refine Vc.nil ?_
 refine kL [0,3,4,5,6] [128] [_,_,_,_,_] [_] ?_
 refine kA h (fun v44 => ([(6, .sv (.int .i64 v44))], [])) (fun v44 h => ?_) fun v44 h => ?_
 refine Xad ?_
 refine kO hT hC ?_
 refine kQ hT hC h fun h => ?_
 refine kO hT hC ?_
 refine Vc.nil ?_
 refine kS h ?_ ?_ <;> intro b37 h
 refine kt b37 (Xac ?_)
 iterate 4 refine kO hT hC ?_
 exact Vc.nil kM
 exact kf b37 (Xah kM)
 refine Xad ?_
 iterate 4 refine kO hT hC ?_
 refine Vc.nil ?_
 refine kL [0,3,4,5,6,7] [128] [_,_,_,_,_,_] [_] ?_
 refine kA h (fun v45 => ([(38, .sv (.bool v45))], [])) (fun v45 h => ?_) fun v45 h => ?_
 refine Xac ?_
 iterate 4 refine kO hT hC ?_
 refine kS h ?_ ?_ <;> intro b38 h
 iterate 3 refine kI hT hC b38 ?_
 refine kP hC true b38 ?_
 exact Vc.nil kM
 iterate 3 refine kF hC b38 ?_
 refine kP hC false b38 ?_
 exact Vc.nil kM
 refine kS h ?_ ?_ <;> intro b39 h
 refine kt b39 (Xac ?_)
 iterate 7 refine kO hT hC ?_
 refine kT hT hC h fun h => ?_
 refine kO hT hC ?_
 refine Vc.nil (Xau ?_)
 obtain rfl := kj h
 exact Xne (kW hC [(128, 736)])
 exact kf b39 (Xah (Xau kM))
 refine Xac ?_
 iterate 3 refine kO hT hC ?_
 exact Vc.nil kG
 exact kf b36 (Xat (Xa7 ku))
 refine Xau (Xaf (Xac ?_))
 iterate 3 refine kO hT hC ?_
 exact Vc.nil kG
 exact kf b27 (Xat (Xa7 ku))
 refine Xaf (Xad ?_)
 iterate 2 refine kO hT hC ?_
 refine Vc.nil (Xai ?_)
 obtain rfl := kj h
 exact Xgg (τ := ⟨[(2, .own 16)], [(16, some (.ints .i64 v32))]⟩) (kW hC [(16, 128)]) rfl ⟨rfl, trivial⟩
def Xtb (r : ((List Int) × Bool)) : AV := .tup [.own 16, .sv (.bool r.2)]
def Xta (r : ((List Int) × Bool)) : Xbb := [(16, .ints .i64 r.1)]
theorem Xjx {p0 p1 r} (h : Xem p0 p1 = some r) : AC Try.prog 95 [.sv (.int .i64 p0), .sv (.ints .i64 p1)] [] (Xtb r) (Xta r) := by
 refine Xae hT Try.func95 rfl fun C hC => ?_
 unfold Xem at h
 refine Xad ?_
 iterate 2 refine kO hT hC ?_
 refine kN ?_
 iterate 2 refine kO hT hC ?_
 refine Vc.nil (Xax ?_)
 refine kL [0,1,6] [144] [_,_,_] [_] ?_
 refine kA h (fun v1 => ([(23, .sv (.bool v1))], [])) (fun v1 h => ?_) fun v1 h => ?_
 refine Xac ?_
 iterate 3 refine kO hT hC ?_
 refine kS h ?_ ?_ <;> intro b1 h
 iterate 2 refine kI hT hC b1 ?_
 refine kP hC true b1 ?_
 refine kO hT hC ?_
 refine kS h ?_ ?_ <;> intro b2 h
 iterate 6 refine kF hC b2 ?_
 refine kP hC true b2 ?_
 exact Vc.nil kM
 iterate 6 refine kI hT hC b2 ?_
 refine kP hC false b2 ?_
 exact Vc.nil kM
 iterate 2 refine kF hC b1 ?_
 refine kP hC false b1 ?_
 refine kO hT hC ?_
 iterate 6 refine kI hT hC rfl ?_
 refine kO hT hC ?_
 exact Vc.nil kM
 refine kS h ?_ ?_ <;> intro b3 h
 refine kt b3 (Xad ?_)
 iterate 3 refine kO hT hC ?_
 refine Vc.nil (Xai (Xbx ?_))
 obtain rfl := kj h
 exact Xgg (τ := ⟨[(4, .own 16), (5, .sv (.bool false))], [(16, some (.ints .i64 ([] : List Int)))]⟩) (kW hC [(16, 144)]) rfl ⟨rfl, trivial⟩
 refine kf b3 (Xah (Xaf (Xax (Xad ?_))))
 refine kO hT hC ?_
 refine kC hC [(16, 416)] Try.call136 h (fun _ => Xld) fun q2 h => ?_
 iterate 2 refine kO hT hC ?_
 refine Vc.nil ?_
 refine kL [1,6,26,27,28] [144,416] [_,_,_,_,_] [_,_] ?_
 refine kX h (fun v4 => ([(28, .sv (.int .i64 v4.1))], [(144, some (.ints .i64 v4.2))])) (fun v6 => ([(1, .any), (26, .any), (27, .any), (28, .any)], [(144, some (.ints .i64 v6)), (416, none)])) (kW hC []) (fun v4 s h => ?_) fun v6 h => ?_
 unfold Xg2 at h
 refine Xad ?_
 refine kO hT hC ?_
 refine Vc.nil (Xax ?_)
 refine kS h ?_ ?_ <;> intro b6 h
 refine kt b6 (Xah (Xaf (Xax (Xap (Xad ?_)))))
 iterate 2 refine kQ hT hC h fun h => ?_
 refine kO hT hC ?_
 refine Vc.nil (Xac ?_)
 iterate 3 refine kO hT hC ?_
 refine kQ hT hC h fun h => ?_
 iterate 2 refine kO hT hC ?_
 refine kT hT hC h fun h => ?_
 refine kO hT hC ?_
 refine Vc.nil (Xau (Xaf (Xac ?_)))
 iterate 2 refine kO hT hC ?_
 refine Vc.nil ?_
 obtain rfl := kj h
 exact Yec (kW hC [(144, 608)])
 exact kf b6 (Xat (Xa7 ku))
 refine Xaf (Xad ?_)
 iterate 3 refine kO hT hC ?_
 refine Vc.nil (Xai ?_)
 obtain rfl := kj h
 exact Xgg (τ := ⟨[(4, .own 16), (5, .sv (.bool true))], [(16, some (.ints .i64 v6))]⟩) (kW hC [(16, 144)]) rfl ⟨rfl, trivial⟩
def Xu9 (r : Int) : AV := .sv (.int .i64 r)
def Xu8 (r : Int) : Xbb := []
theorem Xoe {p0 p1 r} (h : Xhz p0 p1 = some r) : AC Try.prog 166 [.sv (.int .i64 p0), .sv (.int .i64 p1)] [] (Xu9 r) (Xu8 r) := by
 refine Xae hT Try.func166 rfl fun C hC => ?_
 unfold Xhz at h
 refine Xad ?_
 refine kO hT hC ?_
 refine Vc.nil (Xax ?_)
 refine kL [0,1] [] [_,_] [] ?_
 refine kA h (fun v1 => ([(13, .sv (.bool v1))], [])) (fun v1 h => ?_) fun v1 h => ?_
 refine Xac ?_
 refine kO hT hC ?_
 refine kC hC [] Try.call53 h (fun _ => Xaj) fun q2 h => ?_
 iterate 2 refine kO hT hC ?_
 refine kS h ?_ ?_ <;> intro b1 h
 refine kI hT hC (kn b1) ?_
 refine kE hC (kn b1) [] Try.call53 h (fun _ => Xaj) fun q3 h => ?_
 refine kI hT hC (kn b1) ?_
 refine kP hC false (kn b1) ?_
 exact Vc.nil kM
 iterate 3 refine kF hC (kn b1) ?_
 refine kP hC true (kn b1) ?_
 exact Vc.nil kM
 refine kS h ?_ ?_ <;> intro b2 h
 refine kt b2 (Xad ?_)
 refine kO hT hC ?_
 exact Vc.nil (Xai (Xbx kR))
 refine kf b2 (Xah (Xaf (Xad ?_)))
 iterate 4 refine kO hT hC ?_
 refine Vc.nil (Xax (Xad ?_))
 iterate 3 refine kO hT hC ?_
 refine kQ hT hC h fun h => ?_
 iterate 3 refine kO hT hC ?_
 refine kQ hT hC h fun h => ?_
 iterate 2 refine kO hT hC ?_
 refine kQ hT hC h fun h => ?_
 refine kO hT hC ?_
 refine Vc.nil ?_
 refine kS h ?_ ?_ <;> intro b3 h
 refine kt b3 (Xad ?_)
 refine kO hT hC ?_
 exact Vc.nil (Xai (Xbx kR))
 refine kf b3 (Xah (Xaf (Xad ?_)))
 refine kO hT hC ?_
 exact Vc.nil (Xai kR)
def Xzc (r : (List Int)) : AV := .own 16
def Xzb (r : (List Int)) : Xbb := [(16, .ints .i64 r)]
theorem Xso {p0 r} (h : Xlg p0 = some r) : AC Try.prog 137 [.sv (.ints .i64 p0)] [] (Xzc r) (Xzb r) := by
 refine Xae hT Try.func137 rfl fun C hC => ?_
 unfold Xlg at h
 refine Xad ?_
 refine kO hT hC ?_
 refine kN ?_
 obtain ⟨hq, h⟩ := Xar h
 refine Yht hT hC rfl rfl rfl rfl ⟨hq.1, hq.2.1, hq.2.2, by decide⟩ ?_
 refine kO hT hC ?_
 refine Vc.nil (Xax (Xad ?_))
 refine kO hT hC ?_
 refine Vc.nil ?_
 refine kL [0,3,12] [176] [_,_,_] [_] ?_
 refine kX h (fun v31 => ([(12, .sv (.int .i64 v31.1))], [(176, some (.ints .i64 v31.2))])) (fun v62 => ([(0, .any), (12, .any)], [(176, some (.ints .i64 v62))])) (kW hC []) (fun v31 s h => ?_) fun v62 h => ?_
 unfold Xl4 at h
 refine Xad ?_
 refine kO hT hC ?_
 refine Vc.nil (Xax ?_)
 refine kS h ?_ ?_ <;> intro b27 h
 refine kt b27 (Xah (Xaf (Xax (Xap (Xad ?_)))))
 iterate 2 refine kO hT hC ?_
 refine kN ?_
 refine kO hT hC ?_
 refine Vc.nil ?_
 refine kL [0,3,4,12,15] [176] [_,_,_,_,_] [_] ?_
 refine kX h (fun v72 => ([(15, .sv (.int .i64 v72.1))], [(176, some (.ints .i64 v72.2))])) (fun v82 => ([(4, .any), (15, .any)], [(176, some (.ints .i64 v82))])) (kW hC []) (fun v72 s h => ?_) fun v82 h => ?_
 unfold Xl5 at h
 refine Xad ?_
 refine kO hT hC ?_
 refine Vc.nil (Xax ?_)
 refine kS h ?_ ?_ <;> intro b36 h
 refine kt b36 (Xah (Xaf (Xax (Xap (Xad ?_)))))
 iterate 2 refine kO hT hC ?_
 refine kN ?_
 refine kO hT hC ?_
 refine Vc.nil ?_
 refine kL [0,3,4,5,12,15,18] [176] [_,_,_,_,_,_,_] [_] ?_
 refine kX h (fun v85 => ([(18, .sv (.int .i64 v85.1))], [(176, some (.ints .i64 v85.2))])) (fun v88 => ([(5, .any), (18, .any)], [(176, some (.ints .i64 v88))])) (kW hC []) (fun v85 s h => ?_) fun v88 h => ?_
 unfold Xg7 at h
 refine Xad ?_
 refine kO hT hC ?_
 refine Vc.nil (Xax ?_)
 refine kS h ?_ ?_ <;> intro b39 h
 refine kt b39 (Xah (Xaf (Xax (Xap (Xad ?_)))))
 iterate 2 refine kO hT hC ?_
 refine Vc.nil ?_
 refine Xkw hm ?_
 iterate 10 refine kO hT hC ?_
 iterate 2 refine kQ hT hC h fun h => ?_
 iterate 2 refine kO hT hC ?_
 refine kC hC [] Try.call166 h (fun _ => Xoe) fun q89 h => ?_
 iterate 5 refine kO hT hC ?_
 refine kQ hT hC h fun h => ?_
 iterate 3 refine kO hT hC ?_
 iterate 2 refine kQ hT hC h fun h => ?_
 refine kD (Xau (Xaf (Xac ?_)))
 iterate 2 refine kO hT hC ?_
 exact Vc.nil kG
 exact kf b39 (Xat (Xa7 ku))
 refine Xau (Xaf (Xac ?_))
 iterate 2 refine kO hT hC ?_
 exact Vc.nil kG
 exact kf b36 (Xat (Xa7 ku))
 refine Xau (Xaf (Xac ?_))
 iterate 2 refine kO hT hC ?_
 exact Vc.nil kG
 exact kf b27 (Xat (Xa7 ku))
 refine Xaf (Xad ?_)
 obtain ⟨hq, h⟩ := Xar h
 refine Yht hT hC rfl rfl rfl rfl ⟨hq.1, hq.2.1, hq.2.2, by decide⟩ ?_
 refine kO hT hC ?_
 refine Vc.nil (Xax (Xad ?_))
 refine kO hT hC ?_
 refine Vc.nil ?_
 refine kL [3,7,50] [176,784] [_,_,_] [_,_] ?_
 refine kX h (fun v123 => ([(50, .sv (.int .i64 v123.1))], [(784, some (.ints .i64 v123.2))])) (fun v154 => ([(3, .any), (50, .any)], [(784, some (.ints .i64 v154)), (176, none)])) (kW hC []) (fun v123 s h => ?_) fun v154 h => ?_
 unfold Xky at h
 refine Xad ?_
 refine kO hT hC ?_
 refine Vc.nil (Xax ?_)
 refine kS h ?_ ?_ <;> intro b66 h
 refine kt b66 (Xah (Xaf (Xax (Xap (Xad ?_)))))
 iterate 2 refine kO hT hC ?_
 refine kN ?_
 refine kO hT hC ?_
 refine Vc.nil ?_
 refine kL [3,7,8,50,53] [176,784] [_,_,_,_,_] [_,_] ?_
 refine kX h (fun v164 => ([(53, .sv (.int .i64 v164.1))], [(784, some (.ints .i64 v164.2))])) (fun v174 => ([(8, .any), (53, .any)], [(784, some (.ints .i64 v174))])) (kW hC []) (fun v164 s h => ?_) fun v174 h => ?_
 unfold Xkz at h
 refine Xad ?_
 refine kO hT hC ?_
 refine Vc.nil (Xax ?_)
 refine kS h ?_ ?_ <;> intro b75 h
 refine kt b75 (Xah (Xaf (Xax (Xap (Xad ?_)))))
 iterate 2 refine kO hT hC ?_
 refine kN ?_
 refine kO hT hC ?_
 refine Vc.nil ?_
 refine kL [3,7,8,9,50,53,56] [176,784] [_,_,_,_,_,_,_] [_,_] ?_
 refine kX h (fun v177 => ([(56, .sv (.int .i64 v177.1))], [(784, some (.ints .i64 v177.2))])) (fun v180 => ([(9, .any), (56, .any)], [(784, some (.ints .i64 v180))])) (kW hC []) (fun v177 s h => ?_) fun v180 h => ?_
 unfold Xfv at h
 refine Xad ?_
 refine kO hT hC ?_
 refine Vc.nil (Xax ?_)
 refine kS h ?_ ?_ <;> intro b78 h
 refine kt b78 (Xah (Xaf (Xax (Xap (Xad ?_)))))
 iterate 2 refine kO hT hC ?_
 refine Vc.nil ?_
 refine Xkw hm ?_
 iterate 10 refine kO hT hC ?_
 iterate 2 refine kQ hT hC h fun h => ?_
 iterate 2 refine kO hT hC ?_
 refine kC hC [] Try.call166 h (fun _ => Xoe) fun q181 h => ?_
 iterate 5 refine kO hT hC ?_
 iterate 2 refine kQ hT hC h fun h => ?_
 iterate 2 refine kO hT hC ?_
 iterate 2 refine kQ hT hC h fun h => ?_
 refine kD (Xau (Xaf (Xac ?_)))
 iterate 2 refine kO hT hC ?_
 exact Vc.nil kG
 exact kf b78 (Xat (Xa7 ku))
 refine Xau (Xaf (Xac ?_))
 iterate 2 refine kO hT hC ?_
 exact Vc.nil kG
 exact kf b75 (Xat (Xa7 ku))
 refine Xau (Xaf (Xac ?_))
 iterate 2 refine kO hT hC ?_
 exact Vc.nil kG
 exact kf b66 (Xat (Xa7 ku))
 refine Xaf (Xad ?_)
 iterate 2 refine kO hT hC ?_
 refine Vc.nil (Xai ?_)
 obtain rfl := kj h
 exact Xgg (τ := ⟨[(2, .own 16)], [(16, some (.ints .i64 v154))]⟩) (kW hC [(16, 784)]) rfl ⟨rfl, trivial⟩
def Xwy (r : (List Int)) : AV := .own 16
def Xwx (r : (List Int)) : Xbb := [(16, .ints .i64 r)]
theorem Xy0 {p0 r} (h : Xla p0 = some r) : AC Try.prog 96 [.sv (.ints .i64 p0)] [] (Xwy r) (Xwx r) := by
 refine Xae hT Try.func96 rfl fun C hC => ?_
 unfold Xla at h
 refine Xad ?_
 refine kO hT hC ?_
 refine Vc.nil (Xax (Xad ?_))
 refine kO hT hC ?_
 refine kC hC [] Try.call52 h (fun _ => Xbd) fun q1 h => ?_
 refine kO hT hC ?_
 refine Vc.nil ?_
 refine kS h ?_ ?_ <;> intro b1 h
 refine kt b1 (Xad ?_)
 iterate 2 refine kO hT hC ?_
 refine Vc.nil (Xai (Xbx ?_))
 obtain rfl := kj h
 exact Xgg (τ := ⟨[(2, .own 16)], [(16, some (.ints .i64 ([] : List Int)))]⟩) (kW hC [(16, 96)]) rfl ⟨rfl, trivial⟩
 refine kf b1 (Xah (Xaf (Xad ?_)))
 refine kO hT hC ?_
 refine kC hC [(16, 128)] Try.call137 h (fun _ => Xso) fun q2 h => ?_
 refine kO hT hC ?_
 refine Vc.nil (Xai ?_)
 obtain rfl := kj h
 exact Xgg (τ := ⟨[(2, .own 16)], [(16, some (.ints .i64 q2))]⟩) (kW hC [(16, 128)]) rfl ⟨rfl, trivial⟩
def Xvb (r : Int) : AV := .sv (.int .i64 r)
def Xva (r : Int) : Xbb := []
theorem Xof {p0 r} (h : Xgj p0 = some r) : AC Try.prog 31 [.sv (.int .i64 p0)] [] (Xvb r) (Xva r) := by
 refine Xae hT Try.func31 rfl fun C hC => ?_
 unfold Xgj at h
 refine Xad ?_
 refine kO hT hC ?_
 refine Vc.nil (Xax (Xad ?_))
 refine kO hT hC ?_
 refine kC hC [] Try.call53 h (fun _ => Xaj) fun q1 h => ?_
 refine kO hT hC ?_
 refine Vc.nil ?_
 refine kS h ?_ ?_ <;> intro b1 h
 refine kt b1 (Xad ?_)
 refine kO hT hC ?_
 exact Vc.nil (Xai (Xbx kR))
 refine kf b1 (Xah (Xaf (Xad ?_)))
 iterate 2 refine kO hT hC ?_
 iterate 3 refine kQ hT hC h fun h => ?_
 refine kO hT hC ?_
 iterate 2 refine kQ hT hC h fun h => ?_
 refine kO hT hC ?_
 exact Vc.nil (Xai kR)
def Xvi (r : Int) : AV := .sv (.int .i64 r)
def Xvh (r : Int) : Xbb := []
theorem Xoj {p0 p1 r} (h : Xj1 p0 p1 = some r) : AC Try.prog 138 [.sv (.int .i64 p0), .sv (.int .i64 p1)] [] (Xvi r) (Xvh r) := by
 refine Xae hT Try.func138 rfl fun C hC => ?_
 unfold Xj1 at h
 refine Xad ?_
 refine kO hT hC ?_
 refine Vc.nil (Xax (Xad ?_))
 iterate 2 refine kO hT hC ?_
 refine Vc.nil ?_
 refine kS h ?_ ?_ <;> intro b1 h
 refine kt b1 (Xad ?_)
 iterate 3 refine kO hT hC ?_
 exact Vc.nil (Xai (Xbx kR))
 refine kf b1 (Xah (Xaf (Xad ?_)))
 iterate 2 refine kO hT hC ?_
 exact Vc.nil (Xai kR)
def Xo2 (r : Int) : AV := .sv (.int .i64 r)
def Xo1 (r : Int) : Xbb := []
theorem Xp4 {p0 p1 r} (h : Xek p0 p1 = some r) : AC Try.prog 97 [.sv (.int .i64 p0), .sv (.int .i64 p1)] [] (Xo2 r) (Xo1 r) := by
 refine Xae hT Try.func97 rfl fun C hC => ?_
 unfold Xek at h
 refine Xad ?_
 refine kO hT hC ?_
 refine Vc.nil (Xax ?_)
 refine kL [0,1] [] [_,_] [] ?_
 refine kA h (fun v1 => ([(13, .sv (.bool v1))], [])) (fun v1 h => ?_) fun v1 h => ?_
 refine Xac ?_
 refine kO hT hC ?_
 refine kC hC [] Try.call53 h (fun _ => Xaj) fun q2 h => ?_
 iterate 2 refine kO hT hC ?_
 refine kS h ?_ ?_ <;> intro b1 h
 refine kI hT hC (kn b1) ?_
 refine kE hC (kn b1) [] Try.call53 h (fun _ => Xaj) fun q3 h => ?_
 refine kI hT hC (kn b1) ?_
 refine kP hC false (kn b1) ?_
 exact Vc.nil kM
 iterate 3 refine kF hC (kn b1) ?_
 refine kP hC true (kn b1) ?_
 exact Vc.nil kM
 refine kS h ?_ ?_ <;> intro b2 h
 refine kt b2 (Xad ?_)
 refine kO hT hC ?_
 exact Vc.nil (Xai (Xbx kR))
 refine kf b2 (Xah (Xaf (Xad ?_)))
 refine kO hT hC ?_
 refine kC hC [] Try.call31 h (fun _ => Xof) fun q4 h => ?_
 refine kO hT hC ?_
 refine kN ?_
 refine kO hT hC ?_
 refine kC hC [] Try.call104 h (fun _ => Xm9) fun q5 h => ?_
 refine kO hT hC ?_
 refine kQ hT hC h fun h => ?_
 iterate 2 refine kO hT hC ?_
 refine kQ hT hC h fun h => ?_
 refine kO hT hC ?_
 refine kC hC [] Try.call138 h (fun _ => Xoj) fun q6 h => ?_
 refine kO hT hC ?_
 exact Vc.nil (Xai kR)
def Xtf (r : (List Int)) : AV := .own 16
def Xte (r : (List Int)) : Xbb := [(16, .ints .i64 r)]
theorem Xm7 {p0 r} (h : Xgp p0 = some r) : AC Try.prog 98 [.sv (.int .i64 p0)] [] (Xtf r) (Xte r) := by
 refine Xae hT Try.func98 rfl fun C hC => ?_
 unfold Xgp at h
 refine Xad ?_
 refine kO hT hC ?_
 refine kN ?_
 iterate 2 refine kO hT hC ?_
 refine Vc.nil (Xax (Xad ?_))
 refine kO hT hC ?_
 refine Vc.nil ?_
 refine kL [0,3,7] [96] [_,_,_] [_] ?_
 refine kX h (fun v7 => ([(7, .sv (.int .i64 v7.1))], [(96, some (.ints .i64 v7.2))])) (fun v14 => ([(0, .any), (7, .any)], [(96, some (.ints .i64 v14))])) (kW hC []) (fun v7 s h => ?_) fun v14 h => ?_
 unfold Xf8 at h
 refine Xad ?_
 refine kO hT hC ?_
 refine Vc.nil (Xax ?_)
 refine kS h ?_ ?_ <;> intro b9 h
 refine kt b9 (Xah (Xaf (Xax (Xap (Xad ?_)))))
 iterate 2 refine kO hT hC ?_
 refine kN ?_
 refine kO hT hC ?_
 refine Vc.nil ?_
 refine kL [0,3,4,7,10] [96] [_,_,_,_,_] [_] ?_
 refine kX h (fun v16 => ([(10, .sv (.int .i64 v16.1))], [(96, some (.ints .i64 v16.2))])) (fun v18 => ([(4, .any), (10, .any)], [(96, some (.ints .i64 v18))])) (kW hC []) (fun v16 s h => ?_) fun v18 h => ?_
 unfold Xja at h
 refine Xad ?_
 refine kO hT hC ?_
 refine Vc.nil (Xax ?_)
 refine kS h ?_ ?_ <;> intro b12 h
 refine kt b12 (Xah (Xaf (Xax (Xap (Xad ?_)))))
 iterate 2 refine kO hT hC ?_
 refine Vc.nil (Xac ?_)
 iterate 3 refine kO hT hC ?_
 refine kQ hT hC h fun h => ?_
 iterate 6 refine kO hT hC ?_
 refine kQ hT hC h fun h => ?_
 iterate 3 refine kO hT hC ?_
 refine kT hT hC h fun h => ?_
 refine kO hT hC ?_
 refine Vc.nil (Xau (Xaf (Xac ?_)))
 iterate 2 refine kO hT hC ?_
 refine Vc.nil ?_
 obtain rfl := kj h
 exact Yec (kW hC [(96, 432)])
 exact kf b12 (Xat (Xa7 ku))
 refine Xau (Xaf (Xac ?_))
 iterate 2 refine kO hT hC ?_
 exact Vc.nil kG
 exact kf b9 (Xat (Xa7 ku))
 refine Xaf (Xad ?_)
 iterate 2 refine kO hT hC ?_
 refine Vc.nil (Xai ?_)
 obtain rfl := kj h
 exact Xgg (τ := ⟨[(2, .own 16)], [(16, some (.ints .i64 v14))]⟩) (kW hC [(16, 96)]) rfl ⟨rfl, trivial⟩
def Xrv (r : (List Int)) : AV := .own 16
def Xru (r : (List Int)) : Xbb := [(16, .ints .i64 r)]
theorem Xmn {p0 r} (h : Xfc p0 = some r) : AC Try.prog 167 [.sv (.ints .i64 p0)] [] (Xrv r) (Xru r) := by
 refine Xae hT Try.func167 rfl fun C hC => ?_
 unfold Xfc at h
 refine Xad ?_
 refine kO hT hC ?_
 refine kN ?_
 iterate 2 refine kO hT hC ?_
 refine kT hT hC h fun h => ?_
 refine kO hT hC ?_
 refine Vc.nil (Xai ?_)
 obtain rfl := kj h
 exact Xgg (τ := ⟨[(2, .own 16)], [(16, some (.ints .i64 (([] : List Int) ++ p0)))]⟩) (kW hC [(16, 80)]) rfl ⟨rfl, trivial⟩
def Xuz (r : (Int × Int × Int × Int)) : AV := .agg [.sv (.int .i64 r.1), .sv (.int .i64 r.2.1), .sv (.int .i64 r.2.2.1), .sv (.int .i64 r.2.2.2)]
def Xuy (r : (Int × Int × Int × Int)) : Xbb := []
theorem Xoa {p0 p1 p2 p3 r} (h : Xhv p0 p1 p2 p3 = some r) : AC Try.prog 140 [.sv (.int .i64 p0), .sv (.int .i64 p1), .sv (.int .i64 p2), .sv (.int .i64 p3)] [] (Xuz r) (Xuy r) := by
 refine Xae hT Try.func140 rfl fun C hC => ?_
 unfold Xhv at h
 refine Xad ?_
 refine kO hT hC ?_
 refine kN ?_
 iterate 34 refine kO hT hC ?_
 exact Vc.nil (Xai kR)
def Xj3 (r : (List Int)) : AV := .own 16
def Xj2 (r : (List Int)) : Xbb := [(16, .ints .i64 r)]
theorem Xkg {p0 r} (h : Xci p0 = some r) : AC Try.prog 139 [.sv (.ints .i64 p0), .fn 140 []] [] (Xj3 r) (Xj2 r) := by
 refine Xae hT Try.func139 rfl fun C hC => ?_
 unfold Xci at h
 refine Xad ?_
 refine kO hT hC ?_
 refine kN ?_
 refine kO hT hC ?_
 refine kC hC [(16, 208)] Try.call167 h (fun _ => Xmn) fun q1 h => ?_
 refine kO hT hC ?_
 refine Vc.nil (Xax (Xad ?_))
 refine kO hT hC ?_
 refine Vc.nil ?_
 refine kL [1,5,6] [208] [_,_,_] [_] ?_
 refine kX h (fun v4 => ([(6, .sv (.int .i64 v4.1))], [(208, some (.ints .i64 v4.2))])) (fun v7 => ([(6, .any)], [(208, some (.ints .i64 v7))])) (kW hC []) (fun v4 s h => ?_) fun v7 h => ?_
 unfold Xfj at h
 refine Xax (Xad ?_)
 iterate 2 refine kO hT hC ?_
 refine Vc.nil ?_
 refine kS h ?_ ?_ <;> intro b3 h
 refine kt b3 (Xah (Xaf (Xax (Xap ?_))))
 refine Xgs hm ?_
 iterate 3 refine kO hT hC ?_
 iterate 2 refine kQ hT hC h fun h => ?_
 iterate 3 refine kO hT hC ?_
 iterate 2 refine kQ hT hC h fun h => ?_
 iterate 3 refine kO hT hC ?_
 iterate 2 refine kQ hT hC h fun h => ?_
 iterate 3 refine kO hT hC ?_
 iterate 2 refine kQ hT hC h fun h => ?_
 refine kC hC [] Try.call140 h (fun _ => Xoa) fun q8 h => ?_
 iterate 2 refine kO hT hC ?_
 refine kD ?_
 refine Xkw hm ?_
 iterate 4 refine kO hT hC ?_
 refine kQ hT hC h fun h => ?_
 refine Yjx hT hC rfl rfl rfl rfl rfl rfl rfl rfl rfl ?_
 obtain ⟨hq, h⟩ := Xar h
 refine Yh8 hT hC rfl rfl rfl rfl rfl rfl rfl rfl rfl ⟨⟨trivial, hq.1⟩, hq.2⟩ ?_
 refine kD (Xau (Xaf (Xac ?_)))
 iterate 3 refine kO hT hC ?_
 exact Vc.nil kG
 exact kf b3 (Xat (Xa7 ku))
 refine Xaf (Xax (Xad ?_))
 refine kO hT hC ?_
 refine Vc.nil ?_
 refine kL [1,5,46] [208] [_,_,_] [_] ?_
 refine kX h (fun v17 => ([(46, .sv (.int .i64 v17.1))], [(208, some (.ints .i64 v17.2))])) (fun v25 => ([(1, .any), (46, .any)], [(208, some (.ints .i64 v25))])) (kW hC []) (fun v17 s h => ?_) fun v25 h => ?_
 unfold Xeq at h
 refine Xad ?_
 refine kO hT hC ?_
 refine Vc.nil (Xax ?_)
 refine kS h ?_ ?_ <;> intro b12 h
 refine kt b12 (Xah (Xaf (Xax (Xap (Xad ?_)))))
 iterate 2 refine kO hT hC ?_
 refine Vc.nil ?_
 refine Xgs hm ?_
 iterate 3 refine kO hT hC ?_
 iterate 2 refine kQ hT hC h fun h => ?_
 iterate 3 refine kO hT hC ?_
 iterate 2 refine kQ hT hC h fun h => ?_
 iterate 3 refine kO hT hC ?_
 iterate 2 refine kQ hT hC h fun h => ?_
 iterate 3 refine kO hT hC ?_
 iterate 2 refine kQ hT hC h fun h => ?_
 refine kC hC [] Try.call140 h (fun _ => Xoa) fun q26 h => ?_
 iterate 2 refine kO hT hC ?_
 refine kD (Xad ?_)
 iterate 2 refine kO hT hC ?_
 refine Vc.nil ?_
 refine kL [1,5,8,46,70,71] [208] [_,_,_,_,_,_] [_] ?_
 refine kX h (fun v28 => ([(71, .sv (.int .i64 v28.1))], [(208, some (.ints .i64 v28.2))])) (fun v30 => ([(8, .any), (70, .any), (71, .any)], [(208, some (.ints .i64 v30))])) (kW hC []) (fun v28 s h => ?_) fun v30 h => ?_
 unfold Xer at h
 refine Xad ?_
 refine kO hT hC ?_
 refine Vc.nil (Xax ?_)
 refine kS h ?_ ?_ <;> intro b15 h
 refine kt b15 (Xah (Xaf (Xax (Xap (Xad ?_)))))
 refine kO hT hC ?_
 obtain ⟨hq, h⟩ := Xar h
 refine Yjy hT hC rfl rfl rfl rfl rfl rfl rfl hq ?_
 iterate 2 refine kO hT hC ?_
 refine Vc.nil (Xac ?_)
 iterate 6 refine kO hT hC ?_
 iterate 2 refine kQ hT hC h fun h => ?_
 refine Vc.nil (Xau (Xaf (Xac ?_)))
 iterate 2 refine kO hT hC ?_
 exact Vc.nil kG
 exact kf b15 (Xat (Xa7 ku))
 refine Xau (Xaf (Xac ?_))
 iterate 2 refine kO hT hC ?_
 exact Vc.nil kG
 exact kf b12 (Xat (Xa7 ku))
 refine Xaf (Xad ?_)
 iterate 2 refine kO hT hC ?_
 refine Vc.nil (Xai ?_)
 obtain rfl := kj h
 exact Xgg (τ := ⟨[(4, .own 16)], [(16, some (.ints .i64 v25))]⟩) (kW hC [(16, 208)]) rfl ⟨rfl, trivial⟩
def Xy2 (r : (List Int)) : AV := .own 16
def Xy1 (r : (List Int)) : Xbb := [(16, .ints .i64 r)]
theorem Yat {p0 r} (h : Xm4 p0 = some r) : AC Try.prog 99 [.sv (.ints .i64 p0)] [] (Xy2 r) (Xy1 r) := by
 refine Xae hT Try.func99 rfl fun C hC => ?_
 unfold Xm4 at h
 refine Xad ?_
 refine kO hT hC ?_
 refine Vc.nil (Xax (Xad ?_))
 refine kO hT hC ?_
 refine kC hC [] Try.call52 h (fun _ => Xbd) fun q1 h => ?_
 refine kO hT hC ?_
 refine Vc.nil ?_
 refine kS h ?_ ?_ <;> intro b1 h
 refine kt b1 (Xad ?_)
 iterate 2 refine kO hT hC ?_
 refine Vc.nil (Xai (Xbx ?_))
 obtain rfl := kj h
 exact Xgg (τ := ⟨[(2, .own 16)], [(16, some (.ints .i64 ([] : List Int)))]⟩) (kW hC [(16, 96)]) rfl ⟨rfl, trivial⟩
 refine kf b1 (Xah (Xaf (Xad ?_)))
 refine kO hT hC ?_
 refine kC hC [(16, 128)] Try.call139 h (fun _ => Xkg) fun q2 h => ?_
 refine kO hT hC ?_
 refine Vc.nil (Xai ?_)
 obtain rfl := kj h
 exact Xgg (τ := ⟨[(2, .own 16)], [(16, some (.ints .i64 q2))]⟩) (kW hC [(16, 128)]) rfl ⟨rfl, trivial⟩
def Xu3 (r : Int) : AV := .sv (.int .i64 r)
def Xu2 (r : Int) : Xbb := []
theorem Xoc {p0 r} (h : Xl0 p0 = some r) : AC Try.prog 168 [.sv (.int .i64 p0)] [] (Xu3 r) (Xu2 r) := by
 refine Xae hT Try.func168 rfl fun C hC => ?_
 unfold Xl0 at h
 refine Xad ?_
 refine kO hT hC ?_
 refine Vc.nil (Xax (Xad ?_))
 refine kO hT hC ?_
 refine kC hC [] Try.call53 h (fun _ => Xaj) fun q1 h => ?_
 refine kO hT hC ?_
 refine Vc.nil ?_
 refine kS h ?_ ?_ <;> intro b1 h
 refine kt b1 (Xad ?_)
 refine kO hT hC ?_
 exact Vc.nil (Xai (Xbx kR))
 refine kf b1 (Xah (Xaf (Xad ?_)))
 refine kO hT hC ?_
 iterate 2 refine kQ hT hC h fun h => ?_
 refine kO hT hC ?_
 iterate 2 refine kQ hT hC h fun h => ?_
 iterate 2 refine kO hT hC ?_
 refine Vc.nil (Xax (Xap ?_))
 refine kL [3,4] [] [_,_] [] ?_
 refine kA h (fun v2 => ([(14, .sv (.bool v2))], [])) (fun v2 h => ?_) fun v2 h => ?_
 refine Xac ?_
 iterate 3 refine kO hT hC ?_
 refine kS h ?_ ?_ <;> intro b2 h
 iterate 2 refine kI hT hC b2 ?_
 refine kP hC true b2 ?_
 refine kO hT hC ?_
 exact Vc.nil kM
 iterate 2 refine kF hC b2 ?_
 refine kP hC false b2 ?_
 refine kO hT hC ?_
 exact Vc.nil kM
 refine kS h ?_ ?_ <;> intro b3 h
 refine kt b3 (Xad ?_)
 refine kO hT hC ?_
 exact Vc.nil (Xai (Xwu (Xbx kR)))
 refine kf b3 ?_
 refine kL [3,4] [] [_,_] [] ?_
 refine kA h (fun v3 => ([(21, .sv (.bool v3)), (3, .any), (4, .any)], [])) (fun v3 h => ?_) fun v3 h => ?_
 refine Xac ?_
 iterate 3 refine kO hT hC ?_
 refine kS h ?_ ?_ <;> intro b4 h
 iterate 2 refine kI hT hC b4 ?_
 refine kP hC true b4 ?_
 refine kO hT hC ?_
 exact Vc.nil kM
 iterate 2 refine kF hC b4 ?_
 refine kP hC false b4 ?_
 refine kO hT hC ?_
 exact Vc.nil kM
 refine kS h ?_ ?_ <;> intro b5 h
 refine kt b5 (Xad ?_)
 refine kO hT hC ?_
 exact Vc.nil (Xai (Xwu (Xbx kR)))
 refine kf b5 (Xah (Xau (Xaf (Xad ?_))))
 refine kO hT hC ?_
 exact Vc.nil (Xai kR)
def Xtd (r : Int) : AV := .sv (.int .i64 r)
def Xtc (r : Int) : Xbb := []
theorem Xu7 {p0 p1 r} (h : Xiu p0 p1 = some r) : AC Try.prog 141 [.sv (.int .i64 p0), .sv (.int .i64 p1)] [] (Xtd r) (Xtc r) := by
 refine Xae hT Try.func141 rfl fun C hC => ?_
 unfold Xiu at h
 refine Xad ?_
 refine kO hT hC ?_
 refine Vc.nil (Xax ?_)
 refine kL [0,1] [] [_,_] [] ?_
 refine kA h (fun v1 => ([(13, .sv (.bool v1))], [])) (fun v1 h => ?_) fun v1 h => ?_
 refine Xac ?_
 refine kO hT hC ?_
 refine kC hC [] Try.call53 h (fun _ => Xaj) fun q2 h => ?_
 iterate 2 refine kO hT hC ?_
 refine kS h ?_ ?_ <;> intro b1 h
 refine kI hT hC (kn b1) ?_
 refine kE hC (kn b1) [] Try.call53 h (fun _ => Xaj) fun q3 h => ?_
 refine kI hT hC (kn b1) ?_
 refine kP hC false (kn b1) ?_
 exact Vc.nil kM
 iterate 3 refine kF hC (kn b1) ?_
 refine kP hC true (kn b1) ?_
 exact Vc.nil kM
 refine kS h ?_ ?_ <;> intro b2 h
 refine kt b2 (Xad ?_)
 refine kO hT hC ?_
 exact Vc.nil (Xai (Xbx kR))
 refine kf b2 (Xah (Xaf (Xad ?_)))
 iterate 9 refine kO hT hC ?_
 refine Vc.nil ?_
 refine Xgs hm ?_
 refine kO hT hC ?_
 refine kQ hT hC h fun h => ?_
 refine kO hT hC ?_
 refine kC hC [] Try.call168 h (fun _ => Xoc) fun q4 h => ?_
 iterate 2 refine kQ hT hC h fun h => ?_
 obtain ⟨hq, h⟩ := Xar h
 refine Yj0 hT hC rfl rfl rfl rfl rfl rfl hq ?_
 refine kO hT hC ?_
 exact kD (Xai kR)
def Xo6 (r : Int) : AV := .sv (.int .i64 r)
def Xo5 (r : Int) : Xbb := []
theorem Xqc {p0 p1 p2 r} (h : Xen p0 p1 p2 = some r) : AC Try.prog 100 [.sv (.int .i64 p0), .sv (.int .i64 p1), .sv (.int .i64 p2)] [] (Xo6 r) (Xo5 r) := by
 refine Xae hT Try.func100 rfl fun C hC => ?_
 unfold Xen at h
 refine Xad ?_
 refine kO hT hC ?_
 refine Vc.nil (Xax ?_)
 refine kL [0,1,2] [] [_,_,_] [] ?_
 refine kA h (fun v1 => ([(20, .sv (.bool v1))], [])) (fun v1 h => ?_) fun v1 h => ?_
 refine Xac ?_
 refine kO hT hC ?_
 refine kC hC [] Try.call53 h (fun _ => Xaj) fun q2 h => ?_
 iterate 2 refine kO hT hC ?_
 refine kS h ?_ ?_ <;> intro b1 h
 refine kI hT hC (kn b1) ?_
 refine kE hC (kn b1) [] Try.call53 h (fun _ => Xaj) fun q3 h => ?_
 refine kI hT hC (kn b1) ?_
 refine kP hC false (kn b1) ?_
 refine kO hT hC ?_
 refine kS h ?_ ?_ <;> intro b2 h
 refine kI hT hC (kn b2) ?_
 refine kE hC (kn b2) [] Try.call53 h (fun _ => Xaj) fun q4 h => ?_
 refine kI hT hC (kn b2) ?_
 refine kP hC false (kn b2) ?_
 exact Vc.nil kM
 iterate 3 refine kF hC (kn b2) ?_
 refine kP hC true (kn b2) ?_
 exact Vc.nil kM
 iterate 3 refine kF hC (kn b1) ?_
 refine kP hC true (kn b1) ?_
 refine kO hT hC ?_
 iterate 3 refine kF hC rfl ?_
 refine kO hT hC ?_
 exact Vc.nil kM
 refine kS h ?_ ?_ <;> intro b3 h
 refine kt b3 (Xad ?_)
 refine kO hT hC ?_
 exact Vc.nil (Xai (Xbx kR))
 refine kf b3 (Xah (Xaf (Xad ?_)))
 refine kO hT hC ?_
 refine kQ hT hC h fun h => ?_
 refine kO hT hC ?_
 refine kQ hT hC h fun h => ?_
 refine kO hT hC ?_
 refine kN ?_
 refine kO hT hC ?_
 refine kC hC [] Try.call104 h (fun _ => Xm9) fun q5 h => ?_
 iterate 2 refine kO hT hC ?_
 refine kC hC [] Try.call141 h (fun _ => Xu7) fun q6 h => ?_
 iterate 2 refine kO hT hC ?_
 refine kQ hT hC h fun h => ?_
 iterate 2 refine kO hT hC ?_
 refine kQ hT hC h fun h => ?_
 refine kO hT hC ?_
 refine kC hC [] Try.call138 h (fun _ => Xoj) fun q7 h => ?_
 refine kO hT hC ?_
 exact Vc.nil (Xai kR)
def Xro (r : ((List Int) × Bool)) : AV := .tup [.own 16, .sv (.bool r.2)]
def Xrn (r : ((List Int) × Bool)) : Xbb := [(16, .ints .i64 r.1)]
theorem Xmk {p0 p1 r} (h : Xd2 p0 p1 = some r) : AC Try.prog 56 [.sv (.ints .i64 p0), .agg [.sv (.bool p1.Key), .sv (.int .i64 p1.Qp), .sv (.bool p1.Large), .sv (.bool p1.Exact)]] [] (Xro r) (Xrn r) := by
 refine Xae hT Try.func56 rfl fun C hC => ?_
 unfold Xd2 at h
 refine Xad ?_
 iterate 3 refine kO hT hC ?_
 refine Vc.nil (Xax ?_)
 refine kL [0,3] [48] [_,_] [_] ?_
 refine kA h (fun v1 => ([(26, .sv (.bool v1))], [])) (fun v1 h => ?_) fun v1 h => ?_
 refine Xac ?_
 refine kO hT hC ?_
 refine kC hC [] Try.call52 h (fun _ => Xbd) fun q2 h => ?_
 iterate 2 refine kO hT hC ?_
 refine kS h ?_ ?_ <;> intro b1 h
 refine kI hT hC (kn b1) ?_
 refine kE hC (kn b1) [] Try.call27 h (fun _ => Xih) fun q3 h => ?_
 refine kI hT hC (kn b1) ?_
 refine kP hC false (kn b1) ?_
 exact Vc.nil kM
 iterate 3 refine kF hC (kn b1) ?_
 refine kP hC true (kn b1) ?_
 exact Vc.nil kM
 refine kS h ?_ ?_ <;> intro b2 h
 refine kt b2 (Xad ?_)
 iterate 3 refine kO hT hC ?_
 refine Vc.nil (Xai (Xbx ?_))
 obtain rfl := kj h
 exact Xgg (τ := ⟨[(4, .own 16), (5, .sv (.bool false))], [(16, some (.ints .i64 ([] : List Int)))]⟩) (kW hC [(16, 432)]) rfl ⟨rfl, trivial⟩
 refine kf b2 (Xah (Xaf (Xax (Xad ?_))))
 iterate 2 refine kO hT hC ?_
 refine Vc.nil ?_
 refine kS h ?_ ?_ <;> intro b3 h
 refine kt b3 (Xad ?_)
 refine kO hT hC ?_
 refine kC hC [(16, 496)] Try.call95 h (fun _ => Xjx) fun q4 h => ?_
 iterate 4 refine kO hT hC ?_
 refine Vc.nil (Xai (Xbx ?_))
 obtain rfl := kj h
 exact Xgg (τ := ⟨[(4, .own 16), (5, .sv (.bool q4.2))], [(16, some (.ints .i64 q4.1))]⟩) (kW hC [(16, 496)]) rfl ⟨rfl, trivial⟩
 refine kf b3 (Xah (Xaf (Xax (Xad ?_))))
 iterate 2 refine kO hT hC ?_
 refine Vc.nil ?_
 refine kS h ?_ ?_ <;> intro b4 h
 refine kt b4 (Xad ?_)
 refine kO hT hC ?_
 refine kC hC [(16, 592)] Try.call96 h (fun _ => Xy0) fun q5 h => ?_
 refine kO hT hC ?_
 refine Vc.nil (Xax (Xad ?_))
 iterate 3 refine kO hT hC ?_
 refine Vc.nil ?_
 refine kL [3,6,38,39,40] [48,592] [_,_,_,_,_] [_,_] ?_
 refine kX h (fun v8 => ([(40, .sv (.int .i64 v8.1))], [(592, some (.ints .i64 v8.2))])) (fun v11 => ([(3, .any), (38, .any), (39, .any), (40, .any)], [(592, some (.ints .i64 v11)), (48, none)])) (kW hC []) (fun v8 s h => ?_) fun v11 h => ?_
 unfold Xf6 at h
 refine Xad ?_
 refine kO hT hC ?_
 refine Vc.nil (Xax ?_)
 refine kS h ?_ ?_ <;> intro b7 h
 refine kt b7 (Xah (Xaf (Xax (Xap (Xad ?_)))))
 refine kO hT hC ?_
 iterate 2 refine kQ hT hC h fun h => ?_
 iterate 2 refine kO hT hC ?_
 refine Vc.nil (Xac ?_)
 iterate 5 refine kO hT hC ?_
 refine kC hC [] Try.call97 h (fun _ => Xp4) fun q12 h => ?_
 iterate 2 refine kQ hT hC h fun h => ?_
 refine Vc.nil (Xau (Xaf (Xac ?_)))
 iterate 2 refine kO hT hC ?_
 exact Vc.nil kG
 exact kf b7 (Xat (Xa7 ku))
 refine Xaf (Xad ?_)
 refine kO hT hC ?_
 refine kC hC [(16, 864)] Try.call95 h (fun _ => Xjx) fun q14 h => ?_
 iterate 4 refine kO hT hC ?_
 refine Vc.nil (Xai (Xbx ?_))
 obtain rfl := kj h
 exact Xgg (τ := ⟨[(4, .own 16), (5, .sv (.bool q14.2))], [(16, some (.ints .i64 q14.1))]⟩) (kW hC [(16, 864)]) rfl ⟨rfl, trivial⟩
 refine kf b4 (Xah (Xaf (Xad ?_)))
 iterate 2 refine kO hT hC ?_
 refine Vc.nil (Xax (Xad ?_))
 refine kO hT hC ?_
 refine Vc.nil ?_
 refine kL [0,3,9,58] [48,912] [_,_,_,_] [_,_] ?_
 refine kX h (fun v32 => ([(58, .sv (.int .i64 v32.1))], [(912, some (.ints .i64 v32.2))])) (fun v50 => ([(0, .any), (3, .any), (58, .any)], [(912, some (.ints .i64 v50)), (48, none)])) (kW hC []) (fun v32 s h => ?_) fun v50 h => ?_
 unfold Xhx at h
 refine Xad ?_
 refine kO hT hC ?_
 refine Vc.nil (Xax ?_)
 refine kS h ?_ ?_ <;> intro b22 h
 refine kt b22 (Xah (Xaf (Xax (Xap (Xad ?_)))))
 iterate 2 refine kO hT hC ?_
 refine kN ?_
 iterate 2 refine kO hT hC ?_
 refine Vc.nil (Xax (Xad ?_))
 refine kO hT hC ?_
 refine kC hC [(16, 1008)] Try.call98 h (fun _ => Xm7) fun q51 h => ?_
 iterate 2 refine kO hT hC ?_
 refine Vc.nil ?_
 refine kL [0,3,9,11,58,63,64,65] [48,912,976,1008] [_,_,_,_,_,_,_,_] [_,_,_,_] ?_
 refine kX h (fun v53 => ([(65, .sv (.int .i64 v53.1))], [(976, some (.ints .i64 v53.2))])) (fun v55 => ([(63, .any), (64, .any), (65, .any)], [(976, some (.ints .i64 v55)), (1008, none)])) (kW hC []) (fun v53 s h => ?_) fun v55 h => ?_
 unfold Xdk at h
 refine Xad ?_
 refine kO hT hC ?_
 refine Vc.nil (Xax ?_)
 refine kS h ?_ ?_ <;> intro b25 h
 refine kt b25 (Xah (Xaf (Xax (Xap (Xad ?_)))))
 iterate 2 refine kQ hT hC h fun h => ?_
 refine kO hT hC ?_
 refine Vc.nil (Xac ?_)
 iterate 3 refine kO hT hC ?_
 refine kQ hT hC h fun h => ?_
 iterate 2 refine kO hT hC ?_
 refine kT hT hC h fun h => ?_
 refine kO hT hC ?_
 refine Vc.nil (Xau (Xaf (Xac ?_)))
 iterate 2 refine kO hT hC ?_
 refine Vc.nil ?_
 obtain rfl := kj h
 exact Yec (kW hC [(976, 1200)])
 exact kf b25 (Xat (Xa7 ku))
 refine Xaf (Xad ?_)
 refine kO hT hC ?_
 refine kC hC [(16, 1248)] Try.call99 h (fun _ => Yat) fun q57 h => ?_
 refine kO hT hC ?_
 refine Vc.nil (Xax (Xad ?_))
 iterate 3 refine kO hT hC ?_
 refine Vc.nil ?_
 refine kL [0,3,9,14,58,79,80,81] [48,912,1248] [_,_,_,_,_,_,_,_] [_,_,_] ?_
 refine kX h (fun v60 => ([(81, .sv (.int .i64 v60.1))], [(1248, some (.ints .i64 v60.2))])) (fun v63 => ([(79, .any), (80, .any), (81, .any)], [(1248, some (.ints .i64 v63))])) (kW hC []) (fun v60 s h => ?_) fun v63 h => ?_
 unfold Xe7 at h
 refine Xad ?_
 refine kO hT hC ?_
 refine Vc.nil (Xax ?_)
 refine kS h ?_ ?_ <;> intro b28 h
 refine kt b28 (Xah (Xaf (Xax (Xap (Xad ?_)))))
 refine kO hT hC ?_
 iterate 2 refine kQ hT hC h fun h => ?_
 iterate 2 refine kO hT hC ?_
 refine Vc.nil (Xac ?_)
 iterate 6 refine kO hT hC ?_
 refine kC hC [] Try.call100 h (fun _ => Xqc) fun q64 h => ?_
 iterate 2 refine kQ hT hC h fun h => ?_
 refine Vc.nil (Xau (Xaf (Xac ?_)))
 iterate 2 refine kO hT hC ?_
 exact Vc.nil kG
 exact kf b28 (Xat (Xa7 ku))
 refine Xaf (Xad ?_)
 refine kO hT hC ?_
 refine kC hC [(16, 1552)] Try.call95 h (fun _ => Xjx) fun q66 h => ?_
 iterate 5 refine kO hT hC ?_
 refine Vc.nil (Xac ?_)
 iterate 2 refine kO hT hC ?_
 refine kT hT hC h fun h => ?_
 refine kO hT hC ?_
 refine Vc.nil (Xau (Xaf (Xac ?_)))
 iterate 2 refine kO hT hC ?_
 refine Vc.nil ?_
 obtain rfl := kj h
 exact Yec (kW hC [(912, 1632)])
 exact kf b22 (Xat (Xa7 ku))
 refine Xaf (Xad ?_)
 iterate 3 refine kO hT hC ?_
 refine Vc.nil (Xai ?_)
 obtain rfl := kj h
 exact Xgg (τ := ⟨[(4, .own 16), (5, .sv (.bool true))], [(16, some (.ints .i64 v50))]⟩) (kW hC [(16, 912)]) rfl ⟨rfl, trivial⟩
def Xp7 (r : (List Int)) : AV := .own 16
def Xp6 (r : (List Int)) : Xbb := [(16, .ints .i64 r)]
theorem Xdm {p0 p1 p2 r} (h : Xbi p0 p1 p2 = some r) : AC Try.prog 60 [.agg [.sv (.int .i64 p0.Wide), .sv (.int .i64 p0.High), .sv (.str p0.Dots)], .sv (.int .i64 p1), .sv (.int .i64 p2)] [] (Xp7 r) (Xp6 r) := by
 refine Xae hT Try.func60 rfl fun C hC => ?_
 unfold Xbi at h
 refine Xad ?_
 iterate 2 refine kO hT hC ?_
 refine kN ?_
 obtain ⟨hq, h⟩ := Xar h
 refine Yht hT hC rfl rfl rfl rfl ⟨hq.1, hq.2.1, hq.2.2, by decide⟩ ?_
 refine kO hT hC ?_
 refine Vc.nil (Xax (Xad ?_))
 refine kO hT hC ?_
 refine Vc.nil ?_
 refine kL [1,2,3,7,11] [48,160] [_,_,_,_,_] [_,_] ?_
 refine kX h (fun v10 => ([(11, .sv (.int .i64 v10.1))], [(160, some (.ints .i64 v10.2))])) (fun v20 => ([(1, .any), (2, .any), (3, .any), (11, .any)], [(160, some (.ints .i64 v20)), (48, none)])) (kW hC []) (fun v10 s h => ?_) fun v20 h => ?_
 unfold Xc5 at h
 refine Xad ?_
 refine kO hT hC ?_
 refine Vc.nil (Xax ?_)
 refine kS h ?_ ?_ <;> intro b9 h
 refine kt b9 (Xah (Xaf (Xax (Xap (Xad ?_)))))
 iterate 2 refine kO hT hC ?_
 refine kN ?_
 refine kO hT hC ?_
 refine Vc.nil ?_
 refine kL [1,2,3,7,8,11,14] [48,160] [_,_,_,_,_,_,_] [_,_] ?_
 refine kX h (fun v23 => ([(14, .sv (.int .i64 v23.1))], [(160, some (.ints .i64 v23.2))])) (fun v26 => ([(8, .any), (14, .any)], [(160, some (.ints .i64 v26))])) (kW hC []) (fun v23 s h => ?_) fun v26 h => ?_
 unfold Xc6 at h
 refine Xad ?_
 refine kO hT hC ?_
 refine Vc.nil (Xax ?_)
 refine kS h ?_ ?_ <;> intro b12 h
 refine kt b12 (Xah (Xaf (Xax (Xap (Xad ?_)))))
 iterate 2 refine kO hT hC ?_
 refine Vc.nil (Xac ?_)
 iterate 8 refine kO hT hC ?_
 refine kC hC [] Try.call92 h (fun _ => Xg1) fun q27 h => ?_
 refine kO hT hC ?_
 refine kT hT hC h fun h => ?_
 refine kO hT hC ?_
 refine Vc.nil (Xau (Xaf (Xac ?_)))
 iterate 2 refine kO hT hC ?_
 refine Vc.nil ?_
 obtain rfl := kj h
 exact Yec (kW hC [(160, 432)])
 exact kf b12 (Xat (Xa7 ku))
 refine Xau (Xaf (Xac ?_))
 iterate 2 refine kO hT hC ?_
 exact Vc.nil kG
 exact kf b9 (Xat (Xa7 ku))
 refine Xaf (Xad ?_)
 iterate 2 refine kO hT hC ?_
 refine Vc.nil (Xai ?_)
 obtain rfl := kj h
 exact Xgg (τ := ⟨[(6, .own 16)], [(16, some (.ints .i64 v20))]⟩) (kW hC [(16, 160)]) rfl ⟨rfl, trivial⟩
def Xp9 (r : Bool) : AV := .sv (.bool r)
def Xp8 (r : Bool) : Xbb := []
theorem Xrp {p0 p1 r} (h : Xfs p0 p1 = some r) : AC Try.prog 75 [.agg [.sv (.int .i64 p0.Wide), .sv (.int .i64 p0.High), .sv (.str p0.Dots)], .agg [.sv (.int .i64 p1.Left), .sv (.int .i64 p1.Top), .sv (.int .i64 p1.Wide), .sv (.int .i64 p1.High)]] [] (Xp9 r) (Xp8 r) := by
 refine Xae hT Try.func75 rfl fun C hC => ?_
 unfold Xfs at h
 refine Xad ?_
 iterate 3 refine kO hT hC ?_
 refine Vc.nil ?_
 refine kL [2,3,4] [32,48] [_,_,_] [_,_] ?_
 refine kA h (fun v1 => ([(4, .sv (.bool v1)), (2, .any), (3, .any)], [(32, none), (48, none)])) (fun v1 h => ?_) fun v1 h => ?_
 refine Xac ?_
 iterate 4 refine kO hT hC ?_
 refine kC hC [] Try.call53 h (fun _ => Xaj) fun q2 h => ?_
 refine kO hT hC ?_
 refine kS h ?_ ?_ <;> intro b1 h
 iterate 4 refine kI hT hC b1 ?_
 refine kE hC b1 [] Try.call53 h (fun _ => Xaj) fun q3 h => ?_
 refine kP hC true b1 ?_
 refine kO hT hC ?_
 refine kS h ?_ ?_ <;> intro b2 h
 iterate 7 refine kI hT hC b2 ?_
 refine kE hC b2 [] Try.call53 h (fun _ => Xaj) fun q4 h => ?_
 refine kP hC true b2 ?_
 refine kO hT hC ?_
 refine kS h ?_ ?_ <;> intro b3 h
 iterate 7 refine kI hT hC b3 ?_
 refine kE hC b3 [] Try.call53 h (fun _ => Xaj) fun q5 h => ?_
 refine kP hC true b3 ?_
 refine kO hT hC ?_
 exact Vc.nil kM
 iterate 8 refine kF hC b3 ?_
 refine kP hC false b3 ?_
 refine kO hT hC ?_
 exact Vc.nil kM
 iterate 8 refine kF hC b2 ?_
 refine kP hC false b2 ?_
 refine kO hT hC ?_
 iterate 8 refine kF hC rfl ?_
 iterate 2 refine kO hT hC ?_
 exact Vc.nil kM
 iterate 5 refine kF hC b1 ?_
 refine kP hC false b1 ?_
 refine kO hT hC ?_
 iterate 8 refine kF hC rfl ?_
 iterate 2 refine kO hT hC ?_
 iterate 8 refine kF hC rfl ?_
 iterate 2 refine kO hT hC ?_
 exact Vc.nil kM
 exact Xai kR
def Xux (r : (Int × Bool)) : AV := .tup [.sv (.int .i64 r.1), .sv (.bool r.2)]
def Xuw (r : (Int × Bool)) : Xbb := []
theorem Xwz {p0 r} (h : Xjv p0 = some r) : AC Try.prog 151 [.sv (.int .i64 p0)] [] (Xux r) (Xuw r) := by
 refine Xae hT Try.func151 rfl fun C hC => ?_
 unfold Xjv at h
 refine Xad ?_
 iterate 2 refine kO hT hC ?_
 refine Vc.nil (Xax (Xap (Xad ?_)))
 refine kO hT hC ?_
 refine kC hC [] Try.call53 h (fun _ => Xaj) fun q1 h => ?_
 iterate 2 refine kO hT hC ?_
 refine Vc.nil ?_
 refine kS h ?_ ?_ <;> intro b1 h
 refine kt b1 (Xad ?_)
 iterate 2 refine kO hT hC ?_
 exact Vc.nil (Xai (Xwu (Xbx kR)))
 refine kf b1 (Xad ?_)
 iterate 3 refine kO hT hC ?_
 refine Vc.nil ?_
 refine kS h ?_ ?_ <;> intro b2 h
 refine kt b2 (Xad ?_)
 iterate 5 refine kO hT hC ?_
 exact Vc.nil (Xai (Xwu (Xbx kR)))
 refine kf b2 (Xah (Xau (Xaf (Xad ?_))))
 iterate 4 refine kO hT hC ?_
 exact Vc.nil (Xai kR)
def Xw5 (r : (ByteArray × Bool)) : AV := .tup [.sv (.str r.1), .sv (.bool r.2)]
def Xw4 (r : (ByteArray × Bool)) : Xbb := []
theorem Xy3 {p0 r} (h : Xlb p0 = some r) : AC Try.prog 117 [.sv (.int .i64 p0)] [] (Xw5 r) (Xw4 r) := by
 refine Xae hT Try.func117 rfl fun C hC => ?_
 unfold Xlb at h
 refine Xad ?_
 iterate 2 refine kO hT hC ?_
 refine kN ?_
 refine kO hT hC ?_
 refine kC hC [] Try.call151 h (fun _ => Xwz) fun q1 h => ?_
 iterate 5 refine kO hT hC ?_
 refine Vc.nil (Xax (Xad ?_))
 iterate 2 refine kO hT hC ?_
 refine Vc.nil ?_
 refine kS h ?_ ?_ <;> intro b1 h
 refine kt b1 (Xad ?_)
 iterate 2 refine kO hT hC ?_
 exact Vc.nil (Xai (Xbx kR))
 refine kf b1 (Xah (Xaf (Xad ?_)))
 refine kO hT hC ?_
 refine kC hC [] Try.call135 h (fun _ => Xqg) fun q2 h => ?_
 iterate 4 refine kO hT hC ?_
 exact Vc.nil (Xai kR)
def Xu6 (r : Int) : AV := .sv (.int .i64 r)
def Xu5 (r : Int) : Xbb := []
theorem Xod {p0 r} (h : Xhy p0 = some r) : AC Try.prog 105 [.sv (.int .i64 p0)] [] (Xu6 r) (Xu5 r) := by
 refine Xae hT Try.func105 rfl fun C hC => ?_
 unfold Xhy at h
 refine Xad ?_
 refine kO hT hC ?_
 refine kN ?_
 refine kO hT hC ?_
 refine kC hC [] Try.call117 h (fun _ => Xy3) fun q1 h => ?_
 iterate 5 refine kO hT hC ?_
 refine kN ?_
 iterate 3 refine kO hT hC ?_
 exact Vc.nil (Xai kR)
def Xri (r : (Int × Int × Int)) : AV := .tup [.sv (.int .i64 r.1), .sv (.int .i64 r.2.1), .sv (.int .i64 r.2.2)]
def Xrh (r : (Int × Int × Int)) : Xbb := []
theorem Xsx {p0 p1 p2 p3 p4 r} (h : Xch p0 p1 p2 p3 p4 = some r) : AC Try.prog 61 [.agg [.sv (.int .i64 p0.Wide), .sv (.int .i64 p0.High), .sv (.str p0.Dots)], .sv (.ints .i64 p1), .sv (.int .i64 p2), .sv (.int .i64 p3), .sv (.int .i64 p4)] [] (Xri r) (Xrh r) := by
 refine Xae hT Try.func61 rfl fun C hC => ?_
 unfold Xch at h
 refine Xad ?_
 iterate 4 refine kO hT hC ?_
 refine Vc.nil (Xax ?_)
 refine kL [1,2,3,4,5] [80] [_,_,_,_,_] [_] ?_
 refine kA h (fun v1 => ([(38, .sv (.bool v1))], [])) (fun v1 h => ?_) fun v1 h => ?_
 refine Xac ?_
 refine kO hT hC ?_
 refine kC hC [] Try.call50 h (fun _ => Xe8) fun q2 h => ?_
 iterate 2 refine kO hT hC ?_
 refine kS h ?_ ?_ <;> intro b1 h
 refine kI hT hC (kn b1) ?_
 refine kE hC (kn b1) [] Try.call52 h (fun _ => Xbd) fun q3 h => ?_
 refine kI hT hC (kn b1) ?_
 refine kP hC false (kn b1) ?_
 refine kO hT hC ?_
 refine kS h ?_ ?_ <;> intro b2 h
 refine kI hT hC (kn b2) ?_
 refine kE hC (kn b2) [] Try.call53 h (fun _ => Xaj) fun q4 h => ?_
 refine kI hT hC (kn b2) ?_
 refine kP hC false (kn b2) ?_
 refine kO hT hC ?_
 refine kS h ?_ ?_ <;> intro b3 h
 iterate 3 refine kI hT hC (kn b3) ?_
 refine kE hC (kn b3) [] Try.call51 h (fun _ => Xdh) fun q5 h => ?_
 refine kI hT hC (kn b3) ?_
 refine kP hC false (kn b3) ?_
 exact Vc.nil kM
 iterate 5 refine kF hC (kn b3) ?_
 refine kP hC true (kn b3) ?_
 exact Vc.nil kM
 iterate 3 refine kF hC (kn b2) ?_
 refine kP hC true (kn b2) ?_
 refine kO hT hC ?_
 iterate 5 refine kF hC rfl ?_
 refine kO hT hC ?_
 exact Vc.nil kM
 iterate 3 refine kF hC (kn b1) ?_
 refine kP hC true (kn b1) ?_
 refine kO hT hC ?_
 iterate 3 refine kF hC rfl ?_
 iterate 2 refine kO hT hC ?_
 iterate 5 refine kF hC rfl ?_
 refine kO hT hC ?_
 exact Vc.nil kM
 refine kS h ?_ ?_ <;> intro b4 h
 refine kt b4 (Xad ?_)
 iterate 3 refine kO hT hC ?_
 exact Vc.nil (Xai (Xbx kR))
 refine kf b4 (Xah (Xaf (Xad ?_)))
 iterate 3 refine kO hT hC ?_
 refine Vc.nil (Xax (Xad ?_))
 iterate 3 refine kO hT hC ?_
 refine Vc.nil ?_
 refine kL [1,2,3,4,5,13,14,15,16] [80] [_,_,_,_,_,_,_,_,_] [_] ?_
 refine kX h (fun v33 => ([(13, .sv (.int .i64 v33.1)), (14, .sv (.int .i64 v33.2.1)), (15, .sv (.int .i64 v33.2.2.1)), (16, .sv (.int .i64 v33.2.2.2))], [])) (fun v61 => ([(13, .sv (.int .i64 v61.1)), (14, .sv (.int .i64 v61.2.1)), (15, .sv (.int .i64 v61.2.2)), (1, .any), (2, .any), (3, .any), (4, .any), (5, .any), (16, .any)], [(80, none)])) (kW hC []) (fun v33 s h => ?_) fun v61 h => ?_
 unfold Xdi at h
 refine Xax (Xad ?_)
 iterate 3 refine kO hT hC ?_
 refine Vc.nil ?_
 refine kS h ?_ ?_ <;> intro b31 h
 refine kt b31 (Xah (Xaf (Xax (Xap (Xad ?_)))))
 iterate 3 refine kO hT hC ?_
 refine Vc.nil ?_
 refine kL [1,2,3,4,5,13,14,15,16,17] [80] [_,_,_,_,_,_,_,_,_,_] [_] ?_
 refine kX h (fun v70 => ([(13, .sv (.int .i64 v70.1)), (14, .sv (.int .i64 v70.2.1)), (15, .sv (.int .i64 v70.2.2.1)), (17, .sv (.int .i64 v70.2.2.2))], [])) (fun v79 => ([(13, .sv (.int .i64 v79.1)), (14, .sv (.int .i64 v79.2.1)), (15, .sv (.int .i64 v79.2.2)), (17, .any)], [])) (kW hC []) (fun v70 s h => ?_) fun v79 h => ?_
 unfold Xbz at h
 refine Xax (Xad ?_)
 iterate 3 refine kO hT hC ?_
 refine Vc.nil ?_
 refine kS h ?_ ?_ <;> intro b40 h
 refine kt b40 (Xah (Xaf ?_))
 refine kL [1,2,3,4,5,13,14,15,16,17] [80] [_,_,_,_,_,_,_,_,_,_] [_] ?_
 refine kA h (fun v80 => ([(13, .sv (.int .i64 v80.1)), (14, .sv (.int .i64 v80.2.1)), (15, .sv (.int .i64 v80.2.2))], [])) (fun v80 h => ?_) fun v80 h => ?_
 refine Xap (Xax (Xad ?_))
 iterate 8 refine kO hT hC ?_
 refine kC hC [] Try.call75 h (fun _ => Xrp) fun q81 h => ?_
 refine kO hT hC ?_
 refine Vc.nil ?_
 refine kS h ?_ ?_ <;> intro b41 h
 exact kt b41 (Xat (Xa7 (Ye3 kM)))
 refine kf b41 (Xah (Xaf (Xad ?_)))
 iterate 8 refine kO hT hC ?_
 refine kC hC [(16, 1136)] Try.call60 h (fun _ => Xdm) fun q82 h => ?_
 refine kC hC [] Try.call59 h (fun _ => Xpb) fun q83 h => ?_
 refine kO hT hC ?_
 refine kC hC [] Try.call105 h (fun _ => Xod) fun q84 h => ?_
 iterate 2 refine kO hT hC ?_
 refine kC hC [] Try.call105 h (fun _ => Xod) fun q85 h => ?_
 iterate 2 refine kO hT hC ?_
 refine Vc.nil ?_
 refine kL [1,2,3,4,5,13,14,15,16,17,18] [80] [_,_,_,_,_,_,_,_,_,_,_] [_] ?_
 refine kA h (fun v86 => ([(85, .sv (.bool v86))], [])) (fun v86 h => ?_) fun v86 h => ?_
 refine Xac ?_
 iterate 3 refine kO hT hC ?_
 refine kS h ?_ ?_ <;> intro b42 h
 iterate 3 refine kF hC b42 ?_
 refine kP hC true b42 ?_
 exact Vc.nil kM
 iterate 3 refine kI hT hC b42 ?_
 refine kP hC false b42 ?_
 exact Vc.nil kM
 refine kS h ?_ ?_ <;> intro b43 h
 refine kt b43 (Xac ?_)
 iterate 6 refine kO hT hC ?_
 exact Vc.nil (Xau kM)
 exact kf b43 (Xah (Xau kM))
 refine Xac ?_
 iterate 3 refine kO hT hC ?_
 exact Vc.nil kG
 exact kf b40 (Xat (Xa7 ku))
 refine Xau (Xaf (Xac ?_))
 iterate 3 refine kO hT hC ?_
 exact Vc.nil kG
 exact kf b31 (Xat (Xa7 ku))
 refine Xaf (Xad ?_)
 iterate 6 refine kO hT hC ?_
 exact Vc.nil (Xai kR)
def Xqk (r : Bool) : AV := .sv (.bool r)
def Xqj (r : Bool) : Xbb := []
theorem Xh2 {p0 r} (h : Xdd p0 = some r) : AC Try.prog 65 [.sv (.ints .i64 p0)] [] (Xqk r) (Xqj r) := by
 refine Xae hT Try.func65 rfl fun C hC => ?_
 unfold Xdd at h
 refine Xad ?_
 refine kO hT hC ?_
 refine kN ?_
 refine kO hT hC ?_
 refine kC hC [] Try.call52 h (fun _ => Xbd) fun q1 h => ?_
 refine kO hT hC ?_
 exact Vc.nil (Xai kR)
def Xrt (r : Bool) : AV := .sv (.bool r)
def Xrs (r : Bool) : Xbb := []
theorem Xml {p0 r} (h : Xe9 p0 = some r) : AC Try.prog 15 [.agg [.sv (.int .i64 p0.Kind), .sv (.int .i64 p0.Mode), .sv (.int .i64 p0.Dx), .sv (.int .i64 p0.Dy), .sv (.ints .i64 p0.Levels)]] [] (Xrt r) (Xrs r) := by
 refine Xae hT Try.func15 rfl fun C hC => ?_
 unfold Xe9 at h
 refine Xad ?_
 iterate 2 refine kO hT hC ?_
 refine Vc.nil (Xax (Xad ?_))
 iterate 2 refine kO hT hC ?_
 refine Vc.nil (Xap (Xad ?_))
 iterate 2 refine kO hT hC ?_
 refine Vc.nil ?_
 refine kS h ?_ ?_ <;> intro b1 h
 refine kt b1 ?_
 refine kL [1,2] [16] [_,_] [_] ?_
 refine kA h (fun v1 => ([(2, .sv (.bool v1)), (1, .any)], [(16, none)])) (fun v1 h => ?_) fun v1 h => ?_
 refine Xac ?_
 iterate 4 refine kO hT hC ?_
 refine kS h ?_ ?_ <;> intro b2 h
 iterate 3 refine kI hT hC b2 ?_
 refine kP hC true b2 ?_
 refine kO hT hC ?_
 refine kS h ?_ ?_ <;> intro b3 h
 iterate 3 refine kI hT hC b3 ?_
 refine kP hC true b3 ?_
 refine kO hT hC ?_
 refine kS h ?_ ?_ <;> intro b4 h
 iterate 4 refine kI hT hC b4 ?_
 refine kP hC true b4 ?_
 refine kO hT hC ?_
 exact Vc.nil kM
 iterate 4 refine kF hC b4 ?_
 refine kP hC false b4 ?_
 refine kO hT hC ?_
 exact Vc.nil kM
 iterate 3 refine kF hC b3 ?_
 refine kP hC false b3 ?_
 refine kO hT hC ?_
 iterate 4 refine kF hC rfl ?_
 iterate 2 refine kO hT hC ?_
 exact Vc.nil kM
 iterate 3 refine kF hC b2 ?_
 refine kP hC false b2 ?_
 refine kO hT hC ?_
 iterate 3 refine kF hC rfl ?_
 iterate 2 refine kO hT hC ?_
 iterate 4 refine kF hC rfl ?_
 iterate 2 refine kO hT hC ?_
 exact Vc.nil kM
 exact Xai (Xwu (Xbx kR))
 refine kf b1 (Xad ?_)
 iterate 2 refine kO hT hC ?_
 refine Vc.nil ?_
 refine kS h ?_ ?_ <;> intro b5 h
 refine kt b5 ?_
 refine kL [1,2] [16] [_,_] [_] ?_
 refine kA h (fun v2 => ([(2, .sv (.bool v2)), (1, .any)], [(16, none)])) (fun v2 h => ?_) fun v2 h => ?_
 refine Xac ?_
 iterate 4 refine kO hT hC ?_
 refine kS h ?_ ?_ <;> intro b6 h
 iterate 2 refine kI hT hC b6 ?_
 refine kE hC b6 [] Try.call53 h (fun _ => Xaj) fun q3 h => ?_
 refine kP hC true b6 ?_
 refine kO hT hC ?_
 refine kS h ?_ ?_ <;> intro b7 h
 iterate 2 refine kI hT hC b7 ?_
 refine kE hC b7 [] Try.call53 h (fun _ => Xaj) fun q4 h => ?_
 refine kP hC true b7 ?_
 refine kO hT hC ?_
 refine kS h ?_ ?_ <;> intro b8 h
 iterate 2 refine kI hT hC b8 ?_
 refine kE hC b8 [] Try.call65 h (fun _ => Xh2) fun q5 h => ?_
 refine kP hC true b8 ?_
 refine kO hT hC ?_
 exact Vc.nil kM
 iterate 3 refine kF hC b8 ?_
 refine kP hC false b8 ?_
 refine kO hT hC ?_
 exact Vc.nil kM
 iterate 3 refine kF hC b7 ?_
 refine kP hC false b7 ?_
 refine kO hT hC ?_
 iterate 3 refine kF hC rfl ?_
 iterate 2 refine kO hT hC ?_
 exact Vc.nil kM
 iterate 3 refine kF hC b6 ?_
 refine kP hC false b6 ?_
 refine kO hT hC ?_
 iterate 3 refine kF hC rfl ?_
 iterate 2 refine kO hT hC ?_
 iterate 3 refine kF hC rfl ?_
 iterate 2 refine kO hT hC ?_
 exact Vc.nil kM
 exact Xai (Xwu (Xbx kR))
 refine kf b5 (Xad ?_)
 iterate 2 refine kO hT hC ?_
 refine Vc.nil ?_
 refine kS h ?_ ?_ <;> intro b9 h
 refine kt b9 ?_
 refine kL [1,2] [16] [_,_] [_] ?_
 refine kA h (fun v6 => ([(2, .sv (.bool v6)), (1, .any)], [(16, none)])) (fun v6 h => ?_) fun v6 h => ?_
 refine Xac ?_
 iterate 2 refine kO hT hC ?_
 refine kC hC [] Try.call53 h (fun _ => Xaj) fun q7 h => ?_
 refine kO hT hC ?_
 refine kS h ?_ ?_ <;> intro b10 h
 iterate 3 refine kI hT hC b10 ?_
 refine kP hC true b10 ?_
 refine kO hT hC ?_
 refine kS h ?_ ?_ <;> intro b11 h
 iterate 3 refine kI hT hC b11 ?_
 refine kP hC true b11 ?_
 refine kO hT hC ?_
 refine kS h ?_ ?_ <;> intro b12 h
 iterate 2 refine kI hT hC b12 ?_
 refine kE hC b12 [] Try.call65 h (fun _ => Xh2) fun q8 h => ?_
 refine kP hC true b12 ?_
 refine kO hT hC ?_
 exact Vc.nil kM
 iterate 3 refine kF hC b12 ?_
 refine kP hC false b12 ?_
 refine kO hT hC ?_
 exact Vc.nil kM
 iterate 3 refine kF hC b11 ?_
 refine kP hC false b11 ?_
 refine kO hT hC ?_
 iterate 3 refine kF hC rfl ?_
 iterate 2 refine kO hT hC ?_
 exact Vc.nil kM
 iterate 3 refine kF hC b10 ?_
 refine kP hC false b10 ?_
 refine kO hT hC ?_
 iterate 3 refine kF hC rfl ?_
 iterate 2 refine kO hT hC ?_
 iterate 3 refine kF hC rfl ?_
 iterate 2 refine kO hT hC ?_
 exact Vc.nil kM
 exact Xai (Xwu (Xbx kR))
 refine kf b9 (Xah (Xau (Xaf (Xad ?_))))
 refine kO hT hC ?_
 exact Vc.nil (Xai kR)
def Xpa (r : Bool) : AV := .sv (.bool r)
def Xo9 (r : Bool) : Xbb := []
theorem Xqf {p0 p1 r} (h : Xeo p0 p1 = some r) : AC Try.prog 62 [.agg [.sv (.int .i64 p0.Kind), .sv (.int .i64 p0.Mode), .sv (.int .i64 p0.Dx), .sv (.int .i64 p0.Dy), .sv (.ints .i64 p0.Levels)], .agg [.sv (.bool p1.Key), .sv (.int .i64 p1.Qp), .sv (.bool p1.Large), .sv (.bool p1.Exact)]] [] (Xpa r) (Xo9 r) := by
 refine Xae hT Try.func62 rfl fun C hC => ?_
 unfold Xeo at h
 refine Xad ?_
 iterate 3 refine kO hT hC ?_
 refine Vc.nil ?_
 refine kL [2,3,4] [32,48] [_,_,_] [_,_] ?_
 refine kA h (fun v1 => ([(4, .sv (.bool v1)), (2, .any), (3, .any)], [(32, none), (48, none)])) (fun v1 h => ?_) fun v1 h => ?_
 refine Xac ?_
 iterate 4 refine kO hT hC ?_
 refine kS h ?_ ?_ <;> intro b1 h
 iterate 3 refine kI hT hC (kn b1) ?_
 refine kP hC false (kn b1) ?_
 refine kO hT hC ?_
 exact Vc.nil kM
 iterate 3 refine kF hC (kn b1) ?_
 refine kP hC true (kn b1) ?_
 refine kO hT hC ?_
 exact Vc.nil kM
 exact Xai kR
def Xqi (r : ((List Int) × Bool)) : AV := .tup [.own 16, .sv (.bool r.2)]
def Xqh (r : ((List Int) × Bool)) : Xbb := [(16, .ints .i64 r.1)]
theorem Xh1 {p0 p1 r} (h : Xdc p0 p1 = some r) : AC Try.prog 106 [.sv (.int .i64 p0), .sv (.ints .i64 p1)] [] (Xqi r) (Xqh r) := by
 refine Xae hT Try.func106 rfl fun C hC => ?_
 unfold Xdc at h
 refine Xad ?_
 iterate 2 refine kO hT hC ?_
 refine Vc.nil (Xax ?_)
 refine kL [0,1] [] [_,_] [] ?_
 refine kA h (fun v1 => ([(22, .sv (.bool v1))], [])) (fun v1 h => ?_) fun v1 h => ?_
 refine Xac ?_
 iterate 3 refine kO hT hC ?_
 refine kS h ?_ ?_ <;> intro b1 h
 iterate 2 refine kI hT hC b1 ?_
 refine kP hC true b1 ?_
 refine kO hT hC ?_
 refine kS h ?_ ?_ <;> intro b2 h
 iterate 6 refine kF hC b2 ?_
 refine kP hC true b2 ?_
 exact Vc.nil kM
 iterate 6 refine kI hT hC b2 ?_
 refine kP hC false b2 ?_
 exact Vc.nil kM
 iterate 2 refine kF hC b1 ?_
 refine kP hC false b1 ?_
 refine kO hT hC ?_
 iterate 6 refine kI hT hC rfl ?_
 refine kO hT hC ?_
 exact Vc.nil kM
 refine kS h ?_ ?_ <;> intro b3 h
 refine kt b3 (Xad ?_)
 iterate 3 refine kO hT hC ?_
 refine Vc.nil (Xai (Xbx ?_))
 obtain rfl := kj h
 exact Xgg (τ := ⟨[(4, .own 16), (5, .sv (.bool false))], [(16, some (.ints .i64 ([] : List Int)))]⟩) (kW hC [(16, 368)]) rfl ⟨rfl, trivial⟩
 refine kf b3 (Xah (Xaf (Xad ?_)))
 iterate 2 refine kO hT hC ?_
 obtain ⟨hq, h⟩ := Xar h
 refine Yht hT hC rfl rfl rfl rfl ⟨hq.1, hq.2.1, hq.2.2, by decide⟩ ?_
 refine kO hT hC ?_
 refine Vc.nil (Xax (Xad ?_))
 refine kO hT hC ?_
 refine kC hC [(16, 448)] Try.call136 h (fun _ => Xld) fun q2 h => ?_
 iterate 2 refine kO hT hC ?_
 refine Vc.nil ?_
 refine kL [1,6,28,29,30] [416,448] [_,_,_,_,_] [_,_] ?_
 refine kX h (fun v4 => ([(30, .sv (.int .i64 v4.1))], [(416, some (.ints .i64 v4.2))])) (fun v6 => ([(1, .any), (28, .any), (29, .any), (30, .any)], [(416, some (.ints .i64 v6)), (448, none)])) (kW hC []) (fun v4 s h => ?_) fun v6 h => ?_
 unfold Xfa at h
 refine Xad ?_
 refine kO hT hC ?_
 refine Vc.nil (Xax ?_)
 refine kS h ?_ ?_ <;> intro b6 h
 refine kt b6 (Xah (Xaf (Xax (Xap (Xad ?_)))))
 refine kO hT hC ?_
 iterate 2 refine kQ hT hC h fun h => ?_
 iterate 2 refine kO hT hC ?_
 refine Vc.nil (Xac ?_)
 iterate 4 refine kO hT hC ?_
 refine kQ hT hC h fun h => ?_
 refine kO hT hC ?_
 iterate 2 refine kQ hT hC h fun h => ?_
 refine Vc.nil (Xau (Xaf (Xac ?_)))
 iterate 2 refine kO hT hC ?_
 exact Vc.nil kG
 exact kf b6 (Xat (Xa7 ku))
 refine Xaf (Xad ?_)
 iterate 3 refine kO hT hC ?_
 refine Vc.nil (Xai ?_)
 obtain rfl := kj h
 exact Xgg (τ := ⟨[(4, .own 16), (5, .sv (.bool true))], [(16, some (.ints .i64 v6))]⟩) (kW hC [(16, 416)]) rfl ⟨rfl, trivial⟩
def Xp3 (r : Int) : AV := .sv (.int .i64 r)
def Xp2 (r : Int) : Xbb := []
theorem Xrm {p0 p1 r} (h : Xfr p0 p1 = some r) : AC Try.prog 107 [.sv (.int .i64 p0), .sv (.int .i64 p1)] [] (Xp3 r) (Xp2 r) := by
 refine Xae hT Try.func107 rfl fun C hC => ?_
 unfold Xfr at h
 refine Xad ?_
 refine kO hT hC ?_
 refine Vc.nil (Xax (Xad ?_))
 refine kO hT hC ?_
 refine kC hC [] Try.call53 h (fun _ => Xaj) fun q1 h => ?_
 refine kO hT hC ?_
 refine Vc.nil ?_
 refine kS h ?_ ?_ <;> intro b1 h
 refine kt b1 (Xad ?_)
 refine kO hT hC ?_
 exact Vc.nil (Xai (Xbx kR))
 refine kf b1 (Xah (Xaf (Xad ?_)))
 iterate 2 refine kO hT hC ?_
 refine kC hC [] Try.call31 h (fun _ => Xof) fun q2 h => ?_
 iterate 2 refine kO hT hC ?_
 exact Vc.nil (Xai kR)
def Xxb (r : Int) : AV := .sv (.int .i64 r)
def Xxa (r : Int) : Xbb := []
theorem Xl1 {p0 p1 r} (h : Xjr p0 p1 = some r) : AC Try.prog 145 [.sv (.int .i64 p0), .sv (.int .i64 p1)] [] (Xxb r) (Xxa r) := by
 refine Xae hT Try.func145 rfl fun C hC => ?_
 unfold Xjr at h
 refine Xad ?_
 refine kO hT hC ?_
 refine kN ?_
 iterate 2 refine kO hT hC ?_
 refine kQ hT hC h fun h => ?_
 refine kO hT hC ?_
 refine Vc.nil ?_
 refine kL [0,1,5] [] [_,_,_] [] ?_
 refine kA h (fun v1 => ([(5, .sv (.int .i64 v1)), (0, .any), (1, .any)], [])) (fun v1 h => ?_) fun v1 h => ?_
 refine Xad ?_
 iterate 2 refine kO hT hC ?_
 refine kQ hT hC h fun h => ?_
 refine kO hT hC ?_
 refine Vc.nil ?_
 refine kS h ?_ ?_ <;> intro b1 h
 refine kt b1 (Xac ?_)
 iterate 3 refine kO hT hC ?_
 exact Vc.nil kM
 exact kf b1 (Xah kM)
 refine Xad ?_
 iterate 2 refine kO hT hC ?_
 exact Vc.nil (Xai kR)
def Xth (r : ((List Int) × (List Int))) : AV := .own 0
def Xtg (r : ((List Int) × (List Int))) : Xbb := [(0, .ints .i64 r.2)]
theorem Xm8 {p0 r} (h : Xgq p0 = some r) : AC Try.prog 142 [.own 0] [(0, .ints .i64 p0)] (Xth r) (Xtg r) := by
 refine Xae hT Try.func142 rfl fun C hC => ?_
 unfold Xgq at h
 refine Xad ?_
 refine kO hT hC ?_
 refine Vc.nil (Xax (Xad ?_))
 iterate 3 refine kO hT hC ?_
 refine Vc.nil ?_
 refine kL [0,5,6,7] [0] [_,_,_,_] [_] ?_
 refine kX h (fun v3 => ([(7, .sv (.int .i64 v3.1))], [(0, some (.ints .i64 v3.2))])) (fun v6 => ([(5, .any), (6, .any), (7, .any)], [(0, some (.ints .i64 v6))])) (kW hC []) (fun v3 s h => ?_) fun v6 h => ?_
 unfold Xj0 at h
 refine Xad ?_
 refine kO hT hC ?_
 refine Vc.nil (Xax ?_)
 refine kS h ?_ ?_ <;> intro b3 h
 refine kt b3 (Xah (Xaf (Xax (Xap (Xad ?_)))))
 refine kO hT hC ?_
 iterate 2 refine kQ hT hC h fun h => ?_
 iterate 2 refine kO hT hC ?_
 refine Vc.nil (Xac ?_)
 iterate 4 refine kO hT hC ?_
 refine kC hC [] Try.call145 h (fun _ => Xl1) fun q7 h => ?_
 iterate 2 refine kQ hT hC h fun h => ?_
 refine Vc.nil (Xau (Xaf (Xac ?_)))
 iterate 2 refine kO hT hC ?_
 exact Vc.nil kG
 exact kf b3 (Xat (Xa7 ku))
 refine Xaf (Xad ?_)
 iterate 2 refine kO hT hC ?_
 refine Vc.nil (Xai ?_)
 obtain rfl := kj h
 exact Xgg (Xjn.refl _) rfl ⟨rfl, trivial⟩
def Xp0 (r : (List Int)) : AV := .own 16
def Xpz (r : (List Int)) : Xbb := [(16, .ints .i64 r)]
theorem Xrj {p0 r} (h : Xfq p0 = some r) : AC Try.prog 108 [.sv (.ints .i64 p0)] [] (Xp0 r) (Xpz r) := by
 refine Xae hT Try.func108 rfl fun C hC => ?_
 unfold Xfq at h
 refine Xad ?_
 refine kO hT hC ?_
 refine Vc.nil (Xax (Xad ?_))
 refine kO hT hC ?_
 refine kC hC [] Try.call52 h (fun _ => Xbd) fun q1 h => ?_
 refine kO hT hC ?_
 refine Vc.nil ?_
 refine kS h ?_ ?_ <;> intro b1 h
 refine kt b1 (Xad ?_)
 iterate 2 refine kO hT hC ?_
 refine Vc.nil (Xai (Xbx ?_))
 obtain rfl := kj h
 exact Xgg (τ := ⟨[(2, .own 16)], [(16, some (.ints .i64 ([] : List Int)))]⟩) (kW hC [(16, 96)]) rfl ⟨rfl, trivial⟩
 refine kf b1 (Xah (Xaf (Xad ?_)))
 refine kO hT hC ?_
 refine kC hC [(16, 128)] Try.call137 h (fun _ => Xso) fun q2 h => ?_
 refine kC hC [(0, 128)] Try.call142 h (fun _ => Xm8) fun q3 h => ?_
 refine kO hT hC ?_
 refine Vc.nil (Xai ?_)
 obtain rfl := kj h
 exact Xgg (τ := ⟨[(2, .own 16)], [(16, some (.ints .i64 q3.2))]⟩) (kW hC [(16, 128)]) rfl ⟨rfl, trivial⟩
def Xs9 (r : Int) : AV := .sv (.int .i64 r)
def Xs8 (r : Int) : Xbb := []
theorem Xu4 {p0 p1 r} (h : Xit p0 p1 = some r) : AC Try.prog 143 [.sv (.int .i64 p0), .sv (.int .i64 p1)] [] (Xs9 r) (Xs8 r) := by
 refine Xae hT Try.func143 rfl fun C hC => ?_
 unfold Xit at h
 refine Xad ?_
 refine kO hT hC ?_
 refine Vc.nil (Xax ?_)
 refine kL [0,1] [] [_,_] [] ?_
 refine kA h (fun v1 => ([(13, .sv (.bool v1))], [])) (fun v1 h => ?_) fun v1 h => ?_
 refine Xac ?_
 refine kO hT hC ?_
 refine kC hC [] Try.call53 h (fun _ => Xaj) fun q2 h => ?_
 iterate 2 refine kO hT hC ?_
 refine kS h ?_ ?_ <;> intro b1 h
 refine kI hT hC (kn b1) ?_
 refine kE hC (kn b1) [] Try.call53 h (fun _ => Xaj) fun q3 h => ?_
 refine kI hT hC (kn b1) ?_
 refine kP hC false (kn b1) ?_
 exact Vc.nil kM
 iterate 3 refine kF hC (kn b1) ?_
 refine kP hC true (kn b1) ?_
 exact Vc.nil kM
 refine kS h ?_ ?_ <;> intro b2 h
 refine kt b2 (Xad ?_)
 refine kO hT hC ?_
 exact Vc.nil (Xai (Xbx kR))
 refine kf b2 (Xah (Xaf (Xad ?_)))
 iterate 9 refine kO hT hC ?_
 refine Vc.nil ?_
 refine Xgs hm ?_
 refine kO hT hC ?_
 refine kQ hT hC h fun h => ?_
 refine kO hT hC ?_
 refine kC hC [] Try.call168 h (fun _ => Xoc) fun q4 h => ?_
 iterate 2 refine kQ hT hC h fun h => ?_
 obtain ⟨hq, h⟩ := Xar h
 refine Yj0 hT hC rfl rfl rfl rfl rfl rfl hq ?_
 refine kO hT hC ?_
 iterate 2 refine kQ hT hC h fun h => ?_
 refine kO hT hC ?_
 exact kD (Xai kR)
def Xqb (r : Int) : AV := .sv (.int .i64 r)
def Xqa (r : Int) : Xbb := []
theorem Xrq {p0 p1 p2 r} (h : Xft p0 p1 p2 = some r) : AC Try.prog 109 [.sv (.int .i64 p0), .sv (.int .i64 p1), .sv (.int .i64 p2)] [] (Xqb r) (Xqa r) := by
 refine Xae hT Try.func109 rfl fun C hC => ?_
 unfold Xft at h
 refine Xad ?_
 refine kO hT hC ?_
 refine Vc.nil (Xax (Xad ?_))
 refine kO hT hC ?_
 refine kC hC [] Try.call53 h (fun _ => Xaj) fun q1 h => ?_
 refine kO hT hC ?_
 refine Vc.nil ?_
 refine kS h ?_ ?_ <;> intro b1 h
 refine kt b1 (Xad ?_)
 refine kO hT hC ?_
 exact Vc.nil (Xai (Xbx kR))
 refine kf b1 (Xah (Xaf (Xad ?_)))
 iterate 3 refine kO hT hC ?_
 refine kC hC [] Try.call143 h (fun _ => Xu4) fun q2 h => ?_
 iterate 2 refine kO hT hC ?_
 exact Vc.nil (Xai kR)
def Xo0 (r : (Int × Int × Int × Int)) : AV := .agg [.sv (.int .i64 r.1), .sv (.int .i64 r.2.1), .sv (.int .i64 r.2.2.1), .sv (.int .i64 r.2.2.2)]
def Xoz (r : (Int × Int × Int × Int)) : Xbb := []
theorem Xkj {p0 p1 p2 p3 r} (h : Xcp p0 p1 p2 p3 = some r) : AC Try.prog 144 [.sv (.int .i64 p0), .sv (.int .i64 p1), .sv (.int .i64 p2), .sv (.int .i64 p3)] [] (Xo0 r) (Xoz r) := by
 refine Xae hT Try.func144 rfl fun C hC => ?_
 unfold Xcp at h
 refine Xad ?_
 refine kO hT hC ?_
 refine kN ?_
 iterate 7 refine kO hT hC ?_
 refine kC hC [] Try.call145 h (fun _ => Xl1) fun q1 h => ?_
 iterate 4 refine kO hT hC ?_
 refine kC hC [] Try.call145 h (fun _ => Xl1) fun q2 h => ?_
 iterate 5 refine kO hT hC ?_
 refine kN ?_
 iterate 14 refine kO hT hC ?_
 exact Vc.nil (Xai kR)
def Xh5 (r : (List Int)) : AV := .own 16
def Xh4 (r : (List Int)) : Xbb := [(16, .ints .i64 r)]
theorem Xiw {p0 r} (h : Xbt p0 = some r) : AC Try.prog 139 [.sv (.ints .i64 p0), .fn 144 []] [] (Xh5 r) (Xh4 r) := by
 refine Xae hT Try.func139 rfl fun C hC => ?_
 unfold Xbt at h
 refine Xad ?_
 refine kO hT hC ?_
 refine kN ?_
 refine kO hT hC ?_
 refine kC hC [(16, 208)] Try.call167 h (fun _ => Xmn) fun q1 h => ?_
 refine kO hT hC ?_
 refine Vc.nil (Xax (Xad ?_))
 refine kO hT hC ?_
 refine Vc.nil ?_
 refine kL [1,5,6] [208] [_,_,_] [_] ?_
 refine kX h (fun v4 => ([(6, .sv (.int .i64 v4.1))], [(208, some (.ints .i64 v4.2))])) (fun v7 => ([(6, .any)], [(208, some (.ints .i64 v7))])) (kW hC []) (fun v4 s h => ?_) fun v7 h => ?_
 unfold Xdw at h
 refine Xax (Xad ?_)
 iterate 2 refine kO hT hC ?_
 refine Vc.nil ?_
 refine kS h ?_ ?_ <;> intro b3 h
 refine kt b3 (Xah (Xaf (Xax (Xap ?_))))
 refine Xgs hm ?_
 iterate 3 refine kO hT hC ?_
 iterate 2 refine kQ hT hC h fun h => ?_
 iterate 3 refine kO hT hC ?_
 iterate 2 refine kQ hT hC h fun h => ?_
 iterate 3 refine kO hT hC ?_
 iterate 2 refine kQ hT hC h fun h => ?_
 iterate 3 refine kO hT hC ?_
 iterate 2 refine kQ hT hC h fun h => ?_
 refine kC hC [] Try.call144 h (fun _ => Xkj) fun q8 h => ?_
 iterate 2 refine kO hT hC ?_
 refine kD ?_
 refine Xkw hm ?_
 iterate 4 refine kO hT hC ?_
 refine kQ hT hC h fun h => ?_
 refine Yjx hT hC rfl rfl rfl rfl rfl rfl rfl rfl rfl ?_
 obtain ⟨hq, h⟩ := Xar h
 refine Yh8 hT hC rfl rfl rfl rfl rfl rfl rfl rfl rfl ⟨⟨trivial, hq.1⟩, hq.2⟩ ?_
 refine kD (Xau (Xaf (Xac ?_)))
 iterate 3 refine kO hT hC ?_
 exact Vc.nil kG
 exact kf b3 (Xat (Xa7 ku))
 refine Xaf (Xax (Xad ?_))
 refine kO hT hC ?_
 refine Vc.nil ?_
 refine kL [1,5,46] [208] [_,_,_] [_] ?_
 refine kX h (fun v17 => ([(46, .sv (.int .i64 v17.1))], [(208, some (.ints .i64 v17.2))])) (fun v25 => ([(1, .any), (46, .any)], [(208, some (.ints .i64 v25))])) (kW hC []) (fun v17 s h => ?_) fun v25 h => ?_
 unfold Xdn at h
 refine Xad ?_
 refine kO hT hC ?_
 refine Vc.nil (Xax ?_)
 refine kS h ?_ ?_ <;> intro b12 h
 refine kt b12 (Xah (Xaf (Xax (Xap (Xad ?_)))))
 iterate 2 refine kO hT hC ?_
 refine Vc.nil ?_
 refine Xgs hm ?_
 iterate 3 refine kO hT hC ?_
 iterate 2 refine kQ hT hC h fun h => ?_
 iterate 3 refine kO hT hC ?_
 iterate 2 refine kQ hT hC h fun h => ?_
 iterate 3 refine kO hT hC ?_
 iterate 2 refine kQ hT hC h fun h => ?_
 iterate 3 refine kO hT hC ?_
 iterate 2 refine kQ hT hC h fun h => ?_
 refine kC hC [] Try.call144 h (fun _ => Xkj) fun q26 h => ?_
 iterate 2 refine kO hT hC ?_
 refine kD (Xad ?_)
 iterate 2 refine kO hT hC ?_
 refine Vc.nil ?_
 refine kL [1,5,8,46,70,71] [208] [_,_,_,_,_,_] [_] ?_
 refine kX h (fun v28 => ([(71, .sv (.int .i64 v28.1))], [(208, some (.ints .i64 v28.2))])) (fun v30 => ([(8, .any), (70, .any), (71, .any)], [(208, some (.ints .i64 v30))])) (kW hC []) (fun v28 s h => ?_) fun v30 h => ?_
 unfold Xdo at h
 refine Xad ?_
 refine kO hT hC ?_
 refine Vc.nil (Xax ?_)
 refine kS h ?_ ?_ <;> intro b15 h
 refine kt b15 (Xah (Xaf (Xax (Xap (Xad ?_)))))
 refine kO hT hC ?_
 obtain ⟨hq, h⟩ := Xar h
 refine Yjy hT hC rfl rfl rfl rfl rfl rfl rfl hq ?_
 iterate 2 refine kO hT hC ?_
 refine Vc.nil (Xac ?_)
 iterate 6 refine kO hT hC ?_
 iterate 2 refine kQ hT hC h fun h => ?_
 refine Vc.nil (Xau (Xaf (Xac ?_)))
 iterate 2 refine kO hT hC ?_
 exact Vc.nil kG
 exact kf b15 (Xat (Xa7 ku))
 refine Xau (Xaf (Xac ?_))
 iterate 2 refine kO hT hC ?_
 exact Vc.nil kG
 exact kf b12 (Xat (Xa7 ku))
 refine Xaf (Xad ?_)
 iterate 2 refine kO hT hC ?_
 refine Vc.nil (Xai ?_)
 obtain rfl := kj h
 exact Xgg (τ := ⟨[(4, .own 16)], [(16, some (.ints .i64 v25))]⟩) (kW hC [(16, 208)]) rfl ⟨rfl, trivial⟩
def Xrl (r : (List Int)) : AV := .own 16
def Xrk (r : (List Int)) : Xbb := [(16, .ints .i64 r)]
theorem Xs3 {p0 r} (h : Xg0 p0 = some r) : AC Try.prog 110 [.sv (.ints .i64 p0)] [] (Xrl r) (Xrk r) := by
 refine Xae hT Try.func110 rfl fun C hC => ?_
 unfold Xg0 at h
 refine Xad ?_
 refine kO hT hC ?_
 refine Vc.nil (Xax (Xad ?_))
 refine kO hT hC ?_
 refine kC hC [] Try.call52 h (fun _ => Xbd) fun q1 h => ?_
 refine kO hT hC ?_
 refine Vc.nil ?_
 refine kS h ?_ ?_ <;> intro b1 h
 refine kt b1 (Xad ?_)
 iterate 2 refine kO hT hC ?_
 refine Vc.nil (Xai (Xbx ?_))
 obtain rfl := kj h
 exact Xgg (τ := ⟨[(2, .own 16)], [(16, some (.ints .i64 ([] : List Int)))]⟩) (kW hC [(16, 96)]) rfl ⟨rfl, trivial⟩
 refine kf b1 (Xah (Xaf (Xad ?_)))
 refine kO hT hC ?_
 refine kC hC [(16, 128)] Try.call139 h (fun _ => Xiw) fun q2 h => ?_
 refine kC hC [(0, 128)] Try.call142 h (fun _ => Xm8) fun q3 h => ?_
 refine kO hT hC ?_
 refine Vc.nil (Xai ?_)
 obtain rfl := kj h
 exact Xgg (τ := ⟨[(2, .own 16)], [(16, some (.ints .i64 q3.2))]⟩) (kW hC [(16, 128)]) rfl ⟨rfl, trivial⟩
def Xo4 (r : ((List Int) × Bool)) : AV := .tup [.own 16, .sv (.bool r.2)]
def Xo3 (r : ((List Int) × Bool)) : Xbb := [(16, .ints .i64 r.1)]
theorem Xp5 {p0 p1 r} (h : Xel p0 p1 = some r) : AC Try.prog 63 [.sv (.ints .i64 p0), .agg [.sv (.bool p1.Key), .sv (.int .i64 p1.Qp), .sv (.bool p1.Large), .sv (.bool p1.Exact)]] [] (Xo4 r) (Xo3 r) := by
 refine Xae hT Try.func63 rfl fun C hC => ?_
 unfold Xel at h
 refine Xad ?_
 iterate 3 refine kO hT hC ?_
 refine Vc.nil (Xax ?_)
 refine kL [0,3] [48] [_,_] [_] ?_
 refine kA h (fun v1 => ([(26, .sv (.bool v1))], [])) (fun v1 h => ?_) fun v1 h => ?_
 refine Xac ?_
 refine kO hT hC ?_
 refine kC hC [] Try.call65 h (fun _ => Xh2) fun q2 h => ?_
 iterate 2 refine kO hT hC ?_
 refine kS h ?_ ?_ <;> intro b1 h
 refine kI hT hC (kn b1) ?_
 refine kE hC (kn b1) [] Try.call27 h (fun _ => Xih) fun q3 h => ?_
 refine kI hT hC (kn b1) ?_
 refine kP hC false (kn b1) ?_
 exact Vc.nil kM
 iterate 3 refine kF hC (kn b1) ?_
 refine kP hC true (kn b1) ?_
 exact Vc.nil kM
 refine kS h ?_ ?_ <;> intro b2 h
 refine kt b2 (Xad ?_)
 iterate 3 refine kO hT hC ?_
 refine Vc.nil (Xai (Xbx ?_))
 obtain rfl := kj h
 exact Xgg (τ := ⟨[(4, .own 16), (5, .sv (.bool false))], [(16, some (.ints .i64 ([] : List Int)))]⟩) (kW hC [(16, 432)]) rfl ⟨rfl, trivial⟩
 refine kf b2 (Xah (Xaf (Xax (Xad ?_))))
 iterate 2 refine kO hT hC ?_
 refine Vc.nil ?_
 refine kS h ?_ ?_ <;> intro b3 h
 refine kt b3 (Xad ?_)
 refine kO hT hC ?_
 refine kC hC [(16, 496)] Try.call106 h (fun _ => Xh1) fun q4 h => ?_
 iterate 4 refine kO hT hC ?_
 refine Vc.nil (Xai (Xbx ?_))
 obtain rfl := kj h
 exact Xgg (τ := ⟨[(4, .own 16), (5, .sv (.bool q4.2))], [(16, some (.ints .i64 q4.1))]⟩) (kW hC [(16, 496)]) rfl ⟨rfl, trivial⟩
 refine kf b3 (Xah (Xaf (Xax (Xad ?_))))
 iterate 2 refine kO hT hC ?_
 refine Vc.nil ?_
 refine kS h ?_ ?_ <;> intro b4 h
 refine kt b4 (Xad ?_)
 refine kO hT hC ?_
 refine kC hC [(16, 608)] Try.call106 h (fun _ => Xh1) fun q5 h => ?_
 iterate 5 refine kO hT hC ?_
 refine Vc.nil (Xax (Xad ?_))
 iterate 3 refine kO hT hC ?_
 refine Vc.nil ?_
 refine kL [3,6,41,42,43] [48,608] [_,_,_,_,_] [_,_] ?_
 refine kX h (fun v8 => ([(43, .sv (.int .i64 v8.1))], [(608, some (.ints .i64 v8.2))])) (fun v11 => ([(3, .any), (41, .any), (42, .any), (43, .any)], [(608, some (.ints .i64 v11)), (48, none)])) (kW hC []) (fun v8 s h => ?_) fun v11 h => ?_
 unfold Xc4 at h
 refine Xad ?_
 refine kO hT hC ?_
 refine Vc.nil (Xax ?_)
 refine kS h ?_ ?_ <;> intro b7 h
 refine kt b7 (Xah (Xaf (Xax (Xap (Xad ?_)))))
 refine kO hT hC ?_
 iterate 2 refine kQ hT hC h fun h => ?_
 iterate 2 refine kO hT hC ?_
 refine Vc.nil (Xac ?_)
 iterate 5 refine kO hT hC ?_
 refine kC hC [] Try.call107 h (fun _ => Xrm) fun q12 h => ?_
 iterate 2 refine kQ hT hC h fun h => ?_
 refine Vc.nil (Xau (Xaf (Xac ?_)))
 iterate 2 refine kO hT hC ?_
 exact Vc.nil kG
 exact kf b7 (Xat (Xa7 ku))
 refine Xaf (Xad ?_)
 refine kO hT hC ?_
 refine kC hC [(16, 912)] Try.call108 h (fun _ => Xrj) fun q14 h => ?_
 iterate 2 refine kO hT hC ?_
 refine Vc.nil (Xai (Xbx ?_))
 obtain rfl := kj h
 exact Xgg (τ := ⟨[(4, .own 16), (5, .sv (.bool true))], [(16, some (.ints .i64 q14))]⟩) (kW hC [(16, 912)]) rfl ⟨rfl, trivial⟩
 refine kf b4 (Xah (Xaf (Xad ?_)))
 obtain ⟨hq, h⟩ := Xar h
 refine Yht hT hC rfl rfl rfl rfl ⟨hq.1, hq.2.1, hq.2.2, by decide⟩ ?_
 refine kO hT hC ?_
 refine Vc.nil (Xax (Xad ?_))
 refine kO hT hC ?_
 refine Vc.nil ?_
 refine kL [0,3,10,59] [48,928] [_,_,_,_] [_,_] ?_
 refine kX h (fun v32 => ([(59, .sv (.int .i64 v32.1))], [(928, some (.ints .i64 v32.2))])) (fun v50 => ([(0, .any), (3, .any), (59, .any)], [(928, some (.ints .i64 v50)), (48, none)])) (kW hC []) (fun v32 s h => ?_) fun v50 h => ?_
 unfold Xgi at h
 refine Xad ?_
 refine kO hT hC ?_
 refine Vc.nil (Xax ?_)
 refine kS h ?_ ?_ <;> intro b22 h
 refine kt b22 (Xah (Xaf (Xax (Xap (Xad ?_)))))
 iterate 2 refine kO hT hC ?_
 refine kN ?_
 iterate 6 refine kO hT hC ?_
 refine kQ hT hC h fun h => ?_
 refine kC hC [(16, 1120)] Try.call106 h (fun _ => Xh1) fun q51 h => ?_
 iterate 5 refine kO hT hC ?_
 refine Vc.nil (Xax (Xad ?_))
 iterate 3 refine kO hT hC ?_
 refine Vc.nil ?_
 refine kL [0,3,10,11,12,59,73,74,75] [48,928,1120] [_,_,_,_,_,_,_,_,_] [_,_,_] ?_
 refine kX h (fun v54 => ([(75, .sv (.int .i64 v54.1))], [(1120, some (.ints .i64 v54.2))])) (fun v57 => ([(73, .any), (74, .any), (75, .any)], [(1120, some (.ints .i64 v57))])) (kW hC []) (fun v54 s h => ?_) fun v57 h => ?_
 unfold Xcq at h
 refine Xad ?_
 refine kO hT hC ?_
 refine Vc.nil (Xax ?_)
 refine kS h ?_ ?_ <;> intro b25 h
 refine kt b25 (Xah (Xaf (Xax (Xap (Xad ?_)))))
 refine kO hT hC ?_
 iterate 2 refine kQ hT hC h fun h => ?_
 iterate 2 refine kO hT hC ?_
 refine Vc.nil (Xac ?_)
 iterate 6 refine kO hT hC ?_
 refine kC hC [] Try.call109 h (fun _ => Xrq) fun q58 h => ?_
 iterate 2 refine kQ hT hC h fun h => ?_
 refine Vc.nil (Xau (Xaf (Xac ?_)))
 iterate 2 refine kO hT hC ?_
 exact Vc.nil kG
 exact kf b25 (Xat (Xa7 ku))
 refine Xaf (Xad ?_)
 refine kO hT hC ?_
 refine kC hC [(16, 1440)] Try.call110 h (fun _ => Xs3) fun q60 h => ?_
 refine kO hT hC ?_
 refine kN ?_
 refine kO hT hC ?_
 refine kC hC [(16, 1472)] Try.call98 h (fun _ => Xm7) fun q61 h => ?_
 iterate 2 refine kO hT hC ?_
 refine Vc.nil ?_
 refine kL [0,3,10,16,59,92,93,94] [48,928,1440,1472] [_,_,_,_,_,_,_,_] [_,_,_,_] ?_
 refine kX h (fun v63 => ([(94, .sv (.int .i64 v63.1))], [(928, some (.ints .i64 v63.2))])) (fun v65 => ([(16, .any), (92, .any), (93, .any), (94, .any)], [(928, some (.ints .i64 v65)), (1440, none), (1472, none)])) (kW hC []) (fun v63 s h => ?_) fun v65 h => ?_
 unfold Xd1 at h
 refine Xad ?_
 refine kO hT hC ?_
 refine Vc.nil (Xax ?_)
 refine kS h ?_ ?_ <;> intro b28 h
 refine kt b28 (Xah (Xaf (Xax (Xap (Xad ?_)))))
 refine kO hT hC ?_
 iterate 2 refine kQ hT hC h fun h => ?_
 iterate 2 refine kO hT hC ?_
 refine Vc.nil (Xac ?_)
 iterate 4 refine kO hT hC ?_
 iterate 4 refine kQ hT hC h fun h => ?_
 refine Vc.nil (Xau (Xaf (Xac ?_)))
 iterate 2 refine kO hT hC ?_
 exact Vc.nil kG
 exact kf b28 (Xat (Xa7 ku))
 refine Xau (Xaf (Xac ?_))
 iterate 2 refine kO hT hC ?_
 exact Vc.nil kG
 exact kf b22 (Xat (Xa7 ku))
 refine Xaf (Xad ?_)
 iterate 3 refine kO hT hC ?_
 refine Vc.nil (Xai ?_)
 obtain rfl := kj h
 exact Xgg (τ := ⟨[(4, .own 16), (5, .sv (.bool true))], [(16, some (.ints .i64 v50))]⟩) (kW hC [(16, 928)]) rfl ⟨rfl, trivial⟩
def Xu1 (r : (List Int)) : AV := .own 16
def Xu0 (r : (List Int)) : Xbb := [(16, .ints .i64 r)]
theorem Xob {p0 p1 r} (h : Xhw p0 p1 = some r) : AC Try.prog 64 [.sv (.ints .i64 p0), .sv (.ints .i64 p1)] [] (Xu1 r) (Xu0 r) := by
 refine Xae hT Try.func64 rfl fun C hC => ?_
 unfold Xhw at h
 refine Xad ?_
 refine kO hT hC ?_
 refine kN ?_
 iterate 2 refine kO hT hC ?_
 refine Vc.nil (Xax ?_)
 refine kL [0,1,5] [128] [_,_,_] [_] ?_
 refine kA h (fun v1 => ([(16, .sv (.bool v1))], [])) (fun v1 h => ?_) fun v1 h => ?_
 refine Xac ?_
 refine kO hT hC ?_
 refine kC hC [] Try.call52 h (fun _ => Xbd) fun q2 h => ?_
 iterate 2 refine kO hT hC ?_
 refine kS h ?_ ?_ <;> intro b1 h
 refine kI hT hC (kn b1) ?_
 refine kE hC (kn b1) [] Try.call52 h (fun _ => Xbd) fun q3 h => ?_
 refine kI hT hC (kn b1) ?_
 refine kP hC false (kn b1) ?_
 exact Vc.nil kM
 iterate 3 refine kF hC (kn b1) ?_
 refine kP hC true (kn b1) ?_
 exact Vc.nil kM
 refine kS h ?_ ?_ <;> intro b2 h
 refine kt b2 (Xad ?_)
 iterate 2 refine kO hT hC ?_
 refine Vc.nil (Xai (Xbx ?_))
 obtain rfl := kj h
 exact Xgg (τ := ⟨[(4, .own 16)], [(16, some (.ints .i64 ([] : List Int)))]⟩) (kW hC [(16, 128)]) rfl ⟨rfl, trivial⟩
 refine kf b2 (Xah (Xaf (Xax (Xad ?_))))
 iterate 3 refine kO hT hC ?_
 refine Vc.nil ?_
 refine kL [1,5,18,19,20] [128] [_,_,_,_,_] [_] ?_
 refine kX h (fun v6 => ([(20, .sv (.int .i64 v6.1))], [(128, some (.ints .i64 v6.2))])) (fun v9 => ([(1, .any), (18, .any), (19, .any), (20, .any)], [(128, some (.ints .i64 v9))])) (kW hC []) (fun v6 s h => ?_) fun v9 h => ?_
 unfold Xij at h
 refine Xad ?_
 refine kO hT hC ?_
 refine Vc.nil (Xax ?_)
 refine kS h ?_ ?_ <;> intro b5 h
 refine kt b5 (Xah (Xaf (Xax (Xap (Xad ?_)))))
 refine kO hT hC ?_
 refine kQ hT hC h fun h => ?_
 iterate 3 refine kO hT hC ?_
 refine Vc.nil (Xac ?_)
 iterate 4 refine kO hT hC ?_
 refine kQ hT hC h fun h => ?_
 iterate 2 refine kO hT hC ?_
 refine kC hC [] Try.call103 h (fun _ => Xgx) fun q10 h => ?_
 refine kO hT hC ?_
 refine kT hT hC h fun h => ?_
 refine kO hT hC ?_
 refine Vc.nil (Xau (Xaf (Xac ?_)))
 iterate 2 refine kO hT hC ?_
 refine Vc.nil ?_
 obtain rfl := kj h
 exact Yec (kW hC [(128, 544)])
 exact kf b5 (Xat (Xa7 ku))
 refine Xaf (Xad ?_)
 iterate 2 refine kO hT hC ?_
 refine Vc.nil (Xai ?_)
 obtain rfl := kj h
 exact Xgg (τ := ⟨[(4, .own 16)], [(16, some (.ints .i64 v9))]⟩) (kW hC [(16, 128)]) rfl ⟨rfl, trivial⟩
def Xo8 (r : ((List Int) × Bool)) : AV := .tup [.own 16, .sv (.bool r.2)]
def Xo7 (r : ((List Int) × Bool)) : Xbb := [(16, .ints .i64 r.1)]
theorem Xkk {p0 p1 p2 p3 p4 p5 p6 p7 r} (h : Xcr p0 p1 p2 p3 p4 p5 p6 p7 = some r) : AC Try.prog 14 [.agg [.sv (.int .i64 p0.Wide), .sv (.int .i64 p0.High), .sv (.str p0.Dots)], .agg [.sv (.int .i64 p1.Wide), .sv (.int .i64 p1.High), .sv (.str p1.Dots)], .sv (.int .i64 p2), .sv (.int .i64 p3), .agg [.sv (.bool p4.Key), .sv (.int .i64 p4.Qp), .sv (.bool p4.Large), .sv (.bool p4.Exact)], .sv (.int .i64 p5), .sv (.int .i64 p6), .agg [.sv (.int .i64 p7.Kind), .sv (.int .i64 p7.Mode), .sv (.int .i64 p7.Dx), .sv (.int .i64 p7.Dy), .sv (.ints .i64 p7.Levels)]] [] (Xo8 r) (Xo7 r) := by
 refine Xae hT Try.func14 rfl fun C hC => ?_
 unfold Xcr at h
 refine Xad ?_
 iterate 6 refine kO hT hC ?_
 refine Vc.nil (Xax ?_)
 refine kL [2,3,5,6,8,9,12,15] [128,144,192,240] [_,_,_,_,_,_,_,_] [_,_,_,_] ?_
 refine kA h (fun v1 => ([(67, .sv (.bool v1))], [])) (fun v1 h => ?_) fun v1 h => ?_
 refine Xac ?_
 refine kO hT hC ?_
 refine kC hC [] Try.call50 h (fun _ => Xe8) fun q2 h => ?_
 iterate 2 refine kO hT hC ?_
 refine kS h ?_ ?_ <;> intro b1 h
 iterate 3 refine kI hT hC (kn b1) ?_
 refine kE hC (kn b1) [] Try.call51 h (fun _ => Xdh) fun q3 h => ?_
 refine kI hT hC (kn b1) ?_
 refine kP hC false (kn b1) ?_
 refine kO hT hC ?_
 refine kS h ?_ ?_ <;> intro b2 h
 refine kI hT hC (kn b2) ?_
 refine kE hC (kn b2) [] Try.call53 h (fun _ => Xaj) fun q4 h => ?_
 refine kI hT hC (kn b2) ?_
 refine kP hC false (kn b2) ?_
 refine kO hT hC ?_
 refine kS h ?_ ?_ <;> intro b3 h
 refine kI hT hC (kn b3) ?_
 refine kE hC (kn b3) [] Try.call53 h (fun _ => Xaj) fun q5 h => ?_
 refine kI hT hC (kn b3) ?_
 refine kP hC false (kn b3) ?_
 refine kO hT hC ?_
 refine kS h ?_ ?_ <;> intro b4 h
 refine kI hT hC (kn b4) ?_
 refine kE hC (kn b4) [] Try.call15 h (fun _ => Xml) fun q6 h => ?_
 refine kI hT hC (kn b4) ?_
 refine kP hC false (kn b4) ?_
 refine kO hT hC ?_
 refine kS h ?_ ?_ <;> intro b5 h
 refine kI hT hC (kn b5) ?_
 refine kE hC (kn b5) [] Try.call27 h (fun _ => Xih) fun q7 h => ?_
 refine kI hT hC (kn b5) ?_
 refine kP hC false (kn b5) ?_
 refine kO hT hC ?_
 refine kS h ?_ ?_ <;> intro b6 h
 iterate 2 refine kI hT hC (kn b6) ?_
 refine kE hC (kn b6) [] Try.call62 h (fun _ => Xqf) fun q8 h => ?_
 refine kI hT hC (kn b6) ?_
 refine kP hC false (kn b6) ?_
 refine kO hT hC ?_
 refine kS h ?_ ?_ <;> intro b7 h
 iterate 4 refine kI hT hC (kn b7) ?_
 refine kS h ?_ ?_ <;> intro b8 h
 refine kI hT hC b8 ?_
 refine kE hC b8 [] Try.call50 h (fun _ => Xe8) fun q9 h => ?_
 refine kI hT hC b8 ?_
 refine Xe5 hC rfl rfl rfl rfl (kn b7) rfl rfl (b := true) b8 rfl rfl rfl trivial ?_
 refine kP hC false (kn b7) ?_
 exact Vc.nil kM
 iterate 3 refine kF hC b8 ?_
 refine Xe5 hC rfl rfl rfl rfl (kn b7) rfl rfl (b := false) b8 rfl rfl rfl trivial ?_
 refine kP hC false (kn b7) ?_
 exact Vc.nil kM
 iterate 4 refine kF hC (kn b7) ?_
 iterate 3 refine Xkf hC rfl rfl rfl rfl rfl rfl ?_
 refine kF hC (kn b7) ?_
 refine kP hC true (kn b7) ?_
 exact Vc.nil kM
 iterate 4 refine kF hC (kn b6) ?_
 refine kP hC true (kn b6) ?_
 refine kO hT hC ?_
 iterate 4 refine kF hC rfl ?_
 iterate 3 refine Xkf hC rfl rfl rfl rfl rfl rfl ?_
 refine kF hC rfl ?_
 refine kO hT hC ?_
 exact Vc.nil kM
 iterate 3 refine kF hC (kn b5) ?_
 refine kP hC true (kn b5) ?_
 refine kO hT hC ?_
 iterate 4 refine kF hC rfl ?_
 iterate 2 refine kO hT hC ?_
 iterate 4 refine kF hC rfl ?_
 iterate 3 refine Xkf hC rfl rfl rfl rfl rfl rfl ?_
 refine kF hC rfl ?_
 refine kO hT hC ?_
 exact Vc.nil kM
 iterate 3 refine kF hC (kn b4) ?_
 refine kP hC true (kn b4) ?_
 refine kO hT hC ?_
 iterate 3 refine kF hC rfl ?_
 iterate 2 refine kO hT hC ?_
 iterate 4 refine kF hC rfl ?_
 iterate 2 refine kO hT hC ?_
 iterate 4 refine kF hC rfl ?_
 iterate 3 refine Xkf hC rfl rfl rfl rfl rfl rfl ?_
 refine kF hC rfl ?_
 refine kO hT hC ?_
 exact Vc.nil kM
 iterate 3 refine kF hC (kn b3) ?_
 refine kP hC true (kn b3) ?_
 refine kO hT hC ?_
 iterate 3 refine kF hC rfl ?_
 iterate 2 refine kO hT hC ?_
 iterate 3 refine kF hC rfl ?_
 iterate 2 refine kO hT hC ?_
 iterate 4 refine kF hC rfl ?_
 iterate 2 refine kO hT hC ?_
 iterate 4 refine kF hC rfl ?_
 iterate 3 refine Xkf hC rfl rfl rfl rfl rfl rfl ?_
 refine kF hC rfl ?_
 refine kO hT hC ?_
 exact Vc.nil kM
 iterate 3 refine kF hC (kn b2) ?_
 refine kP hC true (kn b2) ?_
 refine kO hT hC ?_
 iterate 3 refine kF hC rfl ?_
 iterate 2 refine kO hT hC ?_
 iterate 3 refine kF hC rfl ?_
 iterate 2 refine kO hT hC ?_
 iterate 3 refine kF hC rfl ?_
 iterate 2 refine kO hT hC ?_
 iterate 4 refine kF hC rfl ?_
 iterate 2 refine kO hT hC ?_
 iterate 4 refine kF hC rfl ?_
 iterate 3 refine Xkf hC rfl rfl rfl rfl rfl rfl ?_
 refine kF hC rfl ?_
 refine kO hT hC ?_
 exact Vc.nil kM
 iterate 5 refine kF hC (kn b1) ?_
 refine kP hC true (kn b1) ?_
 refine kO hT hC ?_
 iterate 3 refine kF hC rfl ?_
 iterate 2 refine kO hT hC ?_
 iterate 3 refine kF hC rfl ?_
 iterate 2 refine kO hT hC ?_
 iterate 3 refine kF hC rfl ?_
 iterate 2 refine kO hT hC ?_
 iterate 3 refine kF hC rfl ?_
 iterate 2 refine kO hT hC ?_
 iterate 4 refine kF hC rfl ?_
 iterate 2 refine kO hT hC ?_
 iterate 4 refine kF hC rfl ?_
 iterate 3 refine Xkf hC rfl rfl rfl rfl rfl rfl ?_
 refine kF hC rfl ?_
 refine kO hT hC ?_
 exact Vc.nil kM
 refine kS h ?_ ?_ <;> intro b9 h
 refine kt b9 (Xad ?_)
 iterate 3 refine kO hT hC ?_
 refine Vc.nil (Xai (Xbx ?_))
 obtain rfl := kj h
 exact Xgg (τ := ⟨[(16, .own 16), (17, .sv (.bool false))], [(16, some (.ints .i64 ([] : List Int)))]⟩) (kW hC [(16, 1088)]) rfl ⟨rfl, trivial⟩
 refine kf b9 (Xah (Xaf (Xax (Xad ?_))))
 iterate 3 refine kO hT hC ?_
 refine Vc.nil ?_
 refine kS h ?_ ?_ <;> intro b10 h
 refine kt b10 (Xad ?_)
 iterate 7 refine kO hT hC ?_
 refine kC hC [(16, 1264)] Try.call60 h (fun _ => Xdm) fun q10 h => ?_
 iterate 2 refine kO hT hC ?_
 refine Vc.nil (Xai (Xbx ?_))
 obtain rfl := kj h
 exact Xgg (τ := ⟨[(16, .own 16), (17, .sv (.bool true))], [(16, some (.ints .i64 q10))]⟩) (kW hC [(16, 1264)]) rfl ⟨rfl, trivial⟩
 refine kf b10 (Xah (Xaf (Xad ?_)))
 iterate 3 refine kO hT hC ?_
 refine kC hC [(16, 1344)] Try.call63 h (fun _ => Xp5) fun q11 h => ?_
 iterate 5 refine kO hT hC ?_
 refine Vc.nil (Xax (Xad ?_))
 iterate 3 refine kO hT hC ?_
 refine Vc.nil ?_
 refine kS h ?_ ?_ <;> intro b11 h
 refine kt b11 (Xad ?_)
 iterate 13 refine kO hT hC ?_
 refine kC hC [(16, 1648)] Try.call60 h (fun _ => Xdm) fun q12 h => ?_
 refine kO hT hC ?_
 refine kC hC [(16, 1680)] Try.call64 h (fun _ => Xob) fun q13 h => ?_
 iterate 2 refine kO hT hC ?_
 refine Vc.nil (Xai (Xbx ?_))
 obtain rfl := kj h
 exact Xgg (τ := ⟨[(16, .own 16), (17, .sv (.bool true))], [(16, some (.ints .i64 q13))]⟩) (kW hC [(16, 1680)]) rfl ⟨rfl, trivial⟩
 refine kf b11 (Xah (Xaf (Xad ?_)))
 iterate 3 refine kO hT hC ?_
 refine kC hC [(16, 1760), (17, 1761)] Try.call54 h (fun _ => Xm2) fun q14 h => ?_
 iterate 6 refine kO hT hC ?_
 refine kN ?_
 iterate 3 refine kO hT hC ?_
 refine kC hC [(16, 1856)] Try.call58 h (fun _ => Xjw) fun q15 h => ?_
 refine kO hT hC ?_
 refine kC hC [(16, 1888)] Try.call64 h (fun _ => Xob) fun q16 h => ?_
 iterate 2 refine kO hT hC ?_
 refine Vc.nil (Xai ?_)
 obtain rfl := kj h
 exact Xgg (τ := ⟨[(16, .own 16), (17, .sv (.bool true))], [(16, some (.ints .i64 q16))]⟩) (kW hC [(16, 1888)]) rfl ⟨rfl, trivial⟩
def Xqe (r : (Xby × (List Int) × Bool)) : AV := .tup [.agg [.sv (.int .i64 r.1.Kind), .sv (.int .i64 r.1.Mode), .sv (.int .i64 r.1.Dx), .sv (.int .i64 r.1.Dy), .own 16], .own 17, .sv (.bool r.2.2)]
def Xqd (r : (Xby × (List Int) × Bool)) : Xbb := [(16, .ints .i64 r.1.Levels), (17, .ints .i64 r.2.1)]
theorem Xrr {p0 p1 p2 p3 p4 p5 p6 r} (h : Xfu p0 p1 p2 p3 p4 p5 p6 = some r) : AC Try.prog 13 [.agg [.sv (.int .i64 p0.Wide), .sv (.int .i64 p0.High), .sv (.str p0.Dots)], .agg [.sv (.int .i64 p1.Wide), .sv (.int .i64 p1.High), .sv (.str p1.Dots)], .sv (.ints .i64 p2), .sv (.int .i64 p3), .sv (.int .i64 p4), .agg [.sv (.bool p5.Key), .sv (.int .i64 p5.Qp), .sv (.bool p5.Large), .sv (.bool p5.Exact)], .sv (.int .i64 p6)] [] (Xqe r) (Xqd r) := by
 refine Xae hT Try.func13 rfl fun C hC => ?_
 unfold Xfu at h
 refine Xad ?_
 iterate 6 refine kO hT hC ?_
 refine Vc.nil (Xax ?_)
 refine kL [2,3,4,6,7,8,12,14] [112,128,192,224] [_,_,_,_,_,_,_,_] [_,_,_,_] ?_
 refine kA h (fun v1 => ([(51, .sv (.bool v1))], [])) (fun v1 h => ?_) fun v1 h => ?_
 refine Xac ?_
 refine kO hT hC ?_
 refine kC hC [] Try.call50 h (fun _ => Xe8) fun q2 h => ?_
 iterate 2 refine kO hT hC ?_
 refine kS h ?_ ?_ <;> intro b1 h
 iterate 3 refine kI hT hC (kn b1) ?_
 refine kE hC (kn b1) [] Try.call51 h (fun _ => Xdh) fun q3 h => ?_
 refine kI hT hC (kn b1) ?_
 refine kP hC false (kn b1) ?_
 refine kO hT hC ?_
 refine kS h ?_ ?_ <;> intro b2 h
 refine kI hT hC (kn b2) ?_
 refine kE hC (kn b2) [] Try.call52 h (fun _ => Xbd) fun q4 h => ?_
 refine kI hT hC (kn b2) ?_
 refine kP hC false (kn b2) ?_
 refine kO hT hC ?_
 refine kS h ?_ ?_ <;> intro b3 h
 refine kI hT hC (kn b3) ?_
 refine kE hC (kn b3) [] Try.call27 h (fun _ => Xih) fun q5 h => ?_
 refine kI hT hC (kn b3) ?_
 refine kP hC false (kn b3) ?_
 refine kO hT hC ?_
 refine kS h ?_ ?_ <;> intro b4 h
 refine kI hT hC (kn b4) ?_
 refine kE hC (kn b4) [] Try.call53 h (fun _ => Xaj) fun q6 h => ?_
 refine kI hT hC (kn b4) ?_
 refine kP hC false (kn b4) ?_
 exact Vc.nil kM
 iterate 3 refine kF hC (kn b4) ?_
 refine kP hC true (kn b4) ?_
 exact Vc.nil kM
 iterate 3 refine kF hC (kn b3) ?_
 refine kP hC true (kn b3) ?_
 refine kO hT hC ?_
 iterate 3 refine kF hC rfl ?_
 refine kO hT hC ?_
 exact Vc.nil kM
 iterate 3 refine kF hC (kn b2) ?_
 refine kP hC true (kn b2) ?_
 refine kO hT hC ?_
 iterate 3 refine kF hC rfl ?_
 iterate 2 refine kO hT hC ?_
 iterate 3 refine kF hC rfl ?_
 refine kO hT hC ?_
 exact Vc.nil kM
 iterate 5 refine kF hC (kn b1) ?_
 refine kP hC true (kn b1) ?_
 refine kO hT hC ?_
 iterate 3 refine kF hC rfl ?_
 iterate 2 refine kO hT hC ?_
 iterate 3 refine kF hC rfl ?_
 iterate 2 refine kO hT hC ?_
 iterate 3 refine kF hC rfl ?_
 refine kO hT hC ?_
 exact Vc.nil kM
 refine kS h ?_ ?_ <;> intro b5 h
 refine kt b5 (Xad ?_)
 iterate 5 refine kO hT hC ?_
 refine Vc.nil (Xai (Xbx ?_))
 obtain rfl := kj h
 refine Xgg (τ := ⟨[(14, .ptr 2000000 0), (15, .own 17), (16, .sv (.bool false))], [(16, some (.ints .i64 [])), (17, some (.ints .i64 ([] : List Int))), (2000000, some (.box [.sv (.int .i64 0), .sv (.int .i64 0), .sv (.int .i64 0), .sv (.int .i64 0), .own 16]))]⟩) ?_ rfl ⟨rfl, rfl, trivial⟩
 refine Xq6 hC 224 4 2817 (.ints .i64 []) rfl rfl rfl rfl rfl trivial ?_
 apply Xnp hC [(16, 2817), (17, 848), (2000000, 224)]
 exact co
 rfl
 decide
 rfl
 refine kf b5 (Xah (Xaf (Xax ?_)))
 refine kL [2,3,4,6,7,8,12,14] [112,128,192,224] [_,_,_,_,_,_,_,_] [_,_,_,_] ?_
 refine kA h (fun v7 => ([(75, .sv (.bool v7))], [])) (fun v7 h => ?_) fun v7 h => ?_
 refine Xac ?_
 iterate 4 refine kO hT hC ?_
 refine kS h ?_ ?_ <;> intro b6 h
 iterate 4 refine kF hC (kn b6) ?_
 iterate 5 refine Xkf hC rfl rfl rfl rfl rfl rfl ?_
 iterate 2 refine kF hC (kn b6) ?_
 iterate 5 refine Xkf hC rfl rfl rfl rfl rfl rfl ?_
 refine kF hC (kn b6) ?_
 refine kP hC false (kn b6) ?_
 exact Vc.nil kM
 refine kI hT hC (kn b6) ?_
 refine kE hC (kn b6) [] Try.call50 h (fun _ => Xe8) fun q8 h => ?_
 iterate 2 refine kI hT hC (kn b6) ?_
 refine kS h ?_ ?_ <;> intro b7 h
 iterate 5 refine kI hT hC (kn b7) ?_
 refine Xe5 hC rfl rfl rfl rfl (kn b6) rfl rfl (b := false) (kn b7) rfl rfl rfl trivial ?_
 refine kI hT hC (kn b6) ?_
 refine kS h ?_ ?_ <;> intro b8 h
 iterate 5 refine kF hC b8 ?_
 refine Xe5 hC rfl rfl rfl rfl (kn b6) rfl rfl (b := true) b8 rfl rfl rfl trivial ?_
 refine kP hC true (kn b6) ?_
 exact Vc.nil kM
 iterate 5 refine kI hT hC b8 ?_
 refine Xe5 hC rfl rfl rfl rfl (kn b6) rfl rfl (b := false) b8 rfl rfl rfl trivial ?_
 refine kP hC true (kn b6) ?_
 exact Vc.nil kM
 iterate 5 refine kF hC (kn b7) ?_
 refine Xe5 hC rfl rfl rfl rfl (kn b6) rfl rfl (b := true) (kn b7) rfl rfl rfl trivial ?_
 refine kI hT hC (kn b6) ?_
 iterate 5 refine kF hC rfl ?_
 refine Xe5 hC rfl rfl rfl rfl (kn b6) rfl rfl (b := true) rfl rfl rfl rfl trivial ?_
 refine kP hC true (kn b6) ?_
 exact Vc.nil kM
 refine kS h ?_ ?_ <;> intro b9 h
 refine kt b9 (Xad ?_)
 iterate 5 refine kO hT hC ?_
 refine Vc.nil (Xai (Xbx ?_))
 obtain rfl := kj h
 refine Xgg (τ := ⟨[(14, .ptr 2000000 0), (15, .own 17), (16, .sv (.bool false))], [(16, some (.ints .i64 [])), (17, some (.ints .i64 ([] : List Int))), (2000000, some (.box [.sv (.int .i64 0), .sv (.int .i64 0), .sv (.int .i64 0), .sv (.int .i64 0), .own 16]))]⟩) ?_ rfl ⟨rfl, rfl, trivial⟩
 refine Xq6 hC 224 4 2818 (.ints .i64 []) rfl rfl rfl rfl rfl trivial ?_
 apply Xnp hC [(16, 2818), (17, 1232), (2000000, 224)]
 exact co
 rfl
 decide
 rfl
 refine kf b9 (Xah (Xaf (Xad ?_)))
 iterate 3 refine kO hT hC ?_
 refine kC hC [(16, 1312), (17, 1313)] Try.call54 h (fun _ => Xm2) fun q9 h => ?_
 iterate 6 refine kO hT hC ?_
 refine kN ?_
 iterate 2 refine kO hT hC ?_
 refine kC hC [] Try.call55 h (fun _ => Xrg) fun q10 h => ?_
 iterate 5 refine kO hT hC ?_
 refine kN ?_
 iterate 4 refine kO hT hC ?_
 refine Vc.nil ?_
 refine Xgs hm ?_
 iterate 3 refine kO hT hC ?_
 refine kC hC [(16, 1552)] Try.call58 h (fun _ => Xjw) fun q11 h => ?_
 refine kC hC [(16, 1568)] Try.call57 h (fun _ => Xmo) fun q12 h => ?_
 refine kO hT hC ?_
 refine kC hC [(16, 1600)] Try.call56 h (fun _ => Xmk) fun q13 h => ?_
 iterate 5 refine kO hT hC ?_
 refine kD ?_
 refine kL [2,3,4,6,7,8,12,14,20,21] [112,128,192,224,336,1600] [_,_,_,_,_,_,_,_,_,_] [_,_,_,_,_,_] ?_
 refine kA h (fun v14 => ([(2, .any), (6, .any), (20, .any)], [(336, some (.box [.sv (.int .i64 v14.1), .sv (.int .i64 v14.2.1), .sv (.int .i64 v14.2.2.1), .sv (.int .i64 v14.2.2.2.1), .own 1600])), (1600, some (.ints .i64 v14.2.2.2.2))])) (fun v14 h => ?_) fun v14 h => ?_
 refine Xad ?_
 iterate 3 refine kO hT hC ?_
 refine Vc.nil ?_
 refine kS h ?_ ?_ <;> intro b10 h
 refine kt b10 (Xad ?_)
 iterate 4 refine kO hT hC ?_
 refine kC hC [(16, 1776)] Try.call60 h (fun _ => Xdm) fun q15 h => ?_
 refine kC hC [] Try.call59 h (fun _ => Xpb) fun q16 h => ?_
 refine kO hT hC ?_
 refine Vc.nil ?_
 refine kS h ?_ ?_ <;> intro b11 h
 refine kt b11 (Xac ?_)
 iterate 2 refine kO hT hC ?_
 refine Vc.nil ?_
 obtain rfl := kj h
 refine Xne ?_
 refine Xq6 hC 336 4 2819 (.ints .i64 []) rfl rfl rfl rfl rfl trivial ?_
 try dsimp only
 apply Xnp hC [(1600, 2819)]
 exact co
 rfl
 decide
 rfl
 refine kf b11 (Xad ?_)
 iterate 5 refine kO hT hC ?_
 refine kC hC [] Try.call61 h (fun _ => Xsx) fun q17 h => ?_
 iterate 7 refine kO hT hC ?_
 refine kN ?_
 iterate 3 refine kO hT hC ?_
 refine Vc.nil ?_
 refine kS h ?_ ?_ <;> intro b12 h
 refine kt b12 (Xad ?_)
 iterate 4 refine kO hT hC ?_
 refine Vc.nil ?_
 refine Xgs hm ?_
 iterate 8 refine kO hT hC ?_
 refine kC hC [(16, 2240)] Try.call60 h (fun _ => Xdm) fun q18 h => ?_
 refine kC hC [(16, 2256)] Try.call57 h (fun _ => Xmo) fun q19 h => ?_
 refine kO hT hC ?_
 refine kC hC [(16, 2288)] Try.call56 h (fun _ => Xmk) fun q20 h => ?_
 iterate 5 refine kO hT hC ?_
 refine kD ?_
 refine kL [3,4,7,8,12,14,21,22,23] [112,128,192,224,336,2288] [_,_,_,_,_,_,_,_,_] [_,_,_,_,_,_] ?_
 refine kA h (fun v21 => ([(157, .sv (.bool v21)), (22, .any), (23, .any)], [])) (fun v21 h => ?_) fun v21 h => ?_
 refine Xac ?_
 iterate 3 refine kO hT hC ?_
 refine kS h ?_ ?_ <;> intro b13 h
 iterate 2 refine kI hT hC b13 ?_
 refine kP hC true b13 ?_
 refine kO hT hC ?_
 refine kS h ?_ ?_ <;> intro b14 h
 iterate 2 refine kI hT hC b14 ?_
 refine kE hC b14 [] Try.call52 h (fun _ => Xbd) fun q22 h => ?_
 refine kP hC true b14 ?_
 exact Vc.nil kM
 iterate 3 refine kF hC b14 ?_
 refine kP hC false b14 ?_
 exact Vc.nil kM
 iterate 2 refine kF hC b13 ?_
 refine kP hC false b13 ?_
 refine kO hT hC ?_
 iterate 3 refine kF hC rfl ?_
 refine kO hT hC ?_
 exact Vc.nil kM
 refine kS h ?_ ?_ <;> intro b15 h
 refine kt b15 (Xac ?_)
 iterate 2 refine kO hT hC ?_
 refine Vc.nil ?_
 obtain rfl := kj h
 refine Xne ?_
 refine Xq6 hC 336 4 2820 (.ints .i64 []) rfl rfl rfl rfl rfl trivial ?_
 try dsimp only
 apply Xnp hC [(1600, 2820)]
 exact co
 rfl
 decide
 rfl
 refine kf b15 (Xah ?_)
 obtain rfl := kj h
 exact Xne (kW hC [(1600, 2288)])
 exact kf b12 (Xah kM)
 exact kf b10 (Xah kM)
 refine Xad ?_
 iterate 6 refine kO hT hC ?_
 refine kC hC [(16, 2656)] Try.call14 h (fun _ => Xkk) fun q23 h => ?_
 iterate 5 refine kO hT hC ?_
 refine Vc.nil (Xax (Xad ?_))
 iterate 2 refine kO hT hC ?_
 refine Vc.nil ?_
 refine kS h ?_ ?_ <;> intro b16 h
 refine kt b16 (Xad ?_)
 iterate 5 refine kO hT hC ?_
 refine Vc.nil (Xai (Xbx ?_))
 obtain rfl := kj h
 refine Xgg (τ := ⟨[(14, .ptr 2000000 0), (15, .own 17), (16, .sv (.bool false))], [(16, some (.ints .i64 [])), (17, some (.ints .i64 ([] : List Int))), (2000000, some (.box [.sv (.int .i64 0), .sv (.int .i64 0), .sv (.int .i64 0), .sv (.int .i64 0), .own 16]))]⟩) ?_ rfl ⟨rfl, rfl, trivial⟩
 refine Xq6 hC 224 4 2821 (.ints .i64 []) rfl rfl rfl rfl rfl trivial ?_
 apply Xnp hC [(16, 2821), (17, 2752), (2000000, 224)]
 exact co
 rfl
 decide
 rfl
 refine kf b16 (Xah (Xaf (Xad ?_)))
 iterate 5 refine kO hT hC ?_
 refine Vc.nil (Xai ?_)
 obtain rfl := kj h
 exact Xgg (τ := ⟨[(14, .ptr 2000000 0), (15, .own 17), (16, .sv (.bool true))], [(16, some (.ints .i64 v14.2.2.2.2)), (17, some (.ints .i64 q23.1)), (2000000, some (.box [.sv (.int .i64 v14.1), .sv (.int .i64 v14.2.1), .sv (.int .i64 v14.2.2.1), .sv (.int .i64 v14.2.2.2.1), .own 16]))]⟩) (kW hC [(16, 1600), (17, 2656), (2000000, 224)]) rfl ⟨rfl, rfl, trivial⟩
def Xlj (r : Bool) : AV := .sv (.bool r)
def Xli (r : Bool) : Xbb := []
theorem Xmq {p0 p1 r} (h : Xfd p0 p1 = some r) : AC Try.prog 16 [.sv (.ints .i64 p0), .sv (.ints .i64 p1)] [] (Xlj r) (Xli r) := by
 refine Xae hT Try.func16 rfl fun C hC => ?_
 unfold Xfd at h
 refine Xad ?_
 refine kO hT hC ?_
 refine Vc.nil (Xax (Xad ?_))
 iterate 5 refine kO hT hC ?_
 refine Vc.nil ?_
 refine kS h ?_ ?_ <;> intro b1 h
 refine kt b1 (Xad ?_)
 refine kO hT hC ?_
 exact Vc.nil (Xai (Xbx kR))
 refine kf b1 (Xah (Xaf (Xax (Xad ?_))))
 refine kO hT hC ?_
 refine Vc.nil ?_
 refine kL [0,1,5] [] [_,_,_] [] ?_
 obtain ⟨o5, hl, h⟩ := Xbr h
 refine Yck (fun v2 => ([(5, .sv (.int .i64 v2))], [])) (fun v4 => ([(0, .any), (1, .any), (5, .any)], [])) (fun r => Yeu C T Try.f16.results.toList (Xlj r) (Xli r)) hl ?_ ?_ ?_ ?_
 apply Xnp hC []
 exact co
 rfl
 decide
 rfl
 intro v2 s hs
 have h := hs
 unfold Xea at h
 refine Xax (Xad ?_)
 iterate 4 refine kO hT hC ?_
 refine Vc.nil ?_
 refine kS h ?_ ?_ <;> intro b6 h
 refine kt b6 (Xah (Xaf (Xax (Xap ?_))))
 refine Xgs hm ?_
 iterate 2 refine kO hT hC ?_
 refine kQ hT hC h fun h => ?_
 iterate 3 refine kO hT hC ?_
 refine kQ hT hC h fun h => ?_
 iterate 2 refine kO hT hC ?_
 refine kD ?_
 refine kS h ?_ ?_ <;> intro b7 h
 refine kt b7 (Xad ?_)
 refine kO hT hC ?_
 refine Vc.nil (Xai (Xwu (Xbx ?_)))
 obtain rfl := kj h
 refine Yiq (Yio ?_)
 exact Xgg (Xjn.refl _) rfl trivial
 refine kf b7 (Xah (Xau (Xaf (Xac ?_))))
 iterate 3 refine kO hT hC ?_
 exact Vc.nil kG
 exact kf b6 (Xat (Xa7 kb))
 intro v4 e
 subst e
 refine Xaf (Xad ?_)
 refine kO hT hC ?_
 exact Vc.nil (Xai kR)
 intro r' σ' e hE
 subst e
 obtain rfl := kj h
 refine Xbx ?_
 exact hE
def Xn4 (r : Bool) : AV := .sv (.bool r)
def Xn3 (r : Bool) : Xbb := []
theorem Xpe {p0 r} (h : Xf9 p0 = some r) : AC Try.prog 3 [.sv (.ints .u8 p0)] [] (Xn4 r) (Xn3 r) := by
 refine Xae hT Try.func3 rfl fun C hC => ?_
 unfold Xf9 at h
 refine Xad ?_
 refine kO hT hC ?_
 refine Vc.nil (Xax (Xad ?_))
 refine kO hT hC ?_
 refine kC hC [] Try.call8 h (fun _ => Yca) fun q1 h => ?_
 refine Vc.nil ?_
 refine kS h ?_ ?_ <;> intro b1 h
 refine kt b1 (Xad ?_)
 refine kO hT hC ?_
 exact Vc.nil (Xai (Xbx kR))
 refine kf b1 (Xah (Xaf (Xad ?_)))
 refine kO hT hC ?_
 refine kC hC [] Try.call9 h (fun _ => Xtr) fun q2 h => ?_
 iterate 7 refine kO hT hC ?_
 refine kN ?_
 refine kO hT hC ?_
 refine kC hC [] Try.call10 h (fun _ => Xtp) fun q3 h => ?_
 iterate 2 refine kO hT hC ?_
 refine kN ?_
 refine kO hT hC ?_
 refine kC hC [(16, 400)] Try.call11 h (fun _ => Xq0) fun q4 h => ?_
 refine kO hT hC ?_
 refine Vc.nil ?_
 refine Xgs hm ?_
 refine kO hT hC ?_
 iterate 2 refine kQ hT hC h fun h => ?_
 iterate 2 refine kO hT hC ?_
 iterate 2 refine kQ hT hC h fun h => ?_
 iterate 2 refine kO hT hC ?_
 refine kD ?_
 refine Xgs hm ?_
 refine kO hT hC ?_
 iterate 2 refine kQ hT hC h fun h => ?_
 iterate 2 refine kO hT hC ?_
 iterate 2 refine kQ hT hC h fun h => ?_
 iterate 2 refine kO hT hC ?_
 refine kD (Xad ?_)
 iterate 3 refine kO hT hC ?_
 refine kC hC [(16, 720)] Try.call12 h (fun _ => Xv3) fun q5 h => ?_
 refine kO hT hC ?_
 refine Vc.nil ?_
 refine Xgs hm ?_
 iterate 4 refine kO hT hC ?_
 refine kT hT hC h fun h => ?_
 iterate 4 refine kO hT hC ?_
 iterate 3 refine kQ hT hC h fun h => ?_
 obtain ⟨q6, hq, h⟩ := Xbr h
 refine Yh7 hC [(16, 944), (17, 945)] rfl rfl rfl rfl Try.call13 (Xrr hq) rfl (by decide) trivial rfl (.inr ⟨rfl, ⟨trivial, trivial, trivial⟩⟩) rfl ?_
 iterate 8 refine kO hT hC ?_
 refine kD (Xad ?_)
 iterate 6 refine kO hT hC ?_
 refine kC hC [(16, 1120)] Try.call14 h (fun _ => Xkk) fun q7 h => ?_
 iterate 5 refine kO hT hC ?_
 refine Vc.nil ?_
 refine kL [2,5,9,10,11,12,13,14] [80,160,720,944,945,1120] [_,_,_,_,_,_,_,_] [_,_,_,_,_,_] ?_
 refine kA h (fun v8 => ([(2, .sv (.bool v8)), (5, .any), (9, .any), (10, .any), (11, .any), (12, .any), (13, .any), (14, .any)], [(80, none), (160, none), (720, none), (944, none), (945, none), (1120, none)])) (fun v8 h => ?_) fun v8 h => ?_
 refine Xac ?_
 iterate 2 refine kO hT hC ?_
 refine kS h ?_ ?_ <;> intro b2 h
 refine kI hT hC b2 ?_
 refine kP hC true b2 ?_
 refine kO hT hC ?_
 refine kS h ?_ ?_ <;> intro b3 h
 refine kI hT hC b3 ?_
 refine kE hC b3 [] Try.call15 h (fun _ => Xml) fun q9 h => ?_
 refine kP hC true b3 ?_
 refine kO hT hC ?_
 refine kS h ?_ ?_ <;> intro b4 h
 iterate 3 refine kI hT hC b4 ?_
 refine kP hC true b4 ?_
 refine kO hT hC ?_
 refine kS h ?_ ?_ <;> intro b5 h
 iterate 2 refine kI hT hC b5 ?_
 refine kE hC b5 [] Try.call16 h (fun _ => Xmq) fun q10 h => ?_
 refine kP hC true b5 ?_
 refine kO hT hC ?_
 refine kS h ?_ ?_ <;> intro b6 h
 iterate 4 refine kI hT hC b6 ?_
 refine kS h ?_ ?_ <;> intro b7 h
 iterate 2 refine kI hT hC (kn b7) ?_
 refine kE hC (kn b7) [] Try.call16 h (fun _ => Xmq) fun q11 h => ?_
 refine Xe5 hC rfl rfl rfl rfl b6 rfl rfl (b := false) (kn b7) rfl rfl rfl trivial ?_
 refine kP hC true b6 ?_
 refine kO hT hC ?_
 exact Vc.nil kM
 iterate 3 refine kF hC (kn b7) ?_
 refine Xe5 hC rfl rfl rfl rfl b6 rfl rfl (b := true) (kn b7) rfl rfl rfl trivial ?_
 refine kP hC true b6 ?_
 refine kO hT hC ?_
 exact Vc.nil kM
 iterate 4 refine kF hC b6 ?_
 iterate 3 refine Xkf hC rfl rfl rfl rfl rfl rfl ?_
 refine kF hC b6 ?_
 refine kP hC false b6 ?_
 refine kO hT hC ?_
 exact Vc.nil kM
 iterate 3 refine kF hC b5 ?_
 refine kP hC false b5 ?_
 refine kO hT hC ?_
 iterate 4 refine kF hC rfl ?_
 iterate 3 refine Xkf hC rfl rfl rfl rfl rfl rfl ?_
 refine kF hC rfl ?_
 iterate 2 refine kO hT hC ?_
 exact Vc.nil kM
 iterate 3 refine kF hC b4 ?_
 refine kP hC false b4 ?_
 refine kO hT hC ?_
 iterate 3 refine kF hC rfl ?_
 iterate 2 refine kO hT hC ?_
 iterate 4 refine kF hC rfl ?_
 iterate 3 refine Xkf hC rfl rfl rfl rfl rfl rfl ?_
 refine kF hC rfl ?_
 iterate 2 refine kO hT hC ?_
 exact Vc.nil kM
 iterate 2 refine kF hC b3 ?_
 refine kP hC false b3 ?_
 refine kO hT hC ?_
 iterate 3 refine kF hC rfl ?_
 iterate 2 refine kO hT hC ?_
 iterate 3 refine kF hC rfl ?_
 iterate 2 refine kO hT hC ?_
 iterate 4 refine kF hC rfl ?_
 iterate 3 refine Xkf hC rfl rfl rfl rfl rfl rfl ?_
 refine kF hC rfl ?_
 iterate 2 refine kO hT hC ?_
 exact Vc.nil kM
 refine kF hC b2 ?_
 refine kP hC false b2 ?_
 refine kO hT hC ?_
 iterate 2 refine kF hC rfl ?_
 iterate 2 refine kO hT hC ?_
 iterate 3 refine kF hC rfl ?_
 iterate 2 refine kO hT hC ?_
 iterate 3 refine kF hC rfl ?_
 iterate 2 refine kO hT hC ?_
 iterate 4 refine kF hC rfl ?_
 iterate 3 refine Xkf hC rfl rfl rfl rfl rfl rfl ?_
 refine kF hC rfl ?_
 iterate 2 refine kO hT hC ?_
 exact Vc.nil kM
 exact Xai kR
end
end Go.Proofs.Ytlebkepfhdjnmac.A
