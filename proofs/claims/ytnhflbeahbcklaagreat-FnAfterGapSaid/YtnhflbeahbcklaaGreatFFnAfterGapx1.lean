/- Contracts of the functions that the law FnAfterGap reaches, part 1: each comes to what its pure function tells. Written by a program of this session. Conditions: as each statement tells. -/
import Derived.Test.YtnhflbeahbcklaaGreatFFnAfterGapx0
namespace Go.Proofs.YtnhflbeahbcklaaGreat.A
open Go Go.Proofs Go.Proofs.YtnhflbeahbcklaaGreatAL Go.RowKit
set_option linter.unusedVariables false
set_option linter.unusedSimpArgs false
set_option maxRecDepth 100000
set_option maxHeartbeats 8000000
noncomputable section
def Yaj (r : (Xa5 × Bool)) : AV := .tup [.agg [.sv (.int .i64 r.1.Seq.Level), .sv (.int .i64 r.1.Seq.Bits), .own 16, .own 17, .sv (.int .i64 r.1.Par.Qp), .sv (.bool r.1.Par.Large), .sv (.bool r.1.Par.Exact), .sv (.bool r.1.Par.Confined), .sv (.int .i64 r.1.Rate.Qp), .sv (.int .i64 r.1.Rate.Target), .sv (.int .i64 r.1.Rate.Debt), .sv (.int .i64 r.1.Frame), .sv (.int .i64 r.1.Since), .sv (.int .i64 r.1.Every), .sv (.int .i64 r.1.Reach), .sv (.bool r.1.Has), .sv (.int .i64 r.1.Ref.Wide), .sv (.int .i64 r.1.Ref.High), .sv (.str r.1.Ref.Dots)], .sv (.bool r.2)]
def Yai (r : (Xa5 × Bool)) : Xa7 := [(16, .ints .i64 r.1.Seq.Cols), (17, .ints .i64 r.1.Seq.Rows)]
theorem Yb8 {p0 p1 p2 p3 p4 p5 p6 r} (h : Xjc p0 p1 p2 p3 p4 p5 p6 = some r) : AC Tryz.prog 52 [.sv (.int .i64 p0), .sv (.int .i64 p1), .sv (.int .i64 p2), .agg [.sv (.int .i64 p3.Qp), .sv (.bool p3.Large), .sv (.bool p3.Exact), .sv (.bool p3.Confined)], .agg [.sv (.int .i64 p4.Qp), .sv (.int .i64 p4.Target), .sv (.int .i64 p4.Debt)], .sv (.int .i64 p5), .sv (.int .i64 p6)] [] (Yaj r) (Yai r) := by
 refine Xae hT Tryz.func52 rfl fun C hC => ?_
 unfold Xjc at h
 refine Xac ?_
 iterate 4 refine kO hT hC ?_
 refine kN ?_
 iterate 8 refine kO hT hC ?_
 refine kN ?_
 iterate 4 refine kO hT hC ?_
 refine kC hC [] Tryz.call117 h (fun _ => Ye0) fun q1 h => ?_
 iterate 2 refine kO hT hC ?_
 refine kN ?_
 iterate 8 refine kO hT hC ?_
 refine Vc.nil (Xat (Xac ?_))
 refine kO hT hC ?_
 refine kC hC [] Tryz.call85 h (fun _ => Ye2) fun q2 h => ?_
 refine kO hT hC ?_
 refine Vc.nil ?_
 refine kS h ?_ ?_ <;> intro b1 h
 refine kt b1 (Xac ?_)
 iterate 3 refine kO hT hC ?_
 refine Vc.nil (Xah (Xau ?_))
 obtain rfl := kj h
 refine Xcr (τ := ⟨[(14, .ptr 2000000 0), (15, .sv (.bool false))], [(16, some (.ints .i64 [])), (17, some (.ints .i64 [])), (2000000, some (.box [.sv (.int .i64 0), .sv (.int .i64 0), .own 16, .own 17, .sv (.int .i64 0), .sv (.bool false), .sv (.bool false), .sv (.bool false), .sv (.int .i64 0), .sv (.int .i64 0), .sv (.int .i64 0), .sv (.int .i64 0), .sv (.int .i64 0), .sv (.int .i64 0), .sv (.int .i64 0), .sv (.bool false), .sv (.int .i64 0), .sv (.int .i64 0), .sv (.str ⟨#[]⟩)]))]⟩) ?_ rfl ⟨rfl, rfl, trivial⟩
 refine Xny hC 224 2 673 (.ints .i64 []) rfl rfl rfl rfl rfl trivial ?_
 refine Xny hC 224 3 674 (.ints .i64 []) rfl rfl rfl rfl rfl trivial ?_
 apply Xe8 hC [(16, 673), (17, 674), (2000000, 224)]
 exact co
 rfl
 decide
 rfl
 refine kf b1 (Xag (Xaf (Xac ?_)))
 iterate 3 refine kO hT hC ?_
 refine Vc.nil (Xah ?_)
 obtain rfl := kj h
 exact Xcr (τ := ⟨[(14, .ptr 2000000 0), (15, .sv (.bool true))], [(16, some (.ints .i64 ([p0]))), (17, some (.ints .i64 ([p1]))), (2000000, some (.box [.sv (.int .i64 q1), .sv (.int .i64 p2), .own 16, .own 17, .sv (.int .i64 p3.Qp), .sv (.bool p3.Large), .sv (.bool p3.Exact), .sv (.bool p3.Confined), .sv (.int .i64 p4.Qp), .sv (.int .i64 p4.Target), .sv (.int .i64 p4.Debt), .sv (.int .i64 0), .sv (.int .i64 0), .sv (.int .i64 p5), .sv (.int .i64 p6), .sv (.bool false), .sv (.int .i64 0), .sv (.int .i64 0), .sv (.str ⟨#[]⟩)]))]⟩) (kW hC [(16, 320), (17, 352), (2000000, 224)]) rfl ⟨rfl, rfl, trivial⟩
def Yfc (r : (ByteArray × Xbj)) : AV := .sv (.str r.1)
def Yfb (r : (ByteArray × Xbj)) : Xa7 := [(0, .box [.sv (.ints .u8 r.2.b_), .sv (.int .i64 r.2.i_), .sv (.int .i64 r.2.h_)])]
theorem Yi5 {p0 p1 r} (h : Xnv p0 p1 = some r) : AC Tryz.prog 119 [.ptr 0 0, .sv (.int .i64 p1)] [(0, .box [.sv (.ints .u8 p0.b_), .sv (.int .i64 p0.i_), .sv (.int .i64 p0.h_)])] (Yfc r) (Yfb r) := by
 refine Xae hT Tryz.func119 rfl fun C hC => ?_
 unfold Xnv at h
 refine Xac ?_
 refine kO hT hC ?_
 refine kN ?_
 iterate 2 refine kO hT hC ?_
 refine kN ?_
 refine kO hT hC ?_
 refine kC hC [(0, 0)] Tryz.call39 h (fun _ => Xcn) fun q1 h => ?_
 refine kO hT hC ?_
 refine Vc.nil (Xat (Xac ?_))
 refine kO hT hC ?_
 refine Vc.nil ?_
 refine kL [0,1,5,6,7] [0,128] [_,_,_,_,_] [_,_] ?_
 refine kX h (fun v7 => ([(6, .sv (.int .i64 v7.1)), (7, .sv (.int .i64 v7.2.1))], [(0, some (.box [.sv (.ints .u8 v7.2.2.1), .sv (.int .i64 v7.2.2.2.1), .sv (.int .i64 v7.2.2.2.2.1)])), (128, some (.ints .u8 v7.2.2.2.2.2))])) (fun v13 => ([(0, .any), (1, .any), (6, .any), (7, .any)], [(0, some (.box [.sv (.ints .u8 v13.2.1), .sv (.int .i64 v13.2.2.1), .sv (.int .i64 v13.2.2.2)])), (128, some (.ints .u8 v13.1))])) (kW hC []) (fun v7 s h => ?_) fun v13 h => ?_
 unfold Xls at h
 refine Xat (Xac ?_)
 iterate 3 refine kO hT hC ?_
 refine Vc.nil ?_
 refine kS h ?_ ?_ <;> intro b7 h
 refine kt b7 (Xag (Xaf (Xat (Xao ?_))))
 refine kL [0,1,5,6,7] [0,128] [_,_,_,_,_] [_,_] ?_
 refine kA h (fun v14 => ([(6, .sv (.int .i64 v14.1))], [(0, some (.box [.sv (.ints .u8 v14.2.1), .sv (.int .i64 v14.2.2.1), .sv (.int .i64 v14.2.2.2)]))])) (fun v14 h => ?_) fun v14 h => ?_
 refine Xac ?_
 refine kO hT hC ?_
 refine kC hC [(0, 0)] Tryz.call40 h (fun _ => Xax) fun q15 h => ?_
 refine Vc.nil (Xao (Xac ?_))
 iterate 2 refine kO hT hC ?_
 refine Vc.nil ?_
 refine kS h ?_ ?_ <;> intro b8 h
 refine kt b8 (Xad ?_)
 refine kO hT hC ?_
 refine kC hC [(0, 0)] Tryz.call39 h (fun _ => Xcn) fun q16 h => ?_
 refine kO hT hC ?_
 exact Vc.nil (Xaq kM)
 refine kf b8 (Xac ?_)
 iterate 2 refine kO hT hC ?_
 refine Vc.nil ?_
 refine kS h ?_ ?_ <;> intro b9 h
 refine kt b9 (Xad ?_)
 iterate 2 refine kO hT hC ?_
 refine kC hC [(0, 0)] Tryz.call40 h (fun _ => Xax) fun q17 h => ?_
 iterate 4 refine kO hT hC ?_
 exact Vc.nil (Xaq kM)
 exact kf b9 (Xag (Xaq kM))
 refine Xad ?_
 iterate 4 refine kO hT hC ?_
 refine kT hT hC h fun h => ?_
 refine kO hT hC ?_
 refine Vc.nil (Xaq (Xaf (Xad ?_)))
 iterate 3 refine kO hT hC ?_
 refine Vc.nil ?_
 obtain rfl := kj h
 exact Yji (kW hC [(128, 544)])
 exact kf b7 (Xas (Xa0 ku))
 refine Xaf (Xac ?_)
 iterate 3 refine kO hT hC ?_
 refine Vc.nil (Xah ?_)
 obtain rfl := kj h
 exact Xcr (Xjz.refl _) rfl ⟨rfl, trivial⟩
def Ycj (r : (Pic × Xbj)) : AV := .agg [.sv (.int .i64 r.1.Wide), .sv (.int .i64 r.1.High), .sv (.str r.1.Dots)]
def Yci (r : (Pic × Xbj)) : Xa7 := [(0, .box [.sv (.ints .u8 r.2.b_), .sv (.int .i64 r.2.i_), .sv (.int .i64 r.2.h_)])]
theorem Xta {p0 p1 p2 r} (h : Xin p0 p1 p2 = some r) : AC Tryz.prog 55 [.ptr 0 0, .sv (.int .i64 p1), .sv (.int .i64 p2)] [(0, .box [.sv (.ints .u8 p0.b_), .sv (.int .i64 p0.i_), .sv (.int .i64 p0.h_)])] (Ycj r) (Yci r) := by
 refine Xae hT Tryz.func55 rfl fun C hC => ?_
 unfold Xin at h
 refine Xac ?_
 refine kO hT hC ?_
 refine kN ?_
 iterate 6 refine kO hT hC ?_
 refine kC hC [(0, 0)] Tryz.call119 h (fun _ => Yi5) fun q1 h => ?_
 iterate 2 refine kO hT hC ?_
 refine Vc.nil (Xah ?_)
 obtain rfl := kj h
 exact Xcr (Xjz.refl _) rfl ⟨rfl, trivial⟩
def Yez (r : Int) : AV := .sv (.int .i64 r)
def Yey (r : Int) : Xa7 := []
theorem Xt9 {p0 p1 p2 r} (h : Xev p0 p1 p2 = some r) : AC Tryz.prog 143 [.sv (.int .i64 p0), .sv (.int .i64 p1), .sv (.int .i64 p2)] [] (Yez r) (Yey r) := by
 refine Xae hT Tryz.func143 rfl fun C hC => ?_
 unfold Xev at h
 refine Xac ?_
 refine kO hT hC ?_
 refine Vc.nil (Xat ?_)
 refine kL [0,1,2] [] [_,_,_] [] ?_
 refine kA h (fun v1 => ([(14, .sv (.bool v1))], [])) (fun v1 h => ?_) fun v1 h => ?_
 refine Xad ?_
 iterate 4 refine kO hT hC ?_
 refine kS h ?_ ?_ <;> intro b1 h
 iterate 3 refine kF hC b1 ?_
 refine kP hC true b1 ?_
 exact Vc.nil kM
 iterate 3 refine kI hT hC b1 ?_
 refine kP hC false b1 ?_
 exact Vc.nil kM
 refine kS h ?_ ?_ <;> intro b2 h
 refine kt b2 (Xac ?_)
 iterate 2 refine kO hT hC ?_
 exact Vc.nil (Xah (Xau kR))
 refine kf b2 (Xag (Xaf (Xat (Xac ?_))))
 iterate 3 refine kO hT hC ?_
 refine Vc.nil ?_
 refine kS h ?_ ?_ <;> intro b3 h
 refine kt b3 (Xac ?_)
 iterate 2 refine kO hT hC ?_
 exact Vc.nil (Xah (Xau kR))
 refine kf b3 (Xag (Xaf (Xac ?_)))
 iterate 2 refine kO hT hC ?_
 exact Vc.nil (Xah kR)
def Ykx (r : Int) : AV := .sv (.int .i64 r)
def Ykw (r : Int) : Xa7 := []
theorem Yn0 {p0 p1 p2 r} (h : Xep p0 p1 p2 = some r) : AC Tryz.prog 120 [.agg [.sv (.int .i64 p0.Wide), .sv (.int .i64 p0.High), .sv (.str p0.Dots)], .sv (.int .i64 p1), .sv (.int .i64 p2)] [] (Ykx r) (Ykw r) := by
 refine Xae hT Tryz.func120 rfl fun C hC => ?_
 unfold Xep at h
 refine Xac ?_
 iterate 2 refine kO hT hC ?_
 refine Vc.nil (Xat (Xac ?_))
 refine kO hT hC ?_
 refine kC hC [] Tryz.call86 h (fun _ => Yah) fun q1 h => ?_
 refine kO hT hC ?_
 refine Vc.nil ?_
 refine kS h ?_ ?_ <;> intro b1 h
 refine kt b1 (Xac ?_)
 refine kO hT hC ?_
 exact Vc.nil (Xah (Xau kR))
 refine kf b1 (Xag (Xaf ?_))
 refine Xcm hm ?_
 iterate 6 refine kO hT hC ?_
 refine kC hC [] Tryz.call143 h (fun _ => Xt9) fun q2 h => ?_
 iterate 7 refine kO hT hC ?_
 refine kC hC [] Tryz.call143 h (fun _ => Xt9) fun q3 h => ?_
 refine kO hT hC ?_
 refine kQ hT hC h fun h => ?_
 iterate 2 refine kO hT hC ?_
 exact kD (Xah kR)
def Yfe (r : (Pic × Xbj)) : AV := .agg [.sv (.int .i64 r.1.Wide), .sv (.int .i64 r.1.High), .sv (.str r.1.Dots)]
def Yfd (r : (Pic × Xbj)) : Xa7 := [(0, .box [.sv (.ints .u8 r.2.b_), .sv (.int .i64 r.2.i_), .sv (.int .i64 r.2.h_)])]
theorem Yi9 {p0 p1 r} (h : Xnx p0 p1 = some r) : AC Tryz.prog 57 [.ptr 0 0, .agg [.sv (.int .i64 p1.Wide), .sv (.int .i64 p1.High), .sv (.str p1.Dots)]] [(0, .box [.sv (.ints .u8 p0.b_), .sv (.int .i64 p0.i_), .sv (.int .i64 p0.h_)])] (Yfe r) (Yfd r) := by
 refine Xae hT Tryz.func57 rfl fun C hC => ?_
 unfold Xnx at h
 refine Xac ?_
 iterate 2 refine kO hT hC ?_
 refine kN ?_
 refine kO hT hC ?_
 refine kC hC [(0, 0)] Tryz.call40 h (fun _ => Xax) fun q1 h => ?_
 iterate 2 refine kO hT hC ?_
 refine kN ?_
 refine kO hT hC ?_
 refine kC hC [(0, 0)] Tryz.call40 h (fun _ => Xax) fun q2 h => ?_
 iterate 2 refine kO hT hC ?_
 refine Vc.nil ?_
 refine kL [0,3,4,5,6] [0,48,64] [_,_,_,_,_] [_,_,_] ?_
 refine kA h (fun v3 => ([(5, .sv (.int .i64 v3.1)), (6, .sv (.int .i64 v3.2.1))], [(0, some (.box [.sv (.ints .u8 v3.2.2.1), .sv (.int .i64 v3.2.2.2.1), .sv (.int .i64 v3.2.2.2.2)]))])) (fun v3 h => ?_) fun v3 h => ?_
 refine Xac ?_
 refine kO hT hC ?_
 refine kC hC [(0, 0)] Tryz.call56 h (fun _ => Xlm) fun q4 h => ?_
 refine Vc.nil ?_
 refine kS h ?_ ?_ <;> intro b1 h
 refine kt b1 (Xac ?_)
 refine kO hT hC ?_
 refine Vc.nil (Xad ?_)
 refine kO hT hC ?_
 exact Vc.nil kM
 exact kf b1 (Xag kM)
 refine Xac ?_
 iterate 2 refine kO hT hC ?_
 refine Vc.nil (Xat (Xac ?_))
 refine kO hT hC ?_
 refine Vc.nil ?_
 refine kL [0,3,4,5,6,7,8] [0,48,64,288] [_,_,_,_,_,_,_] [_,_,_,_] ?_
 refine kX h (fun v7 => ([(8, .sv (.int .i64 v7.1))], [(288, some (.ints .u8 v7.2))])) (fun v10 => ([(5, .any), (6, .any), (8, .any)], [(288, some (.ints .u8 v10))])) (kW hC []) (fun v7 s h => ?_) fun v10 h => ?_
 unfold Xlv at h
 refine Xat (Xac ?_)
 iterate 5 refine kO hT hC ?_
 refine Vc.nil ?_
 refine kS h ?_ ?_ <;> intro b4 h
 refine kt b4 (Xag (Xaf (Xat (Xao ?_))))
 refine Xej hm ?_
 iterate 5 refine kO hT hC ?_
 refine kQ hT hC h fun h => ?_
 iterate 5 refine kO hT hC ?_
 refine kQ hT hC h fun h => ?_
 iterate 2 refine kO hT hC ?_
 refine kC hC [] Tryz.call120 h (fun _ => Yn0) fun q11 h => ?_
 iterate 2 refine kO hT hC ?_
 refine kT hT hC h fun h => ?_
 refine kO hT hC ?_
 refine kD (Xaq (Xaf (Xad ?_)))
 iterate 3 refine kO hT hC ?_
 refine Vc.nil ?_
 obtain rfl := kj h
 exact Yji (kW hC [(288, 688)])
 exact kf b4 (Xas (Xa0 ku))
 refine Xaf (Xat (Xac ?_))
 refine kO hT hC ?_
 refine Vc.nil ?_
 refine kL [0,3,4,7,9] [0,48,64,288] [_,_,_,_,_] [_,_,_,_] ?_
 refine kX h (fun v17 => ([(9, .sv (.int .i64 v17.1))], [(0, some (.box [.sv (.ints .u8 v17.2.1), .sv (.int .i64 v17.2.2.1), .sv (.int .i64 v17.2.2.2.1)])), (288, some (.ints .u8 v17.2.2.2.2))])) (fun v22 => ([(0, .any), (9, .any)], [(0, some (.box [.sv (.ints .u8 v22.2.1), .sv (.int .i64 v22.2.2.1), .sv (.int .i64 v22.2.2.2)])), (288, some (.ints .u8 v22.1))])) (kW hC []) (fun v17 s h => ?_) fun v22 h => ?_
 unfold Xlw at h
 refine Xat (Xac ?_)
 iterate 2 refine kO hT hC ?_
 refine kC hC [(0, 0)] Tryz.call40 h (fun _ => Xax) fun q23 h => ?_
 refine kO hT hC ?_
 refine Vc.nil ?_
 refine kS h ?_ ?_ <;> intro b7 h
 refine kt b7 (Xag (Xaf (Xat (Xao (Xad ?_)))))
 iterate 4 refine kO hT hC ?_
 refine kC hC [(0, 0)] Tryz.call40 h (fun _ => Xax) fun q24 h => ?_
 refine kO hT hC ?_
 refine kC hC [(0, 0)] Tryz.call39 h (fun _ => Xcn) fun q25 h => ?_
 refine kO hT hC ?_
 iterate 2 refine kQ hT hC h fun h => ?_
 refine Vc.nil (Xaq (Xaf (Xad ?_)))
 iterate 3 refine kO hT hC ?_
 exact Vc.nil kG
 exact kf b7 (Xas (Xa0 ku))
 refine Xaf (Xac ?_)
 iterate 8 refine kO hT hC ?_
 refine Vc.nil (Xah ?_)
 obtain rfl := kj h
 exact Xcr (Xjz.refl _) rfl ⟨rfl, trivial⟩
def Yad (r : (Xa5 × (List Pic) × (List Bool))) : AV := .tup [.agg [.sv (.int .i64 r.1.Seq.Level), .sv (.int .i64 r.1.Seq.Bits), .own 16, .own 17, .sv (.int .i64 r.1.Par.Qp), .sv (.bool r.1.Par.Large), .sv (.bool r.1.Par.Exact), .sv (.bool r.1.Par.Confined), .sv (.int .i64 r.1.Rate.Qp), .sv (.int .i64 r.1.Rate.Target), .sv (.int .i64 r.1.Rate.Debt), .sv (.int .i64 r.1.Frame), .sv (.int .i64 r.1.Since), .sv (.int .i64 r.1.Every), .sv (.int .i64 r.1.Reach), .sv (.bool r.1.Has), .sv (.int .i64 r.1.Ref.Wide), .sv (.int .i64 r.1.Ref.High), .sv (.str r.1.Ref.Dots)], .own 18, .own 19]
def Yac (r : (Xa5 × (List Pic) × (List Bool))) : Xa7 := [(16, .ints .i64 r.1.Seq.Cols), (17, .ints .i64 r.1.Seq.Rows), (18, .row Yt1 r.2.1), (19, .row Yat r.2.2)]
theorem Yb5 {p0 r} (h : Xi8 p0 = some r) : AC Tryz.prog 20 [.sv (.ints .u8 p0)] [] (Yad r) (Yac r) := by
 refine Xae hT Tryz.func20 rfl fun C hC => ?_
 unfold Xi8 at h
 refine Xac ?_
 iterate 3 refine kO hT hC ?_
 refine kN ?_
 refine kO hT hC ?_
 refine kC hC [(16, 240)] Tryz.call38 h (fun _ => Xwm) fun q1 h => ?_
 refine kO hT hC ?_
 refine kN ?_
 refine kO hT hC ?_
 refine kC hC [(0, 240)] Tryz.call40 h (fun _ => Xax) fun q2 h => ?_
 iterate 2 refine kO hT hC ?_
 refine kC hC [(0, 240)] Tryz.call40 h (fun _ => Xax) fun q3 h => ?_
 iterate 2 refine kO hT hC ?_
 refine kC hC [(0, 240)] Tryz.call44 h (fun _ => Xxy) fun q4 h => ?_
 refine kO hT hC ?_
 refine kC hC [(0, 240)] Tryz.call53 h (fun _ => Yff) fun q5 h => ?_
 refine kO hT hC ?_
 refine kC hC [(0, 240)] Tryz.call40 h (fun _ => Xax) fun q6 h => ?_
 iterate 2 refine kO hT hC ?_
 refine kC hC [(0, 240)] Tryz.call40 h (fun _ => Xax) fun q7 h => ?_
 refine kC hC [(16, 512), (17, 513)] Tryz.call52 h (fun _ => Yb8) fun q8 h => ?_
 iterate 6 refine kO hT hC ?_
 refine kN ?_
 iterate 2 refine kO hT hC ?_
 refine kC hC [] Tryz.call54 h (fun _ => Xwj) fun q9 h => ?_
 iterate 5 refine kO hT hC ?_
 refine kN ?_
 iterate 3 refine kO hT hC ?_
 refine kC hC [(0, 240)] Tryz.call55 h (fun _ => Xta) fun q10 h => ?_
 iterate 2 refine kO hT hC ?_
 refine kN ?_
 iterate 2 refine kO hT hC ?_
 refine kN ?_
 iterate 2 refine kO hT hC ?_
 refine Vc.nil (Xat (Xac ?_))
 refine kO hT hC ?_
 refine Vc.nil ?_
 refine kL [2,5,6,8,9,10,11,12,13] [32,96,160,240,512,513,720,736] [_,_,_,_,_,_,_,_,_] [_,_,_,_,_,_,_,_] ?_
 refine kX h (fun v18 => ([(13, .sv (.int .i64 v18.1))], [(160, some (.box [.sv (.int .i64 v18.2.2.2.2.1), .sv (.int .i64 v18.2.2.2.2.2.1), .sv (.str v18.2.2.2.2.2.2.1)])), (240, some (.box [.sv (.ints .u8 v18.2.1), .sv (.int .i64 v18.2.2.1), .sv (.int .i64 v18.2.2.2.1)])), (720, some (.row Yt1 v18.2.2.2.2.2.2.2.1)), (736, some (.row Yat v18.2.2.2.2.2.2.2.2))])) (fun v26 => ([(5, .any), (8, .any), (9, .any), (10, .any), (13, .any)], [(720, some (.row Yt1 v26.1)), (736, some (.row Yat v26.2)), (160, none), (240, none)])) (kW hC []) (fun v18 s h => ?_) fun v26 h => ?_
 unfold Xij at h
 refine Xat (Xac ?_)
 iterate 2 refine kO hT hC ?_
 refine kC hC [(0, 240)] Tryz.call40 h (fun _ => Xax) fun q27 h => ?_
 iterate 2 refine kO hT hC ?_
 refine Vc.nil ?_
 refine kS h ?_ ?_ <;> intro b5 h
 refine kt b5 (Xag (Xaf ?_))
 refine kL [2,5,6,8,9,10,11,12,13] [32,96,160,240,512,513,720,736] [_,_,_,_,_,_,_,_,_] [_,_,_,_,_,_,_,_] ?_
 refine kA h (fun v28 => ([(11, .own 1227), (12, .own 1228)], [(160, some (.box [.sv (.int .i64 v28.2.2.2.1), .sv (.int .i64 v28.2.2.2.2.1), .sv (.str v28.2.2.2.2.2.1)])), (240, some (.box [.sv (.ints .u8 v28.1), .sv (.int .i64 v28.2.1), .sv (.int .i64 v28.2.2.1)])), (1227, some (.row Yt1 (v18.2.2.2.2.2.2.2.1 ++ ([(⟨v18.2.2.2.2.1, v18.2.2.2.2.2.1, v18.2.2.2.2.2.2.1⟩ : Pic)])))), (1228, some (.row Yat v28.2.2.2.2.2.2)), (720, none), (736, none)])) (fun v28 h => ?_) fun v28 h => ?_
 refine Xao (Xac ?_)
 iterate 3 refine kO hT hC ?_
 obtain ⟨hq, h⟩ := Xav h
 refine Yl2 hT hC rfl rfl rfl rfl ⟨fun _ _ => rfl, by rw [Yvi]; exact hq⟩ ?_
 rw [Yvi]
 refine kO hT hC ?_
 refine kN ?_
 iterate 2 refine kO hT hC ?_
 refine kC hC [(0, 240)] Tryz.call56 h (fun _ => Xlm) fun q29 h => ?_
 refine kO hT hC ?_
 obtain ⟨hq, h⟩ := Xav h
 refine Yl2 hT hC rfl rfl rfl rfl ⟨fun _ _ => rfl, by rw [Ysb]; exact hq⟩ ?_
 rw [Ysb]
 refine kO hT hC ?_
 refine kN ?_
 iterate 2 refine kO hT hC ?_
 refine kC hC [(0, 240)] Tryz.call57 h (fun _ => Yi9) fun q30 h => ?_
 refine kO hT hC ?_
 refine kN ?_
 refine kO hT hC ?_
 refine kC hC [(0, 240)] Tryz.call56 h (fun _ => Xlm) fun q31 h => ?_
 refine Vc.nil ?_
 refine kS h ?_ ?_ <;> intro b6 h
 refine kt b6 (Xad ?_)
 iterate 3 refine kO hT hC ?_
 refine kC hC [(0, 240)] Tryz.call55 h (fun _ => Xta) fun q32 h => ?_
 refine kO hT hC ?_
 refine Vc.nil (Xaq ?_)
 obtain rfl := kj h
 exact Xg6 (kW hC [(1227, 912), (1228, 992)])
 refine kf b6 (Xag (Xaq ?_))
 obtain rfl := kj h
 exact Xg6 (kW hC [(1227, 912), (1228, 992)])
 refine Xad ?_
 iterate 3 refine kO hT hC ?_
 refine Vc.nil ?_
 obtain rfl := kj h
 exact Yji (kW hC [(720, 1227), (736, 1228)])
 exact kf b5 (Xas (Xa0 ku))
 refine Xaf (Xac ?_)
 iterate 6 refine kO hT hC ?_
 refine Vc.nil (Xah ?_)
 obtain rfl := kj h
 exact Xcr (τ := ⟨[(2, .ptr 2000000 0), (3, .own 18), (4, .own 19)], [(16, some (.ints .i64 q8.1.Seq.Cols)), (17, some (.ints .i64 q8.1.Seq.Rows)), (18, some (.row Yt1 v26.1)), (19, some (.row Yat v26.2)), (2000000, some (.box [.sv (.int .i64 q8.1.Seq.Level), .sv (.int .i64 q8.1.Seq.Bits), .own 16, .own 17, .sv (.int .i64 q8.1.Par.Qp), .sv (.bool q8.1.Par.Large), .sv (.bool q8.1.Par.Exact), .sv (.bool q8.1.Par.Confined), .sv (.int .i64 q8.1.Rate.Qp), .sv (.int .i64 q8.1.Rate.Target), .sv (.int .i64 q8.1.Rate.Debt), .sv (.int .i64 q8.1.Frame), .sv (.int .i64 q8.1.Since), .sv (.int .i64 q8.1.Every), .sv (.int .i64 q8.1.Reach), .sv (.bool q8.1.Has), .sv (.int .i64 q8.1.Ref.Wide), .sv (.int .i64 q8.1.Ref.High), .sv (.str q8.1.Ref.Dots)]))]⟩) (kW hC [(16, 512), (17, 513), (18, 720), (19, 736), (2000000, 32)]) rfl ⟨rfl, rfl, rfl, rfl, trivial⟩
def Yg4 (r : Bool) : AV := .sv (.bool r)
def Yg3 (r : Bool) : Xa7 := []
theorem Xqi {p0 r} (h : Xjt p0 = some r) : AC Tryz.prog 68 [.agg [.sv (.int .i64 p0.Qp), .sv (.int .i64 p0.Target), .sv (.int .i64 p0.Debt)]] [] (Yg4 r) (Yg3 r) := by
 refine Xae hT Tryz.func68 rfl fun C hC => ?_
 unfold Xjt at h
 refine Xac ?_
 iterate 2 refine kO hT hC ?_
 refine Vc.nil ?_
 refine kL [1,2] [16] [_,_] [_] ?_
 refine kA h (fun v1 => ([(2, .sv (.bool v1)), (1, .any)], [(16, none)])) (fun v1 h => ?_) fun v1 h => ?_
 refine Xad ?_
 iterate 2 refine kO hT hC ?_
 refine kC hC [] Tryz.call69 h (fun _ => Xai) fun q2 h => ?_
 refine kO hT hC ?_
 refine kS h ?_ ?_ <;> intro b1 h
 iterate 2 refine kI hT hC b1 ?_
 refine kE hC b1 [] Tryz.call69 h (fun _ => Xai) fun q3 h => ?_
 refine kP hC true b1 ?_
 refine kO hT hC ?_
 refine kS h ?_ ?_ <;> intro b2 h
 iterate 8 refine kI hT hC b2 ?_
 refine kE hC b2 [] Tryz.call69 h (fun _ => Xai) fun q4 h => ?_
 refine kP hC true b2 ?_
 refine kO hT hC ?_
 exact Vc.nil kM
 iterate 9 refine kF hC b2 ?_
 refine kP hC false b2 ?_
 refine kO hT hC ?_
 exact Vc.nil kM
 iterate 3 refine kF hC b1 ?_
 refine kP hC false b1 ?_
 refine kO hT hC ?_
 iterate 9 refine kF hC rfl ?_
 iterate 2 refine kO hT hC ?_
 exact Vc.nil kM
 exact Xah kR
def Ybm (r : Bool) : AV := .sv (.bool r)
def Ybl (r : Bool) : Xa7 := []
theorem Xn4 {p0 r} (h : Xf7 p0 = some r) : AC Tryz.prog 23 [.agg [.sv (.int .i64 p0.Seq.Level), .sv (.int .i64 p0.Seq.Bits), .sv (.ints .i64 p0.Seq.Cols), .sv (.ints .i64 p0.Seq.Rows), .sv (.int .i64 p0.Par.Qp), .sv (.bool p0.Par.Large), .sv (.bool p0.Par.Exact), .sv (.bool p0.Par.Confined), .sv (.int .i64 p0.Rate.Qp), .sv (.int .i64 p0.Rate.Target), .sv (.int .i64 p0.Rate.Debt), .sv (.int .i64 p0.Frame), .sv (.int .i64 p0.Since), .sv (.int .i64 p0.Every), .sv (.int .i64 p0.Reach), .sv (.bool p0.Has), .sv (.int .i64 p0.Ref.Wide), .sv (.int .i64 p0.Ref.High), .sv (.str p0.Ref.Dots)]] [] (Ybm r) (Ybl r) := by
 refine Xae hT Tryz.func23 rfl fun C hC => ?_
 unfold Xf7 at h
 refine Xac ?_
 iterate 2 refine kO hT hC ?_
 refine Vc.nil (Xat ?_)
 refine kL [1] [16] [_] [_] ?_
 refine kA h (fun v1 => ([(47, .sv (.bool v1))], [])) (fun v1 h => ?_) fun v1 h => ?_
 refine Xej hm ?_
 iterate 2 refine kO hT hC ?_
 refine kC hC [] Tryz.call66 h (fun _ => Xk2) fun q2 h => ?_
 iterate 2 refine kO hT hC ?_
 refine kS h ?_ ?_ <;> intro b1 h
 iterate 4 refine kF hC b1 ?_
 refine kP hC true b1 ?_
 refine kO hT hC ?_
 iterate 4 refine kF hC rfl ?_
 iterate 2 refine kO hT hC ?_
 iterate 9 refine kF hC rfl ?_
 iterate 2 refine kO hT hC ?_
 iterate 4 refine kF hC rfl ?_
 iterate 2 refine kO hT hC ?_
 iterate 4 refine kF hC rfl ?_
 iterate 2 refine kO hT hC ?_
 iterate 4 refine kF hC rfl ?_
 refine kO hT hC ?_
 exact kD kM
 iterate 2 refine kI hT hC b1 ?_
 refine kE hC b1 [] Tryz.call67 h (fun _ => Xer) fun q3 h => ?_
 refine kI hT hC b1 ?_
 refine kP hC false b1 ?_
 refine kO hT hC ?_
 refine kS h ?_ ?_ <;> intro b2 h
 iterate 2 refine kI hT hC (kn b2) ?_
 refine kE hC (kn b2) [] Tryz.call68 h (fun _ => Xqi) fun q4 h => ?_
 refine kI hT hC (kn b2) ?_
 refine kP hC false (kn b2) ?_
 refine kO hT hC ?_
 refine kS h ?_ ?_ <;> intro b3 h
 iterate 5 refine kI hT hC (kn b3) ?_
 refine kJ hT hC (kn b3) h fun h => ?_
 refine kI hT hC (kn b3) ?_
 refine kE hC (kn b3) [] Tryz.call69 h (fun _ => Xai) fun q5 h => ?_
 refine kI hT hC (kn b3) ?_
 refine kP hC false (kn b3) ?_
 refine kO hT hC ?_
 refine kS h ?_ ?_ <;> intro b4 h
 iterate 2 refine kI hT hC (kn b4) ?_
 refine kE hC (kn b4) [] Tryz.call69 h (fun _ => Xai) fun q6 h => ?_
 refine kI hT hC (kn b4) ?_
 refine kP hC false (kn b4) ?_
 refine kO hT hC ?_
 refine kS h ?_ ?_ <;> intro b5 h
 iterate 2 refine kI hT hC (kn b5) ?_
 refine kE hC (kn b5) [] Tryz.call69 h (fun _ => Xai) fun q7 h => ?_
 refine kI hT hC (kn b5) ?_
 refine kP hC false (kn b5) ?_
 refine kO hT hC ?_
 refine kS h ?_ ?_ <;> intro b6 h
 iterate 2 refine kI hT hC (kn b6) ?_
 refine kE hC (kn b6) [] Tryz.call69 h (fun _ => Xai) fun q8 h => ?_
 refine kI hT hC (kn b6) ?_
 refine kP hC false (kn b6) ?_
 exact kD kM
 iterate 4 refine kF hC (kn b6) ?_
 refine kP hC true (kn b6) ?_
 exact kD kM
 iterate 4 refine kF hC (kn b5) ?_
 refine kP hC true (kn b5) ?_
 refine kO hT hC ?_
 iterate 4 refine kF hC rfl ?_
 refine kO hT hC ?_
 exact kD kM
 iterate 4 refine kF hC (kn b4) ?_
 refine kP hC true (kn b4) ?_
 refine kO hT hC ?_
 iterate 4 refine kF hC rfl ?_
 iterate 2 refine kO hT hC ?_
 iterate 4 refine kF hC rfl ?_
 refine kO hT hC ?_
 exact kD kM
 iterate 9 refine kF hC (kn b3) ?_
 refine kP hC true (kn b3) ?_
 refine kO hT hC ?_
 iterate 4 refine kF hC rfl ?_
 iterate 2 refine kO hT hC ?_
 iterate 4 refine kF hC rfl ?_
 iterate 2 refine kO hT hC ?_
 iterate 4 refine kF hC rfl ?_
 refine kO hT hC ?_
 exact kD kM
 iterate 4 refine kF hC (kn b2) ?_
 refine kP hC true (kn b2) ?_
 refine kO hT hC ?_
 iterate 9 refine kF hC rfl ?_
 iterate 2 refine kO hT hC ?_
 iterate 4 refine kF hC rfl ?_
 iterate 2 refine kO hT hC ?_
 iterate 4 refine kF hC rfl ?_
 iterate 2 refine kO hT hC ?_
 iterate 4 refine kF hC rfl ?_
 refine kO hT hC ?_
 exact kD kM
 refine kS h ?_ ?_ <;> intro b7 h
 refine kt b7 (Xac ?_)
 refine kO hT hC ?_
 exact Vc.nil (Xah (Xau kR))
 refine kf b7 (Xag (Xaf (Xat (Xac ?_))))
 iterate 2 refine kO hT hC ?_
 refine Vc.nil ?_
 refine kS h ?_ ?_ <;> intro b8 h
 refine kt b8 (Xac ?_)
 iterate 4 refine kO hT hC ?_
 refine kC hC [] Tryz.call58 h (fun _ => Ycv) fun q9 h => ?_
 refine kO hT hC ?_
 exact Vc.nil (Xah (Xau kR))
 refine kf b8 (Xag (Xaf (Xac ?_)))
 iterate 3 refine kO hT hC ?_
 refine Zdl hC rfl rfl rfl rfl Zbm rfl rfl ?_
 refine kO hT hC ?_
 exact Vc.nil (Xah kR)
def Ygu (r : Bool) : AV := .sv (.bool r)
def Ygt (r : Bool) : Xa7 := []
theorem Yju {p0 p1 r} (h : Xo6 p0 p1 = some r) : AC Tryz.prog 21 [.agg [.sv (.int .i64 p0.Seq.Level), .sv (.int .i64 p0.Seq.Bits), .sv (.ints .i64 p0.Seq.Cols), .sv (.ints .i64 p0.Seq.Rows), .sv (.int .i64 p0.Par.Qp), .sv (.bool p0.Par.Large), .sv (.bool p0.Par.Exact), .sv (.bool p0.Par.Confined), .sv (.int .i64 p0.Rate.Qp), .sv (.int .i64 p0.Rate.Target), .sv (.int .i64 p0.Rate.Debt), .sv (.int .i64 p0.Frame), .sv (.int .i64 p0.Since), .sv (.int .i64 p0.Every), .sv (.int .i64 p0.Reach), .sv (.bool p0.Has), .sv (.int .i64 p0.Ref.Wide), .sv (.int .i64 p0.Ref.High), .sv (.str p0.Ref.Dots)], .sv (.bool p1)] [] (Ygu r) (Ygt r) := by
 refine Xae hT Tryz.func21 rfl fun C hC => ?_
 unfold Xo6 at h
 refine Xac ?_
 iterate 2 refine kO hT hC ?_
 refine Vc.nil ?_
 refine kL [1,2,4] [32] [_,_,_] [_] ?_
 refine kA h (fun v1 => ([(4, .sv (.bool v1)), (1, .any), (2, .any)], [(32, none)])) (fun v1 h => ?_) fun v1 h => ?_
 refine Xad ?_
 refine kO hT hC ?_
 refine kC hC [] Tryz.call23 h (fun _ => Xn4) fun q2 h => ?_
 refine kO hT hC ?_
 refine kS h ?_ ?_ <;> intro b1 h
 iterate 2 refine kI hT hC b1 ?_
 refine kS h ?_ ?_ <;> intro b2 h
 iterate 3 refine kF hC b2 ?_
 refine Xa3 hC rfl rfl rfl rfl b1 rfl rfl (b := true) b2 rfl rfl rfl trivial ?_
 refine kI hT hC b1 ?_
 iterate 5 refine kF hC rfl ?_
 refine Xa3 hC rfl rfl rfl rfl b1 rfl rfl (b := true) rfl rfl rfl rfl trivial ?_
 refine kP hC true b1 ?_
 refine kO hT hC ?_
 exact Vc.nil kM
 iterate 3 refine kI hT hC b2 ?_
 refine Xa3 hC rfl rfl rfl rfl b1 rfl rfl (b := false) b2 rfl rfl rfl trivial ?_
 refine kI hT hC b1 ?_
 refine kS h ?_ ?_ <;> intro b3 h
 iterate 5 refine kI hT hC (kn b3) ?_
 refine Xa3 hC rfl rfl rfl rfl b1 rfl rfl (b := false) (kn b3) rfl rfl rfl trivial ?_
 refine kP hC true b1 ?_
 refine kO hT hC ?_
 exact Vc.nil kM
 iterate 5 refine kF hC (kn b3) ?_
 refine Xa3 hC rfl rfl rfl rfl b1 rfl rfl (b := true) (kn b3) rfl rfl rfl trivial ?_
 refine kP hC true b1 ?_
 refine kO hT hC ?_
 exact Vc.nil kM
 iterate 2 refine kF hC b1 ?_
 iterate 3 refine Xf1 hC rfl rfl rfl rfl rfl rfl ?_
 iterate 2 refine kF hC b1 ?_
 iterate 5 refine Xf1 hC rfl rfl rfl rfl rfl rfl ?_
 refine kF hC b1 ?_
 refine kP hC false b1 ?_
 refine kO hT hC ?_
 exact Vc.nil kM
 exact Xah kR
def Xxh (r : Xa5) : AV := .agg [.sv (.int .i64 r.Seq.Level), .sv (.int .i64 r.Seq.Bits), .own 16, .own 17, .sv (.int .i64 r.Par.Qp), .sv (.bool r.Par.Large), .sv (.bool r.Par.Exact), .sv (.bool r.Par.Confined), .sv (.int .i64 r.Rate.Qp), .sv (.int .i64 r.Rate.Target), .sv (.int .i64 r.Rate.Debt), .sv (.int .i64 r.Frame), .sv (.int .i64 r.Since), .sv (.int .i64 r.Every), .sv (.int .i64 r.Reach), .sv (.bool r.Has), .sv (.int .i64 r.Ref.Wide), .sv (.int .i64 r.Ref.High), .sv (.str r.Ref.Dots)]
def Xxg (r : Xa5) : Xa7 := [(16, .ints .i64 r.Seq.Cols), (17, .ints .i64 r.Seq.Rows)]
theorem Xk5 {p0 r} (h : Xd9 p0 = some r) : AC Tryz.prog 59 [.agg [.sv (.int .i64 p0.Seq.Level), .sv (.int .i64 p0.Seq.Bits), .sv (.ints .i64 p0.Seq.Cols), .sv (.ints .i64 p0.Seq.Rows), .sv (.int .i64 p0.Par.Qp), .sv (.bool p0.Par.Large), .sv (.bool p0.Par.Exact), .sv (.bool p0.Par.Confined), .sv (.int .i64 p0.Rate.Qp), .sv (.int .i64 p0.Rate.Target), .sv (.int .i64 p0.Rate.Debt), .sv (.int .i64 p0.Frame), .sv (.int .i64 p0.Since), .sv (.int .i64 p0.Every), .sv (.int .i64 p0.Reach), .sv (.bool p0.Has), .sv (.int .i64 p0.Ref.Wide), .sv (.int .i64 p0.Ref.High), .sv (.str p0.Ref.Dots)]] [] (Xxh r) (Xxg r) := by
 refine Xae hT Tryz.func59 rfl fun C hC => ?_
 unfold Xd9 at h
 refine Xac ?_
 iterate 2 refine kO hT hC ?_
 refine kN ?_
 iterate 2 refine kO hT hC ?_
 refine kC hC [(16, 80), (17, 81)] Tryz.call75 h (fun _ => Xpc) fun q1 h => ?_
 iterate 2 refine kO hT hC ?_
 refine kN ?_
 iterate 2 refine kO hT hC ?_
 refine Vc.nil (Xah ?_)
 obtain rfl := kj h
 exact Xcr (τ := ⟨[(2, .ptr 2000000 0)], [(16, some (.ints .i64 q1.Cols)), (17, some (.ints .i64 q1.Rows)), (2000000, some (.box [.sv (.int .i64 q1.Level), .sv (.int .i64 q1.Bits), .own 16, .own 17, .sv (.int .i64 p0.Par.Qp), .sv (.bool p0.Par.Large), .sv (.bool p0.Par.Exact), .sv (.bool p0.Par.Confined), .sv (.int .i64 p0.Rate.Qp), .sv (.int .i64 p0.Rate.Target), .sv (.int .i64 p0.Rate.Debt), .sv (.int .i64 p0.Frame), .sv (.int .i64 p0.Since), .sv (.int .i64 p0.Every), .sv (.int .i64 p0.Reach), .sv (.bool p0.Has), .sv (.int .i64 p0.Ref.Wide), .sv (.int .i64 p0.Ref.High), .sv (.str p0.Ref.Dots)]))]⟩) (kW hC [(16, 80), (17, 81), (2000000, 32)]) rfl ⟨rfl, rfl, trivial⟩
def Yj5 (r : Int) : AV := .sv (.int .i64 r)
def Yj4 (r : Int) : Xa7 := []
theorem Yms {p0 p1 r} (h : Xq2 p0 p1 = some r) : AC Tryz.prog 60 [.agg [.sv (.int .i64 p0.Qp), .sv (.int .i64 p0.Target), .sv (.int .i64 p0.Debt)], .sv (.bool p1)] [] (Yj5 r) (Yj4 r) := by
 refine Xae hT Tryz.func60 rfl fun C hC => ?_
 unfold Xq2 at h
 refine Xac ?_
 iterate 2 refine kO hT hC ?_
 refine Vc.nil (Xat (Xao (Xac ?_)))
 refine kO hT hC ?_
 refine kC hC [] Tryz.call68 h (fun _ => Xqi) fun q1 h => ?_
 iterate 2 refine kO hT hC ?_
 refine Vc.nil ?_
 refine kS h ?_ ?_ <;> intro b1 h
 refine kt b1 (Xac ?_)
 refine kO hT hC ?_
 exact Vc.nil (Xah (Xhb (Xau kR)))
 refine kf b1 (Xac ?_)
 iterate 2 refine kO hT hC ?_
 refine Vc.nil ?_
 refine kS h ?_ ?_ <;> intro b2 h
 refine kt b2 (Xac ?_)
 iterate 5 refine kO hT hC ?_
 exact Vc.nil (Xah (Xhb (Xau kR)))
 refine kf b2 (Xag (Xaq (Xaf (Xac ?_))))
 iterate 3 refine kO hT hC ?_
 exact Vc.nil (Xah kR)
def Ym5 (r : Int) : AV := .sv (.int .i64 r)
def Ym4 (r : Int) : Xa7 := []
theorem Xt4 {p0 r} (h : Xnn p0 = some r) : AC Tryz.prog 199 [.sv (.int .i64 p0)] [] (Ym5 r) (Ym4 r) := by
 refine Xae hT Tryz.func199 rfl fun C hC => ?_
 unfold Xnn at h
 refine Xac ?_
 refine kO hT hC ?_
 refine kN ?_
 iterate 5 refine kO hT hC ?_
 exact Vc.nil (Xah kR)
def Ypo (r : Int) : AV := .sv (.int .i64 r)
def Ypn (r : Int) : Xa7 := []
theorem Xxi {p0 p1 r} (h : Xp5 p0 p1 = some r) : AC Tryz.prog 169 [.sv (.ints .i64 p0), .sv (.ints .i64 p1)] [] (Ypo r) (Ypn r) := by
 refine Xae hT Tryz.func169 rfl fun C hC => ?_
 unfold Xp5 at h
 refine Xac ?_
 refine kO hT hC ?_
 refine kN ?_
 refine kO hT hC ?_
 refine Vc.nil (Xat (Xac ?_))
 iterate 3 refine kO hT hC ?_
 refine Vc.nil ?_
 refine kL [1,5,8,9,10] [] [_,_,_,_,_] [] ?_
 refine kX h (fun v3 => ([(5, .sv (.int .i64 v3.1)), (10, .sv (.int .i64 v3.2))], [])) (fun v6 => ([(5, .sv (.int .i64 v6)), (1, .any), (8, .any), (9, .any), (10, .any)], [])) (kW hC []) (fun v3 s h => ?_) fun v6 h => ?_
 unfold Xpd at h
 refine Xac ?_
 refine kO hT hC ?_
 refine Vc.nil (Xat ?_)
 refine kS h ?_ ?_ <;> intro b3 h
 refine kt b3 (Xag (Xaf (Xat (Xao (Xac ?_)))))
 refine kO hT hC ?_
 refine kQ hT hC h fun h => ?_
 iterate 3 refine kO hT hC ?_
 refine Vc.nil (Xad ?_)
 iterate 4 refine kO hT hC ?_
 refine kQ hT hC h fun h => ?_
 iterate 2 refine kO hT hC ?_
 refine kC hC [] Tryz.call199 h (fun _ => Xt4) fun q7 h => ?_
 iterate 2 refine kO hT hC ?_
 refine Vc.nil (Xaq (Xaf (Xad ?_)))
 iterate 2 refine kO hT hC ?_
 exact Vc.nil kG
 exact kf b3 (Xas (Xa0 ku))
 refine Xaf (Xac ?_)
 iterate 2 refine kO hT hC ?_
 exact Vc.nil (Xah kR)
def Xzk (r : Int) : AV := .sv (.int .i64 r)
def Xzj (r : Int) : Xa7 := []
theorem Ybu {p0 r} (h : Xm1 p0 = some r) : AC Tryz.prog 174 [.sv (.int .i64 p0)] [] (Xzk r) (Xzj r) := by
 refine Xae hT Tryz.func174 rfl fun C hC => ?_
 unfold Xm1 at h
 refine Xac ?_
 refine kO hT hC ?_
 refine kN ?_
 refine kO hT hC ?_
 refine Vc.nil (Xat ?_)
 refine kL [0,3] [] [_,_] [] ?_
 refine kX h (fun v2 => ([(0, .sv (.int .i64 v2.1)), (3, .sv (.int .i64 v2.2))], [])) (fun v4 => ([(3, .sv (.int .i64 v4)), (0, .any)], [])) (kW hC []) (fun v2 s h => ?_) fun v4 h => ?_
 unfold Xcy at h
 refine Xat (Xac ?_)
 iterate 2 refine kO hT hC ?_
 refine Vc.nil ?_
 refine kS h ?_ ?_ <;> intro b3 h
 refine kt b3 (Xag (Xaf (Xat (Xao (Xad ?_)))))
 iterate 3 refine kO hT hC ?_
 refine Vc.nil (Xaq (Xaf (Xad ?_)))
 refine kO hT hC ?_
 refine kQ hT hC h fun h => ?_
 refine kO hT hC ?_
 exact Vc.nil kG
 exact kf b3 (Xas (Xa0 ku))
 refine Xaf (Xac ?_)
 iterate 2 refine kO hT hC ?_
 exact Vc.nil (Xah kR)
def Yko (r : ByteArray) : AV := .sv (.str r)
def Ykn (r : ByteArray) : Xa7 := []
theorem Xon {p0 p1 r} (h : Xke p0 p1 = some r) : AC Tryz.prog 128 [.sv (.int .i64 p0), .sv (.int .i64 p1)] [] (Yko r) (Ykn r) := by
 refine Xae hT Tryz.func128 rfl fun C hC => ?_
 unfold Xke at h
 refine Xac ?_
 refine kO hT hC ?_
 refine kN ?_
 refine kO hT hC ?_
 obtain ⟨hq, h⟩ := Xav h
 refine Yl2 hT hC rfl rfl rfl rfl ⟨hq.1, hq.2.1, hq.2.2, by decide⟩ ?_
 refine kO hT hC ?_
 refine Vc.nil (Xat (Xac ?_))
 iterate 3 refine kO hT hC ?_
 refine Vc.nil ?_
 refine kL [0,5,6] [128] [_,_,_] [_] ?_
 refine kX h (fun v2 => ([(0, .sv (.int .i64 v2.1)), (6, .sv (.int .i64 v2.2.1))], [(128, some (.ints .u8 v2.2.2))])) (fun v4 => ([(0, .any), (6, .any)], [(128, some (.ints .u8 v4))])) (kW hC []) (fun v2 s h => ?_) fun v4 h => ?_
 unfold Xk8 at h
 refine Xat (Xac ?_)
 iterate 2 refine kO hT hC ?_
 refine Vc.nil ?_
 refine kS h ?_ ?_ <;> intro b3 h
 refine kt b3 (Xag (Xaf (Xat (Xao (Xac ?_)))))
 iterate 6 refine kO hT hC ?_
 iterate 2 refine kQ hT hC h fun h => ?_
 refine Vc.nil (Xad ?_)
 refine kO hT hC ?_
 refine kQ hT hC h fun h => ?_
 refine kO hT hC ?_
 refine Vc.nil (Xaq (Xaf (Xad ?_)))
 iterate 3 refine kO hT hC ?_
 exact Vc.nil kG
 exact kf b3 (Xas (Xa0 ku))
 refine Xaf (Xac ?_)
 iterate 3 refine kO hT hC ?_
 exact Vc.nil (Xah kR)
def Yrd (r : ByteArray) : AV := .sv (.str r)
def Yrc (r : ByteArray) : Xa7 := []
theorem Xgy {p0 r} (h : Xir p0 = some r) : AC Tryz.prog 127 [.sv (.int .i64 p0)] [] (Yrd r) (Yrc r) := by
 refine Xae hT Tryz.func127 rfl fun C hC => ?_
 unfold Xir at h
 refine Xac ?_
 refine kO hT hC ?_
 refine kN ?_
 iterate 4 refine kO hT hC ?_
 refine kC hC [] Tryz.call174 h (fun _ => Ybu) fun q1 h => ?_
 iterate 2 refine kO hT hC ?_
 refine kC hC [] Tryz.call128 h (fun _ => Xon) fun q2 h => ?_
 refine kO hT hC ?_
 exact Vc.nil (Xah kR)
def Ykg (r : (ByteArray × Bool)) : AV := .tup [.sv (.str r.1), .sv (.bool r.2)]
def Ykf (r : (ByteArray × Bool)) : Xa7 := []
theorem Xzb {p0 r} (h : Xow p0 = some r) : AC Tryz.prog 173 [.sv (.int .i64 p0)] [] (Ykg r) (Ykf r) := by
 refine Xae hT Tryz.func173 rfl fun C hC => ?_
 unfold Xow at h
 refine Xac ?_
 iterate 2 refine kO hT hC ?_
 refine Vc.nil (Xat (Xac ?_))
 refine kO hT hC ?_
 refine kC hC [] Tryz.call69 h (fun _ => Xai) fun q1 h => ?_
 refine kO hT hC ?_
 refine Vc.nil ?_
 refine kS h ?_ ?_ <;> intro b1 h
 refine kt b1 (Xac ?_)
 iterate 2 refine kO hT hC ?_
 exact Vc.nil (Xah (Xau kR))
 refine kf b1 (Xag (Xaf (Xac ?_)))
 refine kO hT hC ?_
 refine kC hC [] Tryz.call127 h (fun _ => Xgy) fun q2 h => ?_
 iterate 2 refine kO hT hC ?_
 exact Vc.nil (Xah kR)
def Yhn (r : Int) : AV := .sv (.int .i64 r)
def Yhm (r : Int) : Xa7 := []
theorem Ykh {p0 r} (h : Xl9 p0 = some r) : AC Tryz.prog 191 [.sv (.int .i64 p0)] [] (Yhn r) (Yhm r) := by
 refine Xae hT Tryz.func191 rfl fun C hC => ?_
 unfold Xl9 at h
 refine Xac ?_
 refine kO hT hC ?_
 refine kN ?_
 refine kO hT hC ?_
 refine kC hC [] Tryz.call173 h (fun _ => Xzb) fun q1 h => ?_
 iterate 5 refine kO hT hC ?_
 refine kN ?_
 iterate 3 refine kO hT hC ?_
 exact Vc.nil (Xah kR)
def Xyl (r : (Int × Int)) : AV := .tup [.sv (.int .i64 r.1), .sv (.int .i64 r.2)]
def Xyk (r : (Int × Int)) : Xa7 := []
theorem Ya2 {p0 p1 r} (h : Xiz p0 p1 = some r) : AC Tryz.prog 165 [.sv (.ints .i64 p0), .agg [.sv (.ints .i64 p1.Above), .sv (.ints .i64 p1.Left), .sv (.int .i64 p1.Corner)]] [] (Xyl r) (Xyk r) := by
 refine Xae hT Tryz.func165 rfl fun C hC => ?_
 unfold Xiz at h
 refine Xac ?_
 iterate 3 refine kO hT hC ?_
 refine Vc.nil (Xat ?_)
 refine kL [0,3] [48] [_,_] [_] ?_
 refine kA h (fun v1 => ([(17, .sv (.bool v1))], [])) (fun v1 h => ?_) fun v1 h => ?_
 refine Xad ?_
 refine kO hT hC ?_
 refine kC hC [] Tryz.call190 h (fun _ => Xtr) fun q2 h => ?_
 iterate 2 refine kO hT hC ?_
 refine kS h ?_ ?_ <;> intro b1 h
 refine kI hT hC (kn b1) ?_
 refine kE hC (kn b1) [] Tryz.call163 h (fun _ => Xb3) fun q3 h => ?_
 refine kI hT hC (kn b1) ?_
 refine kP hC false (kn b1) ?_
 exact Vc.nil kM
 iterate 3 refine kF hC (kn b1) ?_
 refine kP hC true (kn b1) ?_
 exact Vc.nil kM
 refine kS h ?_ ?_ <;> intro b2 h
 refine kt b2 (Xac ?_)
 iterate 2 refine kO hT hC ?_
 exact Vc.nil (Xah (Xau kR))
 refine kf b2 (Xag (Xaf (Xac ?_)))
 iterate 2 refine kO hT hC ?_
 refine Vc.nil (Xat (Xac ?_))
 refine kO hT hC ?_
 refine Vc.nil ?_
 refine kL [0,3,6,7,8] [48] [_,_,_,_,_] [_] ?_
 refine kX h (fun v16 => ([(6, .sv (.int .i64 v16.1)), (7, .sv (.int .i64 v16.2.1)), (8, .sv (.int .i64 v16.2.2))], [])) (fun v23 => ([(6, .sv (.int .i64 v23.1)), (7, .sv (.int .i64 v23.2)), (0, .any), (3, .any), (8, .any)], [(48, none)])) (kW hC []) (fun v16 s h => ?_) fun v23 h => ?_
 unfold Xh8 at h
 refine Xat (Xac ?_)
 iterate 2 refine kO hT hC ?_
 refine Vc.nil ?_
 refine kS h ?_ ?_ <;> intro b12 h
 refine kt b12 (Xag (Xaf ?_))
 refine kL [0,3,6,7,8] [48] [_,_,_,_,_] [_] ?_
 refine kA h (fun v24 => ([(6, .sv (.int .i64 v24.1)), (7, .sv (.int .i64 v24.2))], [])) (fun v24 h => ?_) fun v24 h => ?_
 refine Xao (Xac ?_)
 iterate 3 refine kO hT hC ?_
 refine kC hC [(16, 400)] Tryz.call168 h (fun _ => Xo5) fun q25 h => ?_
 refine kC hC [] Tryz.call169 h (fun _ => Xxi) fun q26 h => ?_
 refine kO hT hC ?_
 refine kC hC [] Tryz.call191 h (fun _ => Ykh) fun q27 h => ?_
 iterate 2 refine kO hT hC ?_
 refine Vc.nil ?_
 refine kL [0,3,6,7,8,9] [48] [_,_,_,_,_,_] [_] ?_
 refine kA h (fun v28 => ([(36, .sv (.bool v28))], [])) (fun v28 h => ?_) fun v28 h => ?_
 refine Xad ?_
 iterate 3 refine kO hT hC ?_
 refine kS h ?_ ?_ <;> intro b13 h
 iterate 3 refine kF hC b13 ?_
 refine kP hC true b13 ?_
 exact Vc.nil kM
 iterate 3 refine kI hT hC b13 ?_
 refine kP hC false b13 ?_
 exact Vc.nil kM
 refine kS h ?_ ?_ <;> intro b14 h
 refine kt b14 (Xad ?_)
 iterate 4 refine kO hT hC ?_
 exact Vc.nil (Xaq kM)
 exact kf b14 (Xag (Xaq kM))
 refine Xad ?_
 iterate 3 refine kO hT hC ?_
 exact Vc.nil kG
 exact kf b12 (Xas (Xa0 ku))
 refine Xaf (Xac ?_)
 iterate 4 refine kO hT hC ?_
 exact Vc.nil (Xah kR)
def Ybw (r : (List Int)) : AV := .own 16
def Ybv (r : (List Int)) : Xa7 := [(16, .ints .i64 r)]
theorem Xs4 {p0 p1 r} (h : Xga p0 p1 = some r) : AC Tryz.prog 167 [.sv (.ints .i64 p0), .sv (.ints .i64 p1)] [] (Ybw r) (Ybv r) := by
 refine Xae hT Tryz.func167 rfl fun C hC => ?_
 unfold Xga at h
 refine Xac ?_
 refine kO hT hC ?_
 refine kN ?_
 iterate 2 refine kO hT hC ?_
 refine Vc.nil (Xat (Xac ?_))
 iterate 3 refine kO hT hC ?_
 refine Vc.nil ?_
 refine kL [1,5,9,10,11] [128] [_,_,_,_,_] [_] ?_
 refine kX h (fun v2 => ([(11, .sv (.int .i64 v2.1))], [(128, some (.ints .i64 v2.2))])) (fun v4 => ([(1, .any), (9, .any), (10, .any), (11, .any)], [(128, some (.ints .i64 v4))])) (kW hC []) (fun v2 s h => ?_) fun v4 h => ?_
 unfold Xjj at h
 refine Xac ?_
 refine kO hT hC ?_
 refine Vc.nil (Xat ?_)
 refine kS h ?_ ?_ <;> intro b3 h
 refine kt b3 (Xag (Xaf (Xat (Xao (Xac ?_)))))
 refine kO hT hC ?_
 refine kQ hT hC h fun h => ?_
 iterate 3 refine kO hT hC ?_
 refine Vc.nil (Xad ?_)
 iterate 4 refine kO hT hC ?_
 refine kQ hT hC h fun h => ?_
 iterate 3 refine kO hT hC ?_
 refine kT hT hC h fun h => ?_
 refine kO hT hC ?_
 refine Vc.nil (Xaq (Xaf (Xad ?_)))
 iterate 2 refine kO hT hC ?_
 refine Vc.nil ?_
 obtain rfl := kj h
 exact Yji (kW hC [(128, 384)])
 exact kf b3 (Xas (Xa0 ku))
 refine Xaf (Xac ?_)
 iterate 2 refine kO hT hC ?_
 refine Vc.nil (Xah ?_)
 obtain rfl := kj h
 exact Xcr (τ := ⟨[(4, .own 16)], [(16, some (.ints .i64 v4))]⟩) (kW hC [(16, 128)]) rfl ⟨rfl, trivial⟩
def Yec (r : ((List Int) × Bool)) : AV := .tup [.own 16, .sv (.bool r.2)]
def Yeb (r : ((List Int) × Bool)) : Xa7 := [(16, .ints .i64 r.1)]
theorem Xo9 {p0 p1 r} (h : Xhi p0 p1 = some r) : AC Tryz.prog 192 [.sv (.int .i64 p0), .sv (.ints .i64 p1)] [] (Yec r) (Yeb r) := by
 refine Xae hT Tryz.func192 rfl fun C hC => ?_
 unfold Xhi at h
 refine Xac ?_
 iterate 2 refine kO hT hC ?_
 refine kN ?_
 iterate 2 refine kO hT hC ?_
 refine Vc.nil (Xat ?_)
 refine kL [0,1,6] [144] [_,_,_] [_] ?_
 refine kA h (fun v1 => ([(23, .sv (.bool v1))], [])) (fun v1 h => ?_) fun v1 h => ?_
 refine Xad ?_
 iterate 3 refine kO hT hC ?_
 refine kS h ?_ ?_ <;> intro b1 h
 iterate 2 refine kI hT hC b1 ?_
 refine kP hC true b1 ?_
 refine kO hT hC ?_
 refine kS h ?_ ?_ <;> intro b2 h
 iterate 6 refine kF hC b2 ?_
 refine kP hC true b2 ?_
 exact Vc.nil kM
 iterate 6 refine kI hT hC b2 ?_
 refine kP hC false b2 ?_
 exact Vc.nil kM
 iterate 2 refine kF hC b1 ?_
 refine kP hC false b1 ?_
 refine kO hT hC ?_
 iterate 6 refine kI hT hC rfl ?_
 refine kO hT hC ?_
 exact Vc.nil kM
 refine kS h ?_ ?_ <;> intro b3 h
 refine kt b3 (Xac ?_)
 iterate 3 refine kO hT hC ?_
 refine Vc.nil (Xah (Xau ?_))
 obtain rfl := kj h
 exact Xcr (τ := ⟨[(4, .own 16), (5, .sv (.bool false))], [(16, some (.ints .i64 ([] : List Int)))]⟩) (kW hC [(16, 144)]) rfl ⟨rfl, trivial⟩
 refine kf b3 (Xag (Xaf (Xat (Xac ?_))))
 refine kO hT hC ?_
 refine kC hC [(16, 416)] Tryz.call223 h (fun _ => Xrd) fun q2 h => ?_
 iterate 2 refine kO hT hC ?_
 refine Vc.nil ?_
 refine kL [1,6,26,27,28] [144,416] [_,_,_,_,_] [_,_] ?_
 refine kX h (fun v4 => ([(28, .sv (.int .i64 v4.1))], [(144, some (.ints .i64 v4.2))])) (fun v6 => ([(1, .any), (26, .any), (27, .any), (28, .any)], [(144, some (.ints .i64 v6)), (416, none)])) (kW hC []) (fun v4 s h => ?_) fun v6 h => ?_
 unfold Xkz at h
 refine Xac ?_
 refine kO hT hC ?_
 refine Vc.nil (Xat ?_)
 refine kS h ?_ ?_ <;> intro b6 h
 refine kt b6 (Xag (Xaf (Xat (Xao (Xac ?_)))))
 iterate 2 refine kQ hT hC h fun h => ?_
 refine kO hT hC ?_
 refine Vc.nil (Xad ?_)
 iterate 3 refine kO hT hC ?_
 refine kQ hT hC h fun h => ?_
 iterate 2 refine kO hT hC ?_
 refine kT hT hC h fun h => ?_
 refine kO hT hC ?_
 refine Vc.nil (Xaq (Xaf (Xad ?_)))
 iterate 2 refine kO hT hC ?_
 refine Vc.nil ?_
 obtain rfl := kj h
 exact Yji (kW hC [(144, 608)])
 exact kf b6 (Xas (Xa0 ku))
 refine Xaf (Xac ?_)
 iterate 3 refine kO hT hC ?_
 refine Vc.nil (Xah ?_)
 obtain rfl := kj h
 exact Xcr (τ := ⟨[(4, .own 16), (5, .sv (.bool true))], [(16, some (.ints .i64 v6))]⟩) (kW hC [(16, 144)]) rfl ⟨rfl, trivial⟩
def Yjs (r : (List Int)) : AV := .own 16
def Yjr (r : (List Int)) : Xa7 := [(16, .ints .i64 r)]
theorem Ymn {p0 r} (h : Xq1 p0 = some r) : AC Tryz.prog 193 [.sv (.ints .i64 p0)] [] (Yjs r) (Yjr r) := by
 refine Xae hT Tryz.func193 rfl fun C hC => ?_
 unfold Xq1 at h
 refine Xac ?_
 refine kO hT hC ?_
 refine Vc.nil (Xat (Xac ?_))
 refine kO hT hC ?_
 refine kC hC [] Tryz.call163 h (fun _ => Xb3) fun q1 h => ?_
 refine kO hT hC ?_
 refine Vc.nil ?_
 refine kS h ?_ ?_ <;> intro b1 h
 refine kt b1 (Xac ?_)
 iterate 2 refine kO hT hC ?_
 refine Vc.nil (Xah (Xau ?_))
 obtain rfl := kj h
 exact Xcr (τ := ⟨[(2, .own 16)], [(16, some (.ints .i64 ([] : List Int)))]⟩) (kW hC [(16, 96)]) rfl ⟨rfl, trivial⟩
 refine kf b1 (Xag (Xaf (Xac ?_)))
 refine kO hT hC ?_
 refine kC hC [(16, 128)] Tryz.call224 h (fun _ => Yc0) fun q2 h => ?_
 refine kO hT hC ?_
 refine Vc.nil (Xah ?_)
 obtain rfl := kj h
 exact Xcr (τ := ⟨[(2, .own 16)], [(16, some (.ints .i64 q2))]⟩) (kW hC [(16, 128)]) rfl ⟨rfl, trivial⟩
def Yh4 (r : Int) : AV := .sv (.int .i64 r)
def Yh3 (r : Int) : Xa7 := []
theorem Xwa {p0 p1 r} (h : Xph p0 p1 = some r) : AC Tryz.prog 226 [.sv (.int .i64 p0), .sv (.int .i64 p1)] [] (Yh4 r) (Yh3 r) := by
 refine Xae hT Tryz.func226 rfl fun C hC => ?_
 unfold Xph at h
 refine Xac ?_
 refine kO hT hC ?_
 refine Vc.nil (Xat (Xac ?_))
 iterate 2 refine kO hT hC ?_
 refine Vc.nil ?_
 refine kS h ?_ ?_ <;> intro b1 h
 refine kt b1 (Xac ?_)
 iterate 3 refine kO hT hC ?_
 exact Vc.nil (Xah (Xau kR))
 refine kf b1 (Xag (Xaf (Xac ?_)))
 iterate 2 refine kO hT hC ?_
 exact Vc.nil (Xah kR)
def Xw3 (r : Int) : AV := .sv (.int .i64 r)
def Xw2 (r : Int) : Xa7 := []
theorem Xyr {p0 p1 r} (h : Xhg p0 p1 = some r) : AC Tryz.prog 194 [.sv (.int .i64 p0), .sv (.int .i64 p1)] [] (Xw3 r) (Xw2 r) := by
 refine Xae hT Tryz.func194 rfl fun C hC => ?_
 unfold Xhg at h
 refine Xac ?_
 refine kO hT hC ?_
 refine Vc.nil (Xat ?_)
 refine kL [0,1] [] [_,_] [] ?_
 refine kA h (fun v1 => ([(13, .sv (.bool v1))], [])) (fun v1 h => ?_) fun v1 h => ?_
 refine Xad ?_
 refine kO hT hC ?_
 refine kC hC [] Tryz.call69 h (fun _ => Xai) fun q2 h => ?_
 iterate 2 refine kO hT hC ?_
 refine kS h ?_ ?_ <;> intro b1 h
 refine kI hT hC (kn b1) ?_
 refine kE hC (kn b1) [] Tryz.call69 h (fun _ => Xai) fun q3 h => ?_
 refine kI hT hC (kn b1) ?_
 refine kP hC false (kn b1) ?_
 exact Vc.nil kM
 iterate 3 refine kF hC (kn b1) ?_
 refine kP hC true (kn b1) ?_
 exact Vc.nil kM
 refine kS h ?_ ?_ <;> intro b2 h
 refine kt b2 (Xac ?_)
 refine kO hT hC ?_
 exact Vc.nil (Xah (Xau kR))
 refine kf b2 (Xag (Xaf (Xac ?_)))
 refine kO hT hC ?_
 refine kC hC [] Tryz.call225 h (fun _ => Xv2) fun q4 h => ?_
 refine kO hT hC ?_
 refine kN ?_
 refine kO hT hC ?_
 refine kC hC [] Tryz.call199 h (fun _ => Xt4) fun q5 h => ?_
 refine kO hT hC ?_
 refine kQ hT hC h fun h => ?_
 iterate 2 refine kO hT hC ?_
 refine kQ hT hC h fun h => ?_
 refine kO hT hC ?_
 refine kC hC [] Tryz.call226 h (fun _ => Xwa) fun q6 h => ?_
 refine kO hT hC ?_
 exact Vc.nil (Xah kR)
def Ygm (r : (Int × Int × Int × Int)) : AV := .agg [.sv (.int .i64 r.1), .sv (.int .i64 r.2.1), .sv (.int .i64 r.2.2.1), .sv (.int .i64 r.2.2.2)]
def Ygl (r : (Int × Int × Int × Int)) : Xa7 := []
theorem Xvt {p0 p1 p2 p3 r} (h : Xl2 p0 p1 p2 p3 = some r) : AC Tryz.prog 228 [.sv (.int .i64 p0), .sv (.int .i64 p1), .sv (.int .i64 p2), .sv (.int .i64 p3)] [] (Ygm r) (Ygl r) := by
 refine Xae hT Tryz.func228 rfl fun C hC => ?_
 unfold Xl2 at h
 refine Xac ?_
 refine kO hT hC ?_
 refine kN ?_
 iterate 34 refine kO hT hC ?_
 exact Vc.nil (Xah kR)
def Xpj (r : (List Int)) : AV := .own 16
def Xpi (r : (List Int)) : Xa7 := [(16, .ints .i64 r)]
theorem Xpy {p0 r} (h : Xdq p0 = some r) : AC Tryz.prog 227 [.sv (.ints .i64 p0), .fn 228 []] [] (Xpj r) (Xpi r) := by
 refine Xae hT Tryz.func227 rfl fun C hC => ?_
 unfold Xdq at h
 refine Xac ?_
 refine kO hT hC ?_
 refine kN ?_
 refine kO hT hC ?_
 refine kC hC [(16, 208)] Tryz.call135 h (fun _ => Xji) fun q1 h => ?_
 refine kO hT hC ?_
 refine Vc.nil (Xat (Xac ?_))
 refine kO hT hC ?_
 refine Vc.nil ?_
 refine kL [1,5,6] [208] [_,_,_] [_] ?_
 refine kX h (fun v4 => ([(6, .sv (.int .i64 v4.1))], [(208, some (.ints .i64 v4.2))])) (fun v7 => ([(6, .any)], [(208, some (.ints .i64 v7))])) (kW hC []) (fun v4 s h => ?_) fun v7 h => ?_
 unfold Xip at h
 refine Xat (Xac ?_)
 iterate 2 refine kO hT hC ?_
 refine Vc.nil ?_
 refine kS h ?_ ?_ <;> intro b3 h
 refine kt b3 (Xag (Xaf (Xat (Xao ?_))))
 refine Xcm hm ?_
 iterate 3 refine kO hT hC ?_
 iterate 2 refine kQ hT hC h fun h => ?_
 iterate 3 refine kO hT hC ?_
 iterate 2 refine kQ hT hC h fun h => ?_
 iterate 3 refine kO hT hC ?_
 iterate 2 refine kQ hT hC h fun h => ?_
 iterate 3 refine kO hT hC ?_
 iterate 2 refine kQ hT hC h fun h => ?_
 refine kC hC [] Tryz.call228 h (fun _ => Xvt) fun q8 h => ?_
 iterate 2 refine kO hT hC ?_
 refine kD ?_
 refine Xej hm ?_
 iterate 4 refine kO hT hC ?_
 refine kQ hT hC h fun h => ?_
 refine Zcf hT hC rfl rfl rfl rfl rfl rfl rfl rfl rfl ?_
 obtain ⟨hq, h⟩ := Xav h
 refine Yzp hT hC rfl rfl rfl rfl rfl rfl rfl rfl rfl ⟨⟨trivial, hq.1⟩, hq.2⟩ ?_
 refine kD (Xaq (Xaf (Xad ?_)))
 iterate 3 refine kO hT hC ?_
 exact Vc.nil kG
 exact kf b3 (Xas (Xa0 ku))
 refine Xaf (Xat (Xac ?_))
 refine kO hT hC ?_
 refine Vc.nil ?_
 refine kL [1,5,46] [208] [_,_,_] [_] ?_
 refine kX h (fun v17 => ([(46, .sv (.int .i64 v17.1))], [(208, some (.ints .i64 v17.2))])) (fun v25 => ([(1, .any), (46, .any)], [(208, some (.ints .i64 v25))])) (kW hC []) (fun v17 s h => ?_) fun v25 h => ?_
 unfold Xhs at h
 refine Xac ?_
 refine kO hT hC ?_
 refine Vc.nil (Xat ?_)
 refine kS h ?_ ?_ <;> intro b12 h
 refine kt b12 (Xag (Xaf (Xat (Xao (Xac ?_)))))
 iterate 2 refine kO hT hC ?_
 refine Vc.nil ?_
 refine Xcm hm ?_
 iterate 3 refine kO hT hC ?_
 iterate 2 refine kQ hT hC h fun h => ?_
 iterate 3 refine kO hT hC ?_
 iterate 2 refine kQ hT hC h fun h => ?_
 iterate 3 refine kO hT hC ?_
 iterate 2 refine kQ hT hC h fun h => ?_
 iterate 3 refine kO hT hC ?_
 iterate 2 refine kQ hT hC h fun h => ?_
 refine kC hC [] Tryz.call228 h (fun _ => Xvt) fun q26 h => ?_
 iterate 2 refine kO hT hC ?_
 refine kD (Xac ?_)
 iterate 2 refine kO hT hC ?_
 refine Vc.nil ?_
 refine kL [1,5,8,46,70,71] [208] [_,_,_,_,_,_] [_] ?_
 refine kX h (fun v28 => ([(71, .sv (.int .i64 v28.1))], [(208, some (.ints .i64 v28.2))])) (fun v30 => ([(8, .any), (70, .any), (71, .any)], [(208, some (.ints .i64 v30))])) (kW hC []) (fun v28 s h => ?_) fun v30 h => ?_
 unfold Xht at h
 refine Xac ?_
 refine kO hT hC ?_
 refine Vc.nil (Xat ?_)
 refine kS h ?_ ?_ <;> intro b15 h
 refine kt b15 (Xag (Xaf (Xat (Xao (Xac ?_)))))
 refine kO hT hC ?_
 obtain ⟨hq, h⟩ := Xav h
 refine Zcg hT hC rfl rfl rfl rfl rfl rfl rfl hq ?_
 iterate 2 refine kO hT hC ?_
 refine Vc.nil (Xad ?_)
 iterate 6 refine kO hT hC ?_
 iterate 2 refine kQ hT hC h fun h => ?_
 refine Vc.nil (Xaq (Xaf (Xad ?_)))
 iterate 2 refine kO hT hC ?_
 exact Vc.nil kG
 exact kf b15 (Xas (Xa0 ku))
 refine Xaq (Xaf (Xad ?_))
 iterate 2 refine kO hT hC ?_
 exact Vc.nil kG
 exact kf b12 (Xas (Xa0 ku))
 refine Xaf (Xac ?_)
 iterate 2 refine kO hT hC ?_
 refine Vc.nil (Xah ?_)
 obtain rfl := kj h
 exact Xcr (τ := ⟨[(4, .own 16)], [(16, some (.ints .i64 v25))]⟩) (kW hC [(16, 208)]) rfl ⟨rfl, trivial⟩
def Ymp (r : (List Int)) : AV := .own 16
def Ymo (r : (List Int)) : Xa7 := [(16, .ints .i64 r)]
theorem Ypj {p0 r} (h : Xts p0 = some r) : AC Tryz.prog 196 [.sv (.ints .i64 p0)] [] (Ymp r) (Ymo r) := by
 refine Xae hT Tryz.func196 rfl fun C hC => ?_
 unfold Xts at h
 refine Xac ?_
 refine kO hT hC ?_
 refine Vc.nil (Xat (Xac ?_))
 refine kO hT hC ?_
 refine kC hC [] Tryz.call163 h (fun _ => Xb3) fun q1 h => ?_
 refine kO hT hC ?_
 refine Vc.nil ?_
 refine kS h ?_ ?_ <;> intro b1 h
 refine kt b1 (Xac ?_)
 iterate 2 refine kO hT hC ?_
 refine Vc.nil (Xah (Xau ?_))
 obtain rfl := kj h
 exact Xcr (τ := ⟨[(2, .own 16)], [(16, some (.ints .i64 ([] : List Int)))]⟩) (kW hC [(16, 96)]) rfl ⟨rfl, trivial⟩
 refine kf b1 (Xag (Xaf (Xac ?_)))
 refine kO hT hC ?_
 refine kC hC [(16, 128)] Tryz.call227 h (fun _ => Xpy) fun q2 h => ?_
 refine kO hT hC ?_
 refine Vc.nil (Xah ?_)
 obtain rfl := kj h
 exact Xcr (τ := ⟨[(2, .own 16)], [(16, some (.ints .i64 q2))]⟩) (kW hC [(16, 128)]) rfl ⟨rfl, trivial⟩
def Yee (r : Int) : AV := .sv (.int .i64 r)
def Yed (r : Int) : Xa7 := []
theorem Yhc {p0 p1 r} (h : Xnl p0 p1 = some r) : AC Tryz.prog 229 [.sv (.int .i64 p0), .sv (.int .i64 p1)] [] (Yee r) (Yed r) := by
 refine Xae hT Tryz.func229 rfl fun C hC => ?_
 unfold Xnl at h
 refine Xac ?_
 refine kO hT hC ?_
 refine Vc.nil (Xat ?_)
 refine kL [0,1] [] [_,_] [] ?_
 refine kA h (fun v1 => ([(13, .sv (.bool v1))], [])) (fun v1 h => ?_) fun v1 h => ?_
 refine Xad ?_
 refine kO hT hC ?_
 refine kC hC [] Tryz.call69 h (fun _ => Xai) fun q2 h => ?_
 iterate 2 refine kO hT hC ?_
 refine kS h ?_ ?_ <;> intro b1 h
 refine kI hT hC (kn b1) ?_
 refine kE hC (kn b1) [] Tryz.call69 h (fun _ => Xai) fun q3 h => ?_
 refine kI hT hC (kn b1) ?_
 refine kP hC false (kn b1) ?_
 exact Vc.nil kM
 iterate 3 refine kF hC (kn b1) ?_
 refine kP hC true (kn b1) ?_
 exact Vc.nil kM
 refine kS h ?_ ?_ <;> intro b2 h
 refine kt b2 (Xac ?_)
 refine kO hT hC ?_
 exact Vc.nil (Xah (Xau kR))
 refine kf b2 (Xag (Xaf (Xac ?_)))
 iterate 9 refine kO hT hC ?_
 refine Vc.nil ?_
 refine Xcm hm ?_
 refine kO hT hC ?_
 refine kQ hT hC h fun h => ?_
 refine kO hT hC ?_
 refine kC hC [] Tryz.call253 h (fun _ => Xvx) fun q4 h => ?_
 iterate 2 refine kQ hT hC h fun h => ?_
 obtain ⟨hq, h⟩ := Xav h
 refine Zci hT hC rfl rfl rfl rfl rfl rfl hq ?_
 refine kO hT hC ?_
 exact kD (Xah kR)
def Xw7 (r : Int) : AV := .sv (.int .i64 r)
def Xw6 (r : Int) : Xa7 := []
theorem Xy1 {p0 p1 p2 r} (h : Xhk p0 p1 p2 = some r) : AC Tryz.prog 197 [.sv (.int .i64 p0), .sv (.int .i64 p1), .sv (.int .i64 p2)] [] (Xw7 r) (Xw6 r) := by
 refine Xae hT Tryz.func197 rfl fun C hC => ?_
 unfold Xhk at h
 refine Xac ?_
 refine kO hT hC ?_
 refine Vc.nil (Xat ?_)
 refine kL [0,1,2] [] [_,_,_] [] ?_
 refine kA h (fun v1 => ([(20, .sv (.bool v1))], [])) (fun v1 h => ?_) fun v1 h => ?_
 refine Xad ?_
 refine kO hT hC ?_
 refine kC hC [] Tryz.call69 h (fun _ => Xai) fun q2 h => ?_
 iterate 2 refine kO hT hC ?_
 refine kS h ?_ ?_ <;> intro b1 h
 refine kI hT hC (kn b1) ?_
 refine kE hC (kn b1) [] Tryz.call69 h (fun _ => Xai) fun q3 h => ?_
 refine kI hT hC (kn b1) ?_
 refine kP hC false (kn b1) ?_
 refine kO hT hC ?_
 refine kS h ?_ ?_ <;> intro b2 h
 refine kI hT hC (kn b2) ?_
 refine kE hC (kn b2) [] Tryz.call69 h (fun _ => Xai) fun q4 h => ?_
 refine kI hT hC (kn b2) ?_
 refine kP hC false (kn b2) ?_
 exact Vc.nil kM
 iterate 3 refine kF hC (kn b2) ?_
 refine kP hC true (kn b2) ?_
 exact Vc.nil kM
 iterate 3 refine kF hC (kn b1) ?_
 refine kP hC true (kn b1) ?_
 refine kO hT hC ?_
 iterate 3 refine kF hC rfl ?_
 refine kO hT hC ?_
 exact Vc.nil kM
 refine kS h ?_ ?_ <;> intro b3 h
 refine kt b3 (Xac ?_)
 refine kO hT hC ?_
 exact Vc.nil (Xah (Xau kR))
 refine kf b3 (Xag (Xaf (Xac ?_)))
 refine kO hT hC ?_
 refine kQ hT hC h fun h => ?_
 refine kO hT hC ?_
 refine kQ hT hC h fun h => ?_
 refine kO hT hC ?_
 refine kN ?_
 refine kO hT hC ?_
 refine kC hC [] Tryz.call199 h (fun _ => Xt4) fun q5 h => ?_
 iterate 2 refine kO hT hC ?_
 refine kC hC [] Tryz.call229 h (fun _ => Yhc) fun q6 h => ?_
 iterate 2 refine kO hT hC ?_
 refine kQ hT hC h fun h => ?_
 iterate 2 refine kO hT hC ?_
 refine kQ hT hC h fun h => ?_
 refine kO hT hC ?_
 refine kC hC [] Tryz.call226 h (fun _ => Xwa) fun q7 h => ?_
 refine kO hT hC ?_
 exact Vc.nil (Xah kR)
def Ybc (r : ((List Int) × Bool)) : AV := .tup [.own 16, .sv (.bool r.2)]
def Ybb (r : ((List Int) × Bool)) : Xa7 := [(16, .ints .i64 r.1)]
theorem Xs1 {p0 p1 r} (h : Xf5 p0 p1 = some r) : AC Tryz.prog 166 [.sv (.ints .i64 p0), .agg [.sv (.bool p1.Key), .sv (.int .i64 p1.Qp), .sv (.bool p1.Large), .sv (.bool p1.Exact)]] [] (Ybc r) (Ybb r) := by
 refine Xae hT Tryz.func166 rfl fun C hC => ?_
 unfold Xf5 at h
 refine Xac ?_
 iterate 3 refine kO hT hC ?_
 refine Vc.nil (Xat ?_)
 refine kL [0,3] [48] [_,_] [_] ?_
 refine kA h (fun v1 => ([(26, .sv (.bool v1))], [])) (fun v1 h => ?_) fun v1 h => ?_
 refine Xad ?_
 refine kO hT hC ?_
 refine kC hC [] Tryz.call163 h (fun _ => Xb3) fun q2 h => ?_
 iterate 2 refine kO hT hC ?_
 refine kS h ?_ ?_ <;> intro b1 h
 refine kI hT hC (kn b1) ?_
 refine kE hC (kn b1) [] Tryz.call121 h (fun _ => Xey) fun q3 h => ?_
 refine kI hT hC (kn b1) ?_
 refine kP hC false (kn b1) ?_
 exact Vc.nil kM
 iterate 3 refine kF hC (kn b1) ?_
 refine kP hC true (kn b1) ?_
 exact Vc.nil kM
 refine kS h ?_ ?_ <;> intro b2 h
 refine kt b2 (Xac ?_)
 iterate 3 refine kO hT hC ?_
 refine Vc.nil (Xah (Xau ?_))
 obtain rfl := kj h
 exact Xcr (τ := ⟨[(4, .own 16), (5, .sv (.bool false))], [(16, some (.ints .i64 ([] : List Int)))]⟩) (kW hC [(16, 432)]) rfl ⟨rfl, trivial⟩
 refine kf b2 (Xag (Xaf (Xat (Xac ?_))))
 iterate 2 refine kO hT hC ?_
 refine Vc.nil ?_
 refine kS h ?_ ?_ <;> intro b3 h
 refine kt b3 (Xac ?_)
 refine kO hT hC ?_
 refine kC hC [(16, 496)] Tryz.call192 h (fun _ => Xo9) fun q4 h => ?_
 iterate 4 refine kO hT hC ?_
 refine Vc.nil (Xah (Xau ?_))
 obtain rfl := kj h
 exact Xcr (τ := ⟨[(4, .own 16), (5, .sv (.bool q4.2))], [(16, some (.ints .i64 q4.1))]⟩) (kW hC [(16, 496)]) rfl ⟨rfl, trivial⟩
 refine kf b3 (Xag (Xaf (Xat (Xac ?_))))
 iterate 2 refine kO hT hC ?_
 refine Vc.nil ?_
 refine kS h ?_ ?_ <;> intro b4 h
 refine kt b4 (Xac ?_)
 refine kO hT hC ?_
 refine kC hC [(16, 592)] Tryz.call193 h (fun _ => Ymn) fun q5 h => ?_
 refine kO hT hC ?_
 refine Vc.nil (Xat (Xac ?_))
 iterate 3 refine kO hT hC ?_
 refine Vc.nil ?_
 refine kL [3,6,38,39,40] [48,592] [_,_,_,_,_] [_,_] ?_
 refine kX h (fun v8 => ([(40, .sv (.int .i64 v8.1))], [(592, some (.ints .i64 v8.2))])) (fun v11 => ([(3, .any), (38, .any), (39, .any), (40, .any)], [(592, some (.ints .i64 v11)), (48, none)])) (kW hC []) (fun v8 s h => ?_) fun v11 h => ?_
 unfold Xjh at h
 refine Xac ?_
 refine kO hT hC ?_
 refine Vc.nil (Xat ?_)
 refine kS h ?_ ?_ <;> intro b7 h
 refine kt b7 (Xag (Xaf (Xat (Xao (Xac ?_)))))
 refine kO hT hC ?_
 iterate 2 refine kQ hT hC h fun h => ?_
 iterate 2 refine kO hT hC ?_
 refine Vc.nil (Xad ?_)
 iterate 5 refine kO hT hC ?_
 refine kC hC [] Tryz.call194 h (fun _ => Xyr) fun q12 h => ?_
 iterate 2 refine kQ hT hC h fun h => ?_
 refine Vc.nil (Xaq (Xaf (Xad ?_)))
 iterate 2 refine kO hT hC ?_
 exact Vc.nil kG
 exact kf b7 (Xas (Xa0 ku))
 refine Xaf (Xac ?_)
 refine kO hT hC ?_
 refine kC hC [(16, 864)] Tryz.call192 h (fun _ => Xo9) fun q14 h => ?_
 iterate 4 refine kO hT hC ?_
 refine Vc.nil (Xah (Xau ?_))
 obtain rfl := kj h
 exact Xcr (τ := ⟨[(4, .own 16), (5, .sv (.bool q14.2))], [(16, some (.ints .i64 q14.1))]⟩) (kW hC [(16, 864)]) rfl ⟨rfl, trivial⟩
 refine kf b4 (Xag (Xaf (Xac ?_)))
 iterate 2 refine kO hT hC ?_
 refine Vc.nil (Xat (Xac ?_))
 refine kO hT hC ?_
 refine Vc.nil ?_
 refine kL [0,3,9,58] [48,912] [_,_,_,_] [_,_] ?_
 refine kX h (fun v32 => ([(58, .sv (.int .i64 v32.1))], [(912, some (.ints .i64 v32.2))])) (fun v50 => ([(0, .any), (3, .any), (58, .any)], [(912, some (.ints .i64 v50)), (48, none)])) (kW hC []) (fun v32 s h => ?_) fun v50 h => ?_
 unfold Xl5 at h
 refine Xac ?_
 refine kO hT hC ?_
 refine Vc.nil (Xat ?_)
 refine kS h ?_ ?_ <;> intro b22 h
 refine kt b22 (Xag (Xaf (Xat (Xao (Xac ?_)))))
 iterate 2 refine kO hT hC ?_
 refine kN ?_
 iterate 2 refine kO hT hC ?_
 refine Vc.nil (Xat (Xac ?_))
 refine kO hT hC ?_
 refine kC hC [(16, 1008)] Tryz.call195 h (fun _ => Xt0) fun q51 h => ?_
 iterate 2 refine kO hT hC ?_
 refine Vc.nil ?_
 refine kL [0,3,9,11,58,63,64,65] [48,912,976,1008] [_,_,_,_,_,_,_,_] [_,_,_,_] ?_
 refine kX h (fun v53 => ([(65, .sv (.int .i64 v53.1))], [(976, some (.ints .i64 v53.2))])) (fun v55 => ([(63, .any), (64, .any), (65, .any)], [(976, some (.ints .i64 v55)), (1008, none)])) (kW hC []) (fun v53 s h => ?_) fun v55 h => ?_
 unfold Xfg at h
 refine Xac ?_
 refine kO hT hC ?_
 refine Vc.nil (Xat ?_)
 refine kS h ?_ ?_ <;> intro b25 h
 refine kt b25 (Xag (Xaf (Xat (Xao (Xac ?_)))))
 iterate 2 refine kQ hT hC h fun h => ?_
 refine kO hT hC ?_
 refine Vc.nil (Xad ?_)
 iterate 3 refine kO hT hC ?_
 refine kQ hT hC h fun h => ?_
 iterate 2 refine kO hT hC ?_
 refine kT hT hC h fun h => ?_
 refine kO hT hC ?_
 refine Vc.nil (Xaq (Xaf (Xad ?_)))
 iterate 2 refine kO hT hC ?_
 refine Vc.nil ?_
 obtain rfl := kj h
 exact Yji (kW hC [(976, 1200)])
 exact kf b25 (Xas (Xa0 ku))
 refine Xaf (Xac ?_)
 refine kO hT hC ?_
 refine kC hC [(16, 1248)] Tryz.call196 h (fun _ => Ypj) fun q57 h => ?_
 refine kO hT hC ?_
 refine Vc.nil (Xat (Xac ?_))
 iterate 3 refine kO hT hC ?_
 refine Vc.nil ?_
 refine kL [0,3,9,14,58,79,80,81] [48,912,1248] [_,_,_,_,_,_,_,_] [_,_,_] ?_
 refine kX h (fun v60 => ([(81, .sv (.int .i64 v60.1))], [(1248, some (.ints .i64 v60.2))])) (fun v63 => ([(79, .any), (80, .any), (81, .any)], [(1248, some (.ints .i64 v63))])) (kW hC []) (fun v60 s h => ?_) fun v63 h => ?_
 unfold Xh9 at h
 refine Xac ?_
 refine kO hT hC ?_
 refine Vc.nil (Xat ?_)
 refine kS h ?_ ?_ <;> intro b28 h
 refine kt b28 (Xag (Xaf (Xat (Xao (Xac ?_)))))
 refine kO hT hC ?_
 iterate 2 refine kQ hT hC h fun h => ?_
 iterate 2 refine kO hT hC ?_
 refine Vc.nil (Xad ?_)
 iterate 6 refine kO hT hC ?_
 refine kC hC [] Tryz.call197 h (fun _ => Xy1) fun q64 h => ?_
 iterate 2 refine kQ hT hC h fun h => ?_
 refine Vc.nil (Xaq (Xaf (Xad ?_)))
 iterate 2 refine kO hT hC ?_
 exact Vc.nil kG
 exact kf b28 (Xas (Xa0 ku))
 refine Xaf (Xac ?_)
 refine kO hT hC ?_
 refine kC hC [(16, 1552)] Tryz.call192 h (fun _ => Xo9) fun q66 h => ?_
 iterate 5 refine kO hT hC ?_
 refine Vc.nil (Xad ?_)
 iterate 2 refine kO hT hC ?_
 refine kT hT hC h fun h => ?_
 refine kO hT hC ?_
 refine Vc.nil (Xaq (Xaf (Xad ?_)))
 iterate 2 refine kO hT hC ?_
 refine Vc.nil ?_
 obtain rfl := kj h
 exact Yji (kW hC [(912, 1632)])
 exact kf b22 (Xas (Xa0 ku))
 refine Xaf (Xac ?_)
 iterate 3 refine kO hT hC ?_
 refine Vc.nil (Xah ?_)
 obtain rfl := kj h
 exact Xcr (τ := ⟨[(4, .own 16), (5, .sv (.bool true))], [(16, some (.ints .i64 v50))]⟩) (kW hC [(16, 912)]) rfl ⟨rfl, trivial⟩
def Ygk (r : (Int × Bool)) : AV := .tup [.sv (.int .i64 r.1), .sv (.bool r.2)]
def Ygj (r : (Int × Bool)) : Xa7 := []
theorem Xvr {p0 r} (h : Xl1 p0 = some r) : AC Tryz.prog 172 [.sv (.int .i64 p0)] [] (Ygk r) (Ygj r) := by
 refine Xae hT Tryz.func172 rfl fun C hC => ?_
 unfold Xl1 at h
 refine Xac ?_
 iterate 2 refine kO hT hC ?_
 refine Vc.nil (Xat (Xao (Xac ?_)))
 refine kO hT hC ?_
 refine kC hC [] Tryz.call69 h (fun _ => Xai) fun q1 h => ?_
 iterate 2 refine kO hT hC ?_
 refine Vc.nil ?_
 refine kS h ?_ ?_ <;> intro b1 h
 refine kt b1 (Xac ?_)
 iterate 2 refine kO hT hC ?_
 exact Vc.nil (Xah (Xhb (Xau kR)))
 refine kf b1 (Xac ?_)
 iterate 3 refine kO hT hC ?_
 refine Vc.nil ?_
 refine kS h ?_ ?_ <;> intro b2 h
 refine kt b2 (Xac ?_)
 iterate 5 refine kO hT hC ?_
 exact Vc.nil (Xah (Xhb (Xau kR)))
 refine kf b2 (Xag (Xaq (Xaf (Xac ?_))))
 iterate 4 refine kO hT hC ?_
 exact Vc.nil (Xah kR)
def Yj7 (r : (ByteArray × Bool)) : AV := .tup [.sv (.str r.1), .sv (.bool r.2)]
def Yj6 (r : (ByteArray × Bool)) : Xa7 := []
theorem Xol {p0 r} (h : Xj6 p0 = some r) : AC Tryz.prog 126 [.sv (.int .i64 p0)] [] (Yj7 r) (Yj6 r) := by
 refine Xae hT Tryz.func126 rfl fun C hC => ?_
 unfold Xj6 at h
 refine Xac ?_
 iterate 2 refine kO hT hC ?_
 refine kN ?_
 refine kO hT hC ?_
 refine kC hC [] Tryz.call172 h (fun _ => Xvr) fun q1 h => ?_
 iterate 5 refine kO hT hC ?_
 refine Vc.nil (Xat (Xac ?_))
 iterate 2 refine kO hT hC ?_
 refine Vc.nil ?_
 refine kS h ?_ ?_ <;> intro b1 h
 refine kt b1 (Xac ?_)
 iterate 2 refine kO hT hC ?_
 exact Vc.nil (Xah (Xau kR))
 refine kf b1 (Xag (Xaf (Xac ?_)))
 refine kO hT hC ?_
 refine kC hC [] Tryz.call173 h (fun _ => Xzb) fun q2 h => ?_
 iterate 4 refine kO hT hC ?_
 exact Vc.nil (Xah kR)
def Yg9 (r : Int) : AV := .sv (.int .i64 r)
def Yg8 (r : Int) : Xa7 := []
theorem Xv0 {p0 r} (h : Xl7 p0 = some r) : AC Tryz.prog 200 [.sv (.int .i64 p0)] [] (Yg9 r) (Yg8 r) := by
 refine Xae hT Tryz.func200 rfl fun C hC => ?_
 unfold Xl7 at h
 refine Xac ?_
 refine kO hT hC ?_
 refine kN ?_
 refine kO hT hC ?_
 refine kC hC [] Tryz.call126 h (fun _ => Xol) fun q1 h => ?_
 iterate 5 refine kO hT hC ?_
 refine kN ?_
 iterate 3 refine kO hT hC ?_
 exact Vc.nil (Xah kR)
def Ya4 (r : (Int × Int × Int)) : AV := .tup [.sv (.int .i64 r.1), .sv (.int .i64 r.2.1), .sv (.int .i64 r.2.2)]
def Ya3 (r : (Int × Int × Int)) : Xa7 := []
theorem Ydj {p0 p1 p2 p3 p4 r} (h : Xdl p0 p1 p2 p3 p4 = some r) : AC Tryz.prog 170 [.agg [.sv (.int .i64 p0.Wide), .sv (.int .i64 p0.High), .sv (.str p0.Dots)], .sv (.ints .i64 p1), .sv (.int .i64 p2), .sv (.int .i64 p3), .sv (.int .i64 p4)] [] (Ya4 r) (Ya3 r) := by
 refine Xae hT Tryz.func170 rfl fun C hC => ?_
 unfold Xdl at h
 refine Xac ?_
 iterate 4 refine kO hT hC ?_
 refine Vc.nil (Xat ?_)
 refine kL [1,2,3,4,5] [80] [_,_,_,_,_] [_] ?_
 refine kA h (fun v1 => ([(38, .sv (.bool v1))], [])) (fun v1 h => ?_) fun v1 h => ?_
 refine Xad ?_
 refine kO hT hC ?_
 refine kC hC [] Tryz.call42 h (fun _ => Xdn) fun q2 h => ?_
 iterate 2 refine kO hT hC ?_
 refine kS h ?_ ?_ <;> intro b1 h
 refine kI hT hC (kn b1) ?_
 refine kE hC (kn b1) [] Tryz.call163 h (fun _ => Xb3) fun q3 h => ?_
 refine kI hT hC (kn b1) ?_
 refine kP hC false (kn b1) ?_
 refine kO hT hC ?_
 refine kS h ?_ ?_ <;> intro b2 h
 refine kI hT hC (kn b2) ?_
 refine kE hC (kn b2) [] Tryz.call69 h (fun _ => Xai) fun q4 h => ?_
 refine kI hT hC (kn b2) ?_
 refine kP hC false (kn b2) ?_
 refine kO hT hC ?_
 refine kS h ?_ ?_ <;> intro b3 h
 iterate 3 refine kI hT hC (kn b3) ?_
 refine kE hC (kn b3) [] Tryz.call162 h (fun _ => Xfa) fun q5 h => ?_
 refine kI hT hC (kn b3) ?_
 refine kP hC false (kn b3) ?_
 exact Vc.nil kM
 iterate 5 refine kF hC (kn b3) ?_
 refine kP hC true (kn b3) ?_
 exact Vc.nil kM
 iterate 3 refine kF hC (kn b2) ?_
 refine kP hC true (kn b2) ?_
 refine kO hT hC ?_
 iterate 5 refine kF hC rfl ?_
 refine kO hT hC ?_
 exact Vc.nil kM
 iterate 3 refine kF hC (kn b1) ?_
 refine kP hC true (kn b1) ?_
 refine kO hT hC ?_
 iterate 3 refine kF hC rfl ?_
 iterate 2 refine kO hT hC ?_
 iterate 5 refine kF hC rfl ?_
 refine kO hT hC ?_
 exact Vc.nil kM
 refine kS h ?_ ?_ <;> intro b4 h
 refine kt b4 (Xac ?_)
 iterate 3 refine kO hT hC ?_
 exact Vc.nil (Xah (Xau kR))
 refine kf b4 (Xag (Xaf (Xac ?_)))
 iterate 3 refine kO hT hC ?_
 refine Vc.nil (Xat (Xac ?_))
 iterate 3 refine kO hT hC ?_
 refine Vc.nil ?_
 refine kL [1,2,3,4,5,13,14,15,16] [80] [_,_,_,_,_,_,_,_,_] [_] ?_
 refine kX h (fun v33 => ([(13, .sv (.int .i64 v33.1)), (14, .sv (.int .i64 v33.2.1)), (15, .sv (.int .i64 v33.2.2.1)), (16, .sv (.int .i64 v33.2.2.2))], [])) (fun v61 => ([(13, .sv (.int .i64 v61.1)), (14, .sv (.int .i64 v61.2.1)), (15, .sv (.int .i64 v61.2.2)), (1, .any), (2, .any), (3, .any), (4, .any), (5, .any), (16, .any)], [(80, none)])) (kW hC []) (fun v33 s h => ?_) fun v61 h => ?_
 unfold Xfd at h
 refine Xat (Xac ?_)
 iterate 3 refine kO hT hC ?_
 refine Vc.nil ?_
 refine kS h ?_ ?_ <;> intro b31 h
 refine kt b31 (Xag (Xaf (Xat (Xao (Xac ?_)))))
 iterate 3 refine kO hT hC ?_
 refine Vc.nil ?_
 refine kL [1,2,3,4,5,13,14,15,16,17] [80] [_,_,_,_,_,_,_,_,_,_] [_] ?_
 refine kX h (fun v70 => ([(13, .sv (.int .i64 v70.1)), (14, .sv (.int .i64 v70.2.1)), (15, .sv (.int .i64 v70.2.2.1)), (17, .sv (.int .i64 v70.2.2.2))], [])) (fun v79 => ([(13, .sv (.int .i64 v79.1)), (14, .sv (.int .i64 v79.2.1)), (15, .sv (.int .i64 v79.2.2)), (17, .any)], [])) (kW hC []) (fun v70 s h => ?_) fun v79 h => ?_
 unfold Xcw at h
 refine Xat (Xac ?_)
 iterate 3 refine kO hT hC ?_
 refine Vc.nil ?_
 refine kS h ?_ ?_ <;> intro b40 h
 refine kt b40 (Xag (Xaf ?_))
 refine kL [1,2,3,4,5,13,14,15,16,17] [80] [_,_,_,_,_,_,_,_,_,_] [_] ?_
 refine kA h (fun v80 => ([(13, .sv (.int .i64 v80.1)), (14, .sv (.int .i64 v80.2.1)), (15, .sv (.int .i64 v80.2.2))], [])) (fun v80 h => ?_) fun v80 h => ?_
 refine Xao (Xat (Xac ?_))
 iterate 8 refine kO hT hC ?_
 refine kC hC [] Tryz.call137 h (fun _ => Ybd) fun q81 h => ?_
 refine kO hT hC ?_
 refine Vc.nil ?_
 refine kS h ?_ ?_ <;> intro b41 h
 exact kt b41 (Xas (Xa0 (Yov kM)))
 refine kf b41 (Xag (Xaf (Xac ?_)))
 iterate 8 refine kO hT hC ?_
 refine kC hC [(16, 1136)] Tryz.call123 h (fun _ => Xdz) fun q82 h => ?_
 refine kC hC [] Tryz.call169 h (fun _ => Xxi) fun q83 h => ?_
 refine kO hT hC ?_
 refine kC hC [] Tryz.call200 h (fun _ => Xv0) fun q84 h => ?_
 iterate 2 refine kO hT hC ?_
 refine kC hC [] Tryz.call200 h (fun _ => Xv0) fun q85 h => ?_
 iterate 2 refine kO hT hC ?_
 refine Vc.nil ?_
 refine kL [1,2,3,4,5,13,14,15,16,17,18] [80] [_,_,_,_,_,_,_,_,_,_,_] [_] ?_
 refine kA h (fun v86 => ([(85, .sv (.bool v86))], [])) (fun v86 h => ?_) fun v86 h => ?_
 refine Xad ?_
 iterate 3 refine kO hT hC ?_
 refine kS h ?_ ?_ <;> intro b42 h
 iterate 3 refine kF hC b42 ?_
 refine kP hC true b42 ?_
 exact Vc.nil kM
 iterate 3 refine kI hT hC b42 ?_
 refine kP hC false b42 ?_
 exact Vc.nil kM
 refine kS h ?_ ?_ <;> intro b43 h
 refine kt b43 (Xad ?_)
 iterate 6 refine kO hT hC ?_
 exact Vc.nil (Xaq kM)
 exact kf b43 (Xag (Xaq kM))
 refine Xad ?_
 iterate 3 refine kO hT hC ?_
 exact Vc.nil kG
 exact kf b40 (Xas (Xa0 ku))
 refine Xaq (Xaf (Xad ?_))
 iterate 3 refine kO hT hC ?_
 exact Vc.nil kG
 exact kf b31 (Xas (Xa0 ku))
 refine Xaf (Xac ?_)
 iterate 6 refine kO hT hC ?_
 exact Vc.nil (Xah kR)
def Xy7 (r : (Xam × (List Int) × Bool)) : AV := .tup [.agg [.sv (.int .i64 r.1.Kind), .sv (.int .i64 r.1.Mode), .sv (.int .i64 r.1.Dx), .sv (.int .i64 r.1.Dy), .own 16], .own 17, .sv (.bool r.2.2)]
def Xy6 (r : (Xam × (List Int) × Bool)) : Xa7 := [(16, .ints .i64 r.1.Levels), (17, .ints .i64 r.2.1)]
theorem Ybn {p0 p1 p2 p3 p4 p5 p6 r} (h : Xe0 p0 p1 p2 p3 p4 p5 p6 = some r) : AC Tryz.prog 122 [.agg [.sv (.int .i64 p0.Wide), .sv (.int .i64 p0.High), .sv (.str p0.Dots)], .agg [.sv (.int .i64 p1.Wide), .sv (.int .i64 p1.High), .sv (.str p1.Dots)], .sv (.ints .i64 p2), .sv (.int .i64 p3), .sv (.int .i64 p4), .agg [.sv (.bool p5.Key), .sv (.int .i64 p5.Qp), .sv (.bool p5.Large), .sv (.bool p5.Exact)], .sv (.int .i64 p6)] [] (Xy7 r) (Xy6 r) := by
 refine Xae hT Tryz.func122 rfl fun C hC => ?_
 unfold Xe0 at h
 refine Xac ?_
 iterate 6 refine kO hT hC ?_
 refine Vc.nil (Xat ?_)
 refine kL [2,3,4,6,7,8,12,14] [112,128,192,224] [_,_,_,_,_,_,_,_] [_,_,_,_] ?_
 refine kA h (fun v1 => ([(51, .sv (.bool v1))], [])) (fun v1 h => ?_) fun v1 h => ?_
 refine Xad ?_
 refine kO hT hC ?_
 refine kC hC [] Tryz.call42 h (fun _ => Xdn) fun q2 h => ?_
 iterate 2 refine kO hT hC ?_
 refine kS h ?_ ?_ <;> intro b1 h
 iterate 3 refine kI hT hC (kn b1) ?_
 refine kE hC (kn b1) [] Tryz.call162 h (fun _ => Xfa) fun q3 h => ?_
 refine kI hT hC (kn b1) ?_
 refine kP hC false (kn b1) ?_
 refine kO hT hC ?_
 refine kS h ?_ ?_ <;> intro b2 h
 refine kI hT hC (kn b2) ?_
 refine kE hC (kn b2) [] Tryz.call163 h (fun _ => Xb3) fun q4 h => ?_
 refine kI hT hC (kn b2) ?_
 refine kP hC false (kn b2) ?_
 refine kO hT hC ?_
 refine kS h ?_ ?_ <;> intro b3 h
 refine kI hT hC (kn b3) ?_
 refine kE hC (kn b3) [] Tryz.call121 h (fun _ => Xey) fun q5 h => ?_
 refine kI hT hC (kn b3) ?_
 refine kP hC false (kn b3) ?_
 refine kO hT hC ?_
 refine kS h ?_ ?_ <;> intro b4 h
 refine kI hT hC (kn b4) ?_
 refine kE hC (kn b4) [] Tryz.call69 h (fun _ => Xai) fun q6 h => ?_
 refine kI hT hC (kn b4) ?_
 refine kP hC false (kn b4) ?_
 exact Vc.nil kM
 iterate 3 refine kF hC (kn b4) ?_
 refine kP hC true (kn b4) ?_
 exact Vc.nil kM
 iterate 3 refine kF hC (kn b3) ?_
 refine kP hC true (kn b3) ?_
 refine kO hT hC ?_
 iterate 3 refine kF hC rfl ?_
 refine kO hT hC ?_
 exact Vc.nil kM
 iterate 3 refine kF hC (kn b2) ?_
 refine kP hC true (kn b2) ?_
 refine kO hT hC ?_
 iterate 3 refine kF hC rfl ?_
 iterate 2 refine kO hT hC ?_
 iterate 3 refine kF hC rfl ?_
 refine kO hT hC ?_
 exact Vc.nil kM
 iterate 5 refine kF hC (kn b1) ?_
 refine kP hC true (kn b1) ?_
 refine kO hT hC ?_
 iterate 3 refine kF hC rfl ?_
 iterate 2 refine kO hT hC ?_
 iterate 3 refine kF hC rfl ?_
 iterate 2 refine kO hT hC ?_
 iterate 3 refine kF hC rfl ?_
 refine kO hT hC ?_
 exact Vc.nil kM
 refine kS h ?_ ?_ <;> intro b5 h
 refine kt b5 (Xac ?_)
 iterate 5 refine kO hT hC ?_
 refine Vc.nil (Xah (Xau ?_))
 obtain rfl := kj h
 refine Xcr (τ := ⟨[(14, .ptr 2000000 0), (15, .own 17), (16, .sv (.bool false))], [(16, some (.ints .i64 [])), (17, some (.ints .i64 ([] : List Int))), (2000000, some (.box [.sv (.int .i64 0), .sv (.int .i64 0), .sv (.int .i64 0), .sv (.int .i64 0), .own 16]))]⟩) ?_ rfl ⟨rfl, rfl, trivial⟩
 refine Xny hC 224 4 2817 (.ints .i64 []) rfl rfl rfl rfl rfl trivial ?_
 apply Xe8 hC [(16, 2817), (17, 848), (2000000, 224)]
 exact co
 rfl
 decide
 rfl
 refine kf b5 (Xag (Xaf (Xat ?_)))
 refine kL [2,3,4,6,7,8,12,14] [112,128,192,224] [_,_,_,_,_,_,_,_] [_,_,_,_] ?_
 refine kA h (fun v7 => ([(75, .sv (.bool v7))], [])) (fun v7 h => ?_) fun v7 h => ?_
 refine Xad ?_
 iterate 4 refine kO hT hC ?_
 refine kS h ?_ ?_ <;> intro b6 h
 iterate 4 refine kF hC (kn b6) ?_
 iterate 5 refine Xf1 hC rfl rfl rfl rfl rfl rfl ?_
 iterate 2 refine kF hC (kn b6) ?_
 iterate 5 refine Xf1 hC rfl rfl rfl rfl rfl rfl ?_
 refine kF hC (kn b6) ?_
 refine kP hC false (kn b6) ?_
 exact Vc.nil kM
 refine kI hT hC (kn b6) ?_
 refine kE hC (kn b6) [] Tryz.call42 h (fun _ => Xdn) fun q8 h => ?_
 iterate 2 refine kI hT hC (kn b6) ?_
 refine kS h ?_ ?_ <;> intro b7 h
 iterate 5 refine kI hT hC (kn b7) ?_
 refine Xa3 hC rfl rfl rfl rfl (kn b6) rfl rfl (b := false) (kn b7) rfl rfl rfl trivial ?_
 refine kI hT hC (kn b6) ?_
 refine kS h ?_ ?_ <;> intro b8 h
 iterate 5 refine kF hC b8 ?_
 refine Xa3 hC rfl rfl rfl rfl (kn b6) rfl rfl (b := true) b8 rfl rfl rfl trivial ?_
 refine kP hC true (kn b6) ?_
 exact Vc.nil kM
 iterate 5 refine kI hT hC b8 ?_
 refine Xa3 hC rfl rfl rfl rfl (kn b6) rfl rfl (b := false) b8 rfl rfl rfl trivial ?_
 refine kP hC true (kn b6) ?_
 exact Vc.nil kM
 iterate 5 refine kF hC (kn b7) ?_
 refine Xa3 hC rfl rfl rfl rfl (kn b6) rfl rfl (b := true) (kn b7) rfl rfl rfl trivial ?_
 refine kI hT hC (kn b6) ?_
 iterate 5 refine kF hC rfl ?_
 refine Xa3 hC rfl rfl rfl rfl (kn b6) rfl rfl (b := true) rfl rfl rfl rfl trivial ?_
 refine kP hC true (kn b6) ?_
 exact Vc.nil kM
 refine kS h ?_ ?_ <;> intro b9 h
 refine kt b9 (Xac ?_)
 iterate 5 refine kO hT hC ?_
 refine Vc.nil (Xah (Xau ?_))
 obtain rfl := kj h
 refine Xcr (τ := ⟨[(14, .ptr 2000000 0), (15, .own 17), (16, .sv (.bool false))], [(16, some (.ints .i64 [])), (17, some (.ints .i64 ([] : List Int))), (2000000, some (.box [.sv (.int .i64 0), .sv (.int .i64 0), .sv (.int .i64 0), .sv (.int .i64 0), .own 16]))]⟩) ?_ rfl ⟨rfl, rfl, trivial⟩
 refine Xny hC 224 4 2818 (.ints .i64 []) rfl rfl rfl rfl rfl trivial ?_
 apply Xe8 hC [(16, 2818), (17, 1232), (2000000, 224)]
 exact co
 rfl
 decide
 rfl
 refine kf b9 (Xag (Xaf (Xac ?_)))
 iterate 3 refine kO hT hC ?_
 refine kC hC [(16, 1312), (17, 1313)] Tryz.call164 h (fun _ => Xtq) fun q9 h => ?_
 iterate 6 refine kO hT hC ?_
 refine kN ?_
 iterate 2 refine kO hT hC ?_
 refine kC hC [] Tryz.call165 h (fun _ => Ya2) fun q10 h => ?_
 iterate 5 refine kO hT hC ?_
 refine kN ?_
 iterate 4 refine kO hT hC ?_
 refine Vc.nil ?_
 refine Xcm hm ?_
 iterate 3 refine kO hT hC ?_
 refine kC hC [(16, 1552)] Tryz.call168 h (fun _ => Xo5) fun q11 h => ?_
 refine kC hC [(16, 1568)] Tryz.call167 h (fun _ => Xs4) fun q12 h => ?_
 refine kO hT hC ?_
 refine kC hC [(16, 1600)] Tryz.call166 h (fun _ => Xs1) fun q13 h => ?_
 iterate 5 refine kO hT hC ?_
 refine kD ?_
 refine kL [2,3,4,6,7,8,12,14,20,21] [112,128,192,224,336,1600] [_,_,_,_,_,_,_,_,_,_] [_,_,_,_,_,_] ?_
 refine kA h (fun v14 => ([(2, .any), (6, .any), (20, .any)], [(336, some (.box [.sv (.int .i64 v14.1), .sv (.int .i64 v14.2.1), .sv (.int .i64 v14.2.2.1), .sv (.int .i64 v14.2.2.2.1), .own 1600])), (1600, some (.ints .i64 v14.2.2.2.2))])) (fun v14 h => ?_) fun v14 h => ?_
 refine Xac ?_
 iterate 3 refine kO hT hC ?_
 refine Vc.nil ?_
 refine kS h ?_ ?_ <;> intro b10 h
 refine kt b10 (Xac ?_)
 iterate 4 refine kO hT hC ?_
 refine kC hC [(16, 1776)] Tryz.call123 h (fun _ => Xdz) fun q15 h => ?_
 refine kC hC [] Tryz.call169 h (fun _ => Xxi) fun q16 h => ?_
 refine kO hT hC ?_
 refine Vc.nil ?_
 refine kS h ?_ ?_ <;> intro b11 h
 refine kt b11 (Xad ?_)
 iterate 2 refine kO hT hC ?_
 refine Vc.nil ?_
 obtain rfl := kj h
 refine Xg6 ?_
 refine Xny hC 336 4 2819 (.ints .i64 []) rfl rfl rfl rfl rfl trivial ?_
 try dsimp only
 apply Xe8 hC [(1600, 2819)]
 exact co
 rfl
 decide
 rfl
 refine kf b11 (Xac ?_)
 iterate 5 refine kO hT hC ?_
 refine kC hC [] Tryz.call170 h (fun _ => Ydj) fun q17 h => ?_
 iterate 7 refine kO hT hC ?_
 refine kN ?_
 iterate 3 refine kO hT hC ?_
 refine Vc.nil ?_
 refine kS h ?_ ?_ <;> intro b12 h
 refine kt b12 (Xac ?_)
 iterate 4 refine kO hT hC ?_
 refine Vc.nil ?_
 refine Xcm hm ?_
 iterate 8 refine kO hT hC ?_
 refine kC hC [(16, 2240)] Tryz.call123 h (fun _ => Xdz) fun q18 h => ?_
 refine kC hC [(16, 2256)] Tryz.call167 h (fun _ => Xs4) fun q19 h => ?_
 refine kO hT hC ?_
 refine kC hC [(16, 2288)] Tryz.call166 h (fun _ => Xs1) fun q20 h => ?_
 iterate 5 refine kO hT hC ?_
 refine kD ?_
 refine kL [3,4,7,8,12,14,21,22,23] [112,128,192,224,336,2288] [_,_,_,_,_,_,_,_,_] [_,_,_,_,_,_] ?_
 refine kA h (fun v21 => ([(157, .sv (.bool v21)), (22, .any), (23, .any)], [])) (fun v21 h => ?_) fun v21 h => ?_
 refine Xad ?_
 iterate 3 refine kO hT hC ?_
 refine kS h ?_ ?_ <;> intro b13 h
 iterate 2 refine kI hT hC b13 ?_
 refine kP hC true b13 ?_
 refine kO hT hC ?_
 refine kS h ?_ ?_ <;> intro b14 h
 iterate 2 refine kI hT hC b14 ?_
 refine kE hC b14 [] Tryz.call163 h (fun _ => Xb3) fun q22 h => ?_
 refine kP hC true b14 ?_
 exact Vc.nil kM
 iterate 3 refine kF hC b14 ?_
 refine kP hC false b14 ?_
 exact Vc.nil kM
 iterate 2 refine kF hC b13 ?_
 refine kP hC false b13 ?_
 refine kO hT hC ?_
 iterate 3 refine kF hC rfl ?_
 refine kO hT hC ?_
 exact Vc.nil kM
 refine kS h ?_ ?_ <;> intro b15 h
 refine kt b15 (Xad ?_)
 iterate 2 refine kO hT hC ?_
 refine Vc.nil ?_
 obtain rfl := kj h
 refine Xg6 ?_
 refine Xny hC 336 4 2820 (.ints .i64 []) rfl rfl rfl rfl rfl trivial ?_
 try dsimp only
 apply Xe8 hC [(1600, 2820)]
 exact co
 rfl
 decide
 rfl
 refine kf b15 (Xag ?_)
 obtain rfl := kj h
 exact Xg6 (kW hC [(1600, 2288)])
 exact kf b12 (Xag kM)
 exact kf b10 (Xag kM)
 refine Xac ?_
 iterate 6 refine kO hT hC ?_
 refine kC hC [(16, 2656)] Tryz.call139 h (fun _ => Xy5) fun q23 h => ?_
 iterate 5 refine kO hT hC ?_
 refine Vc.nil (Xat (Xac ?_))
 iterate 2 refine kO hT hC ?_
 refine Vc.nil ?_
 refine kS h ?_ ?_ <;> intro b16 h
 refine kt b16 (Xac ?_)
 iterate 5 refine kO hT hC ?_
 refine Vc.nil (Xah (Xau ?_))
 obtain rfl := kj h
 refine Xcr (τ := ⟨[(14, .ptr 2000000 0), (15, .own 17), (16, .sv (.bool false))], [(16, some (.ints .i64 [])), (17, some (.ints .i64 ([] : List Int))), (2000000, some (.box [.sv (.int .i64 0), .sv (.int .i64 0), .sv (.int .i64 0), .sv (.int .i64 0), .own 16]))]⟩) ?_ rfl ⟨rfl, rfl, trivial⟩
 refine Xny hC 224 4 2821 (.ints .i64 []) rfl rfl rfl rfl rfl trivial ?_
 apply Xe8 hC [(16, 2821), (17, 2752), (2000000, 224)]
 exact co
 rfl
 decide
 rfl
 refine kf b16 (Xag (Xaf (Xac ?_)))
 iterate 5 refine kO hT hC ?_
 refine Vc.nil (Xah ?_)
 obtain rfl := kj h
 exact Xcr (τ := ⟨[(14, .ptr 2000000 0), (15, .own 17), (16, .sv (.bool true))], [(16, some (.ints .i64 v14.2.2.2.2)), (17, some (.ints .i64 q23.1)), (2000000, some (.box [.sv (.int .i64 v14.1), .sv (.int .i64 v14.2.1), .sv (.int .i64 v14.2.2.1), .sv (.int .i64 v14.2.2.2.1), .own 16]))]⟩) (kW hC [(16, 1600), (17, 2656), (2000000, 224)]) rfl ⟨rfl, rfl, trivial⟩
def Xn9 (r : ((List Xam) × Pic × Bool)) : AV := .tup [.own 16, .agg [.sv (.int .i64 r.2.1.Wide), .sv (.int .i64 r.2.1.High), .sv (.str r.2.1.Dots)], .sv (.bool r.2.2)]
def Xn8 (r : ((List Xam) × Pic × Bool)) : Xa7 := [(16, .row Xde r.1)]
theorem Yhj {p0 p1 p2 p3 r} (h : Xj7 p0 p1 p2 p3 = some r) : AC Tryz.prog 61 [.agg [.sv (.int .i64 p0.Wide), .sv (.int .i64 p0.High), .sv (.str p0.Dots)], .agg [.sv (.int .i64 p1.Wide), .sv (.int .i64 p1.High), .sv (.str p1.Dots)], .agg [.sv (.bool p2.Key), .sv (.int .i64 p2.Qp), .sv (.bool p2.Large), .sv (.bool p2.Exact)], .sv (.int .i64 p3)] [] (Xn9 r) (Xn8 r) := by
 refine Xae hT Tryz.func61 rfl fun C hC => ?_
 unfold Xj7 at h
 refine Xac ?_
 iterate 6 refine kO hT hC ?_
 refine kN ?_
 iterate 2 refine kO hT hC ?_
 refine Vc.nil (Xat ?_)
 refine kL [3,4,5,6,9,11] [64,80,96,144,288] [_,_,_,_,_,_] [_,_,_,_,_] ?_
 refine kA h (fun v1 => ([(43, .sv (.bool v1))], [])) (fun v1 h => ?_) fun v1 h => ?_
 refine Xad ?_
 refine kO hT hC ?_
 refine kC hC [] Tryz.call42 h (fun _ => Xdn) fun q2 h => ?_
 iterate 2 refine kO hT hC ?_
 refine kS h ?_ ?_ <;> intro b1 h
 iterate 2 refine kI hT hC (kn b1) ?_
 refine kE hC (kn b1) [] Tryz.call78 h (fun _ => Xv7) fun q3 h => ?_
 refine kI hT hC (kn b1) ?_
 refine kP hC false (kn b1) ?_
 refine kO hT hC ?_
 refine kS h ?_ ?_ <;> intro b2 h
 iterate 2 refine kI hT hC (kn b2) ?_
 refine kE hC (kn b2) [] Tryz.call78 h (fun _ => Xv7) fun q4 h => ?_
 refine kI hT hC (kn b2) ?_
 refine kP hC false (kn b2) ?_
 refine kO hT hC ?_
 refine kS h ?_ ?_ <;> intro b3 h
 refine kI hT hC (kn b3) ?_
 refine kE hC (kn b3) [] Tryz.call121 h (fun _ => Xey) fun q5 h => ?_
 refine kI hT hC (kn b3) ?_
 refine kP hC false (kn b3) ?_
 refine kO hT hC ?_
 refine kS h ?_ ?_ <;> intro b4 h
 refine kI hT hC (kn b4) ?_
 refine kE hC (kn b4) [] Tryz.call69 h (fun _ => Xai) fun q6 h => ?_
 refine kI hT hC (kn b4) ?_
 refine kP hC false (kn b4) ?_
 exact Vc.nil kM
 iterate 3 refine kF hC (kn b4) ?_
 refine kP hC true (kn b4) ?_
 exact Vc.nil kM
 iterate 3 refine kF hC (kn b3) ?_
 refine kP hC true (kn b3) ?_
 refine kO hT hC ?_
 iterate 3 refine kF hC rfl ?_
 refine kO hT hC ?_
 exact Vc.nil kM
 iterate 4 refine kF hC (kn b2) ?_
 refine kP hC true (kn b2) ?_
 refine kO hT hC ?_
 iterate 3 refine kF hC rfl ?_
 iterate 2 refine kO hT hC ?_
 iterate 3 refine kF hC rfl ?_
 refine kO hT hC ?_
 exact Vc.nil kM
 iterate 4 refine kF hC (kn b1) ?_
 refine kP hC true (kn b1) ?_
 refine kO hT hC ?_
 iterate 4 refine kF hC rfl ?_
 iterate 2 refine kO hT hC ?_
 iterate 3 refine kF hC rfl ?_
 iterate 2 refine kO hT hC ?_
 iterate 3 refine kF hC rfl ?_
 refine kO hT hC ?_
 exact Vc.nil kM
 refine kS h ?_ ?_ <;> intro b5 h
 refine kt b5 (Xac ?_)
 iterate 5 refine kO hT hC ?_
 refine Vc.nil (Xah (Xau ?_))
 obtain rfl := kj h
 exact Xcr (τ := ⟨[(8, .own 16), (9, .ptr 2000001 0), (10, .sv (.bool false))], [(16, some (.row Xde ([] : List Xam))), (2000001, some (.box [.sv (.int .i64 0), .sv (.int .i64 0), .sv (.str ⟨#[]⟩)]))]⟩) (kW hC [(16, 288), (2000001, 144)]) rfl ⟨rfl, trivial⟩
 refine kf b5 (Xag (Xaf (Xat ?_)))
 refine kL [3,4,5,6,9,11] [64,80,96,144,288] [_,_,_,_,_,_] [_,_,_,_,_] ?_
 refine kA h (fun v7 => ([(67, .sv (.bool v7))], [])) (fun v7 h => ?_) fun v7 h => ?_
 refine Xad ?_
 iterate 4 refine kO hT hC ?_
 refine kS h ?_ ?_ <;> intro b6 h
 iterate 4 refine kF hC (kn b6) ?_
 iterate 5 refine Xf1 hC rfl rfl rfl rfl rfl rfl ?_
 iterate 2 refine kF hC (kn b6) ?_
 iterate 5 refine Xf1 hC rfl rfl rfl rfl rfl rfl ?_
 refine kF hC (kn b6) ?_
 refine kP hC false (kn b6) ?_
 exact Vc.nil kM
 refine kI hT hC (kn b6) ?_
 refine kE hC (kn b6) [] Tryz.call42 h (fun _ => Xdn) fun q8 h => ?_
 iterate 2 refine kI hT hC (kn b6) ?_
 refine kS h ?_ ?_ <;> intro b7 h
 iterate 5 refine kI hT hC (kn b7) ?_
 refine Xa3 hC rfl rfl rfl rfl (kn b6) rfl rfl (b := false) (kn b7) rfl rfl rfl trivial ?_
 refine kI hT hC (kn b6) ?_
 refine kS h ?_ ?_ <;> intro b8 h
 iterate 5 refine kF hC b8 ?_
 refine Xa3 hC rfl rfl rfl rfl (kn b6) rfl rfl (b := true) b8 rfl rfl rfl trivial ?_
 refine kP hC true (kn b6) ?_
 exact Vc.nil kM
 iterate 5 refine kI hT hC b8 ?_
 refine Xa3 hC rfl rfl rfl rfl (kn b6) rfl rfl (b := false) b8 rfl rfl rfl trivial ?_
 refine kP hC true (kn b6) ?_
 exact Vc.nil kM
 iterate 5 refine kF hC (kn b7) ?_
 refine Xa3 hC rfl rfl rfl rfl (kn b6) rfl rfl (b := true) (kn b7) rfl rfl rfl trivial ?_
 refine kI hT hC (kn b6) ?_
 iterate 5 refine kF hC rfl ?_
 refine Xa3 hC rfl rfl rfl rfl (kn b6) rfl rfl (b := true) rfl rfl rfl rfl trivial ?_
 refine kP hC true (kn b6) ?_
 exact Vc.nil kM
 refine kS h ?_ ?_ <;> intro b9 h
 refine kt b9 (Xac ?_)
 iterate 5 refine kO hT hC ?_
 refine Vc.nil (Xah (Xau ?_))
 obtain rfl := kj h
 exact Xcr (τ := ⟨[(8, .own 16), (9, .ptr 2000001 0), (10, .sv (.bool false))], [(16, some (.row Xde ([] : List Xam))), (2000001, some (.box [.sv (.int .i64 0), .sv (.int .i64 0), .sv (.str ⟨#[]⟩)]))]⟩) (kW hC [(16, 288), (2000001, 144)]) rfl ⟨rfl, trivial⟩
 refine kf b9 (Xag (Xaf (Xac ?_)))
 iterate 4 refine kO hT hC ?_
 refine kC hC [] Tryz.call115 h (fun _ => Ypk) fun q9 h => ?_
 iterate 2 refine kO hT hC ?_
 refine Vc.nil (Xat (Xac ?_))
 refine kO hT hC ?_
 refine Vc.nil ?_
 refine kL [3,4,5,6,9,11,12,13] [64,80,96,144,192,288] [_,_,_,_,_,_,_,_] [_,_,_,_,_,_] ?_
 obtain ⟨o56, hl, h⟩ := Xbe h
 refine Xmn (fun v25 => ([(13, .sv (.int .i64 v25.1))], [(192, some (.box [.sv (.int .i64 v25.2.2.1), .sv (.int .i64 v25.2.2.2.1), .sv (.str v25.2.2.2.2)])), (288, some (.row Xde v25.2.1))])) (fun v41 => ([(3, .any), (4, .any), (5, .any), (6, .any), (13, .any)], [(192, some (.box [.sv (.int .i64 v41.2.1), .sv (.int .i64 v41.2.2.1), .sv (.str v41.2.2.2)])), (288, some (.row Xde v41.1)), (64, none), (80, none), (96, none)])) (fun r => Xws C T Tryz.f61.results.toList (Xn9 r) (Xn8 r)) hl ?_ ?_ ?_ ?_
 try dsimp only
 apply Xe8 hC []
 exact co
 rfl
 decide
 rfl
 intro v25 s hs
 have h := hs
 unfold Xen at h
 refine Xat (Xac ?_)
 iterate 4 refine kO hT hC ?_
 refine Vc.nil ?_
 refine kS h ?_ ?_ <;> intro b24 h
 refine kt b24 (Xag (Xaf (Xat (Xao (Xac ?_)))))
 refine kO hT hC ?_
 refine Vc.nil ?_
 refine kL [3,4,5,6,9,11,12,13,14] [64,80,96,144,192,288] [_,_,_,_,_,_,_,_,_] [_,_,_,_,_,_] ?_
 obtain ⟨o55, hl, h⟩ := Xbe h
 refine Xmn (fun v46 => ([(14, .sv (.int .i64 v46.1))], [(192, some (.box [.sv (.int .i64 v46.2.2.1), .sv (.int .i64 v46.2.2.2.1), .sv (.str v46.2.2.2.2)])), (288, some (.row Xde v46.2.1))])) (fun v51 => ([(14, .any)], [(192, some (.box [.sv (.int .i64 v51.2.1), .sv (.int .i64 v51.2.2.1), .sv (.str v51.2.2.2)])), (288, some (.row Xde v51.1))])) (fun r => Xws C T Tryz.f61.results.toList (Xn9 r) (Xn8 r)) hl ?_ ?_ ?_ ?_
 try dsimp only
 apply Xe8 hC []
 exact co
 rfl
 decide
 rfl
 intro v46 s hs
 have h := hs
 unfold Xeo at h
 refine Xat (Xac ?_)
 iterate 4 refine kO hT hC ?_
 refine Vc.nil ?_
 refine kS h ?_ ?_ <;> intro b29 h
 refine kt b29 (Xag (Xaf (Xat (Xao ?_))))
 refine Xcm hm ?_
 iterate 5 refine kO hT hC ?_
 refine kC hC [(16, 1488)] Tryz.call123 h (fun _ => Xdz) fun q52 h => ?_
 iterate 4 refine kO hT hC ?_
 obtain ⟨q53, hq, h⟩ := Xbe h
 refine Ytq hC [(16, 1568), (17, 1569)] rfl rfl rfl rfl Tryz.call122 (Ybn hq) rfl (by decide) trivial rfl (.inr ⟨rfl, ⟨trivial, trivial, trivial⟩⟩) rfl ?_
 iterate 8 refine kO hT hC ?_
 refine kD (Xat (Xac ?_))
 iterate 2 refine kO hT hC ?_
 refine Vc.nil ?_
 refine kS h ?_ ?_ <;> intro b30 h
 refine kt b30 (Xac ?_)
 iterate 5 refine kO hT hC ?_
 refine Vc.nil (Xah (Xau (Xhb (Xau ?_))))
 obtain rfl := kj h
 refine Xxq (Xxo ?_)
 refine Xcr (τ := ⟨[(8, .own 16), (9, .ptr 2000001 0), (10, .sv (.bool false))], [(16, some (.row Xde ([] : List Xam))), (2000001, some (.box [.sv (.int .i64 0), .sv (.int .i64 0), .sv (.str ⟨#[]⟩)]))]⟩) ?_ rfl ⟨rfl, trivial⟩
 apply Xe8 hC [(16, 1664), (2000001, 144)]
 exact co
 rfl
 decide
 rfl
 refine kf b30 (Xag (Xaf (Xac ?_)))
 iterate 3 refine kO hT hC ?_
 obtain ⟨hq, h⟩ := Xav h
 refine Yl2 hT hC rfl rfl rfl rfl ⟨fun _ _ => rfl, by rw [Xuu]; exact hq⟩ ?_
 rw [Xuu]
 refine kO hT hC ?_
 refine Vc.nil (Xad ?_)
 iterate 4 refine kO hT hC ?_
 refine kC hC [] Tryz.call124 h (fun _ => Yrb) fun q54 h => ?_
 refine kO hT hC ?_
 refine Vc.nil (Xaq (Xaf (Xad ?_)))
 iterate 3 refine kO hT hC ?_
 refine Vc.nil ?_
 obtain rfl := kj h
 exact Yji (kW hC [(288, 1744)])
 exact kf b29 (Xas (Xa0 kb))
 intro v51 e
 subst e
 refine Xaq (Xaf (Xad ?_))
 iterate 3 refine kO hT hC ?_
 exact Vc.nil kG
 intro r' σ' e hE
 subst e
 obtain rfl := kj h
 refine Xhb (Xau (Xxq (Xxo ?_)))
 exact hE
 exact kf b24 (Xas (Xa0 kb))
 intro v41 e
 subst e
 refine Xaf ?_
 refine Xcm hm ?_
 iterate 5 refine kO hT hC ?_
 refine kD (Xah ?_)
 obtain rfl := kj h
 exact Xcr (τ := ⟨[(8, .own 16), (9, .ptr 2000001 0), (10, .sv (.bool true))], [(16, some (.row Xde v41.1)), (2000001, some (.box [.sv (.int .i64 v41.2.1), .sv (.int .i64 v41.2.2.1), .sv (.str v41.2.2.2)]))]⟩) (kW hC [(16, 288), (2000001, 144)]) rfl ⟨rfl, trivial⟩
 intro r' σ' e hE
 subst e
 obtain rfl := kj h
 refine Xau ?_
 exact hE
def Ydw (r : (ByteArray × Bool)) : AV := .tup [.sv (.str r.1), .sv (.bool r.2)]
def Ydv (r : (ByteArray × Bool)) : Xa7 := []
theorem Ygp {p0 p1 p2 r} (h : Xnj p0 p1 p2 = some r) : AC Tryz.prog 62 [.agg [.sv (.int .i64 p0.Level), .sv (.int .i64 p0.Bits), .sv (.ints .i64 p0.Cols), .sv (.ints .i64 p0.Rows)], .agg [.sv (.int .i64 p1.Qp), .sv (.bool p1.Large), .sv (.bool p1.Exact), .sv (.bool p1.Confined)], .agg [.sv (.int .i64 p2.Tile), .sv (.int .i64 p2.Frame), .sv (.int .i64 p2.Qp)]] [] (Ydw r) (Ydv r) := by
 refine Xae hT Tryz.func62 rfl fun C hC => ?_
 unfold Xnj at h
 refine Xac ?_
 iterate 5 refine kO hT hC ?_
 refine Vc.nil (Xat (Xac ?_))
 iterate 3 refine kO hT hC ?_
 refine kC hC [] Tryz.call125 h (fun _ => Xvu) fun q1 h => ?_
 refine kO hT hC ?_
 refine Vc.nil ?_
 refine kS h ?_ ?_ <;> intro b1 h
 refine kt b1 (Xac ?_)
 iterate 2 refine kO hT hC ?_
 exact Vc.nil (Xah (Xau kR))
 refine kf b1 (Xag (Xaf (Xac ?_)))
 iterate 5 refine kO hT hC ?_
 refine kC hC [] Tryz.call126 h (fun _ => Xol) fun q2 h => ?_
 iterate 5 refine kO hT hC ?_
 refine Vc.nil ?_
 refine Xcm hm ?_
 iterate 2 refine kO hT hC ?_
 refine kC hC [] Tryz.call127 h (fun _ => Xgy) fun q3 h => ?_
 iterate 4 refine kO hT hC ?_
 refine kC hC [] Tryz.call128 h (fun _ => Xon) fun q4 h => ?_
 refine kQ hT hC h fun h => ?_
 refine kO hT hC ?_
 refine kQ hT hC h fun h => ?_
 iterate 2 refine kO hT hC ?_
 exact kD (Xah kR)
def Ym0 (r : (List Int)) : AV := .own 16
def Ymz (r : (List Int)) : Xa7 := [(16, .ints .u8 r)]
theorem Ycy {p0 r} (h : Xrc p0 = some r) : AC Tryz.prog 202 [.sv (.ints .i64 p0)] [] (Ym0 r) (Ymz r) := by
 refine Xae hT Tryz.func202 rfl fun C hC => ?_
 unfold Xrc at h
 refine Xac ?_
 refine kO hT hC ?_
 refine kN ?_
 iterate 2 refine kO hT hC ?_
 refine kN ?_
 refine kO hT hC ?_
 refine Vc.nil (Xat (Xac ?_))
 iterate 3 refine kO hT hC ?_
 refine Vc.nil ?_
 refine kL [0,3,4,13,14,15] [192] [_,_,_,_,_,_] [_] ?_
 refine kX h (fun v3 => ([(4, .sv (.int .i64 v3.1)), (15, .sv (.int .i64 v3.2))], [])) (fun v6 => ([(4, .sv (.int .i64 v6)), (13, .any), (14, .any), (15, .any)], [])) (kW hC []) (fun v3 s h => ?_) fun v6 h => ?_
 unfold Xkb at h
 refine Xac ?_
 refine kO hT hC ?_
 refine Vc.nil (Xat ?_)
 refine kS h ?_ ?_ <;> intro b5 h
 refine kt b5 (Xag (Xaf ?_))
 refine kL [0,3,4,13,14,15] [192] [_,_,_,_,_,_] [_] ?_
 refine kA h (fun v7 => ([(4, .sv (.int .i64 v7))], [])) (fun v7 h => ?_) fun v7 h => ?_
 refine Xao (Xac ?_)
 refine kQ hT hC h fun h => ?_
 iterate 2 refine kO hT hC ?_
 refine kN ?_
 iterate 2 refine kO hT hC ?_
 refine Vc.nil ?_
 refine kS h ?_ ?_ <;> intro b6 h
 refine kt b6 (Xad ?_)
 iterate 3 refine kO hT hC ?_
 exact Vc.nil (Xaq kM)
 exact kf b6 (Xag (Xaq kM))
 refine Xad ?_
 iterate 2 refine kO hT hC ?_
 exact Vc.nil kG
 exact kf b5 (Xas (Xa0 ku))
 refine Xaf (Xac ?_)
 iterate 2 refine kO hT hC ?_
 refine kC hC [] Tryz.call127 h (fun _ => Xgy) fun q9 h => ?_
 refine kT hT hC h fun h => ?_
 refine kO hT hC ?_
 refine kN ?_
 refine kO hT hC ?_
 refine Vc.nil (Xat (Xac ?_))
 iterate 3 refine kO hT hC ?_
 refine Vc.nil ?_
 refine kL [3,7,28,29,30] [432] [_,_,_,_,_] [_] ?_
 refine kX h (fun v15 => ([(7, .sv (.int .i64 v15.1)), (30, .sv (.int .i64 v15.2.1))], [(432, some (.ints .u8 v15.2.2))])) (fun v21 => ([(7, .any), (28, .any), (29, .any), (30, .any)], [(432, some (.ints .u8 v21))])) (kW hC []) (fun v15 s h => ?_) fun v21 h => ?_
 unfold Xkc at h
 refine Xac ?_
 refine kO hT hC ?_
 refine Vc.nil (Xat ?_)
 refine kS h ?_ ?_ <;> intro b11 h
 refine kt b11 (Xag (Xaf ?_))
 refine kL [3,7,28,29,30] [432] [_,_,_,_,_] [_] ?_
 refine kA h (fun v22 => ([(7, .sv (.int .i64 v22.1))], [(432, some (.ints .u8 v22.2))])) (fun v22 h => ?_) fun v22 h => ?_
 refine Xao (Xac ?_)
 refine kQ hT hC h fun h => ?_
 iterate 2 refine kO hT hC ?_
 refine Vc.nil (Xat (Xac ?_))
 iterate 2 refine kO hT hC ?_
 refine Vc.nil ?_
 refine kS h ?_ ?_ <;> intro b12 h
 refine kt b12 (Xac ?_)
 iterate 3 refine kO hT hC ?_
 exact Vc.nil (Xas (Xa0 (Yov kM)))
 refine kf b12 (Xag (Xaf (Xac ?_)))
 refine kO hT hC ?_
 refine kC hC [] Tryz.call172 h (fun _ => Xvr) fun q23 h => ?_
 iterate 5 refine kO hT hC ?_
 refine kN ?_
 iterate 2 refine kO hT hC ?_
 refine kC hC [] Tryz.call127 h (fun _ => Xgy) fun q24 h => ?_
 refine kT hT hC h fun h => ?_
 refine kO hT hC ?_
 refine kC hC [] Tryz.call127 h (fun _ => Xgy) fun q25 h => ?_
 refine kT hT hC h fun h => ?_
 refine kO hT hC ?_
 refine Vc.nil (Xad ?_)
 refine kO hT hC ?_
 refine Vc.nil (Xaq ?_)
 obtain rfl := kj h
 exact Xg6 (kW hC [(432, 784)])
 refine Xad ?_
 iterate 2 refine kO hT hC ?_
 exact Vc.nil kG
 exact kf b11 (Xas (Xa0 ku))
 refine Xaf (Xac ?_)
 iterate 2 refine kO hT hC ?_
 refine Vc.nil (Xah ?_)
 obtain rfl := kj h
 exact Xcr (τ := ⟨[(2, .own 16)], [(16, some (.ints .u8 v21))]⟩) (kW hC [(16, 432)]) rfl ⟨rfl, trivial⟩
def Xzm (r : (List Int)) : AV := .own 16
def Xzl (r : (List Int)) : Xa7 := [(16, .ints .u8 r)]
theorem Xra {p0 p1 r} (h : Xgu p0 p1 = some r) : AC Tryz.prog 177 [.sv (.ints .i64 p0), .agg [.sv (.bool p1.Key), .sv (.int .i64 p1.Qp), .sv (.bool p1.Large), .sv (.bool p1.Exact)]] [] (Xzm r) (Xzl r) := by
 refine Xae hT Tryz.func177 rfl fun C hC => ?_
 unfold Xgu at h
 refine Xac ?_
 iterate 2 refine kO hT hC ?_
 refine Vc.nil (Xat ?_)
 refine kL [0,3] [48] [_,_] [_] ?_
 refine kA h (fun v1 => ([(12, .sv (.bool v1)), (3, .any)], [(48, none)])) (fun v1 h => ?_) fun v1 h => ?_
 refine Xad ?_
 iterate 3 refine kO hT hC ?_
 refine kS h ?_ ?_ <;> intro b1 h
 iterate 2 refine kF hC b1 ?_
 refine kP hC true b1 ?_
 exact Vc.nil kM
 iterate 2 refine kI hT hC b1 ?_
 refine kP hC false b1 ?_
 exact Vc.nil kM
 refine kS h ?_ ?_ <;> intro b2 h
 refine kt b2 (Xac ?_)
 refine kO hT hC ?_
 refine kC hC [(16, 224)] Tryz.call202 h (fun _ => Ycy) fun q2 h => ?_
 refine kO hT hC ?_
 refine Vc.nil (Xah (Xau ?_))
 obtain rfl := kj h
 exact Xcr (τ := ⟨[(4, .own 16)], [(16, some (.ints .u8 q2))]⟩) (kW hC [(16, 224)]) rfl ⟨rfl, trivial⟩
 refine kf b2 (Xag (Xaf (Xac ?_)))
 iterate 2 refine kO hT hC ?_
 refine Vc.nil (Xat (Xac ?_))
 refine kO hT hC ?_
 refine Vc.nil ?_
 refine kL [0,5,16] [240] [_,_,_] [_] ?_
 refine kX h (fun v5 => ([(16, .sv (.int .i64 v5.1))], [(240, some (.ints .u8 v5.2))])) (fun v8 => ([(0, .any), (16, .any)], [(240, some (.ints .u8 v8))])) (kW hC []) (fun v5 s h => ?_) fun v8 h => ?_
 unfold Xcz at h
 refine Xac ?_
 refine kO hT hC ?_
 refine Vc.nil (Xat ?_)
 refine kS h ?_ ?_ <;> intro b5 h
 refine kt b5 (Xag (Xaf (Xat (Xao (Xac ?_)))))
 iterate 2 refine kO hT hC ?_
 refine Vc.nil (Xad ?_)
 iterate 7 refine kO hT hC ?_
 refine kQ hT hC h fun h => ?_
 refine kC hC [(16, 432)] Tryz.call202 h (fun _ => Ycy) fun q9 h => ?_
 refine kT hT hC h fun h => ?_
 refine kO hT hC ?_
 refine Vc.nil (Xaq (Xaf (Xad ?_)))
 iterate 2 refine kO hT hC ?_
 refine Vc.nil ?_
 obtain rfl := kj h
 exact Yji (kW hC [(240, 448)])
 exact kf b5 (Xas (Xa0 ku))
 refine Xaf (Xac ?_)
 iterate 2 refine kO hT hC ?_
 refine Vc.nil (Xah ?_)
 obtain rfl := kj h
 exact Xcr (τ := ⟨[(4, .own 16)], [(16, some (.ints .u8 v8))]⟩) (kW hC [(16, 240)]) rfl ⟨rfl, trivial⟩
def Xy9 (r : (ByteArray × Bool)) : AV := .tup [.sv (.str r.1), .sv (.bool r.2)]
def Xy8 (r : (ByteArray × Bool)) : Xa7 := []
theorem Ybq {p0 p1 r} (h : Xi4 p0 p1 = some r) : AC Tryz.prog 129 [.agg [.sv (.int .i64 p0.Kind), .sv (.int .i64 p0.Mode), .sv (.int .i64 p0.Dx), .sv (.int .i64 p0.Dy), .sv (.ints .i64 p0.Levels)], .agg [.sv (.bool p1.Key), .sv (.int .i64 p1.Qp), .sv (.bool p1.Large), .sv (.bool p1.Exact)]] [] (Xy9 r) (Xy8 r) := by
 refine Xae hT Tryz.func129 rfl fun C hC => ?_
 unfold Xi4 at h
 refine Xac ?_
 iterate 4 refine kO hT hC ?_
 refine Vc.nil (Xat ?_)
 refine kL [2,3] [32,48] [_,_] [_,_] ?_
 refine kA h (fun v1 => ([(24, .sv (.bool v1))], [])) (fun v1 h => ?_) fun v1 h => ?_
 refine Xad ?_
 refine kO hT hC ?_
 refine kC hC [] Tryz.call175 h (fun _ => Xn6) fun q2 h => ?_
 iterate 2 refine kO hT hC ?_
 refine kS h ?_ ?_ <;> intro b1 h
 refine kI hT hC (kn b1) ?_
 refine kE hC (kn b1) [] Tryz.call121 h (fun _ => Xey) fun q3 h => ?_
 refine kI hT hC (kn b1) ?_
 refine kP hC false (kn b1) ?_
 refine kO hT hC ?_
 refine kS h ?_ ?_ <;> intro b2 h
 iterate 2 refine kI hT hC (kn b2) ?_
 refine kE hC (kn b2) [] Tryz.call176 h (fun _ => Xp4) fun q4 h => ?_
 refine kI hT hC (kn b2) ?_
 refine kP hC false (kn b2) ?_
 exact Vc.nil kM
 iterate 4 refine kF hC (kn b2) ?_
 refine kP hC true (kn b2) ?_
 exact Vc.nil kM
 iterate 3 refine kF hC (kn b1) ?_
 refine kP hC true (kn b1) ?_
 refine kO hT hC ?_
 iterate 4 refine kF hC rfl ?_
 refine kO hT hC ?_
 exact Vc.nil kM
 refine kS h ?_ ?_ <;> intro b3 h
 refine kt b3 (Xac ?_)
 iterate 2 refine kO hT hC ?_
 exact Vc.nil (Xah (Xau kR))
 refine kf b3 (Xag (Xaf (Xac ?_)))
 iterate 2 refine kO hT hC ?_
 refine Vc.nil ?_
 refine kL [2,3,6] [32,48,400] [_,_,_] [_,_,_] ?_
 refine kA h (fun v5 => ([], [(400, some (.ints .u8 v5))])) (fun v5 h => ?_) fun v5 h => ?_
 refine Xac ?_
 iterate 3 refine kO hT hC ?_
 refine Vc.nil ?_
 refine kS h ?_ ?_ <;> intro b4 h
 refine kt b4 (Xad ?_)
 iterate 3 refine kO hT hC ?_
 refine kC hC [] Tryz.call127 h (fun _ => Xgy) fun q6 h => ?_
 refine kT hT hC h fun h => ?_
 refine kO hT hC ?_
 refine Vc.nil ?_
 obtain rfl := kj h
 exact Xg6 (kW hC [(400, 528)])
 exact kf b4 (Xag kM)
 refine kL [2,3,6] [32,48,400] [_,_,_] [_,_,_] ?_
 refine kA h (fun v7 => ([(2, .any), (3, .any)], [(400, some (.ints .u8 v7)), (32, none), (48, none)])) (fun v7 h => ?_) fun v7 h => ?_
 refine Xac ?_
 iterate 2 refine kO hT hC ?_
 refine Vc.nil (Xao (Xac ?_))
 iterate 2 refine kO hT hC ?_
 refine Vc.nil ?_
 refine kS h ?_ ?_ <;> intro b5 h
 refine kt b5 (Xac ?_)
 iterate 2 refine kO hT hC ?_
 refine kC hC [] Tryz.call126 h (fun _ => Xol) fun q8 h => ?_
 iterate 5 refine kO hT hC ?_
 refine kN ?_
 iterate 2 refine kO hT hC ?_
 refine kC hC [] Tryz.call126 h (fun _ => Xol) fun q9 h => ?_
 iterate 5 refine kO hT hC ?_
 refine Vc.nil ?_
 refine Xej hm ?_
 iterate 2 refine kO hT hC ?_
 refine kT hT hC h fun h => ?_
 refine kO hT hC ?_
 refine kT hT hC h fun h => ?_
 iterate 3 refine kO hT hC ?_
 refine kC hC [(16, 928)] Tryz.call177 h (fun _ => Xra) fun q10 h => ?_
 refine kT hT hC h fun h => ?_
 refine kO hT hC ?_
 refine kD (Xaq ?_)
 obtain rfl := kj h
 exact Xg6 (kW hC [(400, 944)])
 refine kf b5 (Xac ?_)
 iterate 2 refine kO hT hC ?_
 refine Vc.nil ?_
 refine kS h ?_ ?_ <;> intro b6 h
 refine kt b6 ?_
 refine Xej hm ?_
 iterate 3 refine kO hT hC ?_
 refine kC hC [] Tryz.call127 h (fun _ => Xgy) fun q11 h => ?_
 refine kT hT hC h fun h => ?_
 iterate 3 refine kO hT hC ?_
 refine kC hC [(16, 1120)] Tryz.call177 h (fun _ => Xra) fun q12 h => ?_
 refine kT hT hC h fun h => ?_
 refine kO hT hC ?_
 refine kD (Xaq ?_)
 obtain rfl := kj h
 exact Xg6 (kW hC [(400, 1136)])
 exact kf b6 (Xag (Xaq kM))
 refine Xac ?_
 iterate 4 refine kO hT hC ?_
 exact Vc.nil (Xah kR)
def Xs3 (r : (ByteArray × Bool)) : AV := .tup [.sv (.str r.1), .sv (.bool r.2)]
def Xs2 (r : (ByteArray × Bool)) : Xa7 := []
theorem Yhk {p0 p1 r} (h : Xj8 p0 p1 = some r) : AC Tryz.prog 63 [.sv (Xde.sv p0), .agg [.sv (.bool p1.Key), .sv (.int .i64 p1.Qp), .sv (.bool p1.Large), .sv (.bool p1.Exact)]] [] (Xs3 r) (Xs2 r) := by
 refine Xae hT Tryz.func63 rfl fun C hC => ?_
 unfold Xj8 at h
 refine Xac ?_
 iterate 3 refine kO hT hC ?_
 refine Vc.nil (Xat (Xac ?_))
 iterate 2 refine kO hT hC ?_
 refine kC hC [] Tryz.call69 h (fun _ => Xai) fun q1 h => ?_
 refine kO hT hC ?_
 refine Vc.nil ?_
 refine kS h ?_ ?_ <;> intro b1 h
 refine kt b1 (Xac ?_)
 iterate 2 refine kO hT hC ?_
 exact Vc.nil (Xah (Xau kR))
 refine kf b1 (Xag (Xaf (Xac ?_)))
 iterate 2 refine kO hT hC ?_
 refine Vc.nil (Xat (Xac ?_))
 iterate 3 refine kO hT hC ?_
 refine Vc.nil ?_
 refine kL [3,6,16,17,18] [48,240] [_,_,_,_,_] [_,_] ?_
 obtain ⟨o9, hl, h⟩ := Xbe h
 refine Xmn (fun v4 => ([(18, .sv (.int .i64 v4.1))], [(240, some (.ints .u8 v4.2))])) (fun v7 => ([(3, .any), (16, .any), (17, .any), (18, .any)], [(240, some (.ints .u8 v7)), (48, none)])) (fun r => Xws C T Tryz.f63.results.toList (Xs3 r) (Xs2 r)) hl ?_ ?_ ?_ ?_
 try dsimp only
 apply Xe8 hC []
 exact co
 rfl
 decide
 rfl
 intro v4 s hs
 have h := hs
 unfold Xfh at h
 refine Xac ?_
 refine kO hT hC ?_
 refine Vc.nil (Xat ?_)
 refine kS h ?_ ?_ <;> intro b6 h
 refine kt b6 (Xag (Xaf (Xat (Xao (Xac ?_)))))
 refine kQ hT hC h fun h => ?_
 iterate 3 refine kO hT hC ?_
 refine kN ?_
 iterate 2 refine kO hT hC ?_
 refine kC hC [] Tryz.call129 h (fun _ => Ybq) fun q8 h => ?_
 iterate 5 refine kO hT hC ?_
 refine Vc.nil (Xat (Xac ?_))
 iterate 2 refine kO hT hC ?_
 refine Vc.nil ?_
 refine kS h ?_ ?_ <;> intro b7 h
 refine kt b7 (Xac ?_)
 iterate 2 refine kO hT hC ?_
 refine Vc.nil (Xah (Xau (Xhb (Xau ?_))))
 obtain rfl := kj h
 refine Xxq (Xxo ?_)
 exact Xcr (Xjz.refl _) rfl trivial
 refine kf b7 (Xag (Xaf (Xad ?_)))
 iterate 2 refine kO hT hC ?_
 refine kT hT hC h fun h => ?_
 refine kO hT hC ?_
 refine Vc.nil (Xaq (Xaf (Xad ?_)))
 iterate 2 refine kO hT hC ?_
 refine Vc.nil ?_
 obtain rfl := kj h
 exact Yji (kW hC [(240, 512)])
 exact kf b6 (Xas (Xa0 kb))
 intro v7 e
 subst e
 refine Xaf (Xac ?_)
 iterate 4 refine kO hT hC ?_
 exact Vc.nil (Xah kR)
 intro r' σ' e hE
 subst e
 obtain rfl := kj h
 refine Xau ?_
 exact hE
def Yhb (r : (ByteArray × Bool)) : AV := .tup [.sv (.str r.1), .sv (.bool r.2)]
def Yha (r : (ByteArray × Bool)) : Xa7 := []
theorem Yka {p0 r} (h : Xpa p0 = some r) : AC Tryz.prog 94 [.agg [.sv (.int .i64 p0.Level), .sv (.int .i64 p0.Bits), .sv (.ints .i64 p0.Cols), .sv (.ints .i64 p0.Rows)]] [] (Yhb r) (Yha r) := by
 refine Xae hT Tryz.func94 rfl fun C hC => ?_
 unfold Xpa at h
 refine Xac ?_
 iterate 3 refine kO hT hC ?_
 refine Vc.nil (Xat (Xac ?_))
 refine kO hT hC ?_
 refine kC hC [] Tryz.call71 h (fun _ => Xib) fun q1 h => ?_
 refine kO hT hC ?_
 refine Vc.nil ?_
 refine kS h ?_ ?_ <;> intro b1 h
 refine kt b1 (Xac ?_)
 iterate 2 refine kO hT hC ?_
 exact Vc.nil (Xah (Xau kR))
 refine kf b1 (Xag (Xaf ?_))
 refine Xcm hm ?_
 iterate 2 refine kO hT hC ?_
 refine kC hC [] Tryz.call127 h (fun _ => Xgy) fun q2 h => ?_
 iterate 2 refine kO hT hC ?_
 refine kC hC [] Tryz.call128 h (fun _ => Xon) fun q3 h => ?_
 refine kQ hT hC h fun h => ?_
 refine kO hT hC ?_
 refine kD (Xat (Xac ?_))
 iterate 7 refine kO hT hC ?_
 refine Vc.nil ?_
 refine kL [4,23,24,25] [368] [_,_,_,_] [_] ?_
 refine kX h (fun v14 => ([(4, .sv (.str v14.1)), (25, .sv (.int .i64 v14.2))], [])) (fun v25 => ([(4, .sv (.str v25)), (23, .any), (24, .any), (25, .any)], [(368, none)])) (kW hC []) (fun v14 s h => ?_) fun v25 h => ?_
 unfold Xd6 at h
 refine Xac ?_
 refine kO hT hC ?_
 refine Vc.nil (Xat ?_)
 refine kS h ?_ ?_ <;> intro b10 h
 refine kt b10 (Xag (Xaf (Xat (Xao (Xac ?_)))))
 iterate 2 refine kQ hT hC h fun h => ?_
 refine kO hT hC ?_
 refine kN ?_
 iterate 3 refine kO hT hC ?_
 refine kC hC [] Tryz.call127 h (fun _ => Xgy) fun q26 h => ?_
 refine kQ hT hC h fun h => ?_
 refine kO hT hC ?_
 refine kN ?_
 iterate 3 refine kO hT hC ?_
 refine Vc.nil ?_
 refine kL [4,23,24,25,34,35,36] [368] [_,_,_,_,_,_,_] [_] ?_
 refine kX h (fun v29 => ([(4, .sv (.str v29.1)), (36, .sv (.int .i64 v29.2))], [])) (fun v32 => ([(4, .sv (.str v32)), (34, .any), (35, .any), (36, .any)], [])) (kW hC []) (fun v29 s h => ?_) fun v32 h => ?_
 unfold Xhj at h
 refine Xac ?_
 refine kO hT hC ?_
 refine Vc.nil (Xat ?_)
 refine kS h ?_ ?_ <;> intro b13 h
 refine kt b13 (Xag (Xaf (Xat (Xao (Xac ?_)))))
 refine kQ hT hC h fun h => ?_
 iterate 2 refine kO hT hC ?_
 refine Vc.nil (Xad ?_)
 iterate 2 refine kO hT hC ?_
 refine kC hC [] Tryz.call127 h (fun _ => Xgy) fun q33 h => ?_
 refine kQ hT hC h fun h => ?_
 refine kO hT hC ?_
 refine Vc.nil (Xaq (Xaf (Xad ?_)))
 iterate 2 refine kO hT hC ?_
 exact Vc.nil kG
 exact kf b13 (Xas (Xa0 ku))
 refine Xaq (Xaf (Xad ?_))
 iterate 2 refine kO hT hC ?_
 exact Vc.nil kG
 exact kf b10 (Xas (Xa0 ku))
 refine Xaf (Xac ?_)
 iterate 3 refine kO hT hC ?_
 exact Vc.nil (Xah kR)
def Ym3 (r : ByteArray) : AV := .sv (.str r)
def Ym2 (r : ByteArray) : Xa7 := []
theorem Xt2 {p0 r} (h : Xrh p0 = some r) : AC Tryz.prog 154 [.sv (.bool p0)] [] (Ym3 r) (Ym2 r) := by
 refine Xae hT Tryz.func154 rfl fun C hC => ?_
 unfold Xrh at h
 refine Xac ?_
 refine kO hT hC ?_
 refine Vc.nil (Xat (Xac ?_))
 refine kO hT hC ?_
 refine Vc.nil ?_
 refine kS h ?_ ?_ <;> intro b1 h
 refine kt b1 (Xac ?_)
 refine kO hT hC ?_
 exact Vc.nil (Xah (Xau kR))
 refine kf b1 (Xag (Xaf (Xac ?_)))
 refine kO hT hC ?_
 exact Vc.nil (Xah kR)
def Yg0 (r : (ByteArray × Bool)) : AV := .tup [.sv (.str r.1), .sv (.bool r.2)]
def Ygz (r : (ByteArray × Bool)) : Xa7 := []
theorem Yjz {p0 r} (h : Xo8 p0 = some r) : AC Tryz.prog 95 [.agg [.sv (.int .i64 p0.Qp), .sv (.bool p0.Large), .sv (.bool p0.Exact), .sv (.bool p0.Confined)]] [] (Yg0 r) (Ygz r) := by
 refine Xae hT Tryz.func95 rfl fun C hC => ?_
 unfold Xo8 at h
 refine Xac ?_
 iterate 3 refine kO hT hC ?_
 refine Vc.nil (Xat (Xac ?_))
 refine kO hT hC ?_
 refine kC hC [] Tryz.call67 h (fun _ => Xer) fun q1 h => ?_
 refine kO hT hC ?_
 refine Vc.nil ?_
 refine kS h ?_ ?_ <;> intro b1 h
 refine kt b1 (Xac ?_)
 iterate 2 refine kO hT hC ?_
 exact Vc.nil (Xah (Xau kR))
 refine kf b1 (Xag (Xaf ?_))
 refine Xcm hm ?_
 iterate 2 refine kO hT hC ?_
 refine kC hC [] Tryz.call128 h (fun _ => Xon) fun q2 h => ?_
 iterate 2 refine kO hT hC ?_
 refine kC hC [] Tryz.call154 h (fun _ => Xt2) fun q3 h => ?_
 refine kQ hT hC h fun h => ?_
 iterate 2 refine kO hT hC ?_
 refine kC hC [] Tryz.call154 h (fun _ => Xt2) fun q4 h => ?_
 refine kQ hT hC h fun h => ?_
 iterate 2 refine kO hT hC ?_
 refine kC hC [] Tryz.call154 h (fun _ => Xt2) fun q5 h => ?_
 refine kQ hT hC h fun h => ?_
 iterate 2 refine kO hT hC ?_
 exact kD (Xah kR)
def Ybj (r : (ByteArray × Bool)) : AV := .tup [.sv (.str r.1), .sv (.bool r.2)]
def Ybi (r : (ByteArray × Bool)) : Xa7 := []
theorem Yd7 {p0 r} (h : Xkx p0 = some r) : AC Tryz.prog 130 [.sv (.str p0)] [] (Ybj r) (Ybi r) := by
 refine Xae hT Tryz.func130 rfl fun C hC => ?_
 unfold Xkx at h
 refine Xac ?_
 iterate 2 refine kO hT hC ?_
 refine Vc.nil (Xat (Xac ?_))
 refine kO hT hC ?_
 refine kC hC [] Tryz.call155 h (fun _ => Xyx) fun q1 h => ?_
 refine kO hT hC ?_
 refine Vc.nil ?_
 refine kS h ?_ ?_ <;> intro b1 h
 refine kt b1 (Xac ?_)
 iterate 2 refine kO hT hC ?_
 exact Vc.nil (Xah (Xau kR))
 refine kf b1 (Xag (Xaf (Xac ?_)))
 iterate 2 refine kO hT hC ?_
 refine kQ hT hC h fun h => ?_
 refine kO hT hC ?_
 obtain ⟨hq, h⟩ := Xav h
 refine Yl2 hT hC rfl rfl rfl rfl ⟨hq.1, hq.2.1, hq.2.2, by decide⟩ ?_
 refine kO hT hC ?_
 refine Vc.nil (Xat (Xac ?_))
 refine kO hT hC ?_
 refine Vc.nil ?_
 refine kL [0,4,5] [208] [_,_,_] [_] ?_
 refine kX h (fun v4 => ([(5, .sv (.int .i64 v4.1))], [(208, some (.ints .u8 v4.2))])) (fun v7 => ([(5, .any)], [(208, some (.ints .u8 v7))])) (kW hC []) (fun v4 s h => ?_) fun v7 h => ?_
 unfold Xgi at h
 refine Xat (Xac ?_)
 iterate 4 refine kO hT hC ?_
 refine Vc.nil ?_
 refine kS h ?_ ?_ <;> intro b6 h
 refine kt b6 (Xag (Xaf ?_))
 refine kL [0,4,5] [208] [_,_,_] [_] ?_
 refine kA h (fun v8 => ([], [(208, some (.ints .u8 v8))])) (fun v8 h => ?_) fun v8 h => ?_
 refine Xao (Xac ?_)
 iterate 2 refine kO hT hC ?_
 refine kQ hT hC h fun h => ?_
 refine kO hT hC ?_
 refine Vc.nil ?_
 refine kS h ?_ ?_ <;> intro b7 h
 refine kt b7 ?_
 refine Xej hm ?_
 iterate 2 refine kO hT hC ?_
 iterate 3 refine kQ hT hC h fun h => ?_
 refine kO hT hC ?_
 iterate 2 refine kQ hT hC h fun h => ?_
 refine kO hT hC ?_
 iterate 2 refine kQ hT hC h fun h => ?_
 exact kD (Xaq kM)
 exact kf b7 (Xag (Xaq kM))
 refine Xad ?_
 iterate 3 refine kO hT hC ?_
 exact Vc.nil kG
 exact kf b6 (Xas (Xa0 ku))
 refine Xaf ?_
 refine Xcm hm ?_
 iterate 3 refine kO hT hC ?_
 iterate 3 refine kQ hT hC h fun h => ?_
 iterate 2 refine kO hT hC ?_
 iterate 2 refine kQ hT hC h fun h => ?_
 refine kO hT hC ?_
 iterate 2 refine kQ hT hC h fun h => ?_
 refine kD (Xac ?_)
 iterate 4 refine kO hT hC ?_
 exact Vc.nil (Xah kR)
def Yhr (r : (ByteArray × Bool)) : AV := .tup [.sv (.str r.1), .sv (.bool r.2)]
def Yhq (r : (ByteArray × Bool)) : Xa7 := []
theorem Xqk {p0 p1 r} (h : Xjv p0 p1 = some r) : AC Tryz.prog 64 [.sv (.int .i64 p0), .sv (.str p1)] [] (Yhr r) (Yhq r) := by
 refine Xae hT Tryz.func64 rfl fun C hC => ?_
 unfold Xjv at h
 refine Xac ?_
 iterate 2 refine kO hT hC ?_
 refine kN ?_
 refine kO hT hC ?_
 refine kC hC [] Tryz.call130 h (fun _ => Yd7) fun q1 h => ?_
 iterate 5 refine kO hT hC ?_
 refine Vc.nil (Xat ?_)
 refine kL [0,6,7] [] [_,_,_] [] ?_
 refine kA h (fun v2 => ([(19, .sv (.bool v2)), (7, .any)], [])) (fun v2 h => ?_) fun v2 h => ?_
 refine Xad ?_
 iterate 3 refine kO hT hC ?_
 refine kS h ?_ ?_ <;> intro b1 h
 refine kI hT hC (kn b1) ?_
 refine kE hC (kn b1) [] Tryz.call96 h (fun _ => Xv5) fun q3 h => ?_
 refine kI hT hC (kn b1) ?_
 refine kP hC false (kn b1) ?_
 exact Vc.nil kM
 iterate 3 refine kF hC (kn b1) ?_
 refine kP hC true (kn b1) ?_
 exact Vc.nil kM
 refine kS h ?_ ?_ <;> intro b2 h
 refine kt b2 (Xac ?_)
 iterate 2 refine kO hT hC ?_
 exact Vc.nil (Xah (Xau kR))
 refine kf b2 (Xag (Xaf (Xac ?_)))
 iterate 5 refine kO hT hC ?_
 refine kQ hT hC h fun h => ?_
 iterate 2 refine kO hT hC ?_
 exact Vc.nil (Xah kR)
def Xw9 (r : (List ByteArray)) : AV := .own 16
def Xw8 (r : (List ByteArray)) : Xa7 := [(16, .row Xbr r)]
theorem Xy2 {p0 r} (h : Xhl p0 = some r) : AC Tryz.prog 32 [.agg [.sv (.int .i64 p0.Seq.Level), .sv (.int .i64 p0.Seq.Bits), .sv (.ints .i64 p0.Seq.Cols), .sv (.ints .i64 p0.Seq.Rows), .sv (.int .i64 p0.Par.Qp), .sv (.bool p0.Par.Large), .sv (.bool p0.Par.Exact), .sv (.bool p0.Par.Confined), .sv (.int .i64 p0.Rate.Qp), .sv (.int .i64 p0.Rate.Target), .sv (.int .i64 p0.Rate.Debt), .sv (.int .i64 p0.Frame), .sv (.int .i64 p0.Since), .sv (.int .i64 p0.Every), .sv (.int .i64 p0.Reach), .sv (.bool p0.Has), .sv (.int .i64 p0.Ref.Wide), .sv (.int .i64 p0.Ref.High), .sv (.str p0.Ref.Dots)]] [] (Xw9 r) (Xw8 r) := by
 refine Xae hT Tryz.func32 rfl fun C hC => ?_
 unfold Xhl at h
 refine Xac ?_
 iterate 2 refine kO hT hC ?_
 refine Vc.nil (Xat (Xac ?_))
 refine kO hT hC ?_
 refine kC hC [] Tryz.call23 h (fun _ => Xn4) fun q1 h => ?_
 refine kO hT hC ?_
 refine Vc.nil ?_
 refine kS h ?_ ?_ <;> intro b1 h
 refine kt b1 (Xac ?_)
 iterate 2 refine kO hT hC ?_
 refine Vc.nil (Xah (Xau ?_))
 obtain rfl := kj h
 exact Xcr (τ := ⟨[(2, .own 16)], [(16, some (.row Xbr ([] : List ByteArray)))]⟩) (kW hC [(16, 224)]) rfl ⟨rfl, trivial⟩
 refine kf b1 (Xag (Xaf (Xac ?_)))
 iterate 2 refine kO hT hC ?_
 refine kC hC [] Tryz.call94 h (fun _ => Yka) fun q2 h => ?_
 iterate 5 refine kO hT hC ?_
 refine kN ?_
 iterate 2 refine kO hT hC ?_
 refine kC hC [] Tryz.call95 h (fun _ => Yjz) fun q3 h => ?_
 iterate 5 refine kO hT hC ?_
 refine kN ?_
 refine kO hT hC ?_
 refine kC hC [] Tryz.call64 h (fun _ => Xqk) fun q4 h => ?_
 iterate 5 refine kO hT hC ?_
 refine kN ?_
 refine kO hT hC ?_
 refine kC hC [] Tryz.call64 h (fun _ => Xqk) fun q5 h => ?_
 iterate 5 refine kO hT hC ?_
 refine kN ?_
 iterate 4 refine kO hT hC ?_
 refine Vc.nil (Xah ?_)
 obtain rfl := kj h
 exact Xcr (τ := ⟨[(2, .own 16)], [(16, some (.row Xbr ([q4.1, q5.1])))]⟩) (kW hC [(16, 624)]) rfl ⟨rfl, trivial⟩
def Ybf (r : Rate) : AV := .agg [.sv (.int .i64 r.Qp), .sv (.int .i64 r.Target), .sv (.int .i64 r.Debt)]
def Ybe (r : Rate) : Xa7 := []
theorem Ydz {p0 p1 r} (h : Xkw p0 p1 = some r) : AC Tryz.prog 65 [.agg [.sv (.int .i64 p0.Qp), .sv (.int .i64 p0.Target), .sv (.int .i64 p0.Debt)], .sv (.int .i64 p1)] [] (Ybf r) (Ybe r) := by
 refine Xae hT Tryz.func65 rfl fun C hC => ?_
 unfold Xkw at h
 refine Xac ?_
 iterate 2 refine kO hT hC ?_
 refine Vc.nil (Xat (Xac ?_))
 refine kO hT hC ?_
 refine kC hC [] Tryz.call68 h (fun _ => Xqi) fun q1 h => ?_
 refine kO hT hC ?_
 refine Vc.nil ?_
 refine kS h ?_ ?_ <;> intro b1 h
 refine kt b1 (Xac ?_)
 iterate 2 refine kO hT hC ?_
 exact Vc.nil (Xah (Xau kR))
 refine kf b1 (Xag (Xaf ?_))
 refine Xcm hm ?_
 iterate 3 refine kO hT hC ?_
 refine kC hC [] Tryz.call131 h (fun _ => Xd2) fun q2 h => ?_
 iterate 10 refine kO hT hC ?_
 refine kC hC [] Tryz.call131 h (fun _ => Xd2) fun q3 h => ?_
 iterate 2 refine kO hT hC ?_
 refine kD ?_
 refine kL [2,4] [32,64] [_,_] [_,_] ?_
 refine kA h (fun v4 => ([], [(32, some (.box [.sv (.int .i64 v4), .sv (.int .i64 p0.Target), .sv (.int .i64 q3)]))])) (fun v4 h => ?_) fun v4 h => ?_
 refine Xao (Xac ?_)
 iterate 6 refine kO hT hC ?_
 refine Vc.nil ?_
 refine kS h ?_ ?_ <;> intro b2 h
 refine kt b2 (Xad ?_)
 iterate 5 refine kO hT hC ?_
 exact Vc.nil (Xaq kM)
 refine kf b2 (Xac ?_)
 iterate 7 refine kO hT hC ?_
 refine Vc.nil ?_
 refine kS h ?_ ?_ <;> intro b3 h
 refine kt b3 (Xad ?_)
 iterate 5 refine kO hT hC ?_
 exact Vc.nil (Xaq kM)
 exact kf b3 (Xag (Xaq kM))
 refine Xac ?_
 iterate 2 refine kO hT hC ?_
 refine kC hC [] Tryz.call131 h (fun _ => Xd2) fun q5 h => ?_
 iterate 2 refine kO hT hC ?_
 refine kN ?_
 iterate 2 refine kO hT hC ?_
 exact Vc.nil (Xah kR)
def Xxb (r : (Xa5 × (List ByteArray) × Bool)) : AV := .tup [.agg [.sv (.int .i64 r.1.Seq.Level), .sv (.int .i64 r.1.Seq.Bits), .own 16, .own 17, .sv (.int .i64 r.1.Par.Qp), .sv (.bool r.1.Par.Large), .sv (.bool r.1.Par.Exact), .sv (.bool r.1.Par.Confined), .sv (.int .i64 r.1.Rate.Qp), .sv (.int .i64 r.1.Rate.Target), .sv (.int .i64 r.1.Rate.Debt), .sv (.int .i64 r.1.Frame), .sv (.int .i64 r.1.Since), .sv (.int .i64 r.1.Every), .sv (.int .i64 r.1.Reach), .sv (.bool r.1.Has), .sv (.int .i64 r.1.Ref.Wide), .sv (.int .i64 r.1.Ref.High), .sv (.str r.1.Ref.Dots)], .own 18, .sv (.bool r.2.2)]
def Xxa (r : (Xa5 × (List ByteArray) × Bool)) : Xa7 := [(16, .ints .i64 r.1.Seq.Cols), (17, .ints .i64 r.1.Seq.Rows), (18, .row Xbr r.2.1)]
theorem Xy4 {p0 p1 p2 r} (h : Xhm p0 p1 p2 = some r) : AC Tryz.prog 22 [.agg [.sv (.int .i64 p0.Seq.Level), .sv (.int .i64 p0.Seq.Bits), .sv (.ints .i64 p0.Seq.Cols), .sv (.ints .i64 p0.Seq.Rows), .sv (.int .i64 p0.Par.Qp), .sv (.bool p0.Par.Large), .sv (.bool p0.Par.Exact), .sv (.bool p0.Par.Confined), .sv (.int .i64 p0.Rate.Qp), .sv (.int .i64 p0.Rate.Target), .sv (.int .i64 p0.Rate.Debt), .sv (.int .i64 p0.Frame), .sv (.int .i64 p0.Since), .sv (.int .i64 p0.Every), .sv (.int .i64 p0.Reach), .sv (.bool p0.Has), .sv (.int .i64 p0.Ref.Wide), .sv (.int .i64 p0.Ref.High), .sv (.str p0.Ref.Dots)], .agg [.sv (.int .i64 p1.Wide), .sv (.int .i64 p1.High), .sv (.str p1.Dots)], .sv (.bool p2)] [] (Xxb r) (Xxa r) := by
 refine Xae hT Tryz.func22 rfl fun C hC => ?_
 unfold Xhm at h
 refine Xac ?_
 iterate 5 refine kO hT hC ?_
 refine Vc.nil (Xat ?_)
 refine kL [2,3,4,6] [48,64,96] [_,_,_,_] [_,_,_] ?_
 refine kA h (fun v1 => ([(32, .sv (.bool v1))], [])) (fun v1 h => ?_) fun v1 h => ?_
 refine Xad ?_
 refine kO hT hC ?_
 refine kC hC [] Tryz.call23 h (fun _ => Xn4) fun q2 h => ?_
 iterate 2 refine kO hT hC ?_
 refine kS h ?_ ?_ <;> intro b1 h
 iterate 3 refine kI hT hC (kn b1) ?_
 refine kE hC (kn b1) [] Tryz.call58 h (fun _ => Ycv) fun q3 h => ?_
 refine kI hT hC (kn b1) ?_
 refine kP hC false (kn b1) ?_
 exact Vc.nil kM
 iterate 5 refine kF hC (kn b1) ?_
 refine kP hC true (kn b1) ?_
 exact Vc.nil kM
 refine kS h ?_ ?_ <;> intro b2 h
 refine kt b2 (Xac ?_)
 refine kO hT hC ?_
 refine kC hC [(16, 544), (17, 545)] Tryz.call59 h (fun _ => Xk5) fun q4 h => ?_
 iterate 4 refine kO hT hC ?_
 refine Vc.nil (Xah (Xau ?_))
 obtain rfl := kj h
 exact Xcr (τ := ⟨[(6, .ptr 2000000 0), (7, .own 18), (8, .sv (.bool false))], [(16, some (.ints .i64 q4.Seq.Cols)), (17, some (.ints .i64 q4.Seq.Rows)), (18, some (.row Xbr ([] : List ByteArray))), (2000000, some (.box [.sv (.int .i64 q4.Seq.Level), .sv (.int .i64 q4.Seq.Bits), .own 16, .own 17, .sv (.int .i64 q4.Par.Qp), .sv (.bool q4.Par.Large), .sv (.bool q4.Par.Exact), .sv (.bool q4.Par.Confined), .sv (.int .i64 q4.Rate.Qp), .sv (.int .i64 q4.Rate.Target), .sv (.int .i64 q4.Rate.Debt), .sv (.int .i64 q4.Frame), .sv (.int .i64 q4.Since), .sv (.int .i64 q4.Every), .sv (.int .i64 q4.Reach), .sv (.bool q4.Has), .sv (.int .i64 q4.Ref.Wide), .sv (.int .i64 q4.Ref.High), .sv (.str q4.Ref.Dots)]))]⟩) (kW hC [(16, 544), (17, 545), (18, 560), (2000000, 96)]) rfl ⟨rfl, rfl, rfl, trivial⟩
 refine kf b2 (Xag (Xaf (Xac ?_)))
 iterate 2 refine kO hT hC ?_
 refine kC hC [] Tryz.call21 h (fun _ => Yju) fun q5 h => ?_
 refine kO hT hC ?_
 refine Vc.nil (Xat ?_)
 refine kL [3,4,6,9] [48,64,96] [_,_,_,_] [_,_,_] ?_
 refine kA h (fun v6 => ([(45, .sv (.bool v6))], [])) (fun v6 h => ?_) fun v6 h => ?_
 refine Xad ?_
 iterate 3 refine kO hT hC ?_
 refine kS h ?_ ?_ <;> intro b3 h
 iterate 3 refine kF hC (kn b3) ?_
 refine kP hC false (kn b3) ?_
 exact Vc.nil kM
 iterate 3 refine kI hT hC (kn b3) ?_
 refine kP hC true (kn b3) ?_
 exact Vc.nil kM
 refine kS h ?_ ?_ <;> intro b4 h
 refine kt b4 (Xac ?_)
 refine kO hT hC ?_
 refine kC hC [(16, 752), (17, 753)] Tryz.call59 h (fun _ => Xk5) fun q7 h => ?_
 iterate 4 refine kO hT hC ?_
 refine Vc.nil (Xah (Xau ?_))
 obtain rfl := kj h
 exact Xcr (τ := ⟨[(6, .ptr 2000000 0), (7, .own 18), (8, .sv (.bool false))], [(16, some (.ints .i64 q7.Seq.Cols)), (17, some (.ints .i64 q7.Seq.Rows)), (18, some (.row Xbr ([] : List ByteArray))), (2000000, some (.box [.sv (.int .i64 q7.Seq.Level), .sv (.int .i64 q7.Seq.Bits), .own 16, .own 17, .sv (.int .i64 q7.Par.Qp), .sv (.bool q7.Par.Large), .sv (.bool q7.Par.Exact), .sv (.bool q7.Par.Confined), .sv (.int .i64 q7.Rate.Qp), .sv (.int .i64 q7.Rate.Target), .sv (.int .i64 q7.Rate.Debt), .sv (.int .i64 q7.Frame), .sv (.int .i64 q7.Since), .sv (.int .i64 q7.Every), .sv (.int .i64 q7.Reach), .sv (.bool q7.Has), .sv (.int .i64 q7.Ref.Wide), .sv (.int .i64 q7.Ref.High), .sv (.str q7.Ref.Dots)]))]⟩) (kW hC [(16, 752), (17, 753), (18, 768), (2000000, 96)]) rfl ⟨rfl, rfl, rfl, trivial⟩
 refine kf b4 (Xag (Xaf ?_))
 refine Xcm hm ?_
 iterate 4 refine kO hT hC ?_
 refine kC hC [] Tryz.call60 h (fun _ => Yms) fun q8 h => ?_
 iterate 9 refine kO hT hC ?_
 refine kD (Xac ?_)
 iterate 6 refine kO hT hC ?_
 refine kC hC [(16, 1088)] Tryz.call61 h (fun _ => Yhj) fun q9 h => ?_
 iterate 8 refine kO hT hC ?_
 refine kN ?_
 iterate 9 refine kO hT hC ?_
 refine kC hC [] Tryz.call62 h (fun _ => Ygp) fun q10 h => ?_
 iterate 5 refine kO hT hC ?_
 refine kN ?_
 iterate 2 refine kO hT hC ?_
 refine kC hC [] Tryz.call63 h (fun _ => Yhk) fun q11 h => ?_
 iterate 5 refine kO hT hC ?_
 refine kN ?_
 refine kO hT hC ?_
 refine kN ?_
 refine kO hT hC ?_
 refine kC hC [(16, 1472), (17, 1473)] Tryz.call59 h (fun _ => Xk5) fun q12 h => ?_
 iterate 2 refine kO hT hC ?_
 refine kN ?_
 iterate 2 refine kO hT hC ?_
 refine kN ?_
 iterate 5 refine kO hT hC ?_
 refine Vc.nil ?_
 refine kL [3,6,9,12,14,16,18,19,20] [48,96,192,304,1472,1473,1488] [_,_,_,_,_,_,_,_,_] [_,_,_,_,_,_,_] ?_
 refine kA h (fun v13 => ([(18, .sv (.int .i64 v13.1)), (9, .any)], [(304, some (.box [.sv (.int .i64 q12.Seq.Level), .sv (.int .i64 q12.Seq.Bits), .own 1472, .own 1473, .sv (.int .i64 q12.Par.Qp), .sv (.bool q12.Par.Large), .sv (.bool q12.Par.Exact), .sv (.bool q12.Par.Confined), .sv (.int .i64 q12.Rate.Qp), .sv (.int .i64 q12.Rate.Target), .sv (.int .i64 q12.Rate.Debt), .sv (.int .i64 q12.Frame), .sv (.int .i64 v13.2.1), .sv (.int .i64 q12.Every), .sv (.int .i64 q12.Reach), .sv (.bool q12.Has), .sv (.int .i64 q12.Ref.Wide), .sv (.int .i64 q12.Ref.High), .sv (.str q12.Ref.Dots)])), (1488, some (.row Xbr v13.2.2))])) (fun v13 h => ?_) fun v13 h => ?_
 refine Xac ?_
 refine kO hT hC ?_
 refine Vc.nil ?_
 refine kS h ?_ ?_ <;> intro b5 h
 refine kt b5 (Xac ?_)
 refine kO hT hC ?_
 refine kN ?_
 refine kO hT hC ?_
 refine kC hC [(16, 1600)] Tryz.call32 h (fun _ => Xy2) fun q14 h => ?_
 refine kO hT hC ?_
 refine Vc.nil (Xad ?_)
 iterate 2 refine kO hT hC ?_
 refine Vc.nil ?_
 obtain rfl := kj h
 exact Xg6 (kW hC [(1488, 1600)])
 exact kf b5 (Xag kM)
 refine Xac ?_
 iterate 3 refine kO hT hC ?_
 refine kQ hT hC h fun h => ?_
 refine kC hC [] Tryz.call64 h (fun _ => Xqk) fun q15 h => ?_
 iterate 5 refine kO hT hC ?_
 refine kN ?_
 iterate 7 refine kO hT hC ?_
 refine kC hC [] Tryz.call65 h (fun _ => Ydz) fun q16 h => ?_
 iterate 2 refine kO hT hC ?_
 refine Vc.nil ?_
 refine Xcm hm ?_
 iterate 6 refine kO hT hC ?_
 iterate 2 refine kQ hT hC h fun h => ?_
 iterate 2 refine kO hT hC ?_
 refine kD (Xac ?_)
 iterate 2 refine kO hT hC ?_
 refine kN ?_
 iterate 3 refine kO hT hC ?_
 refine Vc.nil ?_
 refine Xcm hm ?_
 iterate 4 refine kO hT hC ?_
 obtain ⟨hq, h⟩ := Xav h
 refine Yl2 hT hC rfl rfl rfl rfl ⟨fun _ _ => rfl, by rw [Xh7]; exact hq⟩ ?_
 rw [Xh7]
 iterate 3 refine kO hT hC ?_
 refine kD (Xah ?_)
 obtain rfl := kj h
 exact Xcr (τ := ⟨[(6, .ptr 2000000 0), (7, .own 18), (8, .sv (.bool true))], [(16, some (.ints .i64 q12.Seq.Cols)), (17, some (.ints .i64 q12.Seq.Rows)), (18, some (.row Xbr (v13.2.2 ++ ([q15.1])))), (2000000, some (.box [.sv (.int .i64 q12.Seq.Level), .sv (.int .i64 q12.Seq.Bits), .own 16, .own 17, .sv (.int .i64 q12.Par.Qp), .sv (.bool q12.Par.Large), .sv (.bool q12.Par.Exact), .sv (.bool q12.Par.Confined), .sv (.int .i64 q16.Qp), .sv (.int .i64 q16.Target), .sv (.int .i64 q16.Debt), .sv (.int .i64 ((Xaa .i64 (p0.Frame + 1)).tmod (Xaa .i64 (1 * 2 ^ min p0.Seq.Bits.toNat (IntKind.bits .i64))))), .sv (.int .i64 v13.2.1), .sv (.int .i64 q12.Every), .sv (.int .i64 q12.Reach), .sv (.bool true), .sv (.int .i64 q9.2.1.Wide), .sv (.int .i64 q9.2.1.High), .sv (.str q9.2.1.Dots)]))]⟩) (kW hC [(16, 1472), (17, 1473), (18, 2160), (2000000, 96)]) rfl ⟨rfl, rfl, rfl, trivial⟩
def Xzh (r : Xdk) : AV := .agg [.sv (.bool r.Has), .sv (.bool r.Live), .sv (.int .i64 r.Seq.Level), .sv (.int .i64 r.Seq.Bits), .own 16, .own 17, .sv (.int .i64 r.Par.Qp), .sv (.bool r.Par.Large), .sv (.bool r.Par.Exact), .sv (.bool r.Par.Confined), .sv (.int .i64 r.Frame), .sv (.int .i64 r.Count), .sv (.int .i64 r.Gone)]
def Xzg (r : Xdk) : Xa7 := [(16, .ints .i64 r.Seq.Cols), (17, .ints .i64 r.Seq.Rows)]
theorem Xq8 {p0 r} (h : Xgt p0 = some r) : AC Tryz.prog 72 [.agg [.sv (.bool p0.Has), .sv (.bool p0.Live), .sv (.int .i64 p0.Seq.Level), .sv (.int .i64 p0.Seq.Bits), .sv (.ints .i64 p0.Seq.Cols), .sv (.ints .i64 p0.Seq.Rows), .sv (.int .i64 p0.Par.Qp), .sv (.bool p0.Par.Large), .sv (.bool p0.Par.Exact), .sv (.bool p0.Par.Confined), .sv (.int .i64 p0.Frame), .sv (.int .i64 p0.Count), .sv (.int .i64 p0.Gone)]] [] (Xzh r) (Xzg r) := by
 refine Xae hT Tryz.func72 rfl fun C hC => ?_
 unfold Xgt at h
 refine Xac ?_
 iterate 2 refine kO hT hC ?_
 refine kN ?_
 iterate 2 refine kO hT hC ?_
 refine kC hC [(16, 80), (17, 81)] Tryz.call75 h (fun _ => Xpc) fun q1 h => ?_
 iterate 2 refine kO hT hC ?_
 refine kN ?_
 iterate 2 refine kO hT hC ?_
 refine Vc.nil (Xah ?_)
 obtain rfl := kj h
 exact Xcr (τ := ⟨[(2, .ptr 2000000 0)], [(16, some (.ints .i64 q1.Cols)), (17, some (.ints .i64 q1.Rows)), (2000000, some (.box [.sv (.bool p0.Has), .sv (.bool p0.Live), .sv (.int .i64 q1.Level), .sv (.int .i64 q1.Bits), .own 16, .own 17, .sv (.int .i64 p0.Par.Qp), .sv (.bool p0.Par.Large), .sv (.bool p0.Par.Exact), .sv (.bool p0.Par.Confined), .sv (.int .i64 p0.Frame), .sv (.int .i64 p0.Count), .sv (.int .i64 p0.Gone)]))]⟩) (kW hC [(16, 80), (17, 81), (2000000, 32)]) rfl ⟨rfl, rfl, trivial⟩
def Ydi (r : Bool) : AV := .sv (.bool r)
def Ydh (r : Bool) : Xa7 := []
theorem Xo4 {p0 r} (h : Xhe p0 = some r) : AC Tryz.prog 28 [.agg [.sv (.bool p0.Has), .sv (.bool p0.Live), .sv (.int .i64 p0.Seq.Level), .sv (.int .i64 p0.Seq.Bits), .sv (.ints .i64 p0.Seq.Cols), .sv (.ints .i64 p0.Seq.Rows), .sv (.int .i64 p0.Par.Qp), .sv (.bool p0.Par.Large), .sv (.bool p0.Par.Exact), .sv (.bool p0.Par.Confined), .sv (.int .i64 p0.Frame), .sv (.int .i64 p0.Count), .sv (.int .i64 p0.Gone)]] [] (Ydi r) (Ydh r) := by
 refine Xae hT Tryz.func28 rfl fun C hC => ?_
 unfold Xhe at h
 refine Xac ?_
 iterate 2 refine kO hT hC ?_
 refine Vc.nil (Xat ?_)
 refine kL [1] [16] [_] [_] ?_
 refine kA h (fun v1 => ([(12, .sv (.bool v1))], [])) (fun v1 h => ?_) fun v1 h => ?_
 refine Xad ?_
 iterate 2 refine kO hT hC ?_
 refine kC hC [] Tryz.call69 h (fun _ => Xai) fun q2 h => ?_
 iterate 2 refine kO hT hC ?_
 refine kS h ?_ ?_ <;> intro b1 h
 iterate 2 refine kI hT hC (kn b1) ?_
 refine kE hC (kn b1) [] Tryz.call69 h (fun _ => Xai) fun q3 h => ?_
 refine kI hT hC (kn b1) ?_
 refine kP hC false (kn b1) ?_
 exact Vc.nil kM
 iterate 4 refine kF hC (kn b1) ?_
 refine kP hC true (kn b1) ?_
 exact Vc.nil kM
 refine kS h ?_ ?_ <;> intro b2 h
 refine kt b2 (Xac ?_)
 refine kO hT hC ?_
 exact Vc.nil (Xah (Xau kR))
 refine kf b2 (Xag (Xaf (Xat (Xac ?_))))
 iterate 3 refine kO hT hC ?_
 refine Vc.nil ?_
 refine kS h ?_ ?_ <;> intro b3 h
 refine kt b3 ?_
 refine kL [1] [16] [_] [_] ?_
 refine kA h (fun v4 => ([(2, .sv (.bool v4)), (1, .any)], [(16, none)])) (fun v4 h => ?_) fun v4 h => ?_
 refine Xad ?_
 iterate 4 refine kO hT hC ?_
 refine kS h ?_ ?_ <;> intro b4 h
 iterate 3 refine kF hC (kn b4) ?_
 refine kP hC false (kn b4) ?_
 refine kO hT hC ?_
 iterate 4 refine kF hC rfl ?_
 iterate 2 refine kO hT hC ?_
 iterate 3 refine kF hC rfl ?_
 iterate 2 refine kO hT hC ?_
 exact Vc.nil kM
 iterate 2 refine kI hT hC (kn b4) ?_
 refine kE hC (kn b4) [] Tryz.call70 h (fun _ => Yhv) fun q5 h => ?_
 refine kP hC true (kn b4) ?_
 refine kO hT hC ?_
 refine kS h ?_ ?_ <;> intro b5 h
 iterate 3 refine kI hT hC b5 ?_
 refine Za7 hC rfl rfl rfl rfl b5 rfl rfl rfl Zbl rfl rfl ?_
 refine kP hC true b5 ?_
 refine kO hT hC ?_
 refine kS h ?_ ?_ <;> intro b6 h
 iterate 3 refine kI hT hC b6 ?_
 refine kP hC true b6 ?_
 refine kO hT hC ?_
 exact Vc.nil kM
 iterate 3 refine kF hC b6 ?_
 refine kP hC false b6 ?_
 refine kO hT hC ?_
 exact Vc.nil kM
 iterate 4 refine kF hC b5 ?_
 refine kP hC false b5 ?_
 refine kO hT hC ?_
 iterate 3 refine kF hC rfl ?_
 iterate 2 refine kO hT hC ?_
 exact Vc.nil kM
 exact Xah (Xau kR)
 refine kf b3 (Xag (Xaf ?_))
 refine kL [1] [16] [_] [_] ?_
 refine kA h (fun v6 => ([(2, .sv (.bool v6)), (1, .any)], [(16, none)])) (fun v6 h => ?_) fun v6 h => ?_
 refine Xej hm ?_
 iterate 2 refine kO hT hC ?_
 refine kC hC [] Tryz.call66 h (fun _ => Xk2) fun q7 h => ?_
 iterate 2 refine kO hT hC ?_
 refine kS h ?_ ?_ <;> intro b7 h
 iterate 2 refine kI hT hC b7 ?_
 refine kE hC b7 [] Tryz.call67 h (fun _ => Xer) fun q8 h => ?_
 refine kP hC true b7 ?_
 refine kO hT hC ?_
 refine kS h ?_ ?_ <;> intro b8 h
 iterate 5 refine kI hT hC b8 ?_
 refine kJ hT hC b8 h fun h => ?_
 refine kI hT hC b8 ?_
 refine kE hC b8 [] Tryz.call69 h (fun _ => Xai) fun q9 h => ?_
 refine kP hC true b8 ?_
 refine kO hT hC ?_
 exact kD kM
 iterate 8 refine kF hC b8 ?_
 refine kP hC false b8 ?_
 refine kO hT hC ?_
 exact kD kM
 iterate 3 refine kF hC b7 ?_
 refine kP hC false b7 ?_
 refine kO hT hC ?_
 iterate 8 refine kF hC rfl ?_
 iterate 2 refine kO hT hC ?_
 exact kD kM
 exact Xah kR
def Ydp (r : Xe9) : AV := .agg [.sv (.bool r.Key), .sv (.int .i64 r.Qp), .sv (.bool r.Large), .sv (.bool r.Exact)]
def Ydo (r : Xe9) : Xa7 := []
theorem Ygg {p0 p1 r} (h : Xp2 p0 p1 = some r) : AC Tryz.prog 79 [.agg [.sv (.int .i64 p0.Qp), .sv (.bool p0.Large), .sv (.bool p0.Exact), .sv (.bool p0.Confined)], .agg [.sv (.bool p1.Key), .sv (.int .i64 p1.Qp), .sv (.str p1.Row)]] [] (Ydp r) (Ydo r) := by
 refine Xae hT Tryz.func79 rfl fun C hC => ?_
 unfold Xp2 at h
 refine Xac ?_
 iterate 3 refine kO hT hC ?_
 refine kN ?_
 iterate 10 refine kO hT hC ?_
 exact Vc.nil (Xah kR)
def Yg2 (r : Bool) : AV := .sv (.bool r)
def Yg1 (r : Bool) : Xa7 := []
theorem Yj1 {p0 p1 p2 r} (h : Xl6 p0 p1 p2 = some r) : AC Tryz.prog 134 [.agg [.sv (.int .i64 p0.Qp), .sv (.bool p0.Large), .sv (.bool p0.Exact), .sv (.bool p0.Confined)], .agg [.sv (.bool p1.Key), .sv (.int .i64 p1.Qp), .sv (.str p1.Row)], .sv (.int .i64 p2)] [] (Yg2 r) (Yg1 r) := by
 refine Xae hT Tryz.func134 rfl fun C hC => ?_
 unfold Xl6 at h
 refine Xac ?_
 iterate 3 refine kO hT hC ?_
 refine Vc.nil ?_
 refine Xcm hm ?_
 iterate 5 refine kO hT hC ?_
 refine kC hC [] Tryz.call79 h (fun _ => Ygg) fun q1 h => ?_
 refine kC hC [(16, 256)] Tryz.call80 h (fun _ => Yd6) fun q2 h => ?_
 iterate 5 refine kO hT hC ?_
 refine kD ?_
 refine kL [3,6,8] [48] [_,_,_] [_] ?_
 refine kA h (fun v3 => ([(6, .sv (.bool v3)), (3, .any), (8, .any)], [(48, none)])) (fun v3 h => ?_) fun v3 h => ?_
 refine Xad ?_
 iterate 2 refine kO hT hC ?_
 refine kS h ?_ ?_ <;> intro b1 h
 refine kI hT hC b1 ?_
 refine kE hC b1 [] Tryz.call67 h (fun _ => Xer) fun q4 h => ?_
 refine kP hC true b1 ?_
 refine kO hT hC ?_
 exact Vc.nil kM
 iterate 2 refine kF hC b1 ?_
 refine kP hC false b1 ?_
 refine kO hT hC ?_
 exact Vc.nil kM
 exact Xah kR
def Xnh (r : (Int × Seq × Par × Xuq × Yaq)) : AV := .tup [.sv (.int .i64 r.1), .agg [.sv (.int .i64 r.2.1.Level), .sv (.int .i64 r.2.1.Bits), .sv (.ints .i64 r.2.1.Cols), .sv (.ints .i64 r.2.1.Rows)], .agg [.sv (.int .i64 r.2.2.1.Qp), .sv (.bool r.2.2.1.Large), .sv (.bool r.2.2.1.Exact), .sv (.bool r.2.2.1.Confined)], .agg [.sv (.int .i64 r.2.2.2.1.Tile), .sv (.int .i64 r.2.2.2.1.Frame), .sv (.int .i64 r.2.2.2.1.Qp)], .agg [.sv (.bool r.2.2.2.2.Key), .sv (.int .i64 r.2.2.2.2.Qp), .sv (.str r.2.2.2.2.Row)]]
def Xng (r : (Int × Seq × Par × Xuq × Yaq)) : Xa7 := []
theorem Xvd {p0 p1 p2 r} (h : Xb1 p0 p1 p2 = some r) : AC Tryz.prog 73 [.agg [.sv (.bool p0.Has), .sv (.bool p0.Live), .sv (.int .i64 p0.Seq.Level), .sv (.int .i64 p0.Seq.Bits), .sv (.ints .i64 p0.Seq.Cols), .sv (.ints .i64 p0.Seq.Rows), .sv (.int .i64 p0.Par.Qp), .sv (.bool p0.Par.Large), .sv (.bool p0.Par.Exact), .sv (.bool p0.Par.Confined), .sv (.int .i64 p0.Frame), .sv (.int .i64 p0.Count), .sv (.int .i64 p0.Gone)], .sv (Xbr.sv p1), .agg [.sv (.int .i64 p2.Qp), .sv (.bool p2.Large), .sv (.bool p2.Exact), .sv (.bool p2.Confined)]] [] (Xnh r) (Xng r) := by
 refine Xae hT Tryz.func73 rfl fun C hC => ?_
 unfold Xb1 at h
 refine Xac ?_
 iterate 7 refine kO hT hC ?_
 refine kN ?_
 iterate 4 refine kO hT hC ?_
 refine Vc.nil (Xat (Xac ?_))
 iterate 3 refine kO hT hC ?_
 refine Vc.nil ?_
 refine kL [3,5,7,8,9,10,11,12,34,35,36] [48,80,112,128,144,160,512,528] [_,_,_,_,_,_,_,_,_,_,_] [_,_,_,_,_,_,_,_] ?_
 obtain ⟨o11, hl, h⟩ := Xbe h
 refine Xmn (fun v4 => ([(36, .sv (.int .i64 v4.1))], [(512, some (.ints .i64 v4.2.1)), (528, some (.row Xbr v4.2.2))])) (fun v8 => ([(34, .any), (35, .any), (36, .any)], [(512, some (.ints .i64 v8.1)), (528, some (.row Xbr v8.2))])) (fun r => Xws C T Tryz.f73.results.toList (Xnh r) (Xng r)) hl ?_ ?_ ?_ ?_
 try dsimp only
 apply Xe8 hC []
 exact co
 rfl
 decide
 rfl
 intro v4 s hs
 have h := hs
 unfold Xbd at h
 refine Xac ?_
 refine kO hT hC ?_
 refine Vc.nil (Xat ?_)
 refine kS h ?_ ?_ <;> intro b7 h
 refine kt b7 (Xag (Xaf (Xat (Xao (Xac ?_)))))
 refine kQ hT hC h fun h => ?_
 iterate 2 refine kO hT hC ?_
 refine kN ?_
 refine kO hT hC ?_
 refine kC hC [] Tryz.call33 h (fun _ => Yki) fun q9 h => ?_
 iterate 7 refine kO hT hC ?_
 refine Vc.nil (Xat ?_)
 refine kL [3,5,7,8,9,10,11,12,15,16,17,34,35,36] [48,80,112,128,144,160,512,528] [_,_,_,_,_,_,_,_,_,_,_,_,_,_] [_,_,_,_,_,_,_,_] ?_
 refine kA h (fun v10 => ([(52, .sv (.bool v10)), (17, .any)], [])) (fun v10 h => ?_) fun v10 h => ?_
 refine Xad ?_
 iterate 3 refine kO hT hC ?_
 refine kS h ?_ ?_ <;> intro b8 h
 iterate 3 refine kI hT hC (kn b8) ?_
 refine kP hC false (kn b8) ?_
 exact Vc.nil kM
 iterate 3 refine kF hC (kn b8) ?_
 refine kP hC true (kn b8) ?_
 exact Vc.nil kM
 refine kS h ?_ ?_ <;> intro b9 h
 refine kt b9 (Xac ?_)
 iterate 9 refine kO hT hC ?_
 refine Vc.nil (Xah (Xau (Xhb (Xau ?_))))
 obtain rfl := kj h
 refine Xxq (Xxo ?_)
 refine Xcr (τ := ⟨[(6, .sv (.int .i64 2)), (7, .ptr 2000001 0), (8, .ptr 2000002 0), (9, .ptr 2000003 0), (10, .ptr 2000004 0)], [(2000001, some (.box [.sv (.int .i64 0), .sv (.int .i64 0), .sv (.ints .i64 []), .sv (.ints .i64 [])])), (2000002, some (.box [.sv (.int .i64 0), .sv (.bool false), .sv (.bool false), .sv (.bool false)])), (2000003, some (.box [.sv (.int .i64 0), .sv (.int .i64 0), .sv (.int .i64 0)])), (2000004, some (.box [.sv (.bool false), .sv (.int .i64 0), .sv (.str ⟨#[]⟩)]))]⟩) ?_ rfl trivial
 apply Xe8 hC [(2000001, 112), (2000002, 128), (2000003, 144), (2000004, 160)]
 exact co
 rfl
 decide
 rfl
 refine kf b9 (Xag (Xaf (Xac ?_)))
 iterate 3 refine kO hT hC ?_
 refine kT hT hC h fun h => ?_
 refine kO hT hC ?_
 refine Vc.nil (Xad ?_)
 iterate 3 refine kO hT hC ?_
 obtain ⟨hq, h⟩ := Xav h
 refine Yl2 hT hC rfl rfl rfl rfl ⟨fun _ _ => rfl, by rw [Xh7]; exact hq⟩ ?_
 rw [Xh7]
 refine kO hT hC ?_
 refine Vc.nil (Xaq (Xaf (Xad ?_)))
 iterate 2 refine kO hT hC ?_
 refine Vc.nil ?_
 obtain rfl := kj h
 exact Yji (kW hC [(512, 960), (528, 1024)])
 exact kf b7 (Xas (Xa0 kb))
 intro v8 e
 subst e
 refine Xaf ?_
 refine Xcm hm ?_
 iterate 8 refine kO hT hC ?_
 refine kD (Xac ?_)
 iterate 4 refine kO hT hC ?_
 refine Vc.nil ?_
 refine kL [3,5,7,8,9,10,11,12,18,19,20] [48,80,112,128,144,160,288,304,512,528] [_,_,_,_,_,_,_,_,_,_,_] [_,_,_,_,_,_,_,_,_,_] ?_
 refine Yr9 h (fun (v12 : (Int × Int × (List Int) × (List Int) × Int × Bool × Bool × Bool)) => ([(5, .any), (11, .any)], [(288, some (.box [.sv (.int .i64 v12.1), .sv (.int .i64 v12.2.1), .sv (.ints .i64 v12.2.2.1), .sv (.ints .i64 v12.2.2.2.1)])), (304, some (.box [.sv (.int .i64 v12.2.2.2.2.1), .sv (.bool v12.2.2.2.2.2.1), .sv (.bool v12.2.2.2.2.2.2.1), .sv (.bool v12.2.2.2.2.2.2.2)])), (80, none), (512, none)])) (fun v12 h => ?_) (fun h => ?_)
 refine Xac ?_
 iterate 4 refine kO hT hC ?_
 iterate 2 refine kQ hT hC h fun h => ?_
 refine kO hT hC ?_
 refine kN ?_
 iterate 3 refine kO hT hC ?_
 refine kC hC [] Tryz.call113 h (fun _ => Yd1) fun q18 h => ?_
 iterate 8 refine kO hT hC ?_
 refine Vc.nil (Xat (Xao (Xac ?_)))
 iterate 3 refine kO hT hC ?_
 refine Vc.nil ?_
 refine kS h ?_ ?_ <;> intro b26 h
 refine kt b26 (Xac ?_)
 iterate 9 refine kO hT hC ?_
 refine Vc.nil (Xah (Xhb (Xau ?_)))
 obtain rfl := kj h
 exact Xcr (τ := ⟨[(6, .sv (.int .i64 5)), (7, .ptr 2000001 0), (8, .ptr 2000002 0), (9, .ptr 2000003 0), (10, .ptr 2000004 0)], [(2000001, some (.box [.sv (.int .i64 0), .sv (.int .i64 0), .sv (.ints .i64 []), .sv (.ints .i64 [])])), (2000002, some (.box [.sv (.int .i64 0), .sv (.bool false), .sv (.bool false), .sv (.bool false)])), (2000003, some (.box [.sv (.int .i64 0), .sv (.int .i64 0), .sv (.int .i64 0)])), (2000004, some (.box [.sv (.bool false), .sv (.int .i64 0), .sv (.str ⟨#[]⟩)]))]⟩) (kW hC [(2000001, 112), (2000002, 128), (2000003, 144), (2000004, 160)]) rfl trivial
 refine kf b26 ?_
 refine kL [3,7,8,9,10,18,19,20,27,28,29] [48,112,128,144,160,288,304,448] [_,_,_,_,_,_,_,_,_,_,_] [_,_,_,_,_,_,_,_] ?_
 refine kA h (fun v19 => ([(211, .sv (.bool v19))], [])) (fun v19 h => ?_) fun v19 h => ?_
 refine Xad ?_
 iterate 3 refine kO hT hC ?_
 refine kS h ?_ ?_ <;> intro b27 h
 iterate 3 refine kF hC (kn b27) ?_
 refine kP hC false (kn b27) ?_
 refine kO hT hC ?_
 exact Vc.nil kM
 iterate 3 refine kI hT hC (kn b27) ?_
 refine kP hC true (kn b27) ?_
 refine kO hT hC ?_
 exact Vc.nil kM
 refine kS h ?_ ?_ <;> intro b28 h
 refine kt b28 (Xac ?_)
 iterate 9 refine kO hT hC ?_
 refine Vc.nil (Xah (Xhb (Xau ?_)))
 obtain rfl := kj h
 exact Xcr (τ := ⟨[(6, .sv (.int .i64 6)), (7, .ptr 2000001 0), (8, .ptr 2000002 0), (9, .ptr 2000003 0), (10, .ptr 2000004 0)], [(2000001, some (.box [.sv (.int .i64 0), .sv (.int .i64 0), .sv (.ints .i64 []), .sv (.ints .i64 [])])), (2000002, some (.box [.sv (.int .i64 0), .sv (.bool false), .sv (.bool false), .sv (.bool false)])), (2000003, some (.box [.sv (.int .i64 0), .sv (.int .i64 0), .sv (.int .i64 0)])), (2000004, some (.box [.sv (.bool false), .sv (.int .i64 0), .sv (.str ⟨#[]⟩)]))]⟩) (kW hC [(2000001, 112), (2000002, 128), (2000003, 144), (2000004, 160)]) rfl trivial
 refine kf b28 ?_
 refine kL [3,7,8,9,10,18,19,20,27,28,29] [48,112,128,144,160,288,304,448] [_,_,_,_,_,_,_,_,_,_,_] [_,_,_,_,_,_,_,_] ?_
 refine kA h (fun v20 => ([(223, .sv (.bool v20)), (3, .any)], [(48, none)])) (fun v20 h => ?_) fun v20 h => ?_
 refine Xad ?_
 iterate 3 refine kO hT hC ?_
 refine kS h ?_ ?_ <;> intro b29 h
 iterate 5 refine kF hC (kn b29) ?_
 refine kP hC false (kn b29) ?_
 refine kO hT hC ?_
 exact Vc.nil kM
 iterate 5 refine kI hT hC (kn b29) ?_
 refine kP hC true (kn b29) ?_
 refine kO hT hC ?_
 exact Vc.nil kM
 refine kS h ?_ ?_ <;> intro b30 h
 refine kt b30 (Xac ?_)
 iterate 9 refine kO hT hC ?_
 refine Vc.nil (Xah (Xhb (Xau ?_)))
 obtain rfl := kj h
 exact Xcr (τ := ⟨[(6, .sv (.int .i64 7)), (7, .ptr 2000001 0), (8, .ptr 2000002 0), (9, .ptr 2000003 0), (10, .ptr 2000004 0)], [(2000001, some (.box [.sv (.int .i64 0), .sv (.int .i64 0), .sv (.ints .i64 []), .sv (.ints .i64 [])])), (2000002, some (.box [.sv (.int .i64 0), .sv (.bool false), .sv (.bool false), .sv (.bool false)])), (2000003, some (.box [.sv (.int .i64 0), .sv (.int .i64 0), .sv (.int .i64 0)])), (2000004, some (.box [.sv (.bool false), .sv (.int .i64 0), .sv (.str ⟨#[]⟩)]))]⟩) (kW hC [(2000001, 112), (2000002, 128), (2000003, 144), (2000004, 160)]) rfl trivial
 refine kf b30 (Xag (Xaq (Xaf ?_)))
 refine Xcm hm ?_
 iterate 5 refine kO hT hC ?_
 refine kQ hT hC h fun h => ?_
 iterate 3 refine kO hT hC ?_
 refine kD (Xat ?_)
 refine Xcm hm ?_
 iterate 3 refine kO hT hC ?_
 refine kC hC [] Tryz.call132 h (fun _ => Xq5) fun q21 h => ?_
 refine kC hC [] Tryz.call134 h (fun _ => Yj1) fun q22 h => ?_
 refine kO hT hC ?_
 refine kD ?_
 refine kS h ?_ ?_ <;> intro b31 h
 refine kt b31 (Xac ?_)
 iterate 9 refine kO hT hC ?_
 refine Vc.nil (Xah (Xau ?_))
 obtain rfl := kj h
 exact Xcr (τ := ⟨[(6, .sv (.int .i64 8)), (7, .ptr 2000001 0), (8, .ptr 2000002 0), (9, .ptr 2000003 0), (10, .ptr 2000004 0)], [(2000001, some (.box [.sv (.int .i64 0), .sv (.int .i64 0), .sv (.ints .i64 []), .sv (.ints .i64 [])])), (2000002, some (.box [.sv (.int .i64 0), .sv (.bool false), .sv (.bool false), .sv (.bool false)])), (2000003, some (.box [.sv (.int .i64 0), .sv (.int .i64 0), .sv (.int .i64 0)])), (2000004, some (.box [.sv (.bool false), .sv (.int .i64 0), .sv (.str ⟨#[]⟩)]))]⟩) (kW hC [(2000001, 112), (2000002, 128), (2000003, 144), (2000004, 160)]) rfl trivial
 refine kf b31 (Xag (Xaf ?_))
 refine Xcm hm ?_
 iterate 9 refine kO hT hC ?_
 exact kD (Xah kR)
 refine Xao ?_
 refine kL [3,5,7,8,9,10,11,12,18,19,20] [48,80,112,128,144,160,288,304,512,528] [_,_,_,_,_,_,_,_,_,_,_] [_,_,_,_,_,_,_,_,_,_] ?_
 refine kA h (fun v13 => ([(73, .sv (.bool v13)), (11, .any)], [(512, none)])) (fun v13 h => ?_) fun v13 h => ?_
 refine Xad ?_
 iterate 2 refine kO hT hC ?_
 refine kS h ?_ ?_ <;> intro b10 h
 refine kI hT hC b10 ?_
 iterate 2 refine kJ hT hC b10 h fun h => ?_
 iterate 2 refine kI hT hC b10 ?_
 refine kS h ?_ ?_ <;> intro b11 h
 iterate 4 refine kF hC b11 ?_
 refine Xa3 hC rfl rfl rfl rfl b10 rfl rfl (b := true) b11 rfl rfl rfl trivial ?_
 refine kI hT hC b10 ?_
 iterate 4 refine kF hC rfl ?_
 refine Xa3 hC rfl rfl rfl rfl b10 rfl rfl (b := true) rfl rfl rfl rfl trivial ?_
 refine kP hC true b10 ?_
 refine kO hT hC ?_
 iterate 3 refine kF hC rfl ?_
 iterate 9 refine Xf1 hC rfl rfl rfl rfl rfl rfl ?_
 refine kF hC rfl ?_
 iterate 2 refine kO hT hC ?_
 exact Vc.nil kM
 refine kI hT hC b11 ?_
 iterate 2 refine kJ hT hC b11 h fun h => ?_
 refine kI hT hC b11 ?_
 refine Xa3 hC rfl rfl rfl rfl b10 rfl rfl (b := false) b11 rfl rfl rfl trivial ?_
 refine kI hT hC b10 ?_
 refine kS h ?_ ?_ <;> intro b12 h
 iterate 4 refine kF hC b12 ?_
 refine Xa3 hC rfl rfl rfl rfl b10 rfl rfl (b := true) b12 rfl rfl rfl trivial ?_
 refine kP hC true b10 ?_
 refine kO hT hC ?_
 iterate 3 refine kF hC rfl ?_
 iterate 9 refine Xf1 hC rfl rfl rfl rfl rfl rfl ?_
 refine kF hC rfl ?_
 iterate 2 refine kO hT hC ?_
 exact Vc.nil kM
 refine kI hT hC b12 ?_
 iterate 2 refine kJ hT hC b12 h fun h => ?_
 refine kI hT hC b12 ?_
 refine Xa3 hC rfl rfl rfl rfl b10 rfl rfl (b := false) b12 rfl rfl rfl trivial ?_
 refine kP hC true b10 ?_
 refine kO hT hC ?_
 refine kS h ?_ ?_ <;> intro b13 h
 iterate 3 refine kF hC b13 ?_
 iterate 9 refine Xf1 hC rfl rfl rfl rfl rfl rfl ?_
 refine kF hC b13 ?_
 refine kP hC true b13 ?_
 refine kO hT hC ?_
 exact Vc.nil kM
 iterate 3 refine kI hT hC b13 ?_
 iterate 4 refine kF hC (kn b10) ?_
 iterate 4 refine Xf1 hC rfl rfl rfl rfl rfl rfl ?_
 refine kF hC (kn b10) ?_
 refine Xa3 hC rfl rfl rfl rfl b13 rfl rfl (b := false) (kn b10) rfl rfl rfl trivial ?_
 refine kP hC false b13 ?_
 refine kO hT hC ?_
 exact Vc.nil kM
 iterate 5 refine kF hC b10 ?_
 iterate 4 refine Xf1 hC rfl rfl rfl rfl rfl rfl ?_
 iterate 2 refine kF hC b10 ?_
 iterate 4 refine Xf1 hC rfl rfl rfl rfl rfl rfl ?_
 refine kF hC b10 ?_
 refine kP hC false b10 ?_
 refine kO hT hC ?_
 iterate 3 refine kI hT hC rfl ?_
 iterate 4 refine kI hT hC (kn b10) ?_
 refine kS h ?_ ?_ <;> intro b14 h
 iterate 4 refine kF hC b14 ?_
 refine Xa3 hC rfl rfl rfl rfl (kn b10) rfl rfl (b := true) b14 rfl rfl rfl trivial ?_
 refine Xa3 hC rfl rfl rfl rfl rfl rfl rfl (b := true) (kn b10) rfl rfl rfl trivial ?_
 iterate 2 refine kO hT hC ?_
 exact Vc.nil kM
 refine kI hT hC b14 ?_
 iterate 2 refine kJ hT hC b14 h fun h => ?_
 refine kI hT hC b14 ?_
 refine Xa3 hC rfl rfl rfl rfl (kn b10) rfl rfl (b := false) b14 rfl rfl rfl trivial ?_
 refine Xa3 hC rfl rfl rfl rfl rfl rfl rfl (b := true) (kn b10) rfl rfl rfl trivial ?_
 iterate 2 refine kO hT hC ?_
 exact Vc.nil kM
 refine kS h ?_ ?_ <;> intro b15 h
 refine kt b15 (Xac ?_)
 iterate 9 refine kO hT hC ?_
 refine Vc.nil (Xah (Xhb (Yvz ?_)))
 obtain rfl := kj h
 exact Xcr (τ := ⟨[(6, .sv (.int .i64 2)), (7, .ptr 2000001 0), (8, .ptr 2000002 0), (9, .ptr 2000003 0), (10, .ptr 2000004 0)], [(2000001, some (.box [.sv (.int .i64 0), .sv (.int .i64 0), .sv (.ints .i64 []), .sv (.ints .i64 [])])), (2000002, some (.box [.sv (.int .i64 0), .sv (.bool false), .sv (.bool false), .sv (.bool false)])), (2000003, some (.box [.sv (.int .i64 0), .sv (.int .i64 0), .sv (.int .i64 0)])), (2000004, some (.box [.sv (.bool false), .sv (.int .i64 0), .sv (.str ⟨#[]⟩)]))]⟩) (kW hC [(2000001, 112), (2000002, 128), (2000003, 144), (2000004, 160)]) rfl trivial
 refine kf b15 (Xac ?_)
 iterate 2 refine kO hT hC ?_
 refine Vc.nil ?_
 refine kS h ?_ ?_ <;> intro b16 h
 refine kt b16 (Xac ?_)
 refine kO hT hC ?_
 iterate 2 refine kQ hT hC h fun h => ?_
 refine kC hC [(16, 1888), (17, 1889)] Tryz.call34 h (fun _ => Yg6) fun q14 h => ?_
 iterate 8 refine kO hT hC ?_
 refine kN ?_
 refine kO hT hC ?_
 iterate 2 refine kQ hT hC h fun h => ?_
 refine kC hC [] Tryz.call35 h (fun _ => Yg5) fun q15 h => ?_
 iterate 8 refine kO hT hC ?_
 refine Vc.nil (Xat ?_)
 refine kL [3,5,7,8,9,10,12,18,19,20,21,22,23,24,25,26] [48,80,112,128,144,160,288,304,336,384,528,1888,1889] [_,_,_,_,_,_,_,_,_,_,_,_,_,_,_,_] [_,_,_,_,_,_,_,_,_,_,_,_,_] ?_
 refine kA h (fun v16 => ([(175, .sv (.bool v16)), (5, .any), (22, .any), (23, .any), (25, .any), (26, .any)], [(80, none)])) (fun v16 h => ?_) fun v16 h => ?_
 refine Xad ?_
 iterate 3 refine kO hT hC ?_
 refine kS h ?_ ?_ <;> intro b17 h
 iterate 2 refine kI hT hC (kn b17) ?_
 iterate 2 refine kJ hT hC (kn b17) h fun h => ?_
 iterate 2 refine kI hT hC (kn b17) ?_
 refine kP hC false (kn b17) ?_
 refine kO hT hC ?_
 refine kS h ?_ ?_ <;> intro b18 h
 iterate 2 refine kF hC b18 ?_
 refine kP hC true b18 ?_
 refine kO hT hC ?_
 iterate 6 refine kF hC rfl ?_
 iterate 2 refine kO hT hC ?_
 iterate 3 refine kF hC rfl ?_
 iterate 2 refine kO hT hC ?_
 iterate 3 refine kF hC rfl ?_
 iterate 2 refine kO hT hC ?_
 iterate 5 refine kF hC rfl ?_
 iterate 2 refine kO hT hC ?_
 iterate 5 refine kF hC rfl ?_
 refine kO hT hC ?_
 exact Vc.nil kM
 iterate 2 refine kI hT hC b18 ?_
 refine kP hC false b18 ?_
 refine kO hT hC ?_
 refine kS h ?_ ?_ <;> intro b19 h
 iterate 2 refine kI hT hC (kn b19) ?_
 iterate 2 refine kJ hT hC (kn b19) h fun h => ?_
 iterate 2 refine kI hT hC (kn b19) ?_
 refine kP hC false (kn b19) ?_
 refine kO hT hC ?_
 refine kS h ?_ ?_ <;> intro b20 h
 iterate 3 refine kF hC b20 ?_
 refine kP hC true b20 ?_
 refine kO hT hC ?_
 iterate 3 refine kF hC rfl ?_
 iterate 2 refine kO hT hC ?_
 iterate 5 refine kF hC rfl ?_
 iterate 2 refine kO hT hC ?_
 iterate 5 refine kF hC rfl ?_
 refine kO hT hC ?_
 exact Vc.nil kM
 refine kI hT hC b20 ?_
 refine kE hC b20 [] Tryz.call66 h (fun _ => Xk2) fun q17 h => ?_
 refine kI hT hC b20 ?_
 refine kP hC false b20 ?_
 refine kO hT hC ?_
 refine kS h ?_ ?_ <;> intro b21 h
 iterate 3 refine kF hC b21 ?_
 refine kP hC true b21 ?_
 refine kO hT hC ?_
 iterate 5 refine kF hC rfl ?_
 iterate 2 refine kO hT hC ?_
 iterate 5 refine kF hC rfl ?_
 refine kO hT hC ?_
 exact Vc.nil kM
 iterate 3 refine kI hT hC b21 ?_
 refine kP hC false b21 ?_
 refine kO hT hC ?_
 refine kS h ?_ ?_ <;> intro b22 h
 iterate 5 refine kI hT hC (kn b22) ?_
 refine kP hC false (kn b22) ?_
 refine kO hT hC ?_
 refine kS h ?_ ?_ <;> intro b23 h
 iterate 5 refine kI hT hC (kn b23) ?_
 refine kP hC false (kn b23) ?_
 exact Vc.nil kM
 iterate 5 refine kF hC (kn b23) ?_
 refine kP hC true (kn b23) ?_
 exact Vc.nil kM
 iterate 5 refine kF hC (kn b22) ?_
 refine kP hC true (kn b22) ?_
 refine kO hT hC ?_
 iterate 5 refine kF hC rfl ?_
 refine kO hT hC ?_
 exact Vc.nil kM
 iterate 6 refine kF hC (kn b19) ?_
 refine kP hC true (kn b19) ?_
 refine kO hT hC ?_
 iterate 3 refine kF hC rfl ?_
 iterate 2 refine kO hT hC ?_
 iterate 3 refine kF hC rfl ?_
 iterate 2 refine kO hT hC ?_
 iterate 5 refine kF hC rfl ?_
 iterate 2 refine kO hT hC ?_
 iterate 5 refine kF hC rfl ?_
 refine kO hT hC ?_
 exact Vc.nil kM
 iterate 6 refine kF hC (kn b17) ?_
 refine kP hC true (kn b17) ?_
 refine kO hT hC ?_
 iterate 2 refine kF hC rfl ?_
 iterate 2 refine kO hT hC ?_
 iterate 6 refine kF hC rfl ?_
 iterate 2 refine kO hT hC ?_
 iterate 3 refine kF hC rfl ?_
 iterate 2 refine kO hT hC ?_
 iterate 3 refine kF hC rfl ?_
 iterate 2 refine kO hT hC ?_
 iterate 5 refine kF hC rfl ?_
 iterate 2 refine kO hT hC ?_
 iterate 5 refine kF hC rfl ?_
 refine kO hT hC ?_
 exact Vc.nil kM
 refine kS h ?_ ?_ <;> intro b24 h
 refine kt b24 (Xac ?_)
 iterate 9 refine kO hT hC ?_
 refine Vc.nil (Xah (Xau (Xhb (Yvz ?_))))
 obtain rfl := kj h
 exact Xcr (τ := ⟨[(6, .sv (.int .i64 3)), (7, .ptr 2000001 0), (8, .ptr 2000002 0), (9, .ptr 2000003 0), (10, .ptr 2000004 0)], [(2000001, some (.box [.sv (.int .i64 0), .sv (.int .i64 0), .sv (.ints .i64 []), .sv (.ints .i64 [])])), (2000002, some (.box [.sv (.int .i64 0), .sv (.bool false), .sv (.bool false), .sv (.bool false)])), (2000003, some (.box [.sv (.int .i64 0), .sv (.int .i64 0), .sv (.int .i64 0)])), (2000004, some (.box [.sv (.bool false), .sv (.int .i64 0), .sv (.str ⟨#[]⟩)]))]⟩) (kW hC [(2000001, 112), (2000002, 128), (2000003, 144), (2000004, 160)]) rfl trivial
 refine kf b24 (Xag (Xaf ?_))
 refine Xej hm ?_
 iterate 4 refine kO hT hC ?_
 refine kD (Xaq ?_)
 exact Yso (q14.1.Level, q14.1.Bits, q14.1.Cols, q14.1.Rows, q15.1.Qp, q15.1.Large, q15.1.Exact, q15.1.Confined) h (kW hC [])
 refine kf b16 (Xac ?_)
 iterate 4 refine kO hT hC ?_
 refine Vc.nil ?_
 refine kS h ?_ ?_ <;> intro b25 h
 refine kt b25 (Xac ?_)
 iterate 9 refine kO hT hC ?_
 refine Vc.nil (Xah (Xhb (Yvz ?_)))
 obtain rfl := kj h
 exact Xcr (τ := ⟨[(6, .sv (.int .i64 4)), (7, .ptr 2000001 0), (8, .ptr 2000002 0), (9, .ptr 2000003 0), (10, .ptr 2000004 0)], [(2000001, some (.box [.sv (.int .i64 0), .sv (.int .i64 0), .sv (.ints .i64 []), .sv (.ints .i64 [])])), (2000002, some (.box [.sv (.int .i64 0), .sv (.bool false), .sv (.bool false), .sv (.bool false)])), (2000003, some (.box [.sv (.int .i64 0), .sv (.int .i64 0), .sv (.int .i64 0)])), (2000004, some (.box [.sv (.bool false), .sv (.int .i64 0), .sv (.str ⟨#[]⟩)]))]⟩) (kW hC [(2000001, 112), (2000002, 128), (2000003, 144), (2000004, 160)]) rfl trivial
 refine kf b25 (Xag (Xaq ?_))
 exact Yso (p0.Seq.Level, p0.Seq.Bits, p0.Seq.Cols, p0.Seq.Rows, p0.Par.Qp, p0.Par.Large, p0.Par.Exact, p0.Par.Confined) h (kW hC [])
 intro r' σ' e hE
 subst e
 obtain rfl := kj h
 refine Xau ?_
 exact hE
def Yel (r : Int) : AV := .sv (.int .i64 r)
def Yek (r : Int) : Xa7 := []
theorem Xty {p0 r} (h : Xj9 p0 = some r) : AC Tryz.prog 77 [.sv (.int .i64 p0)] [] (Yel r) (Yek r) := by
 refine Xae hT Tryz.func77 rfl fun C hC => ?_
 unfold Xj9 at h
 refine Xac ?_
 refine kO hT hC ?_
 refine kN ?_
 iterate 4 refine kO hT hC ?_
 exact Vc.nil (Xah kR)
def Xyh (r : Xdk) : AV := .agg [.sv (.bool r.Has), .sv (.bool r.Live), .sv (.int .i64 r.Seq.Level), .sv (.int .i64 r.Seq.Bits), .own 16, .own 17, .sv (.int .i64 r.Par.Qp), .sv (.bool r.Par.Large), .sv (.bool r.Par.Exact), .sv (.bool r.Par.Confined), .sv (.int .i64 r.Frame), .sv (.int .i64 r.Count), .sv (.int .i64 r.Gone)]
def Xyg (r : Xdk) : Xa7 := [(16, .ints .i64 r.Seq.Cols), (17, .ints .i64 r.Seq.Rows)]
theorem Yaz {p0 r} (h : Xiy p0 = some r) : AC Tryz.prog 74 [.agg [.sv (.bool p0.Has), .sv (.bool p0.Live), .sv (.int .i64 p0.Seq.Level), .sv (.int .i64 p0.Seq.Bits), .sv (.ints .i64 p0.Seq.Cols), .sv (.ints .i64 p0.Seq.Rows), .sv (.int .i64 p0.Par.Qp), .sv (.bool p0.Par.Large), .sv (.bool p0.Par.Exact), .sv (.bool p0.Par.Confined), .sv (.int .i64 p0.Frame), .sv (.int .i64 p0.Count), .sv (.int .i64 p0.Gone)]] [] (Xyh r) (Xyg r) := by
 refine Xae hT Tryz.func74 rfl fun C hC => ?_
 unfold Xiy at h
 refine Xac ?_
 iterate 2 refine kO hT hC ?_
 refine kN ?_
 refine kO hT hC ?_
 refine kC hC [(16, 80), (17, 81)] Tryz.call72 h (fun _ => Xq8) fun q1 h => ?_
 iterate 2 refine kO hT hC ?_
 refine Vc.nil ?_
 refine kL [1,2,3] [16,32,48,80,81] [_,_,_] [_,_,_,_,_] ?_
 refine kA h (fun v2 => ([(1, .any)], [(48, some (.box [.sv (.bool q1.Has), .sv (.bool v2.1), .sv (.int .i64 q1.Seq.Level), .sv (.int .i64 q1.Seq.Bits), .own 80, .own 81, .sv (.int .i64 q1.Par.Qp), .sv (.bool q1.Par.Large), .sv (.bool q1.Par.Exact), .sv (.bool q1.Par.Confined), .sv (.int .i64 q1.Frame), .sv (.int .i64 q1.Count), .sv (.int .i64 v2.2)])), (16, none)])) (fun v2 h => ?_) fun v2 h => ?_
 refine Xac ?_
 refine kO hT hC ?_
 refine kC hC [] Tryz.call28 h (fun _ => Xo4) fun q3 h => ?_
 refine Vc.nil ?_
 refine kS h ?_ ?_ <;> intro b1 h
 refine kt b1 (Xac ?_)
 iterate 2 refine kO hT hC ?_
 refine Vc.nil (Xad ?_)
 iterate 2 refine kO hT hC ?_
 refine kC hC [] Tryz.call77 h (fun _ => Xty) fun q4 h => ?_
 iterate 2 refine kO hT hC ?_
 exact Vc.nil kM
 exact kf b1 (Xag kM)
 refine Xac ?_
 iterate 2 refine kO hT hC ?_
 refine Vc.nil (Xah ?_)
 obtain rfl := kj h
 exact Xcr (τ := ⟨[(2, .ptr 2000000 0)], [(16, some (.ints .i64 q1.Seq.Cols)), (17, some (.ints .i64 q1.Seq.Rows)), (2000000, some (.box [.sv (.bool q1.Has), .sv (.bool v2.1), .sv (.int .i64 q1.Seq.Level), .sv (.int .i64 q1.Seq.Bits), .own 16, .own 17, .sv (.int .i64 q1.Par.Qp), .sv (.bool q1.Par.Large), .sv (.bool q1.Par.Exact), .sv (.bool q1.Par.Confined), .sv (.int .i64 q1.Frame), .sv (.int .i64 q1.Count), .sv (.int .i64 v2.2)]))]⟩) (kW hC [(16, 80), (17, 81), (2000000, 32)]) rfl ⟨rfl, rfl, trivial⟩
def Xyj (r : (Xdk × Int × Yaq)) : AV := .tup [.agg [.sv (.bool r.1.Has), .sv (.bool r.1.Live), .sv (.int .i64 r.1.Seq.Level), .sv (.int .i64 r.1.Seq.Bits), .own 16, .own 17, .sv (.int .i64 r.1.Par.Qp), .sv (.bool r.1.Par.Large), .sv (.bool r.1.Par.Exact), .sv (.bool r.1.Par.Confined), .sv (.int .i64 r.1.Frame), .sv (.int .i64 r.1.Count), .sv (.int .i64 r.1.Gone)], .sv (.int .i64 r.2.1), .agg [.sv (.bool r.2.2.Key), .sv (.int .i64 r.2.2.Qp), .sv (.str r.2.2.Row)]]
def Xyi (r : (Xdk × Int × Yaq)) : Xa7 := [(16, .ints .i64 r.1.Seq.Cols), (17, .ints .i64 r.1.Seq.Rows)]
theorem Ya1 {p0 p1 p2 r} (h : Xby p0 p1 p2 = some r) : AC Tryz.prog 25 [.agg [.sv (.bool p0.Has), .sv (.bool p0.Live), .sv (.int .i64 p0.Seq.Level), .sv (.int .i64 p0.Seq.Bits), .sv (.ints .i64 p0.Seq.Cols), .sv (.ints .i64 p0.Seq.Rows), .sv (.int .i64 p0.Par.Qp), .sv (.bool p0.Par.Large), .sv (.bool p0.Par.Exact), .sv (.bool p0.Par.Confined), .sv (.int .i64 p0.Frame), .sv (.int .i64 p0.Count), .sv (.int .i64 p0.Gone)], .sv (Xbr.sv p1), .agg [.sv (.int .i64 p2.Qp), .sv (.bool p2.Large), .sv (.bool p2.Exact), .sv (.bool p2.Confined)]] [] (Xyj r) (Xyi r) := by
 refine Xae hT Tryz.func25 rfl fun C hC => ?_
 unfold Xby at h
 refine Xac ?_
 iterate 5 refine kO hT hC ?_
 refine kN ?_
 refine kO hT hC ?_
 refine kC hC [(16, 256), (17, 257)] Tryz.call72 h (fun _ => Xq8) fun q1 h => ?_
 iterate 2 refine kO hT hC ?_
 refine Vc.nil (Xat ?_)
 refine kL [1,3,5,6,8,9] [48,80,96,128,144,256,257] [_,_,_,_,_,_] [_,_,_,_,_,_,_] ?_
 refine kA h (fun v2 => ([(24, .sv (.bool v2))], [])) (fun v2 h => ?_) fun v2 h => ?_
 refine Xad ?_
 refine kO hT hC ?_
 refine kC hC [] Tryz.call28 h (fun _ => Xo4) fun q3 h => ?_
 iterate 2 refine kO hT hC ?_
 refine kS h ?_ ?_ <;> intro b1 h
 refine kI hT hC (kn b1) ?_
 refine kE hC (kn b1) [] Tryz.call67 h (fun _ => Xer) fun q4 h => ?_
 refine kI hT hC (kn b1) ?_
 refine kP hC false (kn b1) ?_
 exact Vc.nil kM
 iterate 3 refine kF hC (kn b1) ?_
 refine kP hC true (kn b1) ?_
 exact Vc.nil kM
 refine kS h ?_ ?_ <;> intro b2 h
 refine kt b2 (Xac ?_)
 iterate 5 refine kO hT hC ?_
 refine Vc.nil (Xah (Xau ?_))
 obtain rfl := kj h
 exact Xcr (τ := ⟨[(6, .ptr 2000000 0), (7, .sv (.int .i64 1)), (8, .ptr 2000002 0)], [(16, some (.ints .i64 q1.Seq.Cols)), (17, some (.ints .i64 q1.Seq.Rows)), (2000000, some (.box [.sv (.bool q1.Has), .sv (.bool q1.Live), .sv (.int .i64 q1.Seq.Level), .sv (.int .i64 q1.Seq.Bits), .own 16, .own 17, .sv (.int .i64 q1.Par.Qp), .sv (.bool q1.Par.Large), .sv (.bool q1.Par.Exact), .sv (.bool q1.Par.Confined), .sv (.int .i64 q1.Frame), .sv (.int .i64 q1.Count), .sv (.int .i64 q1.Gone)])), (2000002, some (.box [.sv (.bool false), .sv (.int .i64 0), .sv (.str ⟨#[]⟩)]))]⟩) (kW hC [(16, 256), (17, 257), (2000000, 96), (2000002, 128)]) rfl ⟨rfl, rfl, trivial⟩
 refine kf b2 (Xag (Xaf (Xac ?_)))
 iterate 3 refine kO hT hC ?_
 refine kC hC [] Tryz.call73 h (fun _ => Xvd) fun q5 h => ?_
 iterate 15 refine kO hT hC ?_
 refine Vc.nil (Xat (Xac ?_))
 iterate 2 refine kO hT hC ?_
 refine Vc.nil ?_
 refine kS h ?_ ?_ <;> intro b3 h
 refine kt b3 (Xac ?_)
 refine kO hT hC ?_
 refine kC hC [(16, 640), (17, 641)] Tryz.call74 h (fun _ => Yaz) fun q6 h => ?_
 iterate 5 refine kO hT hC ?_
 refine Vc.nil (Xah (Xau ?_))
 obtain rfl := kj h
 exact Xcr (τ := ⟨[(6, .ptr 2000000 0), (7, .sv (.int .i64 q5.1)), (8, .ptr 2000002 0)], [(16, some (.ints .i64 q6.Seq.Cols)), (17, some (.ints .i64 q6.Seq.Rows)), (2000000, some (.box [.sv (.bool q6.Has), .sv (.bool q6.Live), .sv (.int .i64 q6.Seq.Level), .sv (.int .i64 q6.Seq.Bits), .own 16, .own 17, .sv (.int .i64 q6.Par.Qp), .sv (.bool q6.Par.Large), .sv (.bool q6.Par.Exact), .sv (.bool q6.Par.Confined), .sv (.int .i64 q6.Frame), .sv (.int .i64 q6.Count), .sv (.int .i64 q6.Gone)])), (2000002, some (.box [.sv (.bool false), .sv (.int .i64 0), .sv (.str ⟨#[]⟩)]))]⟩) (kW hC [(16, 640), (17, 641), (2000000, 96), (2000002, 128)]) rfl ⟨rfl, rfl, trivial⟩
 refine kf b3 (Xag (Xaf (Xac ?_)))
 iterate 2 refine kO hT hC ?_
 refine kN ?_
 iterate 2 refine kO hT hC ?_
 refine kN ?_
 refine kO hT hC ?_
 refine kC hC [(16, 736), (17, 737)] Tryz.call75 h (fun _ => Xpc) fun q7 h => ?_
 iterate 2 refine kO hT hC ?_
 refine kN ?_
 iterate 3 refine kO hT hC ?_
 refine kN ?_
 iterate 4 refine kO hT hC ?_
 refine kC hC [] Tryz.call76 h (fun _ => Ymu) fun q8 h => ?_
 iterate 2 refine kO hT hC ?_
 refine kN ?_
 iterate 2 refine kO hT hC ?_
 refine kC hC [] Tryz.call77 h (fun _ => Xty) fun q9 h => ?_
 iterate 2 refine kO hT hC ?_
 refine Vc.nil ?_
 refine Xcm hm ?_
 iterate 5 refine kO hT hC ?_
 refine kD (Xah ?_)
 obtain rfl := kj h
 exact Xcr (τ := ⟨[(6, .ptr 2000000 0), (7, .sv (.int .i64 0)), (8, .ptr 2000002 0)], [(16, some (.ints .i64 q7.Cols)), (17, some (.ints .i64 q7.Rows)), (2000000, some (.box [.sv (.bool true), .sv (.bool true), .sv (.int .i64 q7.Level), .sv (.int .i64 q7.Bits), .own 16, .own 17, .sv (.int .i64 q5.2.2.1.Qp), .sv (.bool q5.2.2.1.Large), .sv (.bool q5.2.2.1.Exact), .sv (.bool q5.2.2.1.Confined), .sv (.int .i64 q8), .sv (.int .i64 q9), .sv (.int .i64 q1.Gone)])), (2000002, some (.box [.sv (.bool q5.2.2.2.2.Key), .sv (.int .i64 q5.2.2.2.2.Qp), .sv (.str q5.2.2.2.2.Row)]))]⟩) (kW hC [(16, 736), (17, 737), (2000000, 96), (2000002, 128)]) rfl ⟨rfl, rfl, trivial⟩
def Xpl (r : Bool) : AV := .sv (.bool r)
def Xpk (r : Bool) : Xa7 := []
theorem Xzw {p0 r} (h : Xlb p0 = some r) : AC Tryz.prog 6 [.sv (.ints .u8 p0)] [] (Xpl r) (Xpk r) := by
 refine Xae hT Tryz.func6 rfl fun C hC => ?_
 unfold Xlb at h
 refine Xac ?_
 refine kO hT hC ?_
 refine Vc.nil (Xat (Xac ?_))
 refine kO hT hC ?_
 refine kC hC [] Tryz.call8 h (fun _ => Yri) fun q1 h => ?_
 refine Vc.nil ?_
 refine kS h ?_ ?_ <;> intro b1 h
 refine kt b1 (Xac ?_)
 refine kO hT hC ?_
 exact Vc.nil (Xah (Xau kR))
 refine kf b1 (Xag (Xaf (Xac ?_)))
 refine kO hT hC ?_
 refine kC hC [(16, 352), (17, 353), (18, 354), (19, 355)] Tryz.call20 h (fun _ => Yb5) fun q2 h => ?_
 iterate 8 refine kO hT hC ?_
 refine kN ?_
 iterate 3 refine kO hT hC ?_
 refine kN ?_
 refine kO hT hC ?_
 refine kC hC [(16, 464)] Tryz.call10 h (fun _ => Yae) fun q3 h => ?_
 refine kO hT hC ?_
 refine kN ?_
 refine kO hT hC ?_
 iterate 2 refine kQ hT hC h fun h => ?_
 iterate 3 refine kO hT hC ?_
 refine kQ hT hC h fun h => ?_
 iterate 2 refine kO hT hC ?_
 refine kN ?_
 iterate 3 refine kO hT hC ?_
 refine kN ?_
 refine kO hT hC ?_
 refine Vc.nil (Xat (Xac ?_))
 refine kO hT hC ?_
 refine Vc.nil ?_
 refine kL [3,4,5,7,8,9,10] [48,128,352,353,354,355] [_,_,_,_,_,_,_] [_,_,_,_,_,_] ?_
 obtain ⟨o23, hl, h⟩ := Xbe h
 refine Xmn (fun v10 => ([(9, .sv (.bool v10.1)), (10, .sv (.int .i64 v10.2.1))], [(48, some (.box [.sv (.int .i64 v10.2.2.1), .sv (.int .i64 v10.2.2.2.1), .own 352, .own 353, .sv (.int .i64 v10.2.2.2.2.1), .sv (.bool v10.2.2.2.2.2.1), .sv (.bool v10.2.2.2.2.2.2.1), .sv (.bool v10.2.2.2.2.2.2.2.1), .sv (.int .i64 v10.2.2.2.2.2.2.2.2.1), .sv (.int .i64 v10.2.2.2.2.2.2.2.2.2.1), .sv (.int .i64 v10.2.2.2.2.2.2.2.2.2.2.1), .sv (.int .i64 v10.2.2.2.2.2.2.2.2.2.2.2.1), .sv (.int .i64 v10.2.2.2.2.2.2.2.2.2.2.2.2.1), .sv (.int .i64 v10.2.2.2.2.2.2.2.2.2.2.2.2.2.1), .sv (.int .i64 v10.2.2.2.2.2.2.2.2.2.2.2.2.2.2.1), .sv (.bool v10.2.2.2.2.2.2.2.2.2.2.2.2.2.2.2.1), .sv (.int .i64 v10.2.2.2.2.2.2.2.2.2.2.2.2.2.2.2.2.1), .sv (.int .i64 v10.2.2.2.2.2.2.2.2.2.2.2.2.2.2.2.2.2.1), .sv (.str v10.2.2.2.2.2.2.2.2.2.2.2.2.2.2.2.2.2.2.1)])), (128, some (.box [.sv (.bool v10.2.2.2.2.2.2.2.2.2.2.2.2.2.2.2.2.2.2.2.1), .sv (.bool v10.2.2.2.2.2.2.2.2.2.2.2.2.2.2.2.2.2.2.2.2.1), .sv (.int .i64 v10.2.2.2.2.2.2.2.2.2.2.2.2.2.2.2.2.2.2.2.2.2.1), .sv (.int .i64 v10.2.2.2.2.2.2.2.2.2.2.2.2.2.2.2.2.2.2.2.2.2.2.1), .own 1785, .own 1786, .sv (.int .i64 v10.2.2.2.2.2.2.2.2.2.2.2.2.2.2.2.2.2.2.2.2.2.2.2.1), .sv (.bool v10.2.2.2.2.2.2.2.2.2.2.2.2.2.2.2.2.2.2.2.2.2.2.2.2.1), .sv (.bool v10.2.2.2.2.2.2.2.2.2.2.2.2.2.2.2.2.2.2.2.2.2.2.2.2.2.1), .sv (.bool v10.2.2.2.2.2.2.2.2.2.2.2.2.2.2.2.2.2.2.2.2.2.2.2.2.2.2.1), .sv (.int .i64 v10.2.2.2.2.2.2.2.2.2.2.2.2.2.2.2.2.2.2.2.2.2.2.2.2.2.2.2.1), .sv (.int .i64 v10.2.2.2.2.2.2.2.2.2.2.2.2.2.2.2.2.2.2.2.2.2.2.2.2.2.2.2.2.1), .sv (.int .i64 v10.2.2.2.2.2.2.2.2.2.2.2.2.2.2.2.2.2.2.2.2.2.2.2.2.2.2.2.2.2.1)])), (352, some (.ints .i64 v10.2.2.2.2.2.2.2.2.2.2.2.2.2.2.2.2.2.2.2.2.2.2.2.2.2.2.2.2.2.2.1)), (353, some (.ints .i64 v10.2.2.2.2.2.2.2.2.2.2.2.2.2.2.2.2.2.2.2.2.2.2.2.2.2.2.2.2.2.2.2.1)), (1785, some (.ints .i64 v10.2.2.2.2.2.2.2.2.2.2.2.2.2.2.2.2.2.2.2.2.2.2.2.2.2.2.2.2.2.2.2.2.1)), (1786, some (.ints .i64 v10.2.2.2.2.2.2.2.2.2.2.2.2.2.2.2.2.2.2.2.2.2.2.2.2.2.2.2.2.2.2.2.2.2))])) (fun v17 => ([(3, .any), (4, .any), (5, .any), (7, .any), (9, .any), (10, .any)], [(128, some (.box [.sv (.bool v17.1), .sv (.bool v17.2.1), .sv (.int .i64 v17.2.2.1), .sv (.int .i64 v17.2.2.2.1), .own 1791, .own 1792, .sv (.int .i64 v17.2.2.2.2.1), .sv (.bool v17.2.2.2.2.2.1), .sv (.bool v17.2.2.2.2.2.2.1), .sv (.bool v17.2.2.2.2.2.2.2.1), .sv (.int .i64 v17.2.2.2.2.2.2.2.2.1), .sv (.int .i64 v17.2.2.2.2.2.2.2.2.2.1), .sv (.int .i64 v17.2.2.2.2.2.2.2.2.2.2.1)])), (1791, some (.ints .i64 v17.2.2.2.2.2.2.2.2.2.2.2.1)), (1792, some (.ints .i64 v17.2.2.2.2.2.2.2.2.2.2.2.2)), (48, none), (352, none), (353, none), (354, none), (355, none)])) (fun r => Xws C T Tryz.f6.results.toList (Xpl r) (Xpk r)) hl ?_ ?_ ?_ ?_
 refine Xny hC 128 4 1795 (.ints .i64 []) rfl rfl rfl rfl rfl trivial ?_
 refine Xny hC 128 5 1796 (.ints .i64 []) rfl rfl rfl rfl rfl trivial ?_
 try dsimp only
 apply Xe8 hC [(1785, 1795), (1786, 1796)]
 exact co
 rfl
 decide
 rfl
 intro v10 s hs
 have h := hs
 unfold Xbp at h
 refine Xat (Xac ?_)
 iterate 4 refine kO hT hC ?_
 refine Vc.nil ?_
 refine kS h ?_ ?_ <;> intro b18 h
 refine kt b18 (Xag (Xaf ?_))
 refine kL [3,4,5,7,8,9,10] [48,128,352,353,354,355,1785,1786] [_,_,_,_,_,_,_] [_,_,_,_,_,_,_,_] ?_
 refine Yr9 h (fun (v18 : (Bool × Int × Int × Int × Bool × Bool × Bool × Int × Int × Int × Int × Int × Int × Int × Bool × Int × Int × ByteArray × Bool × Bool × Int × Int × Int × Bool × Bool × Bool × Int × Int × Int × (List Int) × (List Int) × (List Int) × (List Int))) => ([(9, .sv (.bool v18.1))], [(48, some (.box [.sv (.int .i64 v18.2.1), .sv (.int .i64 v18.2.2.1), .own 1793, .own 1794, .sv (.int .i64 v18.2.2.2.1), .sv (.bool v18.2.2.2.2.1), .sv (.bool v18.2.2.2.2.2.1), .sv (.bool v18.2.2.2.2.2.2.1), .sv (.int .i64 v18.2.2.2.2.2.2.2.1), .sv (.int .i64 v18.2.2.2.2.2.2.2.2.1), .sv (.int .i64 v18.2.2.2.2.2.2.2.2.2.1), .sv (.int .i64 v18.2.2.2.2.2.2.2.2.2.2.1), .sv (.int .i64 v18.2.2.2.2.2.2.2.2.2.2.2.1), .sv (.int .i64 v18.2.2.2.2.2.2.2.2.2.2.2.2.1), .sv (.int .i64 v18.2.2.2.2.2.2.2.2.2.2.2.2.2.1), .sv (.bool v18.2.2.2.2.2.2.2.2.2.2.2.2.2.2.1), .sv (.int .i64 v18.2.2.2.2.2.2.2.2.2.2.2.2.2.2.2.1), .sv (.int .i64 v18.2.2.2.2.2.2.2.2.2.2.2.2.2.2.2.2.1), .sv (.str v18.2.2.2.2.2.2.2.2.2.2.2.2.2.2.2.2.2.1)])), (128, some (.box [.sv (.bool v18.2.2.2.2.2.2.2.2.2.2.2.2.2.2.2.2.2.2.1), .sv (.bool v18.2.2.2.2.2.2.2.2.2.2.2.2.2.2.2.2.2.2.2.1), .sv (.int .i64 v18.2.2.2.2.2.2.2.2.2.2.2.2.2.2.2.2.2.2.2.2.1), .sv (.int .i64 v18.2.2.2.2.2.2.2.2.2.2.2.2.2.2.2.2.2.2.2.2.2.1), .own 1785, .own 1786, .sv (.int .i64 v18.2.2.2.2.2.2.2.2.2.2.2.2.2.2.2.2.2.2.2.2.2.2.1), .sv (.bool v18.2.2.2.2.2.2.2.2.2.2.2.2.2.2.2.2.2.2.2.2.2.2.2.1), .sv (.bool v18.2.2.2.2.2.2.2.2.2.2.2.2.2.2.2.2.2.2.2.2.2.2.2.2.1), .sv (.bool v18.2.2.2.2.2.2.2.2.2.2.2.2.2.2.2.2.2.2.2.2.2.2.2.2.2.1), .sv (.int .i64 v18.2.2.2.2.2.2.2.2.2.2.2.2.2.2.2.2.2.2.2.2.2.2.2.2.2.2.1), .sv (.int .i64 v18.2.2.2.2.2.2.2.2.2.2.2.2.2.2.2.2.2.2.2.2.2.2.2.2.2.2.2.1), .sv (.int .i64 v18.2.2.2.2.2.2.2.2.2.2.2.2.2.2.2.2.2.2.2.2.2.2.2.2.2.2.2.2.1)])), (1785, some (.ints .i64 v18.2.2.2.2.2.2.2.2.2.2.2.2.2.2.2.2.2.2.2.2.2.2.2.2.2.2.2.2.2.2.2.1)), (1786, some (.ints .i64 v18.2.2.2.2.2.2.2.2.2.2.2.2.2.2.2.2.2.2.2.2.2.2.2.2.2.2.2.2.2.2.2.2)), (1793, some (.ints .i64 v18.2.2.2.2.2.2.2.2.2.2.2.2.2.2.2.2.2.2.2.2.2.2.2.2.2.2.2.2.2.1)), (1794, some (.ints .i64 v18.2.2.2.2.2.2.2.2.2.2.2.2.2.2.2.2.2.2.2.2.2.2.2.2.2.2.2.2.2.2.1)), (352, none), (353, none)])) (fun v18 h => ?_) (fun h => ?_)
 refine Xad ?_
 iterate 3 refine kO hT hC ?_
 refine Vc.nil ?_
 obtain rfl := kj h
 exact Yji (kW hC [(352, 1793), (353, 1794)])
 refine Xao ?_
 refine Xcm hm ?_
 iterate 3 refine kO hT hC ?_
 iterate 2 refine kQ hT hC h fun h => ?_
 iterate 2 refine kO hT hC ?_
 iterate 2 refine kQ hT hC h fun h => ?_
 obtain ⟨q19, hq, h⟩ := Xbe h
 refine Ytq hC [(16, 880), (17, 881), (18, 882)] rfl rfl rfl rfl Tryz.call22 (Xy4 hq) rfl (by decide) trivial rfl (.inr ⟨rfl, ⟨trivial, trivial, fun _ => rfl, trivial⟩⟩) rfl ?_
 iterate 8 refine kO hT hC ?_
 refine kD (Xat (Xac ?_))
 iterate 2 refine kO hT hC ?_
 refine Vc.nil ?_
 refine kS h ?_ ?_ <;> intro b19 h
 refine kt b19 (Xac ?_)
 refine kO hT hC ?_
 refine Vc.nil (Xah (Xau (Xhb (Yvz ?_))))
 obtain rfl := kj h
 refine Xxq (Xxo ?_)
 exact Xcr (Xjz.refl _) rfl trivial
 refine kf b19 (Xag (Xaf (Xac ?_)))
 iterate 2 refine kO hT hC ?_
 refine Vc.nil (Xat (Xac ?_))
 iterate 3 refine kO hT hC ?_
 refine Vc.nil ?_
 refine kS h ?_ ?_ <;> intro b20 h
 refine kt b20 (Xac ?_)
 refine kO hT hC ?_
 refine Vc.nil (Xas (Xa0 (Yov ?_)))
 exact Yso (false, q19.1.Seq.Level, q19.1.Seq.Bits, q19.1.Par.Qp, q19.1.Par.Large, q19.1.Par.Exact, q19.1.Par.Confined, q19.1.Rate.Qp, q19.1.Rate.Target, q19.1.Rate.Debt, q19.1.Frame, q19.1.Since, q19.1.Every, q19.1.Reach, q19.1.Has, q19.1.Ref.Wide, q19.1.Ref.High, q19.1.Ref.Dots, v10.2.2.2.2.2.2.2.2.2.2.2.2.2.2.2.2.2.2.2.1, v10.2.2.2.2.2.2.2.2.2.2.2.2.2.2.2.2.2.2.2.2.1, v10.2.2.2.2.2.2.2.2.2.2.2.2.2.2.2.2.2.2.2.2.2.1, v10.2.2.2.2.2.2.2.2.2.2.2.2.2.2.2.2.2.2.2.2.2.2.1, v10.2.2.2.2.2.2.2.2.2.2.2.2.2.2.2.2.2.2.2.2.2.2.2.1, v10.2.2.2.2.2.2.2.2.2.2.2.2.2.2.2.2.2.2.2.2.2.2.2.2.1, v10.2.2.2.2.2.2.2.2.2.2.2.2.2.2.2.2.2.2.2.2.2.2.2.2.2.1, v10.2.2.2.2.2.2.2.2.2.2.2.2.2.2.2.2.2.2.2.2.2.2.2.2.2.2.1, v10.2.2.2.2.2.2.2.2.2.2.2.2.2.2.2.2.2.2.2.2.2.2.2.2.2.2.2.1, v10.2.2.2.2.2.2.2.2.2.2.2.2.2.2.2.2.2.2.2.2.2.2.2.2.2.2.2.2.1, v10.2.2.2.2.2.2.2.2.2.2.2.2.2.2.2.2.2.2.2.2.2.2.2.2.2.2.2.2.2.1, q19.1.Seq.Cols, q19.1.Seq.Rows, v10.2.2.2.2.2.2.2.2.2.2.2.2.2.2.2.2.2.2.2.2.2.2.2.2.2.2.2.2.2.2.2.2.1, v10.2.2.2.2.2.2.2.2.2.2.2.2.2.2.2.2.2.2.2.2.2.2.2.2.2.2.2.2.2.2.2.2.2) h (kW hC [(1793, 880), (1794, 881)])
 refine kf b20 (Xag (Xaf (Xac ?_)))
 iterate 4 refine kO hT hC ?_
 refine Vc.nil ?_
 refine Xcm hm ?_
 iterate 3 refine kO hT hC ?_
 obtain ⟨hq, h⟩ := Xav h
 refine Yl2 hT hC rfl rfl rfl rfl ⟨fun _ _ => rfl, by rw [Xh7]; exact hq⟩ ?_
 rw [Xh7]
 iterate 2 refine kO hT hC ?_
 obtain ⟨q20, hq, h⟩ := Xbe h
 refine Ytq hC [(16, 1200), (17, 1201)] rfl rfl rfl rfl Tryz.call25 (Ya1 hq) rfl (by decide) trivial rfl (.inr ⟨rfl, ⟨trivial, trivial, trivial⟩⟩) rfl ?_
 iterate 9 refine kO hT hC ?_
 refine kD ?_
 refine kL [3,4,5,7,8,9,10,14,15,16] [48,128,240,354,355,880,881,1200,1201,1785,1786] [_,_,_,_,_,_,_,_,_,_] [_,_,_,_,_,_,_,_,_,_,_] ?_
 refine kA h (fun v21 => ([(9, .sv (.bool v21)), (14, .any)], [])) (fun v21 h => ?_) fun v21 h => ?_
 refine Xac ?_
 refine kO hT hC ?_
 refine Vc.nil ?_
 refine kS h ?_ ?_ <;> intro b21 h
 refine kt b21 (Xad ?_)
 refine kO hT hC ?_
 exact Vc.nil kM
 exact kf b21 (Xag kM)
 refine Xat ?_
 refine kL [3,4,5,7,8,9,10,15,16] [48,128,240,354,355,880,881,1200,1201,1785,1786] [_,_,_,_,_,_,_,_,_] [_,_,_,_,_,_,_,_,_,_,_] ?_
 refine kA h (fun v22 => ([(101, .sv (.bool v22)), (16, .any)], [])) (fun v22 h => ?_) fun v22 h => ?_
 refine Xad ?_
 iterate 5 refine kO hT hC ?_
 refine kS h ?_ ?_ <;> intro b22 h
 iterate 4 refine kI hT hC (kn b22) ?_
 refine kP hC false (kn b22) ?_
 refine kO hT hC ?_
 refine kS h ?_ ?_ <;> intro b23 h
 iterate 3 refine kI hT hC (kn b23) ?_
 refine kS h ?_ ?_ <;> intro b24 h
 iterate 2 refine kF hC (kn b24) ?_
 refine Xa3 hC rfl rfl rfl rfl (kn b23) rfl rfl (b := false) (kn b24) rfl rfl rfl trivial ?_
 refine kI hT hC (kn b23) ?_
 iterate 2 refine kF hC rfl ?_
 refine Xa3 hC rfl rfl rfl rfl (kn b23) rfl rfl (b := false) rfl rfl rfl rfl trivial ?_
 refine kP hC false (kn b23) ?_
 exact Vc.nil kM
 iterate 2 refine kI hT hC (kn b24) ?_
 refine Xa3 hC rfl rfl rfl rfl (kn b23) rfl rfl (b := true) (kn b24) rfl rfl rfl trivial ?_
 refine kI hT hC (kn b23) ?_
 refine kS h ?_ ?_ <;> intro b25 h
 iterate 2 refine kI hT hC b25 ?_
 refine Xa3 hC rfl rfl rfl rfl (kn b23) rfl rfl (b := true) b25 rfl rfl rfl trivial ?_
 refine kP hC false (kn b23) ?_
 exact Vc.nil kM
 iterate 2 refine kF hC b25 ?_
 refine Xa3 hC rfl rfl rfl rfl (kn b23) rfl rfl (b := false) b25 rfl rfl rfl trivial ?_
 refine kP hC false (kn b23) ?_
 exact Vc.nil kM
 iterate 3 refine kF hC (kn b23) ?_
 iterate 2 refine Xf1 hC rfl rfl rfl rfl rfl rfl ?_
 iterate 2 refine kF hC (kn b23) ?_
 iterate 2 refine Xf1 hC rfl rfl rfl rfl rfl rfl ?_
 refine kF hC (kn b23) ?_
 refine kP hC true (kn b23) ?_
 exact Vc.nil kM
 iterate 4 refine kF hC (kn b22) ?_
 refine kP hC true (kn b22) ?_
 refine kO hT hC ?_
 iterate 3 refine kF hC rfl ?_
 iterate 2 refine Xf1 hC rfl rfl rfl rfl rfl rfl ?_
 iterate 2 refine kF hC rfl ?_
 iterate 2 refine Xf1 hC rfl rfl rfl rfl rfl rfl ?_
 refine kF hC rfl ?_
 refine kO hT hC ?_
 exact Vc.nil kM
 refine kS h ?_ ?_ <;> intro b26 h
 refine kt b26 (Xac ?_)
 refine kO hT hC ?_
 refine Vc.nil (Xah (Xau (Xhb (Yvz ?_))))
 obtain rfl := kj h
 refine Xxq (Xxo ?_)
 exact Xcr (Xjz.refl _) rfl trivial
 refine kf b26 (Xag (Xaf (Xad ?_)))
 iterate 2 refine kO hT hC ?_
 refine Vc.nil (Xaq ?_)
 exact Yso (v21, q19.1.Seq.Level, q19.1.Seq.Bits, q19.1.Par.Qp, q19.1.Par.Large, q19.1.Par.Exact, q19.1.Par.Confined, q19.1.Rate.Qp, q19.1.Rate.Target, q19.1.Rate.Debt, q19.1.Frame, q19.1.Since, q19.1.Every, q19.1.Reach, q19.1.Has, q19.1.Ref.Wide, q19.1.Ref.High, q19.1.Ref.Dots, q20.1.Has, q20.1.Live, q20.1.Seq.Level, q20.1.Seq.Bits, q20.1.Par.Qp, q20.1.Par.Large, q20.1.Par.Exact, q20.1.Par.Confined, q20.1.Frame, q20.1.Count, q20.1.Gone, q19.1.Seq.Cols, q19.1.Seq.Rows, q20.1.Seq.Cols, q20.1.Seq.Rows) h (kW hC [(1785, 1200), (1786, 1201), (1793, 880), (1794, 881)])
 refine kf b18 (Xas (Xa0 ?_))
 obtain rfl := kj h
 exact Ys7 (Yzi (kW hC [(1791, 1785), (1792, 1786)]))
 intro v17 e
 subst e
 refine Xaf ?_
 refine kL [8] [128,1791,1792] [_] [_,_,_] ?_
 refine kA h (fun v24 => ([(2, .sv (.bool v24)), (8, .any)], [(128, none), (1791, none), (1792, none)])) (fun v24 h => ?_) fun v24 h => ?_
 refine Xad ?_
 refine kO hT hC ?_
 refine kC hC [] Tryz.call28 h (fun _ => Xo4) fun q25 h => ?_
 refine kO hT hC ?_
 refine kS h ?_ ?_ <;> intro b27 h
 iterate 2 refine kI hT hC b27 ?_
 refine kP hC true b27 ?_
 refine kO hT hC ?_
 exact Vc.nil kM
 iterate 2 refine kF hC b27 ?_
 refine kP hC false b27 ?_
 refine kO hT hC ?_
 exact Vc.nil kM
 exact Xah kR
 intro r' σ' e hE
 subst e
 obtain rfl := kj h
 refine Xau ?_
 exact hE
end
end Go.Proofs.YtnhflbeahbcklaaGreat.A
