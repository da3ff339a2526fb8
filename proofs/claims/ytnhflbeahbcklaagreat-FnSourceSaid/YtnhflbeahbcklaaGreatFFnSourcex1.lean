/- Contracts of the functions that the law FnSource reaches, part 1: each comes to what its pure function tells. Written by a program of this session. Conditions: as each statement tells. -/
import Derived.Test.YtnhflbeahbcklaaGreatFFnSourcex0
namespace Go.Proofs.YtnhflbeahbcklaaGreat.A
open Go Go.Proofs Go.Proofs.YtnhflbeahbcklaaGreatAL Go.RowKit
set_option linter.unusedVariables false
set_option linter.unusedSimpArgs false
set_option maxRecDepth 100000
set_option maxHeartbeats 8000000
noncomputable section
def Yoh (r : (Int × Int)) : AV := .tup [.sv (.int .i64 r.1), .sv (.int .i64 r.2)]
def Yog (r : (Int × Int)) : Xa1 := []
theorem Xso {p0 r} (h : Xlg p0 = some r) : AC Tryz.prog 54 [.agg [.sv (.int .i64 p0.Level), .sv (.int .i64 p0.Bits), .sv (.ints .i64 p0.Cols), .sv (.ints .i64 p0.Rows)]] [] (Yoh r) (Yog r) := by
 refine Xae hT Tryz.func54 rfl fun C hC => ?_
 unfold Xlg at h
 refine Xab ?_
 iterate 3 refine kO hT hC ?_
 refine Vc.nil (Xap (Xab ?_))
 refine kO hT hC ?_
 refine kC hC [] Tryz.call46 h (fun _ => Xuq) fun q1 h => ?_
 refine kO hT hC ?_
 refine Vc.nil ?_
 refine kS h ?_ ?_ <;> intro b1 h
 refine kt b1 (Xab ?_)
 iterate 2 refine kO hT hC ?_
 exact Vc.nil (Xah (Xar kR))
 refine kf b1 (Xag (Xaf ?_))
 refine Xby hm ?_
 iterate 2 refine kO hT hC ?_
 refine kC hC [] Tryz.call118 h (fun _ => Xow) fun q2 h => ?_
 iterate 3 refine kO hT hC ?_
 refine kC hC [] Tryz.call118 h (fun _ => Xow) fun q3 h => ?_
 iterate 3 refine kO hT hC ?_
 exact kD (Xah kR)
def Yq9 (r : Bool) : AV := .sv (.bool r)
def Yq8 (r : Bool) : Xa1 := []
theorem Xeh {p0 r} (h : Xes p0 = some r) : AC Tryz.prog 86 [.agg [.sv (.int .i64 p0.Wide), .sv (.int .i64 p0.High), .sv (.str p0.Dots)]] [] (Yq9 r) (Yq8 r) := by
 refine Xae hT Tryz.func86 rfl fun C hC => ?_
 unfold Xes at h
 refine Xab ?_
 iterate 2 refine kO hT hC ?_
 refine Vc.nil ?_
 refine kL [1,2] [16] [_,_] [_] ?_
 refine kA h (fun v1 => ([(2, .sv (.bool v1)), (1, .any)], [(16, none)])) (fun v1 h => ?_) fun v1 h => ?_
 refine Xac ?_
 iterate 2 refine kO hT hC ?_
 refine kC hC [] Tryz.call107 h (fun _ => Xal) fun q2 h => ?_
 refine kO hT hC ?_
 refine kS h ?_ ?_ <;> intro b1 h
 iterate 2 refine kI hT hC b1 ?_
 refine kE hC b1 [] Tryz.call107 h (fun _ => Xal) fun q3 h => ?_
 refine kP hC true b1 ?_
 refine kO hT hC ?_
 refine kS h ?_ ?_ <;> intro b2 h
 iterate 9 refine kI hT hC b2 ?_
 refine kP hC true b2 ?_
 refine kO hT hC ?_
 exact Vc.nil kM
 iterate 9 refine kF hC b2 ?_
 refine kP hC false b2 ?_
 refine kO hT hC ?_
 exact Vc.nil kM
 iterate 3 refine kF hC b1 ?_
 refine kP hC false b1 ?_
 refine kO hT hC ?_
 iterate 9 refine kF hC rfl ?_
 iterate 2 refine kO hT hC ?_
 exact Vc.nil kM
 exact Xah kR
def Yf3 (r : Bool) : AV := .sv (.bool r)
def Yf2 (r : Bool) : Xa1 := []
theorem Xk2 {p0 r} (h : Xfq p0 = some r) : AC Tryz.prog 85 [.agg [.sv (.int .i64 p0.Seq.Level), .sv (.int .i64 p0.Seq.Bits), .sv (.ints .i64 p0.Seq.Cols), .sv (.ints .i64 p0.Seq.Rows), .sv (.int .i64 p0.Par.Qp), .sv (.bool p0.Par.Large), .sv (.bool p0.Par.Exact), .sv (.bool p0.Par.Confined), .sv (.int .i64 p0.Rate.Qp), .sv (.int .i64 p0.Rate.Target), .sv (.int .i64 p0.Rate.Debt), .sv (.int .i64 p0.Frame), .sv (.int .i64 p0.Since), .sv (.int .i64 p0.Every), .sv (.int .i64 p0.Reach), .sv (.bool p0.Has), .sv (.int .i64 p0.Ref.Wide), .sv (.int .i64 p0.Ref.High), .sv (.str p0.Ref.Dots)]] [] (Yf3 r) (Yf2 r) := by
 refine Xae hT Tryz.func85 rfl fun C hC => ?_
 unfold Xfq at h
 refine Xab ?_
 iterate 2 refine kO hT hC ?_
 refine Vc.nil (Xap ?_)
 refine kL [1] [16] [_] [_] ?_
 refine kA h (fun v1 => ([(35, .sv (.bool v1))], [])) (fun v1 h => ?_) fun v1 h => ?_
 refine Xac ?_
 iterate 2 refine kO hT hC ?_
 refine kC hC [] Tryz.call106 h (fun _ => Xwr) fun q2 h => ?_
 iterate 2 refine kO hT hC ?_
 refine kS h ?_ ?_ <;> intro b1 h
 iterate 4 refine kF hC b1 ?_
 refine kP hC true b1 ?_
 refine kO hT hC ?_
 iterate 4 refine kF hC rfl ?_
 iterate 2 refine kO hT hC ?_
 iterate 3 refine kF hC rfl ?_
 iterate 2 refine kO hT hC ?_
 iterate 8 refine kF hC rfl ?_
 refine kO hT hC ?_
 exact Vc.nil kM
 iterate 2 refine kI hT hC b1 ?_
 refine kE hC b1 [] Tryz.call141 h (fun _ => Ydg) fun q3 h => ?_
 refine kI hT hC b1 ?_
 refine kP hC false b1 ?_
 refine kO hT hC ?_
 refine kS h ?_ ?_ <;> intro b2 h
 iterate 2 refine kI hT hC (kn b2) ?_
 refine kE hC (kn b2) [] Tryz.call142 h (fun _ => Xsm) fun q4 h => ?_
 refine kI hT hC (kn b2) ?_
 refine kP hC false (kn b2) ?_
 refine kO hT hC ?_
 refine kS h ?_ ?_ <;> intro b3 h
 iterate 3 refine kI hT hC (kn b3) ?_
 refine kP hC false (kn b3) ?_
 refine kO hT hC ?_
 refine kS h ?_ ?_ <;> intro b4 h
 iterate 8 refine kF hC b4 ?_
 refine kP hC true b4 ?_
 exact Vc.nil kM
 iterate 6 refine kI hT hC b4 ?_
 refine kJ hT hC b4 h fun h => ?_
 refine kI hT hC b4 ?_
 refine kP hC false b4 ?_
 exact Vc.nil kM
 iterate 3 refine kF hC (kn b3) ?_
 refine kP hC true (kn b3) ?_
 refine kO hT hC ?_
 iterate 8 refine kF hC rfl ?_
 refine kO hT hC ?_
 exact Vc.nil kM
 iterate 4 refine kF hC (kn b2) ?_
 refine kP hC true (kn b2) ?_
 refine kO hT hC ?_
 iterate 3 refine kF hC rfl ?_
 iterate 2 refine kO hT hC ?_
 iterate 8 refine kF hC rfl ?_
 refine kO hT hC ?_
 exact Vc.nil kM
 refine kS h ?_ ?_ <;> intro b5 h
 refine kt b5 (Xab ?_)
 refine kO hT hC ?_
 exact Vc.nil (Xah (Xar kR))
 refine kf b5 (Xag (Xaf (Xap ?_)))
 refine kL [1] [16] [_] [_] ?_
 refine kA h (fun v5 => ([(51, .sv (.bool v5))], [])) (fun v5 h => ?_) fun v5 h => ?_
 refine Xac ?_
 iterate 2 refine kO hT hC ?_
 refine kC hC [] Tryz.call107 h (fun _ => Xal) fun q6 h => ?_
 iterate 2 refine kO hT hC ?_
 refine kS h ?_ ?_ <;> intro b6 h
 iterate 2 refine kI hT hC (kn b6) ?_
 refine kE hC (kn b6) [] Tryz.call107 h (fun _ => Xal) fun q7 h => ?_
 refine kI hT hC (kn b6) ?_
 refine kP hC false (kn b6) ?_
 refine kO hT hC ?_
 refine kS h ?_ ?_ <;> intro b7 h
 iterate 2 refine kI hT hC (kn b7) ?_
 refine kE hC (kn b7) [] Tryz.call107 h (fun _ => Xal) fun q8 h => ?_
 refine kI hT hC (kn b7) ?_
 refine kP hC false (kn b7) ?_
 exact Vc.nil kM
 iterate 4 refine kF hC (kn b7) ?_
 refine kP hC true (kn b7) ?_
 exact Vc.nil kM
 iterate 4 refine kF hC (kn b6) ?_
 refine kP hC true (kn b6) ?_
 refine kO hT hC ?_
 iterate 4 refine kF hC rfl ?_
 refine kO hT hC ?_
 exact Vc.nil kM
 refine kS h ?_ ?_ <;> intro b8 h
 refine kt b8 (Xab ?_)
 refine kO hT hC ?_
 exact Vc.nil (Xah (Xar kR))
 refine kf b8 (Xag (Xaf (Xab ?_)))
 iterate 2 refine kO hT hC ?_
 refine kC hC [] Tryz.call54 h (fun _ => Xso) fun q9 h => ?_
 iterate 5 refine kO hT hC ?_
 refine Vc.nil (Xap (Xab ?_))
 iterate 2 refine kO hT hC ?_
 refine Vc.nil ?_
 refine kS h ?_ ?_ <;> intro b9 h
 refine kt b9 ?_
 refine kL [1,3,4] [16] [_,_,_] [_] ?_
 refine kA h (fun v10 => ([(2, .sv (.bool v10)), (1, .any), (3, .any), (4, .any)], [(16, none)])) (fun v10 h => ?_) fun v10 h => ?_
 refine Xac ?_
 iterate 2 refine kO hT hC ?_
 refine kC hC [] Tryz.call86 h (fun _ => Xeh) fun q11 h => ?_
 refine kO hT hC ?_
 refine kS h ?_ ?_ <;> intro b10 h
 iterate 5 refine kI hT hC b10 ?_
 refine kP hC true b10 ?_
 refine kO hT hC ?_
 refine kS h ?_ ?_ <;> intro b11 h
 iterate 5 refine kI hT hC b11 ?_
 refine kP hC true b11 ?_
 refine kO hT hC ?_
 exact Vc.nil kM
 iterate 5 refine kF hC b11 ?_
 refine kP hC false b11 ?_
 refine kO hT hC ?_
 exact Vc.nil kM
 iterate 5 refine kF hC b10 ?_
 refine kP hC false b10 ?_
 refine kO hT hC ?_
 iterate 5 refine kF hC rfl ?_
 iterate 2 refine kO hT hC ?_
 exact Vc.nil kM
 exact Xah (Xar kR)
 refine kf b9 (Xag (Xaf ?_))
 refine kL [1] [16] [_] [_] ?_
 refine kA h (fun v12 => ([(2, .sv (.bool v12)), (1, .any)], [(16, none)])) (fun v12 h => ?_) fun v12 h => ?_
 refine Xac ?_
 iterate 5 refine kO hT hC ?_
 refine kS h ?_ ?_ <;> intro b12 h
 iterate 4 refine kI hT hC b12 ?_
 refine kP hC true b12 ?_
 refine kO hT hC ?_
 refine kS h ?_ ?_ <;> intro b13 h
 iterate 5 refine kI hT hC b13 ?_
 refine kP hC true b13 ?_
 refine kO hT hC ?_
 exact Vc.nil kM
 iterate 5 refine kF hC b13 ?_
 refine kP hC false b13 ?_
 refine kO hT hC ?_
 exact Vc.nil kM
 iterate 4 refine kF hC b12 ?_
 refine kP hC false b12 ?_
 refine kO hT hC ?_
 iterate 5 refine kF hC rfl ?_
 iterate 2 refine kO hT hC ?_
 exact Vc.nil kM
 exact Xah kR
def Ydl (r : (Xbc × Bool)) : AV := .tup [.agg [.sv (.int .i64 r.1.Seq.Level), .sv (.int .i64 r.1.Seq.Bits), .own 16, .own 17, .sv (.int .i64 r.1.Par.Qp), .sv (.bool r.1.Par.Large), .sv (.bool r.1.Par.Exact), .sv (.bool r.1.Par.Confined), .sv (.int .i64 r.1.Rate.Qp), .sv (.int .i64 r.1.Rate.Target), .sv (.int .i64 r.1.Rate.Debt), .sv (.int .i64 r.1.Frame), .sv (.int .i64 r.1.Since), .sv (.int .i64 r.1.Every), .sv (.int .i64 r.1.Reach), .sv (.bool r.1.Has), .sv (.int .i64 r.1.Ref.Wide), .sv (.int .i64 r.1.Ref.High), .sv (.str r.1.Ref.Dots)], .sv (.bool r.2)]
def Ydk (r : (Xbc × Bool)) : Xa1 := [(16, .ints .i64 r.1.Seq.Cols), (17, .ints .i64 r.1.Seq.Rows)]
theorem Yf0 {p0 p1 p2 p3 p4 p5 p6 r} (h : Xkn p0 p1 p2 p3 p4 p5 p6 = some r) : AC Tryz.prog 52 [.sv (.int .i64 p0), .sv (.int .i64 p1), .sv (.int .i64 p2), .agg [.sv (.int .i64 p3.Qp), .sv (.bool p3.Large), .sv (.bool p3.Exact), .sv (.bool p3.Confined)], .agg [.sv (.int .i64 p4.Qp), .sv (.int .i64 p4.Target), .sv (.int .i64 p4.Debt)], .sv (.int .i64 p5), .sv (.int .i64 p6)] [] (Ydl r) (Ydk r) := by
 refine Xae hT Tryz.func52 rfl fun C hC => ?_
 unfold Xkn at h
 refine Xab ?_
 iterate 4 refine kO hT hC ?_
 refine kN ?_
 iterate 8 refine kO hT hC ?_
 refine kN ?_
 iterate 4 refine kO hT hC ?_
 refine kC hC [] Tryz.call117 h (fun _ => Yiz) fun q1 h => ?_
 iterate 2 refine kO hT hC ?_
 refine kN ?_
 iterate 8 refine kO hT hC ?_
 refine Vc.nil (Xap (Xab ?_))
 refine kO hT hC ?_
 refine kC hC [] Tryz.call85 h (fun _ => Xk2) fun q2 h => ?_
 refine kO hT hC ?_
 refine Vc.nil ?_
 refine kS h ?_ ?_ <;> intro b1 h
 refine kt b1 (Xab ?_)
 iterate 3 refine kO hT hC ?_
 refine Vc.nil (Xah (Xar ?_))
 obtain rfl := kj h
 refine Xbw (τ := ⟨[(14, .ptr 2000000 0), (15, .sv (.bool false))], [(16, some (.ints .i64 [])), (17, some (.ints .i64 [])), (2000000, some (.box [.sv (.int .i64 0), .sv (.int .i64 0), .own 16, .own 17, .sv (.int .i64 0), .sv (.bool false), .sv (.bool false), .sv (.bool false), .sv (.int .i64 0), .sv (.int .i64 0), .sv (.int .i64 0), .sv (.int .i64 0), .sv (.int .i64 0), .sv (.int .i64 0), .sv (.int .i64 0), .sv (.bool false), .sv (.int .i64 0), .sv (.int .i64 0), .sv (.str ⟨#[]⟩)]))]⟩) ?_ rfl ⟨rfl, rfl, trivial⟩
 refine Xma hC 224 2 673 (.ints .i64 []) rfl rfl rfl rfl rfl trivial ?_
 refine Xma hC 224 3 674 (.ints .i64 []) rfl rfl rfl rfl rfl trivial ?_
 apply Xdk hC [(16, 673), (17, 674), (2000000, 224)]
 exact co
 rfl
 decide
 rfl
 refine kf b1 (Xag (Xaf (Xab ?_)))
 iterate 3 refine kO hT hC ?_
 refine Vc.nil (Xah ?_)
 obtain rfl := kj h
 exact Xbw (τ := ⟨[(14, .ptr 2000000 0), (15, .sv (.bool true))], [(16, some (.ints .i64 ([p0]))), (17, some (.ints .i64 ([p1]))), (2000000, some (.box [.sv (.int .i64 q1), .sv (.int .i64 p2), .own 16, .own 17, .sv (.int .i64 p3.Qp), .sv (.bool p3.Large), .sv (.bool p3.Exact), .sv (.bool p3.Confined), .sv (.int .i64 p4.Qp), .sv (.int .i64 p4.Target), .sv (.int .i64 p4.Debt), .sv (.int .i64 0), .sv (.int .i64 0), .sv (.int .i64 p5), .sv (.int .i64 p6), .sv (.bool false), .sv (.int .i64 0), .sv (.int .i64 0), .sv (.str ⟨#[]⟩)]))]⟩) (kW hC [(16, 320), (17, 352), (2000000, 224)]) rfl ⟨rfl, rfl, trivial⟩
def Yj8 (r : (ByteArray × Xbs)) : AV := .sv (.str r.1)
def Yj7 (r : (ByteArray × Xbs)) : Xa1 := [(0, .box [.sv (.ints .u8 r.2.b_), .sv (.int .i64 r.2.i_), .sv (.int .i64 r.2.h_)])]
theorem Yo0 {p0 p1 r} (h : Xpa p0 p1 = some r) : AC Tryz.prog 119 [.ptr 0 0, .sv (.int .i64 p1)] [(0, .box [.sv (.ints .u8 p0.b_), .sv (.int .i64 p0.i_), .sv (.int .i64 p0.h_)])] (Yj8 r) (Yj7 r) := by
 refine Xae hT Tryz.func119 rfl fun C hC => ?_
 unfold Xpa at h
 refine Xab ?_
 refine kO hT hC ?_
 refine kN ?_
 iterate 2 refine kO hT hC ?_
 refine kN ?_
 refine kO hT hC ?_
 refine kC hC [(0, 0)] Tryz.call39 h (fun _ => Xd1) fun q1 h => ?_
 refine kO hT hC ?_
 refine Vc.nil (Xap (Xab ?_))
 refine kO hT hC ?_
 refine Vc.nil ?_
 refine kL [0,1,5,6,7] [0,128] [_,_,_,_,_] [_,_] ?_
 refine kX h (fun v7 => ([(6, .sv (.int .i64 v7.1)), (7, .sv (.int .i64 v7.2.1))], [(0, some (.box [.sv (.ints .u8 v7.2.2.1), .sv (.int .i64 v7.2.2.2.1), .sv (.int .i64 v7.2.2.2.2.1)])), (128, some (.ints .u8 v7.2.2.2.2.2))])) (fun v13 => ([(0, .any), (1, .any), (6, .any), (7, .any)], [(0, some (.box [.sv (.ints .u8 v13.2.1), .sv (.int .i64 v13.2.2.1), .sv (.int .i64 v13.2.2.2)])), (128, some (.ints .u8 v13.1))])) (kW hC []) (fun v7 s h => ?_) fun v13 h => ?_
 unfold Xnf at h
 refine Xap (Xab ?_)
 iterate 3 refine kO hT hC ?_
 refine Vc.nil ?_
 refine kS h ?_ ?_ <;> intro b7 h
 refine kt b7 (Xag (Xaf (Xap (Xak ?_))))
 refine kL [0,1,5,6,7] [0,128] [_,_,_,_,_] [_,_] ?_
 refine kA h (fun v14 => ([(6, .sv (.int .i64 v14.1))], [(0, some (.box [.sv (.ints .u8 v14.2.1), .sv (.int .i64 v14.2.2.1), .sv (.int .i64 v14.2.2.2)]))])) (fun v14 h => ?_) fun v14 h => ?_
 refine Xab ?_
 refine kO hT hC ?_
 refine kC hC [(0, 0)] Tryz.call40 h (fun _ => Xa6) fun q15 h => ?_
 refine Vc.nil (Xak (Xab ?_))
 iterate 2 refine kO hT hC ?_
 refine Vc.nil ?_
 refine kS h ?_ ?_ <;> intro b8 h
 refine kt b8 (Xac ?_)
 refine kO hT hC ?_
 refine kC hC [(0, 0)] Tryz.call39 h (fun _ => Xd1) fun q16 h => ?_
 refine kO hT hC ?_
 exact Vc.nil (Xam kM)
 refine kf b8 (Xab ?_)
 iterate 2 refine kO hT hC ?_
 refine Vc.nil ?_
 refine kS h ?_ ?_ <;> intro b9 h
 refine kt b9 (Xac ?_)
 iterate 2 refine kO hT hC ?_
 refine kC hC [(0, 0)] Tryz.call40 h (fun _ => Xa6) fun q17 h => ?_
 iterate 4 refine kO hT hC ?_
 exact Vc.nil (Xam kM)
 exact kf b9 (Xag (Xam kM))
 refine Xac ?_
 iterate 4 refine kO hT hC ?_
 refine kT hT hC h fun h => ?_
 refine kO hT hC ?_
 refine Vc.nil (Xam (Xaf (Xac ?_)))
 iterate 3 refine kO hT hC ?_
 refine Vc.nil ?_
 obtain rfl := kj h
 exact Xx7 (kW hC [(128, 544)])
 exact kf b7 (Xan (Xat ku))
 refine Xaf (Xab ?_)
 iterate 3 refine kO hT hC ?_
 refine Vc.nil (Xah ?_)
 obtain rfl := kj h
 exact Xbw (Xj2.refl _) rfl ⟨rfl, trivial⟩
def Ygi (r : (Pic × Xbs)) : AV := .agg [.sv (.int .i64 r.1.Wide), .sv (.int .i64 r.1.High), .sv (.str r.1.Dots)]
def Ygh (r : (Pic × Xbs)) : Xa1 := [(0, .box [.sv (.ints .u8 r.2.b_), .sv (.int .i64 r.2.i_), .sv (.int .i64 r.2.h_)])]
theorem Xvf {p0 p1 p2 r} (h : Xj1 p0 p1 p2 = some r) : AC Tryz.prog 55 [.ptr 0 0, .sv (.int .i64 p1), .sv (.int .i64 p2)] [(0, .box [.sv (.ints .u8 p0.b_), .sv (.int .i64 p0.i_), .sv (.int .i64 p0.h_)])] (Ygi r) (Ygh r) := by
 refine Xae hT Tryz.func55 rfl fun C hC => ?_
 unfold Xj1 at h
 refine Xab ?_
 refine kO hT hC ?_
 refine kN ?_
 iterate 6 refine kO hT hC ?_
 refine kC hC [(0, 0)] Tryz.call119 h (fun _ => Yo0) fun q1 h => ?_
 iterate 2 refine kO hT hC ?_
 refine Vc.nil (Xah ?_)
 obtain rfl := kj h
 exact Xbw (Xj2.refl _) rfl ⟨rfl, trivial⟩
def Yip (r : Int) : AV := .sv (.int .i64 r)
def Yio (r : Int) : Xa1 := []
theorem Xdu {p0 p1 p2 r} (h : Xcm p0 p1 p2 = some r) : AC Tryz.prog 143 [.sv (.int .i64 p0), .sv (.int .i64 p1), .sv (.int .i64 p2)] [] (Yip r) (Yio r) := by
 refine Xae hT Tryz.func143 rfl fun C hC => ?_
 unfold Xcm at h
 refine Xab ?_
 refine kO hT hC ?_
 refine Vc.nil (Xap ?_)
 refine kL [0,1,2] [] [_,_,_] [] ?_
 refine kA h (fun v1 => ([(14, .sv (.bool v1))], [])) (fun v1 h => ?_) fun v1 h => ?_
 refine Xac ?_
 iterate 4 refine kO hT hC ?_
 refine kS h ?_ ?_ <;> intro b1 h
 iterate 3 refine kF hC b1 ?_
 refine kP hC true b1 ?_
 exact Vc.nil kM
 iterate 3 refine kI hT hC b1 ?_
 refine kP hC false b1 ?_
 exact Vc.nil kM
 refine kS h ?_ ?_ <;> intro b2 h
 refine kt b2 (Xab ?_)
 iterate 2 refine kO hT hC ?_
 exact Vc.nil (Xah (Xar kR))
 refine kf b2 (Xag (Xaf (Xap (Xab ?_))))
 iterate 3 refine kO hT hC ?_
 refine Vc.nil ?_
 refine kS h ?_ ?_ <;> intro b3 h
 refine kt b3 (Xab ?_)
 iterate 2 refine kO hT hC ?_
 exact Vc.nil (Xah (Xar kR))
 refine kf b3 (Xag (Xaf (Xab ?_)))
 iterate 2 refine kO hT hC ?_
 exact Vc.nil (Xah kR)
def Yqv (r : Int) : AV := .sv (.int .i64 r)
def Yqu (r : Int) : Xa1 := []
theorem Xmx {p0 p1 p2 r} (h : Xff p0 p1 p2 = some r) : AC Tryz.prog 120 [.agg [.sv (.int .i64 p0.Wide), .sv (.int .i64 p0.High), .sv (.str p0.Dots)], .sv (.int .i64 p1), .sv (.int .i64 p2)] [] (Yqv r) (Yqu r) := by
 refine Xae hT Tryz.func120 rfl fun C hC => ?_
 unfold Xff at h
 refine Xab ?_
 iterate 2 refine kO hT hC ?_
 refine Vc.nil (Xap (Xab ?_))
 refine kO hT hC ?_
 refine kC hC [] Tryz.call86 h (fun _ => Xeh) fun q1 h => ?_
 refine kO hT hC ?_
 refine Vc.nil ?_
 refine kS h ?_ ?_ <;> intro b1 h
 refine kt b1 (Xab ?_)
 refine kO hT hC ?_
 exact Vc.nil (Xah (Xar kR))
 refine kf b1 (Xag (Xaf ?_))
 refine Xby hm ?_
 iterate 6 refine kO hT hC ?_
 refine kC hC [] Tryz.call143 h (fun _ => Xdu) fun q2 h => ?_
 iterate 7 refine kO hT hC ?_
 refine kC hC [] Tryz.call143 h (fun _ => Xdu) fun q3 h => ?_
 refine kO hT hC ?_
 refine kQ hT hC h fun h => ?_
 iterate 2 refine kO hT hC ?_
 exact kD (Xah kR)
def Yki (r : (Pic × Xbs)) : AV := .agg [.sv (.int .i64 r.1.Wide), .sv (.int .i64 r.1.High), .sv (.str r.1.Dots)]
def Ykh (r : (Pic × Xbs)) : Xa1 := [(0, .box [.sv (.ints .u8 r.2.b_), .sv (.int .i64 r.2.i_), .sv (.int .i64 r.2.h_)])]
theorem Ypd {p0 p1 r} (h : Xpb p0 p1 = some r) : AC Tryz.prog 57 [.ptr 0 0, .agg [.sv (.int .i64 p1.Wide), .sv (.int .i64 p1.High), .sv (.str p1.Dots)]] [(0, .box [.sv (.ints .u8 p0.b_), .sv (.int .i64 p0.i_), .sv (.int .i64 p0.h_)])] (Yki r) (Ykh r) := by
 refine Xae hT Tryz.func57 rfl fun C hC => ?_
 unfold Xpb at h
 refine Xab ?_
 iterate 2 refine kO hT hC ?_
 refine kN ?_
 refine kO hT hC ?_
 refine kC hC [(0, 0)] Tryz.call40 h (fun _ => Xa6) fun q1 h => ?_
 iterate 2 refine kO hT hC ?_
 refine kN ?_
 refine kO hT hC ?_
 refine kC hC [(0, 0)] Tryz.call40 h (fun _ => Xa6) fun q2 h => ?_
 iterate 2 refine kO hT hC ?_
 refine Vc.nil ?_
 refine kL [0,3,4,5,6] [0,48,64] [_,_,_,_,_] [_,_,_] ?_
 refine kA h (fun v3 => ([(5, .sv (.int .i64 v3.1)), (6, .sv (.int .i64 v3.2.1))], [(0, some (.box [.sv (.ints .u8 v3.2.2.1), .sv (.int .i64 v3.2.2.2.1), .sv (.int .i64 v3.2.2.2.2)]))])) (fun v3 h => ?_) fun v3 h => ?_
 refine Xab ?_
 refine kO hT hC ?_
 refine kC hC [(0, 0)] Tryz.call56 h (fun _ => Xm4) fun q4 h => ?_
 refine Vc.nil ?_
 refine kS h ?_ ?_ <;> intro b1 h
 refine kt b1 (Xab ?_)
 refine kO hT hC ?_
 refine Vc.nil (Xac ?_)
 refine kO hT hC ?_
 exact Vc.nil kM
 exact kf b1 (Xag kM)
 refine Xab ?_
 iterate 2 refine kO hT hC ?_
 refine Vc.nil (Xap (Xab ?_))
 refine kO hT hC ?_
 refine Vc.nil ?_
 refine kL [0,3,4,5,6,7,8] [0,48,64,288] [_,_,_,_,_,_,_] [_,_,_,_] ?_
 refine kX h (fun v7 => ([(8, .sv (.int .i64 v7.1))], [(288, some (.ints .u8 v7.2))])) (fun v10 => ([(5, .any), (6, .any), (8, .any)], [(288, some (.ints .u8 v10))])) (kW hC []) (fun v7 s h => ?_) fun v10 h => ?_
 unfold Xnk at h
 refine Xap (Xab ?_)
 iterate 5 refine kO hT hC ?_
 refine Vc.nil ?_
 refine kS h ?_ ?_ <;> intro b4 h
 refine kt b4 (Xag (Xaf (Xap (Xak ?_))))
 refine Xb3 hm ?_
 iterate 5 refine kO hT hC ?_
 refine kQ hT hC h fun h => ?_
 iterate 5 refine kO hT hC ?_
 refine kQ hT hC h fun h => ?_
 iterate 2 refine kO hT hC ?_
 refine kC hC [] Tryz.call120 h (fun _ => Xmx) fun q11 h => ?_
 iterate 2 refine kO hT hC ?_
 refine kT hT hC h fun h => ?_
 refine kO hT hC ?_
 refine kD (Xam (Xaf (Xac ?_)))
 iterate 3 refine kO hT hC ?_
 refine Vc.nil ?_
 obtain rfl := kj h
 exact Xx7 (kW hC [(288, 688)])
 exact kf b4 (Xan (Xat ku))
 refine Xaf (Xap (Xab ?_))
 refine kO hT hC ?_
 refine Vc.nil ?_
 refine kL [0,3,4,7,9] [0,48,64,288] [_,_,_,_,_] [_,_,_,_] ?_
 refine kX h (fun v17 => ([(9, .sv (.int .i64 v17.1))], [(0, some (.box [.sv (.ints .u8 v17.2.1), .sv (.int .i64 v17.2.2.1), .sv (.int .i64 v17.2.2.2.1)])), (288, some (.ints .u8 v17.2.2.2.2))])) (fun v22 => ([(0, .any), (9, .any)], [(0, some (.box [.sv (.ints .u8 v22.2.1), .sv (.int .i64 v22.2.2.1), .sv (.int .i64 v22.2.2.2)])), (288, some (.ints .u8 v22.1))])) (kW hC []) (fun v17 s h => ?_) fun v22 h => ?_
 unfold Xnl at h
 refine Xap (Xab ?_)
 iterate 2 refine kO hT hC ?_
 refine kC hC [(0, 0)] Tryz.call40 h (fun _ => Xa6) fun q23 h => ?_
 refine kO hT hC ?_
 refine Vc.nil ?_
 refine kS h ?_ ?_ <;> intro b7 h
 refine kt b7 (Xag (Xaf (Xap (Xak (Xac ?_)))))
 iterate 4 refine kO hT hC ?_
 refine kC hC [(0, 0)] Tryz.call40 h (fun _ => Xa6) fun q24 h => ?_
 refine kO hT hC ?_
 refine kC hC [(0, 0)] Tryz.call39 h (fun _ => Xd1) fun q25 h => ?_
 refine kO hT hC ?_
 iterate 2 refine kQ hT hC h fun h => ?_
 refine Vc.nil (Xam (Xaf (Xac ?_)))
 iterate 3 refine kO hT hC ?_
 exact Vc.nil kG
 exact kf b7 (Xan (Xat ku))
 refine Xaf (Xab ?_)
 iterate 8 refine kO hT hC ?_
 refine Vc.nil (Xah ?_)
 obtain rfl := kj h
 exact Xbw (Xj2.refl _) rfl ⟨rfl, trivial⟩
def Yc8 (r : (Xbc × (List Pic) × (List Bool))) : AV := .tup [.agg [.sv (.int .i64 r.1.Seq.Level), .sv (.int .i64 r.1.Seq.Bits), .own 16, .own 17, .sv (.int .i64 r.1.Par.Qp), .sv (.bool r.1.Par.Large), .sv (.bool r.1.Par.Exact), .sv (.bool r.1.Par.Confined), .sv (.int .i64 r.1.Rate.Qp), .sv (.int .i64 r.1.Rate.Target), .sv (.int .i64 r.1.Rate.Debt), .sv (.int .i64 r.1.Frame), .sv (.int .i64 r.1.Since), .sv (.int .i64 r.1.Every), .sv (.int .i64 r.1.Reach), .sv (.bool r.1.Has), .sv (.int .i64 r.1.Ref.Wide), .sv (.int .i64 r.1.Ref.High), .sv (.str r.1.Ref.Dots)], .own 18, .own 19]
def Yc7 (r : (Xbc × (List Pic) × (List Bool))) : Xa1 := [(16, .ints .i64 r.1.Seq.Cols), (17, .ints .i64 r.1.Seq.Rows), (18, .row Za2 r.2.1), (19, .row Yea r.2.2)]
theorem Xtm {p0 r} (h : Xhz p0 = some r) : AC Tryz.prog 20 [.sv (.ints .u8 p0)] [] (Yc8 r) (Yc7 r) := by
 refine Xae hT Tryz.func20 rfl fun C hC => ?_
 unfold Xhz at h
 refine Xab ?_
 iterate 3 refine kO hT hC ?_
 refine kN ?_
 refine kO hT hC ?_
 refine kC hC [(16, 240)] Tryz.call38 h (fun _ => Yrp) fun q1 h => ?_
 refine kO hT hC ?_
 refine kN ?_
 refine kO hT hC ?_
 refine kC hC [(0, 240)] Tryz.call40 h (fun _ => Xa6) fun q2 h => ?_
 iterate 2 refine kO hT hC ?_
 refine kC hC [(0, 240)] Tryz.call40 h (fun _ => Xa6) fun q3 h => ?_
 iterate 2 refine kO hT hC ?_
 refine kC hC [(0, 240)] Tryz.call44 h (fun _ => Yay) fun q4 h => ?_
 refine kO hT hC ?_
 refine kC hC [(0, 240)] Tryz.call53 h (fun _ => Ykj) fun q5 h => ?_
 refine kO hT hC ?_
 refine kC hC [(0, 240)] Tryz.call40 h (fun _ => Xa6) fun q6 h => ?_
 iterate 2 refine kO hT hC ?_
 refine kC hC [(0, 240)] Tryz.call40 h (fun _ => Xa6) fun q7 h => ?_
 refine kC hC [(16, 512), (17, 513)] Tryz.call52 h (fun _ => Yf0) fun q8 h => ?_
 iterate 6 refine kO hT hC ?_
 refine kN ?_
 iterate 2 refine kO hT hC ?_
 refine kC hC [] Tryz.call54 h (fun _ => Xso) fun q9 h => ?_
 iterate 5 refine kO hT hC ?_
 refine kN ?_
 iterate 3 refine kO hT hC ?_
 refine kC hC [(0, 240)] Tryz.call55 h (fun _ => Xvf) fun q10 h => ?_
 iterate 2 refine kO hT hC ?_
 refine kN ?_
 iterate 2 refine kO hT hC ?_
 refine kN ?_
 iterate 2 refine kO hT hC ?_
 refine Vc.nil (Xap (Xab ?_))
 refine kO hT hC ?_
 refine Vc.nil ?_
 refine kL [2,5,6,8,9,10,11,12,13] [32,96,160,240,512,513,720,736] [_,_,_,_,_,_,_,_,_] [_,_,_,_,_,_,_,_] ?_
 refine kX h (fun v18 => ([(13, .sv (.int .i64 v18.1))], [(160, some (.box [.sv (.int .i64 v18.2.2.2.2.1), .sv (.int .i64 v18.2.2.2.2.2.1), .sv (.str v18.2.2.2.2.2.2.1)])), (240, some (.box [.sv (.ints .u8 v18.2.1), .sv (.int .i64 v18.2.2.1), .sv (.int .i64 v18.2.2.2.1)])), (720, some (.row Za2 v18.2.2.2.2.2.2.2.1)), (736, some (.row Yea v18.2.2.2.2.2.2.2.2))])) (fun v26 => ([(5, .any), (8, .any), (9, .any), (10, .any), (13, .any)], [(720, some (.row Za2 v26.1)), (736, some (.row Yea v26.2)), (160, none), (240, none)])) (kW hC []) (fun v18 s h => ?_) fun v26 h => ?_
 unfold Xjx at h
 refine Xap (Xab ?_)
 iterate 2 refine kO hT hC ?_
 refine kC hC [(0, 240)] Tryz.call40 h (fun _ => Xa6) fun q27 h => ?_
 iterate 2 refine kO hT hC ?_
 refine Vc.nil ?_
 refine kS h ?_ ?_ <;> intro b5 h
 refine kt b5 (Xag (Xaf ?_))
 refine kL [2,5,6,8,9,10,11,12,13] [32,96,160,240,512,513,720,736] [_,_,_,_,_,_,_,_,_] [_,_,_,_,_,_,_,_] ?_
 refine kA h (fun v28 => ([(11, .own 1227), (12, .own 1228)], [(160, some (.box [.sv (.int .i64 v28.2.2.2.1), .sv (.int .i64 v28.2.2.2.2.1), .sv (.str v28.2.2.2.2.2.1)])), (240, some (.box [.sv (.ints .u8 v28.1), .sv (.int .i64 v28.2.1), .sv (.int .i64 v28.2.2.1)])), (1227, some (.row Za2 (v18.2.2.2.2.2.2.2.1 ++ ([(⟨v18.2.2.2.2.1, v18.2.2.2.2.2.1, v18.2.2.2.2.2.2.1⟩ : Pic)])))), (1228, some (.row Yea v28.2.2.2.2.2.2)), (720, none), (736, none)])) (fun v28 h => ?_) fun v28 h => ?_
 refine Xak (Xab ?_)
 iterate 3 refine kO hT hC ?_
 obtain ⟨hq, h⟩ := Xa0 h
 refine Ypi hT hC rfl rfl rfl rfl ⟨fun _ _ => rfl, by rw [Zcf]; exact hq⟩ ?_
 rw [Zcf]
 refine kO hT hC ?_
 refine kN ?_
 iterate 2 refine kO hT hC ?_
 refine kC hC [(0, 240)] Tryz.call56 h (fun _ => Xm4) fun q29 h => ?_
 refine kO hT hC ?_
 obtain ⟨hq, h⟩ := Xa0 h
 refine Ypi hT hC rfl rfl rfl rfl ⟨fun _ _ => rfl, by rw [Yzb]; exact hq⟩ ?_
 rw [Yzb]
 refine kO hT hC ?_
 refine kN ?_
 iterate 2 refine kO hT hC ?_
 refine kC hC [(0, 240)] Tryz.call57 h (fun _ => Ypd) fun q30 h => ?_
 refine kO hT hC ?_
 refine kN ?_
 refine kO hT hC ?_
 refine kC hC [(0, 240)] Tryz.call56 h (fun _ => Xm4) fun q31 h => ?_
 refine Vc.nil ?_
 refine kS h ?_ ?_ <;> intro b6 h
 refine kt b6 (Xac ?_)
 iterate 3 refine kO hT hC ?_
 refine kC hC [(0, 240)] Tryz.call55 h (fun _ => Xvf) fun q32 h => ?_
 refine kO hT hC ?_
 refine Vc.nil (Xam ?_)
 obtain rfl := kj h
 exact Xgl (kW hC [(1227, 912), (1228, 992)])
 refine kf b6 (Xag (Xam ?_))
 obtain rfl := kj h
 exact Xgl (kW hC [(1227, 912), (1228, 992)])
 refine Xac ?_
 iterate 3 refine kO hT hC ?_
 refine Vc.nil ?_
 obtain rfl := kj h
 exact Xx7 (kW hC [(720, 1227), (736, 1228)])
 exact kf b5 (Xan (Xat ku))
 refine Xaf (Xab ?_)
 iterate 6 refine kO hT hC ?_
 refine Vc.nil (Xah ?_)
 obtain rfl := kj h
 exact Xbw (τ := ⟨[(2, .ptr 2000000 0), (3, .own 18), (4, .own 19)], [(16, some (.ints .i64 q8.1.Seq.Cols)), (17, some (.ints .i64 q8.1.Seq.Rows)), (18, some (.row Za2 v26.1)), (19, some (.row Yea v26.2)), (2000000, some (.box [.sv (.int .i64 q8.1.Seq.Level), .sv (.int .i64 q8.1.Seq.Bits), .own 16, .own 17, .sv (.int .i64 q8.1.Par.Qp), .sv (.bool q8.1.Par.Large), .sv (.bool q8.1.Par.Exact), .sv (.bool q8.1.Par.Confined), .sv (.int .i64 q8.1.Rate.Qp), .sv (.int .i64 q8.1.Rate.Target), .sv (.int .i64 q8.1.Rate.Debt), .sv (.int .i64 q8.1.Frame), .sv (.int .i64 q8.1.Since), .sv (.int .i64 q8.1.Every), .sv (.int .i64 q8.1.Reach), .sv (.bool q8.1.Has), .sv (.int .i64 q8.1.Ref.Wide), .sv (.int .i64 q8.1.Ref.High), .sv (.str q8.1.Ref.Dots)]))]⟩) (kW hC [(16, 512), (17, 513), (18, 720), (19, 736), (2000000, 32)]) rfl ⟨rfl, rfl, rfl, rfl, trivial⟩
def Yl3 (r : Bool) : AV := .sv (.bool r)
def Yl2 (r : Bool) : Xa1 := []
theorem Xr8 {p0 r} (h : Xk9 p0 = some r) : AC Tryz.prog 68 [.agg [.sv (.int .i64 p0.Qp), .sv (.int .i64 p0.Target), .sv (.int .i64 p0.Debt)]] [] (Yl3 r) (Yl2 r) := by
 refine Xae hT Tryz.func68 rfl fun C hC => ?_
 unfold Xk9 at h
 refine Xab ?_
 iterate 2 refine kO hT hC ?_
 refine Vc.nil ?_
 refine kL [1,2] [16] [_,_] [_] ?_
 refine kA h (fun v1 => ([(2, .sv (.bool v1)), (1, .any)], [(16, none)])) (fun v1 h => ?_) fun v1 h => ?_
 refine Xac ?_
 iterate 2 refine kO hT hC ?_
 refine kC hC [] Tryz.call69 h (fun _ => Xai) fun q2 h => ?_
 refine kO hT hC ?_
 refine kS h ?_ ?_ <;> intro b1 h
 iterate 2 refine kI hT hC b1 ?_
 refine kE hC b1 [] Tryz.call69 h (fun _ => Xai) fun q3 h => ?_
 refine kP hC true b1 ?_
 refine kO hT hC ?_
 refine kS h ?_ ?_ <;> intro b2 h
 iterate 8 refine kI hT hC b2 ?_
 refine kE hC b2 [] Tryz.call69 h (fun _ => Xai) fun q4 h => ?_
 refine kP hC true b2 ?_
 refine kO hT hC ?_
 exact Vc.nil kM
 iterate 9 refine kF hC b2 ?_
 refine kP hC false b2 ?_
 refine kO hT hC ?_
 exact Vc.nil kM
 iterate 3 refine kF hC b1 ?_
 refine kP hC false b1 ?_
 refine kO hT hC ?_
 iterate 9 refine kF hC rfl ?_
 iterate 2 refine kO hT hC ?_
 exact Vc.nil kM
 exact Xah kR
def Yey (r : Bool) : AV := .sv (.bool r)
def Yex (r : Bool) : Xa1 := []
theorem Xph {p0 r} (h : Xg6 p0 = some r) : AC Tryz.prog 23 [.agg [.sv (.int .i64 p0.Seq.Level), .sv (.int .i64 p0.Seq.Bits), .sv (.ints .i64 p0.Seq.Cols), .sv (.ints .i64 p0.Seq.Rows), .sv (.int .i64 p0.Par.Qp), .sv (.bool p0.Par.Large), .sv (.bool p0.Par.Exact), .sv (.bool p0.Par.Confined), .sv (.int .i64 p0.Rate.Qp), .sv (.int .i64 p0.Rate.Target), .sv (.int .i64 p0.Rate.Debt), .sv (.int .i64 p0.Frame), .sv (.int .i64 p0.Since), .sv (.int .i64 p0.Every), .sv (.int .i64 p0.Reach), .sv (.bool p0.Has), .sv (.int .i64 p0.Ref.Wide), .sv (.int .i64 p0.Ref.High), .sv (.str p0.Ref.Dots)]] [] (Yey r) (Yex r) := by
 refine Xae hT Tryz.func23 rfl fun C hC => ?_
 unfold Xg6 at h
 refine Xab ?_
 iterate 2 refine kO hT hC ?_
 refine Vc.nil (Xap ?_)
 refine kL [1] [16] [_] [_] ?_
 refine kA h (fun v1 => ([(47, .sv (.bool v1))], [])) (fun v1 h => ?_) fun v1 h => ?_
 refine Xb3 hm ?_
 iterate 2 refine kO hT hC ?_
 refine kC hC [] Tryz.call66 h (fun _ => Xwa) fun q2 h => ?_
 iterate 2 refine kO hT hC ?_
 refine kS h ?_ ?_ <;> intro b1 h
 iterate 4 refine kF hC b1 ?_
 refine kP hC true b1 ?_
 refine kO hT hC ?_
 iterate 4 refine kF hC rfl ?_
 iterate 2 refine kO hT hC ?_
 iterate 9 refine kF hC rfl ?_
 iterate 2 refine kO hT hC ?_
 iterate 4 refine kF hC rfl ?_
 iterate 2 refine kO hT hC ?_
 iterate 4 refine kF hC rfl ?_
 iterate 2 refine kO hT hC ?_
 iterate 4 refine kF hC rfl ?_
 refine kO hT hC ?_
 exact kD kM
 iterate 2 refine kI hT hC b1 ?_
 refine kE hC b1 [] Tryz.call67 h (fun _ => Xpy) fun q3 h => ?_
 refine kI hT hC b1 ?_
 refine kP hC false b1 ?_
 refine kO hT hC ?_
 refine kS h ?_ ?_ <;> intro b2 h
 iterate 2 refine kI hT hC (kn b2) ?_
 refine kE hC (kn b2) [] Tryz.call68 h (fun _ => Xr8) fun q4 h => ?_
 refine kI hT hC (kn b2) ?_
 refine kP hC false (kn b2) ?_
 refine kO hT hC ?_
 refine kS h ?_ ?_ <;> intro b3 h
 iterate 5 refine kI hT hC (kn b3) ?_
 refine kJ hT hC (kn b3) h fun h => ?_
 refine kI hT hC (kn b3) ?_
 refine kE hC (kn b3) [] Tryz.call69 h (fun _ => Xai) fun q5 h => ?_
 refine kI hT hC (kn b3) ?_
 refine kP hC false (kn b3) ?_
 refine kO hT hC ?_
 refine kS h ?_ ?_ <;> intro b4 h
 iterate 2 refine kI hT hC (kn b4) ?_
 refine kE hC (kn b4) [] Tryz.call69 h (fun _ => Xai) fun q6 h => ?_
 refine kI hT hC (kn b4) ?_
 refine kP hC false (kn b4) ?_
 refine kO hT hC ?_
 refine kS h ?_ ?_ <;> intro b5 h
 iterate 2 refine kI hT hC (kn b5) ?_
 refine kE hC (kn b5) [] Tryz.call69 h (fun _ => Xai) fun q7 h => ?_
 refine kI hT hC (kn b5) ?_
 refine kP hC false (kn b5) ?_
 refine kO hT hC ?_
 refine kS h ?_ ?_ <;> intro b6 h
 iterate 2 refine kI hT hC (kn b6) ?_
 refine kE hC (kn b6) [] Tryz.call69 h (fun _ => Xai) fun q8 h => ?_
 refine kI hT hC (kn b6) ?_
 refine kP hC false (kn b6) ?_
 exact kD kM
 iterate 4 refine kF hC (kn b6) ?_
 refine kP hC true (kn b6) ?_
 exact kD kM
 iterate 4 refine kF hC (kn b5) ?_
 refine kP hC true (kn b5) ?_
 refine kO hT hC ?_
 iterate 4 refine kF hC rfl ?_
 refine kO hT hC ?_
 exact kD kM
 iterate 4 refine kF hC (kn b4) ?_
 refine kP hC true (kn b4) ?_
 refine kO hT hC ?_
 iterate 4 refine kF hC rfl ?_
 iterate 2 refine kO hT hC ?_
 iterate 4 refine kF hC rfl ?_
 refine kO hT hC ?_
 exact kD kM
 iterate 9 refine kF hC (kn b3) ?_
 refine kP hC true (kn b3) ?_
 refine kO hT hC ?_
 iterate 4 refine kF hC rfl ?_
 iterate 2 refine kO hT hC ?_
 iterate 4 refine kF hC rfl ?_
 iterate 2 refine kO hT hC ?_
 iterate 4 refine kF hC rfl ?_
 refine kO hT hC ?_
 exact kD kM
 iterate 4 refine kF hC (kn b2) ?_
 refine kP hC true (kn b2) ?_
 refine kO hT hC ?_
 iterate 9 refine kF hC rfl ?_
 iterate 2 refine kO hT hC ?_
 iterate 4 refine kF hC rfl ?_
 iterate 2 refine kO hT hC ?_
 iterate 4 refine kF hC rfl ?_
 iterate 2 refine kO hT hC ?_
 iterate 4 refine kF hC rfl ?_
 refine kO hT hC ?_
 exact kD kM
 refine kS h ?_ ?_ <;> intro b7 h
 refine kt b7 (Xab ?_)
 refine kO hT hC ?_
 exact Vc.nil (Xah (Xar kR))
 refine kf b7 (Xag (Xaf (Xap (Xab ?_))))
 iterate 2 refine kO hT hC ?_
 refine Vc.nil ?_
 refine kS h ?_ ?_ <;> intro b8 h
 refine kt b8 (Xab ?_)
 iterate 4 refine kO hT hC ?_
 refine kC hC [] Tryz.call58 h (fun _ => Ygu) fun q9 h => ?_
 refine kO hT hC ?_
 exact Vc.nil (Xah (Xar kR))
 refine kf b8 (Xag (Xaf (Xab ?_)))
 iterate 3 refine kO hT hC ?_
 refine Zkc hC rfl rfl rfl rfl Zga rfl rfl ?_
 refine kO hT hC ?_
 exact Vc.nil (Xah kR)
def Ylx (r : Bool) : AV := .sv (.bool r)
def Ylw (r : Bool) : Xa1 := []
theorem Ypz {p0 p1 r} (h : Xqj p0 p1 = some r) : AC Tryz.prog 21 [.agg [.sv (.int .i64 p0.Seq.Level), .sv (.int .i64 p0.Seq.Bits), .sv (.ints .i64 p0.Seq.Cols), .sv (.ints .i64 p0.Seq.Rows), .sv (.int .i64 p0.Par.Qp), .sv (.bool p0.Par.Large), .sv (.bool p0.Par.Exact), .sv (.bool p0.Par.Confined), .sv (.int .i64 p0.Rate.Qp), .sv (.int .i64 p0.Rate.Target), .sv (.int .i64 p0.Rate.Debt), .sv (.int .i64 p0.Frame), .sv (.int .i64 p0.Since), .sv (.int .i64 p0.Every), .sv (.int .i64 p0.Reach), .sv (.bool p0.Has), .sv (.int .i64 p0.Ref.Wide), .sv (.int .i64 p0.Ref.High), .sv (.str p0.Ref.Dots)], .sv (.bool p1)] [] (Ylx r) (Ylw r) := by
 refine Xae hT Tryz.func21 rfl fun C hC => ?_
 unfold Xqj at h
 refine Xab ?_
 iterate 2 refine kO hT hC ?_
 refine Vc.nil ?_
 refine kL [1,2,4] [32] [_,_,_] [_] ?_
 refine kA h (fun v1 => ([(4, .sv (.bool v1)), (1, .any), (2, .any)], [(32, none)])) (fun v1 h => ?_) fun v1 h => ?_
 refine Xac ?_
 refine kO hT hC ?_
 refine kC hC [] Tryz.call23 h (fun _ => Xph) fun q2 h => ?_
 refine kO hT hC ?_
 refine kS h ?_ ?_ <;> intro b1 h
 iterate 2 refine kI hT hC b1 ?_
 refine kS h ?_ ?_ <;> intro b2 h
 iterate 3 refine kF hC b2 ?_
 refine Xbd hC rfl rfl rfl rfl b1 rfl rfl (b := true) b2 rfl rfl rfl trivial ?_
 refine kI hT hC b1 ?_
 iterate 5 refine kF hC rfl ?_
 refine Xbd hC rfl rfl rfl rfl b1 rfl rfl (b := true) rfl rfl rfl rfl trivial ?_
 refine kP hC true b1 ?_
 refine kO hT hC ?_
 exact Vc.nil kM
 iterate 3 refine kI hT hC b2 ?_
 refine Xbd hC rfl rfl rfl rfl b1 rfl rfl (b := false) b2 rfl rfl rfl trivial ?_
 refine kI hT hC b1 ?_
 refine kS h ?_ ?_ <;> intro b3 h
 iterate 5 refine kI hT hC (kn b3) ?_
 refine Xbd hC rfl rfl rfl rfl b1 rfl rfl (b := false) (kn b3) rfl rfl rfl trivial ?_
 refine kP hC true b1 ?_
 refine kO hT hC ?_
 exact Vc.nil kM
 iterate 5 refine kF hC (kn b3) ?_
 refine Xbd hC rfl rfl rfl rfl b1 rfl rfl (b := true) (kn b3) rfl rfl rfl trivial ?_
 refine kP hC true b1 ?_
 refine kO hT hC ?_
 exact Vc.nil kM
 iterate 2 refine kF hC b1 ?_
 iterate 3 refine Xep hC rfl rfl rfl rfl rfl rfl ?_
 iterate 2 refine kF hC b1 ?_
 iterate 5 refine Xep hC rfl rfl rfl rfl rfl rfl ?_
 refine kF hC b1 ?_
 refine kP hC false b1 ?_
 refine kO hT hC ?_
 exact Vc.nil kM
 exact Xah kR
def Xz8 (r : Xbc) : AV := .agg [.sv (.int .i64 r.Seq.Level), .sv (.int .i64 r.Seq.Bits), .own 16, .own 17, .sv (.int .i64 r.Par.Qp), .sv (.bool r.Par.Large), .sv (.bool r.Par.Exact), .sv (.bool r.Par.Confined), .sv (.int .i64 r.Rate.Qp), .sv (.int .i64 r.Rate.Target), .sv (.int .i64 r.Rate.Debt), .sv (.int .i64 r.Frame), .sv (.int .i64 r.Since), .sv (.int .i64 r.Every), .sv (.int .i64 r.Reach), .sv (.bool r.Has), .sv (.int .i64 r.Ref.Wide), .sv (.int .i64 r.Ref.High), .sv (.str r.Ref.Dots)]
def Xz7 (r : Xbc) : Xa1 := [(16, .ints .i64 r.Seq.Cols), (17, .ints .i64 r.Seq.Rows)]
theorem Xmp {p0 r} (h : Xe1 p0 = some r) : AC Tryz.prog 59 [.agg [.sv (.int .i64 p0.Seq.Level), .sv (.int .i64 p0.Seq.Bits), .sv (.ints .i64 p0.Seq.Cols), .sv (.ints .i64 p0.Seq.Rows), .sv (.int .i64 p0.Par.Qp), .sv (.bool p0.Par.Large), .sv (.bool p0.Par.Exact), .sv (.bool p0.Par.Confined), .sv (.int .i64 p0.Rate.Qp), .sv (.int .i64 p0.Rate.Target), .sv (.int .i64 p0.Rate.Debt), .sv (.int .i64 p0.Frame), .sv (.int .i64 p0.Since), .sv (.int .i64 p0.Every), .sv (.int .i64 p0.Reach), .sv (.bool p0.Has), .sv (.int .i64 p0.Ref.Wide), .sv (.int .i64 p0.Ref.High), .sv (.str p0.Ref.Dots)]] [] (Xz8 r) (Xz7 r) := by
 refine Xae hT Tryz.func59 rfl fun C hC => ?_
 unfold Xe1 at h
 refine Xab ?_
 iterate 2 refine kO hT hC ?_
 refine kN ?_
 iterate 2 refine kO hT hC ?_
 refine kC hC [(16, 80), (17, 81)] Tryz.call75 h (fun _ => Ymr) fun q1 h => ?_
 iterate 2 refine kO hT hC ?_
 refine kN ?_
 iterate 2 refine kO hT hC ?_
 refine Vc.nil (Xah ?_)
 obtain rfl := kj h
 exact Xbw (τ := ⟨[(2, .ptr 2000000 0)], [(16, some (.ints .i64 q1.Cols)), (17, some (.ints .i64 q1.Rows)), (2000000, some (.box [.sv (.int .i64 q1.Level), .sv (.int .i64 q1.Bits), .own 16, .own 17, .sv (.int .i64 p0.Par.Qp), .sv (.bool p0.Par.Large), .sv (.bool p0.Par.Exact), .sv (.bool p0.Par.Confined), .sv (.int .i64 p0.Rate.Qp), .sv (.int .i64 p0.Rate.Target), .sv (.int .i64 p0.Rate.Debt), .sv (.int .i64 p0.Frame), .sv (.int .i64 p0.Since), .sv (.int .i64 p0.Every), .sv (.int .i64 p0.Reach), .sv (.bool p0.Has), .sv (.int .i64 p0.Ref.Wide), .sv (.int .i64 p0.Ref.High), .sv (.str p0.Ref.Dots)]))]⟩) (kW hC [(16, 80), (17, 81), (2000000, 32)]) rfl ⟨rfl, rfl, trivial⟩
def Yp8 (r : Int) : AV := .sv (.int .i64 r)
def Yp7 (r : Int) : Xa1 := []
theorem Ytq {p0 p1 r} (h : Xs1 p0 p1 = some r) : AC Tryz.prog 60 [.agg [.sv (.int .i64 p0.Qp), .sv (.int .i64 p0.Target), .sv (.int .i64 p0.Debt)], .sv (.bool p1)] [] (Yp8 r) (Yp7 r) := by
 refine Xae hT Tryz.func60 rfl fun C hC => ?_
 unfold Xs1 at h
 refine Xab ?_
 iterate 2 refine kO hT hC ?_
 refine Vc.nil (Xap (Xak (Xab ?_)))
 refine kO hT hC ?_
 refine kC hC [] Tryz.call68 h (fun _ => Xr8) fun q1 h => ?_
 iterate 2 refine kO hT hC ?_
 refine Vc.nil ?_
 refine kS h ?_ ?_ <;> intro b1 h
 refine kt b1 (Xab ?_)
 refine kO hT hC ?_
 exact Vc.nil (Xah (Xfa (Xar kR)))
 refine kf b1 (Xab ?_)
 iterate 2 refine kO hT hC ?_
 refine Vc.nil ?_
 refine kS h ?_ ?_ <;> intro b2 h
 refine kt b2 (Xab ?_)
 iterate 5 refine kO hT hC ?_
 exact Vc.nil (Xah (Xfa (Xar kR)))
 refine kf b2 (Xag (Xam (Xaf (Xab ?_))))
 iterate 3 refine kO hT hC ?_
 exact Vc.nil (Xah kR)
def Yt2 (r : Int) : AV := .sv (.int .i64 r)
def Yt1 (r : Int) : Xa1 := []
theorem Xwf {p0 r} (h : Xo4 p0 = some r) : AC Tryz.prog 199 [.sv (.int .i64 p0)] [] (Yt2 r) (Yt1 r) := by
 refine Xae hT Tryz.func199 rfl fun C hC => ?_
 unfold Xo4 at h
 refine Xab ?_
 refine kO hT hC ?_
 refine kN ?_
 iterate 5 refine kO hT hC ?_
 exact Vc.nil (Xah kR)
def Ywi (r : Int) : AV := .sv (.int .i64 r)
def Ywh (r : Int) : Xa1 := []
theorem Xz9 {p0 p1 r} (h : Xru p0 p1 = some r) : AC Tryz.prog 169 [.sv (.ints .i64 p0), .sv (.ints .i64 p1)] [] (Ywi r) (Ywh r) := by
 refine Xae hT Tryz.func169 rfl fun C hC => ?_
 unfold Xru at h
 refine Xab ?_
 refine kO hT hC ?_
 refine kN ?_
 refine kO hT hC ?_
 refine Vc.nil (Xap (Xab ?_))
 iterate 3 refine kO hT hC ?_
 refine Vc.nil ?_
 refine kL [1,5,8,9,10] [] [_,_,_,_,_] [] ?_
 refine kX h (fun v3 => ([(5, .sv (.int .i64 v3.1)), (10, .sv (.int .i64 v3.2))], [])) (fun v6 => ([(5, .sv (.int .i64 v6)), (1, .any), (8, .any), (9, .any), (10, .any)], [])) (kW hC []) (fun v3 s h => ?_) fun v6 h => ?_
 unfold Xqp at h
 refine Xab ?_
 refine kO hT hC ?_
 refine Vc.nil (Xap ?_)
 refine kS h ?_ ?_ <;> intro b3 h
 refine kt b3 (Xag (Xaf (Xap (Xak (Xab ?_)))))
 refine kO hT hC ?_
 refine kQ hT hC h fun h => ?_
 iterate 3 refine kO hT hC ?_
 refine Vc.nil (Xac ?_)
 iterate 4 refine kO hT hC ?_
 refine kQ hT hC h fun h => ?_
 iterate 2 refine kO hT hC ?_
 refine kC hC [] Tryz.call199 h (fun _ => Xwf) fun q7 h => ?_
 iterate 2 refine kO hT hC ?_
 refine Vc.nil (Xam (Xaf (Xac ?_)))
 iterate 2 refine kO hT hC ?_
 exact Vc.nil kG
 exact kf b3 (Xan (Xat ku))
 refine Xaf (Xab ?_)
 iterate 2 refine kO hT hC ?_
 exact Vc.nil (Xah kR)
def Ycb (r : Int) : AV := .sv (.int .i64 r)
def Yca (r : Int) : Xa1 := []
theorem Ye8 {p0 r} (h : Xop p0 = some r) : AC Tryz.prog 174 [.sv (.int .i64 p0)] [] (Ycb r) (Yca r) := by
 refine Xae hT Tryz.func174 rfl fun C hC => ?_
 unfold Xop at h
 refine Xab ?_
 refine kO hT hC ?_
 refine kN ?_
 refine kO hT hC ?_
 refine Vc.nil (Xap ?_)
 refine kL [0,3] [] [_,_] [] ?_
 refine kX h (fun v2 => ([(0, .sv (.int .i64 v2.1)), (3, .sv (.int .i64 v2.2))], [])) (fun v4 => ([(3, .sv (.int .i64 v4)), (0, .any)], [])) (kW hC []) (fun v2 s h => ?_) fun v4 h => ?_
 unfold Xdb at h
 refine Xap (Xab ?_)
 iterate 2 refine kO hT hC ?_
 refine Vc.nil ?_
 refine kS h ?_ ?_ <;> intro b3 h
 refine kt b3 (Xag (Xaf (Xap (Xak (Xac ?_)))))
 iterate 3 refine kO hT hC ?_
 refine Vc.nil (Xam (Xaf (Xac ?_)))
 refine kO hT hC ?_
 refine kQ hT hC h fun h => ?_
 refine kO hT hC ?_
 exact Vc.nil kG
 exact kf b3 (Xan (Xat ku))
 refine Xaf (Xab ?_)
 iterate 2 refine kO hT hC ?_
 exact Vc.nil (Xah kR)
def Yqo (r : ByteArray) : AV := .sv (.str r)
def Yqn (r : ByteArray) : Xa1 := []
theorem Xp1 {p0 p1 r} (h : Xlv p0 p1 = some r) : AC Tryz.prog 128 [.sv (.int .i64 p0), .sv (.int .i64 p1)] [] (Yqo r) (Yqn r) := by
 refine Xae hT Tryz.func128 rfl fun C hC => ?_
 unfold Xlv at h
 refine Xab ?_
 refine kO hT hC ?_
 refine kN ?_
 refine kO hT hC ?_
 obtain ⟨hq, h⟩ := Xa0 h
 refine Ypi hT hC rfl rfl rfl rfl ⟨hq.1, hq.2.1, hq.2.2, by decide⟩ ?_
 refine kO hT hC ?_
 refine Vc.nil (Xap (Xab ?_))
 iterate 3 refine kO hT hC ?_
 refine Vc.nil ?_
 refine kL [0,5,6] [128] [_,_,_] [_] ?_
 refine kX h (fun v2 => ([(0, .sv (.int .i64 v2.1)), (6, .sv (.int .i64 v2.2.1))], [(128, some (.ints .u8 v2.2.2))])) (fun v4 => ([(0, .any), (6, .any)], [(128, some (.ints .u8 v4))])) (kW hC []) (fun v2 s h => ?_) fun v4 h => ?_
 unfold Xmr at h
 refine Xap (Xab ?_)
 iterate 2 refine kO hT hC ?_
 refine Vc.nil ?_
 refine kS h ?_ ?_ <;> intro b3 h
 refine kt b3 (Xag (Xaf (Xap (Xak (Xab ?_)))))
 iterate 6 refine kO hT hC ?_
 iterate 2 refine kQ hT hC h fun h => ?_
 refine Vc.nil (Xac ?_)
 refine kO hT hC ?_
 refine kQ hT hC h fun h => ?_
 refine kO hT hC ?_
 refine Vc.nil (Xam (Xaf (Xac ?_)))
 iterate 3 refine kO hT hC ?_
 exact Vc.nil kG
 exact kf b3 (Xan (Xat ku))
 refine Xaf (Xab ?_)
 iterate 3 refine kO hT hC ?_
 exact Vc.nil (Xah kR)
def Yyc (r : ByteArray) : AV := .sv (.str r)
def Yyb (r : ByteArray) : Xa1 := []
theorem Xhy {p0 r} (h : Xj5 p0 = some r) : AC Tryz.prog 127 [.sv (.int .i64 p0)] [] (Yyc r) (Yyb r) := by
 refine Xae hT Tryz.func127 rfl fun C hC => ?_
 unfold Xj5 at h
 refine Xab ?_
 refine kO hT hC ?_
 refine kN ?_
 iterate 4 refine kO hT hC ?_
 refine kC hC [] Tryz.call174 h (fun _ => Ye8) fun q1 h => ?_
 iterate 2 refine kO hT hC ?_
 refine kC hC [] Tryz.call128 h (fun _ => Xp1) fun q2 h => ?_
 refine kO hT hC ?_
 exact Vc.nil (Xah kR)
def Yqj (r : (ByteArray × Bool)) : AV := .tup [.sv (.str r.1), .sv (.bool r.2)]
def Yqi (r : (ByteArray × Bool)) : Xa1 := []
theorem Yb4 {p0 r} (h : Xqb p0 = some r) : AC Tryz.prog 173 [.sv (.int .i64 p0)] [] (Yqj r) (Yqi r) := by
 refine Xae hT Tryz.func173 rfl fun C hC => ?_
 unfold Xqb at h
 refine Xab ?_
 iterate 2 refine kO hT hC ?_
 refine Vc.nil (Xap (Xab ?_))
 refine kO hT hC ?_
 refine kC hC [] Tryz.call69 h (fun _ => Xai) fun q1 h => ?_
 refine kO hT hC ?_
 refine Vc.nil ?_
 refine kS h ?_ ?_ <;> intro b1 h
 refine kt b1 (Xab ?_)
 iterate 2 refine kO hT hC ?_
 exact Vc.nil (Xah (Xar kR))
 refine kf b1 (Xag (Xaf (Xab ?_)))
 refine kO hT hC ?_
 refine kC hC [] Tryz.call127 h (fun _ => Xhy) fun q2 h => ?_
 iterate 2 refine kO hT hC ?_
 exact Vc.nil (Xah kR)
def Ymm (r : Int) : AV := .sv (.int .i64 r)
def Yml (r : Int) : Xa1 := []
theorem Yqk {p0 r} (h : Xn0 p0 = some r) : AC Tryz.prog 191 [.sv (.int .i64 p0)] [] (Ymm r) (Yml r) := by
 refine Xae hT Tryz.func191 rfl fun C hC => ?_
 unfold Xn0 at h
 refine Xab ?_
 refine kO hT hC ?_
 refine kN ?_
 refine kO hT hC ?_
 refine kC hC [] Tryz.call173 h (fun _ => Yb4) fun q1 h => ?_
 iterate 5 refine kO hT hC ?_
 refine kN ?_
 iterate 3 refine kO hT hC ?_
 exact Vc.nil (Xah kR)
def Ybg (r : (Int × Int)) : AV := .tup [.sv (.int .i64 r.1), .sv (.int .i64 r.2)]
def Ybf (r : (Int × Int)) : Xa1 := []
theorem Yeg {p0 p1 r} (h : Xkb p0 p1 = some r) : AC Tryz.prog 165 [.sv (.ints .i64 p0), .agg [.sv (.ints .i64 p1.Above), .sv (.ints .i64 p1.Left), .sv (.int .i64 p1.Corner)]] [] (Ybg r) (Ybf r) := by
 refine Xae hT Tryz.func165 rfl fun C hC => ?_
 unfold Xkb at h
 refine Xab ?_
 iterate 3 refine kO hT hC ?_
 refine Vc.nil (Xap ?_)
 refine kL [0,3] [48] [_,_] [_] ?_
 refine kA h (fun v1 => ([(17, .sv (.bool v1))], [])) (fun v1 h => ?_) fun v1 h => ?_
 refine Xac ?_
 refine kO hT hC ?_
 refine kC hC [] Tryz.call190 h (fun _ => Xv3) fun q2 h => ?_
 iterate 2 refine kO hT hC ?_
 refine kS h ?_ ?_ <;> intro b1 h
 refine kI hT hC (kn b1) ?_
 refine kE hC (kn b1) [] Tryz.call163 h (fun _ => Xcb) fun q3 h => ?_
 refine kI hT hC (kn b1) ?_
 refine kP hC false (kn b1) ?_
 exact Vc.nil kM
 iterate 3 refine kF hC (kn b1) ?_
 refine kP hC true (kn b1) ?_
 exact Vc.nil kM
 refine kS h ?_ ?_ <;> intro b2 h
 refine kt b2 (Xab ?_)
 iterate 2 refine kO hT hC ?_
 exact Vc.nil (Xah (Xar kR))
 refine kf b2 (Xag (Xaf (Xab ?_)))
 iterate 2 refine kO hT hC ?_
 refine Vc.nil (Xap (Xab ?_))
 refine kO hT hC ?_
 refine Vc.nil ?_
 refine kL [0,3,6,7,8] [48] [_,_,_,_,_] [_] ?_
 refine kX h (fun v16 => ([(6, .sv (.int .i64 v16.1)), (7, .sv (.int .i64 v16.2.1)), (8, .sv (.int .i64 v16.2.2))], [])) (fun v23 => ([(6, .sv (.int .i64 v23.1)), (7, .sv (.int .i64 v23.2)), (0, .any), (3, .any), (8, .any)], [(48, none)])) (kW hC []) (fun v16 s h => ?_) fun v23 h => ?_
 unfold Xjj at h
 refine Xap (Xab ?_)
 iterate 2 refine kO hT hC ?_
 refine Vc.nil ?_
 refine kS h ?_ ?_ <;> intro b12 h
 refine kt b12 (Xag (Xaf ?_))
 refine kL [0,3,6,7,8] [48] [_,_,_,_,_] [_] ?_
 refine kA h (fun v24 => ([(6, .sv (.int .i64 v24.1)), (7, .sv (.int .i64 v24.2))], [])) (fun v24 h => ?_) fun v24 h => ?_
 refine Xak (Xab ?_)
 iterate 3 refine kO hT hC ?_
 refine kC hC [(16, 400)] Tryz.call168 h (fun _ => Xqh) fun q25 h => ?_
 refine kC hC [] Tryz.call169 h (fun _ => Xz9) fun q26 h => ?_
 refine kO hT hC ?_
 refine kC hC [] Tryz.call191 h (fun _ => Yqk) fun q27 h => ?_
 iterate 2 refine kO hT hC ?_
 refine Vc.nil ?_
 refine kL [0,3,6,7,8,9] [48] [_,_,_,_,_,_] [_] ?_
 refine kA h (fun v28 => ([(36, .sv (.bool v28))], [])) (fun v28 h => ?_) fun v28 h => ?_
 refine Xac ?_
 iterate 3 refine kO hT hC ?_
 refine kS h ?_ ?_ <;> intro b13 h
 iterate 3 refine kF hC b13 ?_
 refine kP hC true b13 ?_
 exact Vc.nil kM
 iterate 3 refine kI hT hC b13 ?_
 refine kP hC false b13 ?_
 exact Vc.nil kM
 refine kS h ?_ ?_ <;> intro b14 h
 refine kt b14 (Xac ?_)
 iterate 4 refine kO hT hC ?_
 exact Vc.nil (Xam kM)
 exact kf b14 (Xag (Xam kM))
 refine Xac ?_
 iterate 3 refine kO hT hC ?_
 exact Vc.nil kG
 exact kf b12 (Xan (Xat ku))
 refine Xaf (Xab ?_)
 iterate 4 refine kO hT hC ?_
 exact Vc.nil (Xah kR)
def Yfa (r : (List Int)) : AV := .own 16
def Ye9 (r : (List Int)) : Xa1 := [(16, .ints .i64 r)]
theorem Xu5 {p0 p1 r} (h : Xg8 p0 p1 = some r) : AC Tryz.prog 167 [.sv (.ints .i64 p0), .sv (.ints .i64 p1)] [] (Yfa r) (Ye9 r) := by
 refine Xae hT Tryz.func167 rfl fun C hC => ?_
 unfold Xg8 at h
 refine Xab ?_
 refine kO hT hC ?_
 refine kN ?_
 iterate 2 refine kO hT hC ?_
 refine Vc.nil (Xap (Xab ?_))
 iterate 3 refine kO hT hC ?_
 refine Vc.nil ?_
 refine kL [1,5,9,10,11] [128] [_,_,_,_,_] [_] ?_
 refine kX h (fun v2 => ([(11, .sv (.int .i64 v2.1))], [(128, some (.ints .i64 v2.2))])) (fun v4 => ([(1, .any), (9, .any), (10, .any), (11, .any)], [(128, some (.ints .i64 v4))])) (kW hC []) (fun v2 s h => ?_) fun v4 h => ?_
 unfold Xkx at h
 refine Xab ?_
 refine kO hT hC ?_
 refine Vc.nil (Xap ?_)
 refine kS h ?_ ?_ <;> intro b3 h
 refine kt b3 (Xag (Xaf (Xap (Xak (Xab ?_)))))
 refine kO hT hC ?_
 refine kQ hT hC h fun h => ?_
 iterate 3 refine kO hT hC ?_
 refine Vc.nil (Xac ?_)
 iterate 4 refine kO hT hC ?_
 refine kQ hT hC h fun h => ?_
 iterate 3 refine kO hT hC ?_
 refine kT hT hC h fun h => ?_
 refine kO hT hC ?_
 refine Vc.nil (Xam (Xaf (Xac ?_)))
 iterate 2 refine kO hT hC ?_
 refine Vc.nil ?_
 obtain rfl := kj h
 exact Xx7 (kW hC [(128, 384)])
 exact kf b3 (Xan (Xat ku))
 refine Xaf (Xab ?_)
 iterate 2 refine kO hT hC ?_
 refine Vc.nil (Xah ?_)
 obtain rfl := kj h
 exact Xbw (τ := ⟨[(4, .own 16)], [(16, some (.ints .i64 v4))]⟩) (kW hC [(16, 128)]) rfl ⟨rfl, trivial⟩
def Yh3 (r : ((List Int) × Bool)) : AV := .tup [.own 16, .sv (.bool r.2)]
def Yh2 (r : ((List Int) × Bool)) : Xa1 := [(16, .ints .i64 r.1)]
theorem Xql {p0 p1 r} (h : Xig p0 p1 = some r) : AC Tryz.prog 192 [.sv (.int .i64 p0), .sv (.ints .i64 p1)] [] (Yh3 r) (Yh2 r) := by
 refine Xae hT Tryz.func192 rfl fun C hC => ?_
 unfold Xig at h
 refine Xab ?_
 iterate 2 refine kO hT hC ?_
 refine kN ?_
 iterate 2 refine kO hT hC ?_
 refine Vc.nil (Xap ?_)
 refine kL [0,1,6] [144] [_,_,_] [_] ?_
 refine kA h (fun v1 => ([(23, .sv (.bool v1))], [])) (fun v1 h => ?_) fun v1 h => ?_
 refine Xac ?_
 iterate 3 refine kO hT hC ?_
 refine kS h ?_ ?_ <;> intro b1 h
 iterate 2 refine kI hT hC b1 ?_
 refine kP hC true b1 ?_
 refine kO hT hC ?_
 refine kS h ?_ ?_ <;> intro b2 h
 iterate 6 refine kF hC b2 ?_
 refine kP hC true b2 ?_
 exact Vc.nil kM
 iterate 6 refine kI hT hC b2 ?_
 refine kP hC false b2 ?_
 exact Vc.nil kM
 iterate 2 refine kF hC b1 ?_
 refine kP hC false b1 ?_
 refine kO hT hC ?_
 iterate 6 refine kI hT hC rfl ?_
 refine kO hT hC ?_
 exact Vc.nil kM
 refine kS h ?_ ?_ <;> intro b3 h
 refine kt b3 (Xab ?_)
 iterate 3 refine kO hT hC ?_
 refine Vc.nil (Xah (Xar ?_))
 obtain rfl := kj h
 exact Xbw (τ := ⟨[(4, .own 16), (5, .sv (.bool false))], [(16, some (.ints .i64 ([] : List Int)))]⟩) (kW hC [(16, 144)]) rfl ⟨rfl, trivial⟩
 refine kf b3 (Xag (Xaf (Xap (Xab ?_))))
 refine kO hT hC ?_
 refine kC hC [(16, 416)] Tryz.call223 h (fun _ => Xs7) fun q2 h => ?_
 iterate 2 refine kO hT hC ?_
 refine Vc.nil ?_
 refine kL [1,6,26,27,28] [144,416] [_,_,_,_,_] [_,_] ?_
 refine kX h (fun v4 => ([(28, .sv (.int .i64 v4.1))], [(144, some (.ints .i64 v4.2))])) (fun v6 => ([(1, .any), (26, .any), (27, .any), (28, .any)], [(144, some (.ints .i64 v6)), (416, none)])) (kW hC []) (fun v4 s h => ?_) fun v6 h => ?_
 unfold Xmj at h
 refine Xab ?_
 refine kO hT hC ?_
 refine Vc.nil (Xap ?_)
 refine kS h ?_ ?_ <;> intro b6 h
 refine kt b6 (Xag (Xaf (Xap (Xak (Xab ?_)))))
 iterate 2 refine kQ hT hC h fun h => ?_
 refine kO hT hC ?_
 refine Vc.nil (Xac ?_)
 iterate 3 refine kO hT hC ?_
 refine kQ hT hC h fun h => ?_
 iterate 2 refine kO hT hC ?_
 refine kT hT hC h fun h => ?_
 refine kO hT hC ?_
 refine Vc.nil (Xam (Xaf (Xac ?_)))
 iterate 2 refine kO hT hC ?_
 refine Vc.nil ?_
 obtain rfl := kj h
 exact Xx7 (kW hC [(144, 608)])
 exact kf b6 (Xan (Xat ku))
 refine Xaf (Xab ?_)
 iterate 3 refine kO hT hC ?_
 refine Vc.nil (Xah ?_)
 obtain rfl := kj h
 exact Xbw (τ := ⟨[(4, .own 16), (5, .sv (.bool true))], [(16, some (.ints .i64 v6))]⟩) (kW hC [(16, 144)]) rfl ⟨rfl, trivial⟩
def Ypv (r : (List Int)) : AV := .own 16
def Ypu (r : (List Int)) : Xa1 := [(16, .ints .i64 r)]
theorem Ytl {p0 r} (h : Xs0 p0 = some r) : AC Tryz.prog 193 [.sv (.ints .i64 p0)] [] (Ypv r) (Ypu r) := by
 refine Xae hT Tryz.func193 rfl fun C hC => ?_
 unfold Xs0 at h
 refine Xab ?_
 refine kO hT hC ?_
 refine Vc.nil (Xap (Xab ?_))
 refine kO hT hC ?_
 refine kC hC [] Tryz.call163 h (fun _ => Xcb) fun q1 h => ?_
 refine kO hT hC ?_
 refine Vc.nil ?_
 refine kS h ?_ ?_ <;> intro b1 h
 refine kt b1 (Xab ?_)
 iterate 2 refine kO hT hC ?_
 refine Vc.nil (Xah (Xar ?_))
 obtain rfl := kj h
 exact Xbw (τ := ⟨[(2, .own 16)], [(16, some (.ints .i64 ([] : List Int)))]⟩) (kW hC [(16, 96)]) rfl ⟨rfl, trivial⟩
 refine kf b1 (Xag (Xaf (Xab ?_)))
 refine kO hT hC ?_
 refine kC hC [(16, 128)] Tryz.call224 h (fun _ => Ygz) fun q2 h => ?_
 refine kO hT hC ?_
 refine Vc.nil (Xah ?_)
 obtain rfl := kj h
 exact Xbw (τ := ⟨[(2, .own 16)], [(16, some (.ints .i64 q2))]⟩) (kW hC [(16, 128)]) rfl ⟨rfl, trivial⟩
def Ym3 (r : Int) : AV := .sv (.int .i64 r)
def Ym2 (r : Int) : Xa1 := []
theorem Xyz {p0 p1 r} (h : Xqt p0 p1 = some r) : AC Tryz.prog 226 [.sv (.int .i64 p0), .sv (.int .i64 p1)] [] (Ym3 r) (Ym2 r) := by
 refine Xae hT Tryz.func226 rfl fun C hC => ?_
 unfold Xqt at h
 refine Xab ?_
 refine kO hT hC ?_
 refine Vc.nil (Xap (Xab ?_))
 iterate 2 refine kO hT hC ?_
 refine Vc.nil ?_
 refine kS h ?_ ?_ <;> intro b1 h
 refine kt b1 (Xab ?_)
 iterate 3 refine kO hT hC ?_
 exact Vc.nil (Xah (Xar kR))
 refine kf b1 (Xag (Xaf (Xab ?_)))
 iterate 2 refine kO hT hC ?_
 exact Vc.nil (Xah kR)
def Xzu (r : Int) : AV := .sv (.int .i64 r)
def Xzt (r : Int) : Xa1 := []
theorem Ybm {p0 p1 r} (h : Xie p0 p1 = some r) : AC Tryz.prog 194 [.sv (.int .i64 p0), .sv (.int .i64 p1)] [] (Xzu r) (Xzt r) := by
 refine Xae hT Tryz.func194 rfl fun C hC => ?_
 unfold Xie at h
 refine Xab ?_
 refine kO hT hC ?_
 refine Vc.nil (Xap ?_)
 refine kL [0,1] [] [_,_] [] ?_
 refine kA h (fun v1 => ([(13, .sv (.bool v1))], [])) (fun v1 h => ?_) fun v1 h => ?_
 refine Xac ?_
 refine kO hT hC ?_
 refine kC hC [] Tryz.call69 h (fun _ => Xai) fun q2 h => ?_
 iterate 2 refine kO hT hC ?_
 refine kS h ?_ ?_ <;> intro b1 h
 refine kI hT hC (kn b1) ?_
 refine kE hC (kn b1) [] Tryz.call69 h (fun _ => Xai) fun q3 h => ?_
 refine kI hT hC (kn b1) ?_
 refine kP hC false (kn b1) ?_
 exact Vc.nil kM
 iterate 3 refine kF hC (kn b1) ?_
 refine kP hC true (kn b1) ?_
 exact Vc.nil kM
 refine kS h ?_ ?_ <;> intro b2 h
 refine kt b2 (Xab ?_)
 refine kO hT hC ?_
 exact Vc.nil (Xah (Xar kR))
 refine kf b2 (Xag (Xaf (Xab ?_)))
 refine kO hT hC ?_
 refine kC hC [] Tryz.call225 h (fun _ => Xyq) fun q4 h => ?_
 refine kO hT hC ?_
 refine kN ?_
 refine kO hT hC ?_
 refine kC hC [] Tryz.call199 h (fun _ => Xwf) fun q5 h => ?_
 refine kO hT hC ?_
 refine kQ hT hC h fun h => ?_
 iterate 2 refine kO hT hC ?_
 refine kQ hT hC h fun h => ?_
 refine kO hT hC ?_
 refine kC hC [] Tryz.call226 h (fun _ => Xyz) fun q6 h => ?_
 refine kO hT hC ?_
 exact Vc.nil (Xah kR)
def Ylp (r : (Int × Int × Int × Int)) : AV := .agg [.sv (.int .i64 r.1), .sv (.int .i64 r.2.1), .sv (.int .i64 r.2.2.1), .sv (.int .i64 r.2.2.2)]
def Ylo (r : (Int × Int × Int × Int)) : Xa1 := []
theorem Xyj {p0 p1 p2 p3 r} (h : Xnv p0 p1 p2 p3 = some r) : AC Tryz.prog 228 [.sv (.int .i64 p0), .sv (.int .i64 p1), .sv (.int .i64 p2), .sv (.int .i64 p3)] [] (Ylp r) (Ylo r) := by
 refine Xae hT Tryz.func228 rfl fun C hC => ?_
 unfold Xnv at h
 refine Xab ?_
 refine kO hT hC ?_
 refine kN ?_
 iterate 34 refine kO hT hC ?_
 exact Vc.nil (Xah kR)
def Xqv (r : (List Int)) : AV := .own 16
def Xqu (r : (List Int)) : Xa1 := [(16, .ints .i64 r)]
theorem Xrk {p0 r} (h : Xef p0 = some r) : AC Tryz.prog 227 [.sv (.ints .i64 p0), .fn 228 []] [] (Xqv r) (Xqu r) := by
 refine Xae hT Tryz.func227 rfl fun C hC => ?_
 unfold Xef at h
 refine Xab ?_
 refine kO hT hC ?_
 refine kN ?_
 refine kO hT hC ?_
 refine kC hC [(16, 208)] Tryz.call135 h (fun _ => Xkw) fun q1 h => ?_
 refine kO hT hC ?_
 refine Vc.nil (Xap (Xab ?_))
 refine kO hT hC ?_
 refine Vc.nil ?_
 refine kL [1,5,6] [208] [_,_,_] [_] ?_
 refine kX h (fun v4 => ([(6, .sv (.int .i64 v4.1))], [(208, some (.ints .i64 v4.2))])) (fun v7 => ([(6, .any)], [(208, some (.ints .i64 v7))])) (kW hC []) (fun v4 s h => ?_) fun v7 h => ?_
 unfold Xj3 at h
 refine Xap (Xab ?_)
 iterate 2 refine kO hT hC ?_
 refine Vc.nil ?_
 refine kS h ?_ ?_ <;> intro b3 h
 refine kt b3 (Xag (Xaf (Xap (Xak ?_))))
 refine Xby hm ?_
 iterate 3 refine kO hT hC ?_
 iterate 2 refine kQ hT hC h fun h => ?_
 iterate 3 refine kO hT hC ?_
 iterate 2 refine kQ hT hC h fun h => ?_
 iterate 3 refine kO hT hC ?_
 iterate 2 refine kQ hT hC h fun h => ?_
 iterate 3 refine kO hT hC ?_
 iterate 2 refine kQ hT hC h fun h => ?_
 refine kC hC [] Tryz.call228 h (fun _ => Xyj) fun q8 h => ?_
 iterate 2 refine kO hT hC ?_
 refine kD ?_
 refine Xb3 hm ?_
 iterate 4 refine kO hT hC ?_
 refine kQ hT hC h fun h => ?_
 refine Zi5 hT hC rfl rfl rfl rfl rfl rfl rfl rfl rfl ?_
 obtain ⟨hq, h⟩ := Xa0 h
 refine Zgi hT hC rfl rfl rfl rfl rfl rfl rfl rfl rfl ⟨⟨trivial, hq.1⟩, hq.2⟩ ?_
 refine kD (Xam (Xaf (Xac ?_)))
 iterate 3 refine kO hT hC ?_
 exact Vc.nil kG
 exact kf b3 (Xan (Xat ku))
 refine Xaf (Xap (Xab ?_))
 refine kO hT hC ?_
 refine Vc.nil ?_
 refine kL [1,5,46] [208] [_,_,_] [_] ?_
 refine kX h (fun v17 => ([(46, .sv (.int .i64 v17.1))], [(208, some (.ints .i64 v17.2))])) (fun v25 => ([(1, .any), (46, .any)], [(208, some (.ints .i64 v25))])) (kW hC []) (fun v17 s h => ?_) fun v25 h => ?_
 unfold Xim at h
 refine Xab ?_
 refine kO hT hC ?_
 refine Vc.nil (Xap ?_)
 refine kS h ?_ ?_ <;> intro b12 h
 refine kt b12 (Xag (Xaf (Xap (Xak (Xab ?_)))))
 iterate 2 refine kO hT hC ?_
 refine Vc.nil ?_
 refine Xby hm ?_
 iterate 3 refine kO hT hC ?_
 iterate 2 refine kQ hT hC h fun h => ?_
 iterate 3 refine kO hT hC ?_
 iterate 2 refine kQ hT hC h fun h => ?_
 iterate 3 refine kO hT hC ?_
 iterate 2 refine kQ hT hC h fun h => ?_
 iterate 3 refine kO hT hC ?_
 iterate 2 refine kQ hT hC h fun h => ?_
 refine kC hC [] Tryz.call228 h (fun _ => Xyj) fun q26 h => ?_
 iterate 2 refine kO hT hC ?_
 refine kD (Xab ?_)
 iterate 2 refine kO hT hC ?_
 refine Vc.nil ?_
 refine kL [1,5,8,46,70,71] [208] [_,_,_,_,_,_] [_] ?_
 refine kX h (fun v28 => ([(71, .sv (.int .i64 v28.1))], [(208, some (.ints .i64 v28.2))])) (fun v30 => ([(8, .any), (70, .any), (71, .any)], [(208, some (.ints .i64 v30))])) (kW hC []) (fun v28 s h => ?_) fun v30 h => ?_
 unfold Xin at h
 refine Xab ?_
 refine kO hT hC ?_
 refine Vc.nil (Xap ?_)
 refine kS h ?_ ?_ <;> intro b15 h
 refine kt b15 (Xag (Xaf (Xap (Xak (Xab ?_)))))
 refine kO hT hC ?_
 obtain ⟨hq, h⟩ := Xa0 h
 refine Zi6 hT hC rfl rfl rfl rfl rfl rfl rfl hq ?_
 iterate 2 refine kO hT hC ?_
 refine Vc.nil (Xac ?_)
 iterate 6 refine kO hT hC ?_
 iterate 2 refine kQ hT hC h fun h => ?_
 refine Vc.nil (Xam (Xaf (Xac ?_)))
 iterate 2 refine kO hT hC ?_
 exact Vc.nil kG
 exact kf b15 (Xan (Xat ku))
 refine Xam (Xaf (Xac ?_))
 iterate 2 refine kO hT hC ?_
 exact Vc.nil kG
 exact kf b12 (Xan (Xat ku))
 refine Xaf (Xab ?_)
 iterate 2 refine kO hT hC ?_
 refine Vc.nil (Xah ?_)
 obtain rfl := kj h
 exact Xbw (τ := ⟨[(4, .own 16)], [(16, some (.ints .i64 v25))]⟩) (kW hC [(16, 208)]) rfl ⟨rfl, trivial⟩
def Ytn (r : (List Int)) : AV := .own 16
def Ytm (r : (List Int)) : Xa1 := [(16, .ints .i64 r)]
theorem Ywd {p0 r} (h : Xv4 p0 = some r) : AC Tryz.prog 196 [.sv (.ints .i64 p0)] [] (Ytn r) (Ytm r) := by
 refine Xae hT Tryz.func196 rfl fun C hC => ?_
 unfold Xv4 at h
 refine Xab ?_
 refine kO hT hC ?_
 refine Vc.nil (Xap (Xab ?_))
 refine kO hT hC ?_
 refine kC hC [] Tryz.call163 h (fun _ => Xcb) fun q1 h => ?_
 refine kO hT hC ?_
 refine Vc.nil ?_
 refine kS h ?_ ?_ <;> intro b1 h
 refine kt b1 (Xab ?_)
 iterate 2 refine kO hT hC ?_
 refine Vc.nil (Xah (Xar ?_))
 obtain rfl := kj h
 exact Xbw (τ := ⟨[(2, .own 16)], [(16, some (.ints .i64 ([] : List Int)))]⟩) (kW hC [(16, 96)]) rfl ⟨rfl, trivial⟩
 refine kf b1 (Xag (Xaf (Xab ?_)))
 refine kO hT hC ?_
 refine kC hC [(16, 128)] Tryz.call227 h (fun _ => Xrk) fun q2 h => ?_
 refine kO hT hC ?_
 refine Vc.nil (Xah ?_)
 obtain rfl := kj h
 exact Xbw (τ := ⟨[(2, .own 16)], [(16, some (.ints .i64 q2))]⟩) (kW hC [(16, 128)]) rfl ⟨rfl, trivial⟩
def Yh5 (r : Int) : AV := .sv (.int .i64 r)
def Yh4 (r : Int) : Xa1 := []
theorem Ymb {p0 p1 r} (h : Xo2 p0 p1 = some r) : AC Tryz.prog 229 [.sv (.int .i64 p0), .sv (.int .i64 p1)] [] (Yh5 r) (Yh4 r) := by
 refine Xae hT Tryz.func229 rfl fun C hC => ?_
 unfold Xo2 at h
 refine Xab ?_
 refine kO hT hC ?_
 refine Vc.nil (Xap ?_)
 refine kL [0,1] [] [_,_] [] ?_
 refine kA h (fun v1 => ([(13, .sv (.bool v1))], [])) (fun v1 h => ?_) fun v1 h => ?_
 refine Xac ?_
 refine kO hT hC ?_
 refine kC hC [] Tryz.call69 h (fun _ => Xai) fun q2 h => ?_
 iterate 2 refine kO hT hC ?_
 refine kS h ?_ ?_ <;> intro b1 h
 refine kI hT hC (kn b1) ?_
 refine kE hC (kn b1) [] Tryz.call69 h (fun _ => Xai) fun q3 h => ?_
 refine kI hT hC (kn b1) ?_
 refine kP hC false (kn b1) ?_
 exact Vc.nil kM
 iterate 3 refine kF hC (kn b1) ?_
 refine kP hC true (kn b1) ?_
 exact Vc.nil kM
 refine kS h ?_ ?_ <;> intro b2 h
 refine kt b2 (Xab ?_)
 refine kO hT hC ?_
 exact Vc.nil (Xah (Xar kR))
 refine kf b2 (Xag (Xaf (Xab ?_)))
 iterate 9 refine kO hT hC ?_
 refine Vc.nil ?_
 refine Xby hm ?_
 refine kO hT hC ?_
 refine kQ hT hC h fun h => ?_
 refine kO hT hC ?_
 refine kC hC [] Tryz.call253 h (fun _ => Xyl) fun q4 h => ?_
 iterate 2 refine kQ hT hC h fun h => ?_
 obtain ⟨hq, h⟩ := Xa0 h
 refine Zi8 hT hC rfl rfl rfl rfl rfl rfl hq ?_
 refine kO hT hC ?_
 exact kD (Xah kR)
def Xzy (r : Int) : AV := .sv (.int .i64 r)
def Xzx (r : Int) : Xa1 := []
theorem Ybw {p0 p1 p2 r} (h : Xii p0 p1 p2 = some r) : AC Tryz.prog 197 [.sv (.int .i64 p0), .sv (.int .i64 p1), .sv (.int .i64 p2)] [] (Xzy r) (Xzx r) := by
 refine Xae hT Tryz.func197 rfl fun C hC => ?_
 unfold Xii at h
 refine Xab ?_
 refine kO hT hC ?_
 refine Vc.nil (Xap ?_)
 refine kL [0,1,2] [] [_,_,_] [] ?_
 refine kA h (fun v1 => ([(20, .sv (.bool v1))], [])) (fun v1 h => ?_) fun v1 h => ?_
 refine Xac ?_
 refine kO hT hC ?_
 refine kC hC [] Tryz.call69 h (fun _ => Xai) fun q2 h => ?_
 iterate 2 refine kO hT hC ?_
 refine kS h ?_ ?_ <;> intro b1 h
 refine kI hT hC (kn b1) ?_
 refine kE hC (kn b1) [] Tryz.call69 h (fun _ => Xai) fun q3 h => ?_
 refine kI hT hC (kn b1) ?_
 refine kP hC false (kn b1) ?_
 refine kO hT hC ?_
 refine kS h ?_ ?_ <;> intro b2 h
 refine kI hT hC (kn b2) ?_
 refine kE hC (kn b2) [] Tryz.call69 h (fun _ => Xai) fun q4 h => ?_
 refine kI hT hC (kn b2) ?_
 refine kP hC false (kn b2) ?_
 exact Vc.nil kM
 iterate 3 refine kF hC (kn b2) ?_
 refine kP hC true (kn b2) ?_
 exact Vc.nil kM
 iterate 3 refine kF hC (kn b1) ?_
 refine kP hC true (kn b1) ?_
 refine kO hT hC ?_
 iterate 3 refine kF hC rfl ?_
 refine kO hT hC ?_
 exact Vc.nil kM
 refine kS h ?_ ?_ <;> intro b3 h
 refine kt b3 (Xab ?_)
 refine kO hT hC ?_
 exact Vc.nil (Xah (Xar kR))
 refine kf b3 (Xag (Xaf (Xab ?_)))
 refine kO hT hC ?_
 refine kQ hT hC h fun h => ?_
 refine kO hT hC ?_
 refine kQ hT hC h fun h => ?_
 refine kO hT hC ?_
 refine kN ?_
 refine kO hT hC ?_
 refine kC hC [] Tryz.call199 h (fun _ => Xwf) fun q5 h => ?_
 iterate 2 refine kO hT hC ?_
 refine kC hC [] Tryz.call229 h (fun _ => Ymb) fun q6 h => ?_
 iterate 2 refine kO hT hC ?_
 refine kQ hT hC h fun h => ?_
 iterate 2 refine kO hT hC ?_
 refine kQ hT hC h fun h => ?_
 refine kO hT hC ?_
 refine kC hC [] Tryz.call226 h (fun _ => Xyz) fun q7 h => ?_
 refine kO hT hC ?_
 exact Vc.nil (Xah kR)
def Yeq (r : ((List Int) × Bool)) : AV := .tup [.own 16, .sv (.bool r.2)]
def Yep (r : ((List Int) × Bool)) : Xa1 := [(16, .ints .i64 r.1)]
theorem Xu0 {p0 p1 r} (h : Xg5 p0 p1 = some r) : AC Tryz.prog 166 [.sv (.ints .i64 p0), .agg [.sv (.bool p1.Key), .sv (.int .i64 p1.Qp), .sv (.bool p1.Large), .sv (.bool p1.Exact)]] [] (Yeq r) (Yep r) := by
 refine Xae hT Tryz.func166 rfl fun C hC => ?_
 unfold Xg5 at h
 refine Xab ?_
 iterate 3 refine kO hT hC ?_
 refine Vc.nil (Xap ?_)
 refine kL [0,3] [48] [_,_] [_] ?_
 refine kA h (fun v1 => ([(26, .sv (.bool v1))], [])) (fun v1 h => ?_) fun v1 h => ?_
 refine Xac ?_
 refine kO hT hC ?_
 refine kC hC [] Tryz.call163 h (fun _ => Xcb) fun q2 h => ?_
 iterate 2 refine kO hT hC ?_
 refine kS h ?_ ?_ <;> intro b1 h
 refine kI hT hC (kn b1) ?_
 refine kE hC (kn b1) [] Tryz.call121 h (fun _ => Xhu) fun q3 h => ?_
 refine kI hT hC (kn b1) ?_
 refine kP hC false (kn b1) ?_
 exact Vc.nil kM
 iterate 3 refine kF hC (kn b1) ?_
 refine kP hC true (kn b1) ?_
 exact Vc.nil kM
 refine kS h ?_ ?_ <;> intro b2 h
 refine kt b2 (Xab ?_)
 iterate 3 refine kO hT hC ?_
 refine Vc.nil (Xah (Xar ?_))
 obtain rfl := kj h
 exact Xbw (τ := ⟨[(4, .own 16), (5, .sv (.bool false))], [(16, some (.ints .i64 ([] : List Int)))]⟩) (kW hC [(16, 432)]) rfl ⟨rfl, trivial⟩
 refine kf b2 (Xag (Xaf (Xap (Xab ?_))))
 iterate 2 refine kO hT hC ?_
 refine Vc.nil ?_
 refine kS h ?_ ?_ <;> intro b3 h
 refine kt b3 (Xab ?_)
 refine kO hT hC ?_
 refine kC hC [(16, 496)] Tryz.call192 h (fun _ => Xql) fun q4 h => ?_
 iterate 4 refine kO hT hC ?_
 refine Vc.nil (Xah (Xar ?_))
 obtain rfl := kj h
 exact Xbw (τ := ⟨[(4, .own 16), (5, .sv (.bool q4.2))], [(16, some (.ints .i64 q4.1))]⟩) (kW hC [(16, 496)]) rfl ⟨rfl, trivial⟩
 refine kf b3 (Xag (Xaf (Xap (Xab ?_))))
 iterate 2 refine kO hT hC ?_
 refine Vc.nil ?_
 refine kS h ?_ ?_ <;> intro b4 h
 refine kt b4 (Xab ?_)
 refine kO hT hC ?_
 refine kC hC [(16, 592)] Tryz.call193 h (fun _ => Ytl) fun q5 h => ?_
 refine kO hT hC ?_
 refine Vc.nil (Xap (Xab ?_))
 iterate 3 refine kO hT hC ?_
 refine Vc.nil ?_
 refine kL [3,6,38,39,40] [48,592] [_,_,_,_,_] [_,_] ?_
 refine kX h (fun v8 => ([(40, .sv (.int .i64 v8.1))], [(592, some (.ints .i64 v8.2))])) (fun v11 => ([(3, .any), (38, .any), (39, .any), (40, .any)], [(592, some (.ints .i64 v11)), (48, none)])) (kW hC []) (fun v8 s h => ?_) fun v11 h => ?_
 unfold Xkv at h
 refine Xab ?_
 refine kO hT hC ?_
 refine Vc.nil (Xap ?_)
 refine kS h ?_ ?_ <;> intro b7 h
 refine kt b7 (Xag (Xaf (Xap (Xak (Xab ?_)))))
 refine kO hT hC ?_
 iterate 2 refine kQ hT hC h fun h => ?_
 iterate 2 refine kO hT hC ?_
 refine Vc.nil (Xac ?_)
 iterate 5 refine kO hT hC ?_
 refine kC hC [] Tryz.call194 h (fun _ => Ybm) fun q12 h => ?_
 iterate 2 refine kQ hT hC h fun h => ?_
 refine Vc.nil (Xam (Xaf (Xac ?_)))
 iterate 2 refine kO hT hC ?_
 exact Vc.nil kG
 exact kf b7 (Xan (Xat ku))
 refine Xaf (Xab ?_)
 refine kO hT hC ?_
 refine kC hC [(16, 864)] Tryz.call192 h (fun _ => Xql) fun q14 h => ?_
 iterate 4 refine kO hT hC ?_
 refine Vc.nil (Xah (Xar ?_))
 obtain rfl := kj h
 exact Xbw (τ := ⟨[(4, .own 16), (5, .sv (.bool q14.2))], [(16, some (.ints .i64 q14.1))]⟩) (kW hC [(16, 864)]) rfl ⟨rfl, trivial⟩
 refine kf b4 (Xag (Xaf (Xab ?_)))
 iterate 2 refine kO hT hC ?_
 refine Vc.nil (Xap (Xab ?_))
 refine kO hT hC ?_
 refine Vc.nil ?_
 refine kL [0,3,9,58] [48,912] [_,_,_,_] [_,_] ?_
 refine kX h (fun v32 => ([(58, .sv (.int .i64 v32.1))], [(912, some (.ints .i64 v32.2))])) (fun v50 => ([(0, .any), (3, .any), (58, .any)], [(912, some (.ints .i64 v50)), (48, none)])) (kW hC []) (fun v32 s h => ?_) fun v50 h => ?_
 unfold Xnx at h
 refine Xab ?_
 refine kO hT hC ?_
 refine Vc.nil (Xap ?_)
 refine kS h ?_ ?_ <;> intro b22 h
 refine kt b22 (Xag (Xaf (Xap (Xak (Xab ?_)))))
 iterate 2 refine kO hT hC ?_
 refine kN ?_
 iterate 2 refine kO hT hC ?_
 refine Vc.nil (Xap (Xab ?_))
 refine kO hT hC ?_
 refine kC hC [(16, 1008)] Tryz.call195 h (fun _ => Xwb) fun q51 h => ?_
 iterate 2 refine kO hT hC ?_
 refine Vc.nil ?_
 refine kL [0,3,9,11,58,63,64,65] [48,912,976,1008] [_,_,_,_,_,_,_,_] [_,_,_,_] ?_
 refine kX h (fun v53 => ([(65, .sv (.int .i64 v53.1))], [(976, some (.ints .i64 v53.2))])) (fun v55 => ([(63, .any), (64, .any), (65, .any)], [(976, some (.ints .i64 v55)), (1008, none)])) (kW hC []) (fun v53 s h => ?_) fun v55 h => ?_
 unfold Xgf at h
 refine Xab ?_
 refine kO hT hC ?_
 refine Vc.nil (Xap ?_)
 refine kS h ?_ ?_ <;> intro b25 h
 refine kt b25 (Xag (Xaf (Xap (Xak (Xab ?_)))))
 iterate 2 refine kQ hT hC h fun h => ?_
 refine kO hT hC ?_
 refine Vc.nil (Xac ?_)
 iterate 3 refine kO hT hC ?_
 refine kQ hT hC h fun h => ?_
 iterate 2 refine kO hT hC ?_
 refine kT hT hC h fun h => ?_
 refine kO hT hC ?_
 refine Vc.nil (Xam (Xaf (Xac ?_)))
 iterate 2 refine kO hT hC ?_
 refine Vc.nil ?_
 obtain rfl := kj h
 exact Xx7 (kW hC [(976, 1200)])
 exact kf b25 (Xan (Xat ku))
 refine Xaf (Xab ?_)
 refine kO hT hC ?_
 refine kC hC [(16, 1248)] Tryz.call196 h (fun _ => Ywd) fun q57 h => ?_
 refine kO hT hC ?_
 refine Vc.nil (Xap (Xab ?_))
 iterate 3 refine kO hT hC ?_
 refine Vc.nil ?_
 refine kL [0,3,9,14,58,79,80,81] [48,912,1248] [_,_,_,_,_,_,_,_] [_,_,_] ?_
 refine kX h (fun v60 => ([(81, .sv (.int .i64 v60.1))], [(1248, some (.ints .i64 v60.2))])) (fun v63 => ([(79, .any), (80, .any), (81, .any)], [(1248, some (.ints .i64 v63))])) (kW hC []) (fun v60 s h => ?_) fun v63 h => ?_
 unfold Xjk at h
 refine Xab ?_
 refine kO hT hC ?_
 refine Vc.nil (Xap ?_)
 refine kS h ?_ ?_ <;> intro b28 h
 refine kt b28 (Xag (Xaf (Xap (Xak (Xab ?_)))))
 refine kO hT hC ?_
 iterate 2 refine kQ hT hC h fun h => ?_
 iterate 2 refine kO hT hC ?_
 refine Vc.nil (Xac ?_)
 iterate 6 refine kO hT hC ?_
 refine kC hC [] Tryz.call197 h (fun _ => Ybw) fun q64 h => ?_
 iterate 2 refine kQ hT hC h fun h => ?_
 refine Vc.nil (Xam (Xaf (Xac ?_)))
 iterate 2 refine kO hT hC ?_
 exact Vc.nil kG
 exact kf b28 (Xan (Xat ku))
 refine Xaf (Xab ?_)
 refine kO hT hC ?_
 refine kC hC [(16, 1552)] Tryz.call192 h (fun _ => Xql) fun q66 h => ?_
 iterate 5 refine kO hT hC ?_
 refine Vc.nil (Xac ?_)
 iterate 2 refine kO hT hC ?_
 refine kT hT hC h fun h => ?_
 refine kO hT hC ?_
 refine Vc.nil (Xam (Xaf (Xac ?_)))
 iterate 2 refine kO hT hC ?_
 refine Vc.nil ?_
 obtain rfl := kj h
 exact Xx7 (kW hC [(912, 1632)])
 exact kf b22 (Xan (Xat ku))
 refine Xaf (Xab ?_)
 iterate 3 refine kO hT hC ?_
 refine Vc.nil (Xah ?_)
 obtain rfl := kj h
 exact Xbw (τ := ⟨[(4, .own 16), (5, .sv (.bool true))], [(16, some (.ints .i64 v50))]⟩) (kW hC [(16, 912)]) rfl ⟨rfl, trivial⟩
def Yln (r : (Int × Bool)) : AV := .tup [.sv (.int .i64 r.1), .sv (.bool r.2)]
def Ylm (r : (Int × Bool)) : Xa1 := []
theorem Xyh {p0 r} (h : Xnu p0 = some r) : AC Tryz.prog 172 [.sv (.int .i64 p0)] [] (Yln r) (Ylm r) := by
 refine Xae hT Tryz.func172 rfl fun C hC => ?_
 unfold Xnu at h
 refine Xab ?_
 iterate 2 refine kO hT hC ?_
 refine Vc.nil (Xap (Xak (Xab ?_)))
 refine kO hT hC ?_
 refine kC hC [] Tryz.call69 h (fun _ => Xai) fun q1 h => ?_
 iterate 2 refine kO hT hC ?_
 refine Vc.nil ?_
 refine kS h ?_ ?_ <;> intro b1 h
 refine kt b1 (Xab ?_)
 iterate 2 refine kO hT hC ?_
 exact Vc.nil (Xah (Xfa (Xar kR)))
 refine kf b1 (Xab ?_)
 iterate 3 refine kO hT hC ?_
 refine Vc.nil ?_
 refine kS h ?_ ?_ <;> intro b2 h
 refine kt b2 (Xab ?_)
 iterate 5 refine kO hT hC ?_
 exact Vc.nil (Xah (Xfa (Xar kR)))
 refine kf b2 (Xag (Xam (Xaf (Xab ?_))))
 iterate 4 refine kO hT hC ?_
 exact Vc.nil (Xah kR)
def Yqa (r : (ByteArray × Bool)) : AV := .tup [.sv (.str r.1), .sv (.bool r.2)]
def Yp9 (r : (ByteArray × Bool)) : Xa1 := []
theorem Xpz {p0 r} (h : Xlo p0 = some r) : AC Tryz.prog 126 [.sv (.int .i64 p0)] [] (Yqa r) (Yp9 r) := by
 refine Xae hT Tryz.func126 rfl fun C hC => ?_
 unfold Xlo at h
 refine Xab ?_
 iterate 2 refine kO hT hC ?_
 refine kN ?_
 refine kO hT hC ?_
 refine kC hC [] Tryz.call172 h (fun _ => Xyh) fun q1 h => ?_
 iterate 5 refine kO hT hC ?_
 refine Vc.nil (Xap (Xab ?_))
 iterate 2 refine kO hT hC ?_
 refine Vc.nil ?_
 refine kS h ?_ ?_ <;> intro b1 h
 refine kt b1 (Xab ?_)
 iterate 2 refine kO hT hC ?_
 exact Vc.nil (Xah (Xar kR))
 refine kf b1 (Xag (Xaf (Xab ?_)))
 refine kO hT hC ?_
 refine kC hC [] Tryz.call173 h (fun _ => Yb4) fun q2 h => ?_
 iterate 4 refine kO hT hC ?_
 exact Vc.nil (Xah kR)
def Yl8 (r : Int) : AV := .sv (.int .i64 r)
def Yl7 (r : Int) : Xa1 := []
theorem Xyo {p0 r} (h : Xny p0 = some r) : AC Tryz.prog 200 [.sv (.int .i64 p0)] [] (Yl8 r) (Yl7 r) := by
 refine Xae hT Tryz.func200 rfl fun C hC => ?_
 unfold Xny at h
 refine Xab ?_
 refine kO hT hC ?_
 refine kN ?_
 refine kO hT hC ?_
 refine kC hC [] Tryz.call126 h (fun _ => Xpz) fun q1 h => ?_
 iterate 5 refine kO hT hC ?_
 refine kN ?_
 iterate 3 refine kO hT hC ?_
 exact Vc.nil (Xah kR)
def Yei (r : (Int × Int × Int)) : AV := .tup [.sv (.int .i64 r.1), .sv (.int .i64 r.2.1), .sv (.int .i64 r.2.2)]
def Yeh (r : (Int × Int × Int)) : Xa1 := []
theorem Yhe {p0 p1 p2 p3 p4 r} (h : Xeb p0 p1 p2 p3 p4 = some r) : AC Tryz.prog 170 [.agg [.sv (.int .i64 p0.Wide), .sv (.int .i64 p0.High), .sv (.str p0.Dots)], .sv (.ints .i64 p1), .sv (.int .i64 p2), .sv (.int .i64 p3), .sv (.int .i64 p4)] [] (Yei r) (Yeh r) := by
 refine Xae hT Tryz.func170 rfl fun C hC => ?_
 unfold Xeb at h
 refine Xab ?_
 iterate 4 refine kO hT hC ?_
 refine Vc.nil (Xap ?_)
 refine kL [1,2,3,4,5] [80] [_,_,_,_,_] [_] ?_
 refine kA h (fun v1 => ([(38, .sv (.bool v1))], [])) (fun v1 h => ?_) fun v1 h => ?_
 refine Xac ?_
 refine kO hT hC ?_
 refine kC hC [] Tryz.call42 h (fun _ => Xec) fun q2 h => ?_
 iterate 2 refine kO hT hC ?_
 refine kS h ?_ ?_ <;> intro b1 h
 refine kI hT hC (kn b1) ?_
 refine kE hC (kn b1) [] Tryz.call163 h (fun _ => Xcb) fun q3 h => ?_
 refine kI hT hC (kn b1) ?_
 refine kP hC false (kn b1) ?_
 refine kO hT hC ?_
 refine kS h ?_ ?_ <;> intro b2 h
 refine kI hT hC (kn b2) ?_
 refine kE hC (kn b2) [] Tryz.call69 h (fun _ => Xai) fun q4 h => ?_
 refine kI hT hC (kn b2) ?_
 refine kP hC false (kn b2) ?_
 refine kO hT hC ?_
 refine kS h ?_ ?_ <;> intro b3 h
 iterate 3 refine kI hT hC (kn b3) ?_
 refine kE hC (kn b3) [] Tryz.call162 h (fun _ => Xf9) fun q5 h => ?_
 refine kI hT hC (kn b3) ?_
 refine kP hC false (kn b3) ?_
 exact Vc.nil kM
 iterate 5 refine kF hC (kn b3) ?_
 refine kP hC true (kn b3) ?_
 exact Vc.nil kM
 iterate 3 refine kF hC (kn b2) ?_
 refine kP hC true (kn b2) ?_
 refine kO hT hC ?_
 iterate 5 refine kF hC rfl ?_
 refine kO hT hC ?_
 exact Vc.nil kM
 iterate 3 refine kF hC (kn b1) ?_
 refine kP hC true (kn b1) ?_
 refine kO hT hC ?_
 iterate 3 refine kF hC rfl ?_
 iterate 2 refine kO hT hC ?_
 iterate 5 refine kF hC rfl ?_
 refine kO hT hC ?_
 exact Vc.nil kM
 refine kS h ?_ ?_ <;> intro b4 h
 refine kt b4 (Xab ?_)
 iterate 3 refine kO hT hC ?_
 exact Vc.nil (Xah (Xar kR))
 refine kf b4 (Xag (Xaf (Xab ?_)))
 iterate 3 refine kO hT hC ?_
 refine Vc.nil (Xap (Xab ?_))
 iterate 3 refine kO hT hC ?_
 refine Vc.nil ?_
 refine kL [1,2,3,4,5,13,14,15,16] [80] [_,_,_,_,_,_,_,_,_] [_] ?_
 refine kX h (fun v33 => ([(13, .sv (.int .i64 v33.1)), (14, .sv (.int .i64 v33.2.1)), (15, .sv (.int .i64 v33.2.2.1)), (16, .sv (.int .i64 v33.2.2.2))], [])) (fun v61 => ([(13, .sv (.int .i64 v61.1)), (14, .sv (.int .i64 v61.2.1)), (15, .sv (.int .i64 v61.2.2)), (1, .any), (2, .any), (3, .any), (4, .any), (5, .any), (16, .any)], [(80, none)])) (kW hC []) (fun v33 s h => ?_) fun v61 h => ?_
 unfold Xgc at h
 refine Xap (Xab ?_)
 iterate 3 refine kO hT hC ?_
 refine Vc.nil ?_
 refine kS h ?_ ?_ <;> intro b31 h
 refine kt b31 (Xag (Xaf (Xap (Xak (Xab ?_)))))
 iterate 3 refine kO hT hC ?_
 refine Vc.nil ?_
 refine kL [1,2,3,4,5,13,14,15,16,17] [80] [_,_,_,_,_,_,_,_,_,_] [_] ?_
 refine kX h (fun v70 => ([(13, .sv (.int .i64 v70.1)), (14, .sv (.int .i64 v70.2.1)), (15, .sv (.int .i64 v70.2.2.1)), (17, .sv (.int .i64 v70.2.2.2))], [])) (fun v79 => ([(13, .sv (.int .i64 v79.1)), (14, .sv (.int .i64 v79.2.1)), (15, .sv (.int .i64 v79.2.2)), (17, .any)], [])) (kW hC []) (fun v70 s h => ?_) fun v79 h => ?_
 unfold Xc9 at h
 refine Xap (Xab ?_)
 iterate 3 refine kO hT hC ?_
 refine Vc.nil ?_
 refine kS h ?_ ?_ <;> intro b40 h
 refine kt b40 (Xag (Xaf ?_))
 refine kL [1,2,3,4,5,13,14,15,16,17] [80] [_,_,_,_,_,_,_,_,_,_] [_] ?_
 refine kA h (fun v80 => ([(13, .sv (.int .i64 v80.1)), (14, .sv (.int .i64 v80.2.1)), (15, .sv (.int .i64 v80.2.2))], [])) (fun v80 h => ?_) fun v80 h => ?_
 refine Xak (Xap (Xab ?_))
 iterate 8 refine kO hT hC ?_
 refine kC hC [] Tryz.call137 h (fun _ => Yer) fun q81 h => ?_
 refine kO hT hC ?_
 refine Vc.nil ?_
 refine kS h ?_ ?_ <;> intro b41 h
 exact kt b41 (Xan (Xat (Yla kM)))
 refine kf b41 (Xag (Xaf (Xab ?_)))
 iterate 8 refine kO hT hC ?_
 refine kC hC [(16, 1136)] Tryz.call123 h (fun _ => Xer) fun q82 h => ?_
 refine kC hC [] Tryz.call169 h (fun _ => Xz9) fun q83 h => ?_
 refine kO hT hC ?_
 refine kC hC [] Tryz.call200 h (fun _ => Xyo) fun q84 h => ?_
 iterate 2 refine kO hT hC ?_
 refine kC hC [] Tryz.call200 h (fun _ => Xyo) fun q85 h => ?_
 iterate 2 refine kO hT hC ?_
 refine Vc.nil ?_
 refine kL [1,2,3,4,5,13,14,15,16,17,18] [80] [_,_,_,_,_,_,_,_,_,_,_] [_] ?_
 refine kA h (fun v86 => ([(85, .sv (.bool v86))], [])) (fun v86 h => ?_) fun v86 h => ?_
 refine Xac ?_
 iterate 3 refine kO hT hC ?_
 refine kS h ?_ ?_ <;> intro b42 h
 iterate 3 refine kF hC b42 ?_
 refine kP hC true b42 ?_
 exact Vc.nil kM
 iterate 3 refine kI hT hC b42 ?_
 refine kP hC false b42 ?_
 exact Vc.nil kM
 refine kS h ?_ ?_ <;> intro b43 h
 refine kt b43 (Xac ?_)
 iterate 6 refine kO hT hC ?_
 exact Vc.nil (Xam kM)
 exact kf b43 (Xag (Xam kM))
 refine Xac ?_
 iterate 3 refine kO hT hC ?_
 exact Vc.nil kG
 exact kf b40 (Xan (Xat ku))
 refine Xam (Xaf (Xac ?_))
 iterate 3 refine kO hT hC ?_
 exact Vc.nil kG
 exact kf b31 (Xan (Xat ku))
 refine Xaf (Xab ?_)
 iterate 6 refine kO hT hC ?_
 exact Vc.nil (Xah kR)
def Yb0 (r : (Xau × (List Int) × Bool)) : AV := .tup [.agg [.sv (.int .i64 r.1.Kind), .sv (.int .i64 r.1.Mode), .sv (.int .i64 r.1.Dx), .sv (.int .i64 r.1.Dy), .own 16], .own 17, .sv (.bool r.2.2)]
def Ybz (r : (Xau × (List Int) × Bool)) : Xa1 := [(16, .ints .i64 r.1.Levels), (17, .ints .i64 r.2.1)]
theorem Yez {p0 p1 p2 p3 p4 p5 p6 r} (h : Xfv p0 p1 p2 p3 p4 p5 p6 = some r) : AC Tryz.prog 122 [.agg [.sv (.int .i64 p0.Wide), .sv (.int .i64 p0.High), .sv (.str p0.Dots)], .agg [.sv (.int .i64 p1.Wide), .sv (.int .i64 p1.High), .sv (.str p1.Dots)], .sv (.ints .i64 p2), .sv (.int .i64 p3), .sv (.int .i64 p4), .agg [.sv (.bool p5.Key), .sv (.int .i64 p5.Qp), .sv (.bool p5.Large), .sv (.bool p5.Exact)], .sv (.int .i64 p6)] [] (Yb0 r) (Ybz r) := by
 refine Xae hT Tryz.func122 rfl fun C hC => ?_
 unfold Xfv at h
 refine Xab ?_
 iterate 6 refine kO hT hC ?_
 refine Vc.nil (Xap ?_)
 refine kL [2,3,4,6,7,8,12,14] [112,128,192,224] [_,_,_,_,_,_,_,_] [_,_,_,_] ?_
 refine kA h (fun v1 => ([(51, .sv (.bool v1))], [])) (fun v1 h => ?_) fun v1 h => ?_
 refine Xac ?_
 refine kO hT hC ?_
 refine kC hC [] Tryz.call42 h (fun _ => Xec) fun q2 h => ?_
 iterate 2 refine kO hT hC ?_
 refine kS h ?_ ?_ <;> intro b1 h
 iterate 3 refine kI hT hC (kn b1) ?_
 refine kE hC (kn b1) [] Tryz.call162 h (fun _ => Xf9) fun q3 h => ?_
 refine kI hT hC (kn b1) ?_
 refine kP hC false (kn b1) ?_
 refine kO hT hC ?_
 refine kS h ?_ ?_ <;> intro b2 h
 refine kI hT hC (kn b2) ?_
 refine kE hC (kn b2) [] Tryz.call163 h (fun _ => Xcb) fun q4 h => ?_
 refine kI hT hC (kn b2) ?_
 refine kP hC false (kn b2) ?_
 refine kO hT hC ?_
 refine kS h ?_ ?_ <;> intro b3 h
 refine kI hT hC (kn b3) ?_
 refine kE hC (kn b3) [] Tryz.call121 h (fun _ => Xhu) fun q5 h => ?_
 refine kI hT hC (kn b3) ?_
 refine kP hC false (kn b3) ?_
 refine kO hT hC ?_
 refine kS h ?_ ?_ <;> intro b4 h
 refine kI hT hC (kn b4) ?_
 refine kE hC (kn b4) [] Tryz.call69 h (fun _ => Xai) fun q6 h => ?_
 refine kI hT hC (kn b4) ?_
 refine kP hC false (kn b4) ?_
 exact Vc.nil kM
 iterate 3 refine kF hC (kn b4) ?_
 refine kP hC true (kn b4) ?_
 exact Vc.nil kM
 iterate 3 refine kF hC (kn b3) ?_
 refine kP hC true (kn b3) ?_
 refine kO hT hC ?_
 iterate 3 refine kF hC rfl ?_
 refine kO hT hC ?_
 exact Vc.nil kM
 iterate 3 refine kF hC (kn b2) ?_
 refine kP hC true (kn b2) ?_
 refine kO hT hC ?_
 iterate 3 refine kF hC rfl ?_
 iterate 2 refine kO hT hC ?_
 iterate 3 refine kF hC rfl ?_
 refine kO hT hC ?_
 exact Vc.nil kM
 iterate 5 refine kF hC (kn b1) ?_
 refine kP hC true (kn b1) ?_
 refine kO hT hC ?_
 iterate 3 refine kF hC rfl ?_
 iterate 2 refine kO hT hC ?_
 iterate 3 refine kF hC rfl ?_
 iterate 2 refine kO hT hC ?_
 iterate 3 refine kF hC rfl ?_
 refine kO hT hC ?_
 exact Vc.nil kM
 refine kS h ?_ ?_ <;> intro b5 h
 refine kt b5 (Xab ?_)
 iterate 5 refine kO hT hC ?_
 refine Vc.nil (Xah (Xar ?_))
 obtain rfl := kj h
 refine Xbw (τ := ⟨[(14, .ptr 2000000 0), (15, .own 17), (16, .sv (.bool false))], [(16, some (.ints .i64 [])), (17, some (.ints .i64 ([] : List Int))), (2000000, some (.box [.sv (.int .i64 0), .sv (.int .i64 0), .sv (.int .i64 0), .sv (.int .i64 0), .own 16]))]⟩) ?_ rfl ⟨rfl, rfl, trivial⟩
 refine Xma hC 224 4 2817 (.ints .i64 []) rfl rfl rfl rfl rfl trivial ?_
 apply Xdk hC [(16, 2817), (17, 848), (2000000, 224)]
 exact co
 rfl
 decide
 rfl
 refine kf b5 (Xag (Xaf (Xap ?_)))
 refine kL [2,3,4,6,7,8,12,14] [112,128,192,224] [_,_,_,_,_,_,_,_] [_,_,_,_] ?_
 refine kA h (fun v7 => ([(75, .sv (.bool v7))], [])) (fun v7 h => ?_) fun v7 h => ?_
 refine Xac ?_
 iterate 4 refine kO hT hC ?_
 refine kS h ?_ ?_ <;> intro b6 h
 iterate 4 refine kF hC (kn b6) ?_
 iterate 5 refine Xep hC rfl rfl rfl rfl rfl rfl ?_
 iterate 2 refine kF hC (kn b6) ?_
 iterate 5 refine Xep hC rfl rfl rfl rfl rfl rfl ?_
 refine kF hC (kn b6) ?_
 refine kP hC false (kn b6) ?_
 exact Vc.nil kM
 refine kI hT hC (kn b6) ?_
 refine kE hC (kn b6) [] Tryz.call42 h (fun _ => Xec) fun q8 h => ?_
 iterate 2 refine kI hT hC (kn b6) ?_
 refine kS h ?_ ?_ <;> intro b7 h
 iterate 5 refine kI hT hC (kn b7) ?_
 refine Xbd hC rfl rfl rfl rfl (kn b6) rfl rfl (b := false) (kn b7) rfl rfl rfl trivial ?_
 refine kI hT hC (kn b6) ?_
 refine kS h ?_ ?_ <;> intro b8 h
 iterate 5 refine kF hC b8 ?_
 refine Xbd hC rfl rfl rfl rfl (kn b6) rfl rfl (b := true) b8 rfl rfl rfl trivial ?_
 refine kP hC true (kn b6) ?_
 exact Vc.nil kM
 iterate 5 refine kI hT hC b8 ?_
 refine Xbd hC rfl rfl rfl rfl (kn b6) rfl rfl (b := false) b8 rfl rfl rfl trivial ?_
 refine kP hC true (kn b6) ?_
 exact Vc.nil kM
 iterate 5 refine kF hC (kn b7) ?_
 refine Xbd hC rfl rfl rfl rfl (kn b6) rfl rfl (b := true) (kn b7) rfl rfl rfl trivial ?_
 refine kI hT hC (kn b6) ?_
 iterate 5 refine kF hC rfl ?_
 refine Xbd hC rfl rfl rfl rfl (kn b6) rfl rfl (b := true) rfl rfl rfl rfl trivial ?_
 refine kP hC true (kn b6) ?_
 exact Vc.nil kM
 refine kS h ?_ ?_ <;> intro b9 h
 refine kt b9 (Xab ?_)
 iterate 5 refine kO hT hC ?_
 refine Vc.nil (Xah (Xar ?_))
 obtain rfl := kj h
 refine Xbw (τ := ⟨[(14, .ptr 2000000 0), (15, .own 17), (16, .sv (.bool false))], [(16, some (.ints .i64 [])), (17, some (.ints .i64 ([] : List Int))), (2000000, some (.box [.sv (.int .i64 0), .sv (.int .i64 0), .sv (.int .i64 0), .sv (.int .i64 0), .own 16]))]⟩) ?_ rfl ⟨rfl, rfl, trivial⟩
 refine Xma hC 224 4 2818 (.ints .i64 []) rfl rfl rfl rfl rfl trivial ?_
 apply Xdk hC [(16, 2818), (17, 1232), (2000000, 224)]
 exact co
 rfl
 decide
 rfl
 refine kf b9 (Xag (Xaf (Xab ?_)))
 iterate 3 refine kO hT hC ?_
 refine kC hC [(16, 1312), (17, 1313)] Tryz.call164 h (fun _ => Xv2) fun q9 h => ?_
 iterate 6 refine kO hT hC ?_
 refine kN ?_
 iterate 2 refine kO hT hC ?_
 refine kC hC [] Tryz.call165 h (fun _ => Yeg) fun q10 h => ?_
 iterate 5 refine kO hT hC ?_
 refine kN ?_
 iterate 4 refine kO hT hC ?_
 refine Vc.nil ?_
 refine Xby hm ?_
 iterate 3 refine kO hT hC ?_
 refine kC hC [(16, 1552)] Tryz.call168 h (fun _ => Xqh) fun q11 h => ?_
 refine kC hC [(16, 1568)] Tryz.call167 h (fun _ => Xu5) fun q12 h => ?_
 refine kO hT hC ?_
 refine kC hC [(16, 1600)] Tryz.call166 h (fun _ => Xu0) fun q13 h => ?_
 iterate 5 refine kO hT hC ?_
 refine kD ?_
 refine kL [2,3,4,6,7,8,12,14,20,21] [112,128,192,224,336,1600] [_,_,_,_,_,_,_,_,_,_] [_,_,_,_,_,_] ?_
 refine kA h (fun v14 => ([(2, .any), (6, .any), (20, .any)], [(336, some (.box [.sv (.int .i64 v14.1), .sv (.int .i64 v14.2.1), .sv (.int .i64 v14.2.2.1), .sv (.int .i64 v14.2.2.2.1), .own 1600])), (1600, some (.ints .i64 v14.2.2.2.2))])) (fun v14 h => ?_) fun v14 h => ?_
 refine Xab ?_
 iterate 3 refine kO hT hC ?_
 refine Vc.nil ?_
 refine kS h ?_ ?_ <;> intro b10 h
 refine kt b10 (Xab ?_)
 iterate 4 refine kO hT hC ?_
 refine kC hC [(16, 1776)] Tryz.call123 h (fun _ => Xer) fun q15 h => ?_
 refine kC hC [] Tryz.call169 h (fun _ => Xz9) fun q16 h => ?_
 refine kO hT hC ?_
 refine Vc.nil ?_
 refine kS h ?_ ?_ <;> intro b11 h
 refine kt b11 (Xac ?_)
 iterate 2 refine kO hT hC ?_
 refine Vc.nil ?_
 obtain rfl := kj h
 refine Xgl ?_
 refine Xma hC 336 4 2819 (.ints .i64 []) rfl rfl rfl rfl rfl trivial ?_
 try dsimp only
 apply Xdk hC [(1600, 2819)]
 exact co
 rfl
 decide
 rfl
 refine kf b11 (Xab ?_)
 iterate 5 refine kO hT hC ?_
 refine kC hC [] Tryz.call170 h (fun _ => Yhe) fun q17 h => ?_
 iterate 7 refine kO hT hC ?_
 refine kN ?_
 iterate 3 refine kO hT hC ?_
 refine Vc.nil ?_
 refine kS h ?_ ?_ <;> intro b12 h
 refine kt b12 (Xab ?_)
 iterate 4 refine kO hT hC ?_
 refine Vc.nil ?_
 refine Xby hm ?_
 iterate 8 refine kO hT hC ?_
 refine kC hC [(16, 2240)] Tryz.call123 h (fun _ => Xer) fun q18 h => ?_
 refine kC hC [(16, 2256)] Tryz.call167 h (fun _ => Xu5) fun q19 h => ?_
 refine kO hT hC ?_
 refine kC hC [(16, 2288)] Tryz.call166 h (fun _ => Xu0) fun q20 h => ?_
 iterate 5 refine kO hT hC ?_
 refine kD ?_
 refine kL [3,4,7,8,12,14,21,22,23] [112,128,192,224,336,2288] [_,_,_,_,_,_,_,_,_] [_,_,_,_,_,_] ?_
 refine kA h (fun v21 => ([(157, .sv (.bool v21)), (22, .any), (23, .any)], [])) (fun v21 h => ?_) fun v21 h => ?_
 refine Xac ?_
 iterate 3 refine kO hT hC ?_
 refine kS h ?_ ?_ <;> intro b13 h
 iterate 2 refine kI hT hC b13 ?_
 refine kP hC true b13 ?_
 refine kO hT hC ?_
 refine kS h ?_ ?_ <;> intro b14 h
 iterate 2 refine kI hT hC b14 ?_
 refine kE hC b14 [] Tryz.call163 h (fun _ => Xcb) fun q22 h => ?_
 refine kP hC true b14 ?_
 exact Vc.nil kM
 iterate 3 refine kF hC b14 ?_
 refine kP hC false b14 ?_
 exact Vc.nil kM
 iterate 2 refine kF hC b13 ?_
 refine kP hC false b13 ?_
 refine kO hT hC ?_
 iterate 3 refine kF hC rfl ?_
 refine kO hT hC ?_
 exact Vc.nil kM
 refine kS h ?_ ?_ <;> intro b15 h
 refine kt b15 (Xac ?_)
 iterate 2 refine kO hT hC ?_
 refine Vc.nil ?_
 obtain rfl := kj h
 refine Xgl ?_
 refine Xma hC 336 4 2820 (.ints .i64 []) rfl rfl rfl rfl rfl trivial ?_
 try dsimp only
 apply Xdk hC [(1600, 2820)]
 exact co
 rfl
 decide
 rfl
 refine kf b15 (Xag ?_)
 obtain rfl := kj h
 exact Xgl (kW hC [(1600, 2288)])
 exact kf b12 (Xag kM)
 exact kf b10 (Xag kM)
 refine Xab ?_
 iterate 6 refine kO hT hC ?_
 refine kC hC [(16, 2656)] Tryz.call139 h (fun _ => Yby) fun q23 h => ?_
 iterate 5 refine kO hT hC ?_
 refine Vc.nil (Xap (Xab ?_))
 iterate 2 refine kO hT hC ?_
 refine Vc.nil ?_
 refine kS h ?_ ?_ <;> intro b16 h
 refine kt b16 (Xab ?_)
 iterate 5 refine kO hT hC ?_
 refine Vc.nil (Xah (Xar ?_))
 obtain rfl := kj h
 refine Xbw (τ := ⟨[(14, .ptr 2000000 0), (15, .own 17), (16, .sv (.bool false))], [(16, some (.ints .i64 [])), (17, some (.ints .i64 ([] : List Int))), (2000000, some (.box [.sv (.int .i64 0), .sv (.int .i64 0), .sv (.int .i64 0), .sv (.int .i64 0), .own 16]))]⟩) ?_ rfl ⟨rfl, rfl, trivial⟩
 refine Xma hC 224 4 2821 (.ints .i64 []) rfl rfl rfl rfl rfl trivial ?_
 apply Xdk hC [(16, 2821), (17, 2752), (2000000, 224)]
 exact co
 rfl
 decide
 rfl
 refine kf b16 (Xag (Xaf (Xab ?_)))
 iterate 5 refine kO hT hC ?_
 refine Vc.nil (Xah ?_)
 obtain rfl := kj h
 exact Xbw (τ := ⟨[(14, .ptr 2000000 0), (15, .own 17), (16, .sv (.bool true))], [(16, some (.ints .i64 v14.2.2.2.2)), (17, some (.ints .i64 q23.1)), (2000000, some (.box [.sv (.int .i64 v14.1), .sv (.int .i64 v14.2.1), .sv (.int .i64 v14.2.2.1), .sv (.int .i64 v14.2.2.2.1), .own 16]))]⟩) (kW hC [(16, 1600), (17, 2656), (2000000, 224)]) rfl ⟨rfl, rfl, trivial⟩
def Xpk (r : ((List Xau) × Pic × Bool)) : AV := .tup [.own 16, .agg [.sv (.int .i64 r.2.1.Wide), .sv (.int .i64 r.2.1.High), .sv (.str r.2.1.Dots)], .sv (.bool r.2.2)]
def Xpj (r : ((List Xau) × Pic × Bool)) : Xa1 := [(16, .row Xdr r.1)]
theorem Ymi {p0 p1 p2 p3 r} (h : Xlp p0 p1 p2 p3 = some r) : AC Tryz.prog 61 [.agg [.sv (.int .i64 p0.Wide), .sv (.int .i64 p0.High), .sv (.str p0.Dots)], .agg [.sv (.int .i64 p1.Wide), .sv (.int .i64 p1.High), .sv (.str p1.Dots)], .agg [.sv (.bool p2.Key), .sv (.int .i64 p2.Qp), .sv (.bool p2.Large), .sv (.bool p2.Exact)], .sv (.int .i64 p3)] [] (Xpk r) (Xpj r) := by
 refine Xae hT Tryz.func61 rfl fun C hC => ?_
 unfold Xlp at h
 refine Xab ?_
 iterate 6 refine kO hT hC ?_
 refine kN ?_
 iterate 2 refine kO hT hC ?_
 refine Vc.nil (Xap ?_)
 refine kL [3,4,5,6,9,11] [64,80,96,144,288] [_,_,_,_,_,_] [_,_,_,_,_] ?_
 refine kA h (fun v1 => ([(43, .sv (.bool v1))], [])) (fun v1 h => ?_) fun v1 h => ?_
 refine Xac ?_
 refine kO hT hC ?_
 refine kC hC [] Tryz.call42 h (fun _ => Xec) fun q2 h => ?_
 iterate 2 refine kO hT hC ?_
 refine kS h ?_ ?_ <;> intro b1 h
 iterate 2 refine kI hT hC (kn b1) ?_
 refine kE hC (kn b1) [] Tryz.call78 h (fun _ => Xyv) fun q3 h => ?_
 refine kI hT hC (kn b1) ?_
 refine kP hC false (kn b1) ?_
 refine kO hT hC ?_
 refine kS h ?_ ?_ <;> intro b2 h
 iterate 2 refine kI hT hC (kn b2) ?_
 refine kE hC (kn b2) [] Tryz.call78 h (fun _ => Xyv) fun q4 h => ?_
 refine kI hT hC (kn b2) ?_
 refine kP hC false (kn b2) ?_
 refine kO hT hC ?_
 refine kS h ?_ ?_ <;> intro b3 h
 refine kI hT hC (kn b3) ?_
 refine kE hC (kn b3) [] Tryz.call121 h (fun _ => Xhu) fun q5 h => ?_
 refine kI hT hC (kn b3) ?_
 refine kP hC false (kn b3) ?_
 refine kO hT hC ?_
 refine kS h ?_ ?_ <;> intro b4 h
 refine kI hT hC (kn b4) ?_
 refine kE hC (kn b4) [] Tryz.call69 h (fun _ => Xai) fun q6 h => ?_
 refine kI hT hC (kn b4) ?_
 refine kP hC false (kn b4) ?_
 exact Vc.nil kM
 iterate 3 refine kF hC (kn b4) ?_
 refine kP hC true (kn b4) ?_
 exact Vc.nil kM
 iterate 3 refine kF hC (kn b3) ?_
 refine kP hC true (kn b3) ?_
 refine kO hT hC ?_
 iterate 3 refine kF hC rfl ?_
 refine kO hT hC ?_
 exact Vc.nil kM
 iterate 4 refine kF hC (kn b2) ?_
 refine kP hC true (kn b2) ?_
 refine kO hT hC ?_
 iterate 3 refine kF hC rfl ?_
 iterate 2 refine kO hT hC ?_
 iterate 3 refine kF hC rfl ?_
 refine kO hT hC ?_
 exact Vc.nil kM
 iterate 4 refine kF hC (kn b1) ?_
 refine kP hC true (kn b1) ?_
 refine kO hT hC ?_
 iterate 4 refine kF hC rfl ?_
 iterate 2 refine kO hT hC ?_
 iterate 3 refine kF hC rfl ?_
 iterate 2 refine kO hT hC ?_
 iterate 3 refine kF hC rfl ?_
 refine kO hT hC ?_
 exact Vc.nil kM
 refine kS h ?_ ?_ <;> intro b5 h
 refine kt b5 (Xab ?_)
 iterate 5 refine kO hT hC ?_
 refine Vc.nil (Xah (Xar ?_))
 obtain rfl := kj h
 exact Xbw (τ := ⟨[(8, .own 16), (9, .ptr 2000001 0), (10, .sv (.bool false))], [(16, some (.row Xdr ([] : List Xau))), (2000001, some (.box [.sv (.int .i64 0), .sv (.int .i64 0), .sv (.str ⟨#[]⟩)]))]⟩) (kW hC [(16, 288), (2000001, 144)]) rfl ⟨rfl, trivial⟩
 refine kf b5 (Xag (Xaf (Xap ?_)))
 refine kL [3,4,5,6,9,11] [64,80,96,144,288] [_,_,_,_,_,_] [_,_,_,_,_] ?_
 refine kA h (fun v7 => ([(67, .sv (.bool v7))], [])) (fun v7 h => ?_) fun v7 h => ?_
 refine Xac ?_
 iterate 4 refine kO hT hC ?_
 refine kS h ?_ ?_ <;> intro b6 h
 iterate 4 refine kF hC (kn b6) ?_
 iterate 5 refine Xep hC rfl rfl rfl rfl rfl rfl ?_
 iterate 2 refine kF hC (kn b6) ?_
 iterate 5 refine Xep hC rfl rfl rfl rfl rfl rfl ?_
 refine kF hC (kn b6) ?_
 refine kP hC false (kn b6) ?_
 exact Vc.nil kM
 refine kI hT hC (kn b6) ?_
 refine kE hC (kn b6) [] Tryz.call42 h (fun _ => Xec) fun q8 h => ?_
 iterate 2 refine kI hT hC (kn b6) ?_
 refine kS h ?_ ?_ <;> intro b7 h
 iterate 5 refine kI hT hC (kn b7) ?_
 refine Xbd hC rfl rfl rfl rfl (kn b6) rfl rfl (b := false) (kn b7) rfl rfl rfl trivial ?_
 refine kI hT hC (kn b6) ?_
 refine kS h ?_ ?_ <;> intro b8 h
 iterate 5 refine kF hC b8 ?_
 refine Xbd hC rfl rfl rfl rfl (kn b6) rfl rfl (b := true) b8 rfl rfl rfl trivial ?_
 refine kP hC true (kn b6) ?_
 exact Vc.nil kM
 iterate 5 refine kI hT hC b8 ?_
 refine Xbd hC rfl rfl rfl rfl (kn b6) rfl rfl (b := false) b8 rfl rfl rfl trivial ?_
 refine kP hC true (kn b6) ?_
 exact Vc.nil kM
 iterate 5 refine kF hC (kn b7) ?_
 refine Xbd hC rfl rfl rfl rfl (kn b6) rfl rfl (b := true) (kn b7) rfl rfl rfl trivial ?_
 refine kI hT hC (kn b6) ?_
 iterate 5 refine kF hC rfl ?_
 refine Xbd hC rfl rfl rfl rfl (kn b6) rfl rfl (b := true) rfl rfl rfl rfl trivial ?_
 refine kP hC true (kn b6) ?_
 exact Vc.nil kM
 refine kS h ?_ ?_ <;> intro b9 h
 refine kt b9 (Xab ?_)
 iterate 5 refine kO hT hC ?_
 refine Vc.nil (Xah (Xar ?_))
 obtain rfl := kj h
 exact Xbw (τ := ⟨[(8, .own 16), (9, .ptr 2000001 0), (10, .sv (.bool false))], [(16, some (.row Xdr ([] : List Xau))), (2000001, some (.box [.sv (.int .i64 0), .sv (.int .i64 0), .sv (.str ⟨#[]⟩)]))]⟩) (kW hC [(16, 288), (2000001, 144)]) rfl ⟨rfl, trivial⟩
 refine kf b9 (Xag (Xaf (Xab ?_)))
 iterate 4 refine kO hT hC ?_
 refine kC hC [] Tryz.call115 h (fun _ => Ywe) fun q9 h => ?_
 iterate 2 refine kO hT hC ?_
 refine Vc.nil (Xap (Xab ?_))
 refine kO hT hC ?_
 refine Vc.nil ?_
 refine kL [3,4,5,6,9,11,12,13] [64,80,96,144,192,288] [_,_,_,_,_,_,_,_] [_,_,_,_,_,_] ?_
 obtain ⟨o56, hl, h⟩ := Xa8 h
 refine Xgn (fun v25 => ([(13, .sv (.int .i64 v25.1))], [(192, some (.box [.sv (.int .i64 v25.2.2.1), .sv (.int .i64 v25.2.2.2.1), .sv (.str v25.2.2.2.2)])), (288, some (.row Xdr v25.2.1))])) (fun v41 => ([(3, .any), (4, .any), (5, .any), (6, .any), (13, .any)], [(192, some (.box [.sv (.int .i64 v41.2.1), .sv (.int .i64 v41.2.2.1), .sv (.str v41.2.2.2)])), (288, some (.row Xdr v41.1)), (64, none), (80, none), (96, none)])) (fun r => Xrj C T Tryz.f61.results.toList (Xpk r) (Xpj r)) hl ?_ ?_ ?_ ?_
 try dsimp only
 apply Xdk hC []
 exact co
 rfl
 decide
 rfl
 intro v25 s hs
 have h := hs
 unfold Xfc at h
 refine Xap (Xab ?_)
 iterate 4 refine kO hT hC ?_
 refine Vc.nil ?_
 refine kS h ?_ ?_ <;> intro b24 h
 refine kt b24 (Xag (Xaf (Xap (Xak (Xab ?_)))))
 refine kO hT hC ?_
 refine Vc.nil ?_
 refine kL [3,4,5,6,9,11,12,13,14] [64,80,96,144,192,288] [_,_,_,_,_,_,_,_,_] [_,_,_,_,_,_] ?_
 obtain ⟨o55, hl, h⟩ := Xa8 h
 refine Xgn (fun v46 => ([(14, .sv (.int .i64 v46.1))], [(192, some (.box [.sv (.int .i64 v46.2.2.1), .sv (.int .i64 v46.2.2.2.1), .sv (.str v46.2.2.2.2)])), (288, some (.row Xdr v46.2.1))])) (fun v51 => ([(14, .any)], [(192, some (.box [.sv (.int .i64 v51.2.1), .sv (.int .i64 v51.2.2.1), .sv (.str v51.2.2.2)])), (288, some (.row Xdr v51.1))])) (fun r => Xrj C T Tryz.f61.results.toList (Xpk r) (Xpj r)) hl ?_ ?_ ?_ ?_
 try dsimp only
 apply Xdk hC []
 exact co
 rfl
 decide
 rfl
 intro v46 s hs
 have h := hs
 unfold Xfd at h
 refine Xap (Xab ?_)
 iterate 4 refine kO hT hC ?_
 refine Vc.nil ?_
 refine kS h ?_ ?_ <;> intro b29 h
 refine kt b29 (Xag (Xaf (Xap (Xak ?_))))
 refine Xby hm ?_
 iterate 5 refine kO hT hC ?_
 refine kC hC [(16, 1488)] Tryz.call123 h (fun _ => Xer) fun q52 h => ?_
 iterate 4 refine kO hT hC ?_
 obtain ⟨q53, hq, h⟩ := Xa8 h
 refine Yxr hC [(16, 1568), (17, 1569)] rfl rfl rfl rfl Tryz.call122 (Yez hq) rfl (by decide) trivial rfl (.inr ⟨rfl, ⟨trivial, trivial, trivial⟩⟩) rfl ?_
 iterate 8 refine kO hT hC ?_
 refine kD (Xap (Xab ?_))
 iterate 2 refine kO hT hC ?_
 refine Vc.nil ?_
 refine kS h ?_ ?_ <;> intro b30 h
 refine kt b30 (Xab ?_)
 iterate 5 refine kO hT hC ?_
 refine Vc.nil (Xah (Xar (Xfa (Xar ?_))))
 obtain rfl := kj h
 refine Xsj (Xsi ?_)
 refine Xbw (τ := ⟨[(8, .own 16), (9, .ptr 2000001 0), (10, .sv (.bool false))], [(16, some (.row Xdr ([] : List Xau))), (2000001, some (.box [.sv (.int .i64 0), .sv (.int .i64 0), .sv (.str ⟨#[]⟩)]))]⟩) ?_ rfl ⟨rfl, trivial⟩
 apply Xdk hC [(16, 1664), (2000001, 144)]
 exact co
 rfl
 decide
 rfl
 refine kf b30 (Xag (Xaf (Xab ?_)))
 iterate 3 refine kO hT hC ?_
 obtain ⟨hq, h⟩ := Xa0 h
 refine Ypi hT hC rfl rfl rfl rfl ⟨fun _ _ => rfl, by rw [Xxm]; exact hq⟩ ?_
 rw [Xxm]
 refine kO hT hC ?_
 refine Vc.nil (Xac ?_)
 iterate 4 refine kO hT hC ?_
 refine kC hC [] Tryz.call124 h (fun _ => Yya) fun q54 h => ?_
 refine kO hT hC ?_
 refine Vc.nil (Xam (Xaf (Xac ?_)))
 iterate 3 refine kO hT hC ?_
 refine Vc.nil ?_
 obtain rfl := kj h
 exact Xx7 (kW hC [(288, 1744)])
 exact kf b29 (Xan (Xat kb))
 intro v51 e
 subst e
 refine Xam (Xaf (Xac ?_))
 iterate 3 refine kO hT hC ?_
 exact Vc.nil kG
 intro r' σ' e hE
 subst e
 obtain rfl := kj h
 refine Xfa (Xar (Xsj (Xsi ?_)))
 exact hE
 exact kf b24 (Xan (Xat kb))
 intro v41 e
 subst e
 refine Xaf ?_
 refine Xby hm ?_
 iterate 5 refine kO hT hC ?_
 refine kD (Xah ?_)
 obtain rfl := kj h
 exact Xbw (τ := ⟨[(8, .own 16), (9, .ptr 2000001 0), (10, .sv (.bool true))], [(16, some (.row Xdr v41.1)), (2000001, some (.box [.sv (.int .i64 v41.2.1), .sv (.int .i64 v41.2.2.1), .sv (.str v41.2.2.2)]))]⟩) (kW hC [(16, 288), (2000001, 144)]) rfl ⟨rfl, trivial⟩
 intro r' σ' e hE
 subst e
 obtain rfl := kj h
 refine Xar ?_
 exact hE
def Yhp (r : (ByteArray × Bool)) : AV := .tup [.sv (.str r.1), .sv (.bool r.2)]
def Yho (r : (ByteArray × Bool)) : Xa1 := []
theorem Yls {p0 p1 p2 r} (h : Xo0 p0 p1 p2 = some r) : AC Tryz.prog 62 [.agg [.sv (.int .i64 p0.Level), .sv (.int .i64 p0.Bits), .sv (.ints .i64 p0.Cols), .sv (.ints .i64 p0.Rows)], .agg [.sv (.int .i64 p1.Qp), .sv (.bool p1.Large), .sv (.bool p1.Exact), .sv (.bool p1.Confined)], .agg [.sv (.int .i64 p2.Tile), .sv (.int .i64 p2.Frame), .sv (.int .i64 p2.Qp)]] [] (Yhp r) (Yho r) := by
 refine Xae hT Tryz.func62 rfl fun C hC => ?_
 unfold Xo0 at h
 refine Xab ?_
 iterate 5 refine kO hT hC ?_
 refine Vc.nil (Xap (Xab ?_))
 iterate 3 refine kO hT hC ?_
 refine kC hC [] Tryz.call125 h (fun _ => Ypx) fun q1 h => ?_
 refine kO hT hC ?_
 refine Vc.nil ?_
 refine kS h ?_ ?_ <;> intro b1 h
 refine kt b1 (Xab ?_)
 iterate 2 refine kO hT hC ?_
 exact Vc.nil (Xah (Xar kR))
 refine kf b1 (Xag (Xaf (Xab ?_)))
 iterate 5 refine kO hT hC ?_
 refine kC hC [] Tryz.call126 h (fun _ => Xpz) fun q2 h => ?_
 iterate 5 refine kO hT hC ?_
 refine Vc.nil ?_
 refine Xby hm ?_
 iterate 2 refine kO hT hC ?_
 refine kC hC [] Tryz.call127 h (fun _ => Xhy) fun q3 h => ?_
 iterate 4 refine kO hT hC ?_
 refine kC hC [] Tryz.call128 h (fun _ => Xp1) fun q4 h => ?_
 refine kQ hT hC h fun h => ?_
 refine kO hT hC ?_
 refine kQ hT hC h fun h => ?_
 iterate 2 refine kO hT hC ?_
 exact kD (Xah kR)
def Ytx (r : (List Int)) : AV := .own 16
def Ytw (r : (List Int)) : Xa1 := [(16, .ints .u8 r)]
theorem Ygx {p0 r} (h : Xs6 p0 = some r) : AC Tryz.prog 202 [.sv (.ints .i64 p0)] [] (Ytx r) (Ytw r) := by
 refine Xae hT Tryz.func202 rfl fun C hC => ?_
 unfold Xs6 at h
 refine Xab ?_
 refine kO hT hC ?_
 refine kN ?_
 iterate 2 refine kO hT hC ?_
 refine kN ?_
 refine kO hT hC ?_
 refine Vc.nil (Xap (Xab ?_))
 iterate 3 refine kO hT hC ?_
 refine Vc.nil ?_
 refine kL [0,3,4,13,14,15] [192] [_,_,_,_,_,_] [_] ?_
 refine kX h (fun v3 => ([(4, .sv (.int .i64 v3.1)), (15, .sv (.int .i64 v3.2))], [])) (fun v6 => ([(4, .sv (.int .i64 v6)), (13, .any), (14, .any), (15, .any)], [])) (kW hC []) (fun v3 s h => ?_) fun v6 h => ?_
 unfold Xls at h
 refine Xab ?_
 refine kO hT hC ?_
 refine Vc.nil (Xap ?_)
 refine kS h ?_ ?_ <;> intro b5 h
 refine kt b5 (Xag (Xaf ?_))
 refine kL [0,3,4,13,14,15] [192] [_,_,_,_,_,_] [_] ?_
 refine kA h (fun v7 => ([(4, .sv (.int .i64 v7))], [])) (fun v7 h => ?_) fun v7 h => ?_
 refine Xak (Xab ?_)
 refine kQ hT hC h fun h => ?_
 iterate 2 refine kO hT hC ?_
 refine kN ?_
 iterate 2 refine kO hT hC ?_
 refine Vc.nil ?_
 refine kS h ?_ ?_ <;> intro b6 h
 refine kt b6 (Xac ?_)
 iterate 3 refine kO hT hC ?_
 exact Vc.nil (Xam kM)
 exact kf b6 (Xag (Xam kM))
 refine Xac ?_
 iterate 2 refine kO hT hC ?_
 exact Vc.nil kG
 exact kf b5 (Xan (Xat ku))
 refine Xaf (Xab ?_)
 iterate 2 refine kO hT hC ?_
 refine kC hC [] Tryz.call127 h (fun _ => Xhy) fun q9 h => ?_
 refine kT hT hC h fun h => ?_
 refine kO hT hC ?_
 refine kN ?_
 refine kO hT hC ?_
 refine Vc.nil (Xap (Xab ?_))
 iterate 3 refine kO hT hC ?_
 refine Vc.nil ?_
 refine kL [3,7,28,29,30] [432] [_,_,_,_,_] [_] ?_
 refine kX h (fun v15 => ([(7, .sv (.int .i64 v15.1)), (30, .sv (.int .i64 v15.2.1))], [(432, some (.ints .u8 v15.2.2))])) (fun v21 => ([(7, .any), (28, .any), (29, .any), (30, .any)], [(432, some (.ints .u8 v21))])) (kW hC []) (fun v15 s h => ?_) fun v21 h => ?_
 unfold Xlt at h
 refine Xab ?_
 refine kO hT hC ?_
 refine Vc.nil (Xap ?_)
 refine kS h ?_ ?_ <;> intro b11 h
 refine kt b11 (Xag (Xaf ?_))
 refine kL [3,7,28,29,30] [432] [_,_,_,_,_] [_] ?_
 refine kA h (fun v22 => ([(7, .sv (.int .i64 v22.1))], [(432, some (.ints .u8 v22.2))])) (fun v22 h => ?_) fun v22 h => ?_
 refine Xak (Xab ?_)
 refine kQ hT hC h fun h => ?_
 iterate 2 refine kO hT hC ?_
 refine Vc.nil (Xap (Xab ?_))
 iterate 2 refine kO hT hC ?_
 refine Vc.nil ?_
 refine kS h ?_ ?_ <;> intro b12 h
 refine kt b12 (Xab ?_)
 iterate 3 refine kO hT hC ?_
 exact Vc.nil (Xan (Xat (Yla kM)))
 refine kf b12 (Xag (Xaf (Xab ?_)))
 refine kO hT hC ?_
 refine kC hC [] Tryz.call172 h (fun _ => Xyh) fun q23 h => ?_
 iterate 5 refine kO hT hC ?_
 refine kN ?_
 iterate 2 refine kO hT hC ?_
 refine kC hC [] Tryz.call127 h (fun _ => Xhy) fun q24 h => ?_
 refine kT hT hC h fun h => ?_
 refine kO hT hC ?_
 refine kC hC [] Tryz.call127 h (fun _ => Xhy) fun q25 h => ?_
 refine kT hT hC h fun h => ?_
 refine kO hT hC ?_
 refine Vc.nil (Xac ?_)
 refine kO hT hC ?_
 refine Vc.nil (Xam ?_)
 obtain rfl := kj h
 exact Xgl (kW hC [(432, 784)])
 refine Xac ?_
 iterate 2 refine kO hT hC ?_
 exact Vc.nil kG
 exact kf b11 (Xan (Xat ku))
 refine Xaf (Xab ?_)
 iterate 2 refine kO hT hC ?_
 refine Vc.nil (Xah ?_)
 obtain rfl := kj h
 exact Xbw (τ := ⟨[(2, .own 16)], [(16, some (.ints .u8 v21))]⟩) (kW hC [(16, 432)]) rfl ⟨rfl, trivial⟩
def Ycd (r : (List Int)) : AV := .own 16
def Ycc (r : (List Int)) : Xa1 := [(16, .ints .u8 r)]
theorem Xs4 {p0 p1 r} (h : Xhw p0 p1 = some r) : AC Tryz.prog 177 [.sv (.ints .i64 p0), .agg [.sv (.bool p1.Key), .sv (.int .i64 p1.Qp), .sv (.bool p1.Large), .sv (.bool p1.Exact)]] [] (Ycd r) (Ycc r) := by
 refine Xae hT Tryz.func177 rfl fun C hC => ?_
 unfold Xhw at h
 refine Xab ?_
 iterate 2 refine kO hT hC ?_
 refine Vc.nil (Xap ?_)
 refine kL [0,3] [48] [_,_] [_] ?_
 refine kA h (fun v1 => ([(12, .sv (.bool v1)), (3, .any)], [(48, none)])) (fun v1 h => ?_) fun v1 h => ?_
 refine Xac ?_
 iterate 3 refine kO hT hC ?_
 refine kS h ?_ ?_ <;> intro b1 h
 iterate 2 refine kF hC b1 ?_
 refine kP hC true b1 ?_
 exact Vc.nil kM
 iterate 2 refine kI hT hC b1 ?_
 refine kP hC false b1 ?_
 exact Vc.nil kM
 refine kS h ?_ ?_ <;> intro b2 h
 refine kt b2 (Xab ?_)
 refine kO hT hC ?_
 refine kC hC [(16, 224)] Tryz.call202 h (fun _ => Ygx) fun q2 h => ?_
 refine kO hT hC ?_
 refine Vc.nil (Xah (Xar ?_))
 obtain rfl := kj h
 exact Xbw (τ := ⟨[(4, .own 16)], [(16, some (.ints .u8 q2))]⟩) (kW hC [(16, 224)]) rfl ⟨rfl, trivial⟩
 refine kf b2 (Xag (Xaf (Xab ?_)))
 iterate 2 refine kO hT hC ?_
 refine Vc.nil (Xap (Xab ?_))
 refine kO hT hC ?_
 refine Vc.nil ?_
 refine kL [0,5,16] [240] [_,_,_] [_] ?_
 refine kX h (fun v5 => ([(16, .sv (.int .i64 v5.1))], [(240, some (.ints .u8 v5.2))])) (fun v8 => ([(0, .any), (16, .any)], [(240, some (.ints .u8 v8))])) (kW hC []) (fun v5 s h => ?_) fun v8 h => ?_
 unfold Xdc at h
 refine Xab ?_
 refine kO hT hC ?_
 refine Vc.nil (Xap ?_)
 refine kS h ?_ ?_ <;> intro b5 h
 refine kt b5 (Xag (Xaf (Xap (Xak (Xab ?_)))))
 iterate 2 refine kO hT hC ?_
 refine Vc.nil (Xac ?_)
 iterate 7 refine kO hT hC ?_
 refine kQ hT hC h fun h => ?_
 refine kC hC [(16, 432)] Tryz.call202 h (fun _ => Ygx) fun q9 h => ?_
 refine kT hT hC h fun h => ?_
 refine kO hT hC ?_
 refine Vc.nil (Xam (Xaf (Xac ?_)))
 iterate 2 refine kO hT hC ?_
 refine Vc.nil ?_
 obtain rfl := kj h
 exact Xx7 (kW hC [(240, 448)])
 exact kf b5 (Xan (Xat ku))
 refine Xaf (Xab ?_)
 iterate 2 refine kO hT hC ?_
 refine Vc.nil (Xah ?_)
 obtain rfl := kj h
 exact Xbw (τ := ⟨[(4, .own 16)], [(16, some (.ints .u8 v8))]⟩) (kW hC [(16, 240)]) rfl ⟨rfl, trivial⟩
def Yb2 (r : (ByteArray × Bool)) : AV := .tup [.sv (.str r.1), .sv (.bool r.2)]
def Yb1 (r : (ByteArray × Bool)) : Xa1 := []
theorem Ye2 {p0 p1 r} (h : Xkg p0 p1 = some r) : AC Tryz.prog 129 [.agg [.sv (.int .i64 p0.Kind), .sv (.int .i64 p0.Mode), .sv (.int .i64 p0.Dx), .sv (.int .i64 p0.Dy), .sv (.ints .i64 p0.Levels)], .agg [.sv (.bool p1.Key), .sv (.int .i64 p1.Qp), .sv (.bool p1.Large), .sv (.bool p1.Exact)]] [] (Yb2 r) (Yb1 r) := by
 refine Xae hT Tryz.func129 rfl fun C hC => ?_
 unfold Xkg at h
 refine Xab ?_
 iterate 4 refine kO hT hC ?_
 refine Vc.nil (Xap ?_)
 refine kL [2,3] [32,48] [_,_] [_,_] ?_
 refine kA h (fun v1 => ([(24, .sv (.bool v1))], [])) (fun v1 h => ?_) fun v1 h => ?_
 refine Xac ?_
 refine kO hT hC ?_
 refine kC hC [] Tryz.call175 h (fun _ => Xu1) fun q2 h => ?_
 iterate 2 refine kO hT hC ?_
 refine kS h ?_ ?_ <;> intro b1 h
 refine kI hT hC (kn b1) ?_
 refine kE hC (kn b1) [] Tryz.call121 h (fun _ => Xhu) fun q3 h => ?_
 refine kI hT hC (kn b1) ?_
 refine kP hC false (kn b1) ?_
 refine kO hT hC ?_
 refine kS h ?_ ?_ <;> intro b2 h
 iterate 2 refine kI hT hC (kn b2) ?_
 refine kE hC (kn b2) [] Tryz.call176 h (fun _ => Xrt) fun q4 h => ?_
 refine kI hT hC (kn b2) ?_
 refine kP hC false (kn b2) ?_
 exact Vc.nil kM
 iterate 4 refine kF hC (kn b2) ?_
 refine kP hC true (kn b2) ?_
 exact Vc.nil kM
 iterate 3 refine kF hC (kn b1) ?_
 refine kP hC true (kn b1) ?_
 refine kO hT hC ?_
 iterate 4 refine kF hC rfl ?_
 refine kO hT hC ?_
 exact Vc.nil kM
 refine kS h ?_ ?_ <;> intro b3 h
 refine kt b3 (Xab ?_)
 iterate 2 refine kO hT hC ?_
 exact Vc.nil (Xah (Xar kR))
 refine kf b3 (Xag (Xaf (Xab ?_)))
 iterate 2 refine kO hT hC ?_
 refine Vc.nil ?_
 refine kL [2,3,6] [32,48,400] [_,_,_] [_,_,_] ?_
 refine kA h (fun v5 => ([], [(400, some (.ints .u8 v5))])) (fun v5 h => ?_) fun v5 h => ?_
 refine Xab ?_
 iterate 3 refine kO hT hC ?_
 refine Vc.nil ?_
 refine kS h ?_ ?_ <;> intro b4 h
 refine kt b4 (Xac ?_)
 iterate 3 refine kO hT hC ?_
 refine kC hC [] Tryz.call127 h (fun _ => Xhy) fun q6 h => ?_
 refine kT hT hC h fun h => ?_
 refine kO hT hC ?_
 refine Vc.nil ?_
 obtain rfl := kj h
 exact Xgl (kW hC [(400, 528)])
 exact kf b4 (Xag kM)
 refine kL [2,3,6] [32,48,400] [_,_,_] [_,_,_] ?_
 refine kA h (fun v7 => ([(2, .any), (3, .any)], [(400, some (.ints .u8 v7)), (32, none), (48, none)])) (fun v7 h => ?_) fun v7 h => ?_
 refine Xab ?_
 iterate 2 refine kO hT hC ?_
 refine Vc.nil (Xak (Xab ?_))
 iterate 2 refine kO hT hC ?_
 refine Vc.nil ?_
 refine kS h ?_ ?_ <;> intro b5 h
 refine kt b5 (Xab ?_)
 iterate 2 refine kO hT hC ?_
 refine kC hC [] Tryz.call126 h (fun _ => Xpz) fun q8 h => ?_
 iterate 5 refine kO hT hC ?_
 refine kN ?_
 iterate 2 refine kO hT hC ?_
 refine kC hC [] Tryz.call126 h (fun _ => Xpz) fun q9 h => ?_
 iterate 5 refine kO hT hC ?_
 refine Vc.nil ?_
 refine Xb3 hm ?_
 iterate 2 refine kO hT hC ?_
 refine kT hT hC h fun h => ?_
 refine kO hT hC ?_
 refine kT hT hC h fun h => ?_
 iterate 3 refine kO hT hC ?_
 refine kC hC [(16, 928)] Tryz.call177 h (fun _ => Xs4) fun q10 h => ?_
 refine kT hT hC h fun h => ?_
 refine kO hT hC ?_
 refine kD (Xam ?_)
 obtain rfl := kj h
 exact Xgl (kW hC [(400, 944)])
 refine kf b5 (Xab ?_)
 iterate 2 refine kO hT hC ?_
 refine Vc.nil ?_
 refine kS h ?_ ?_ <;> intro b6 h
 refine kt b6 ?_
 refine Xb3 hm ?_
 iterate 3 refine kO hT hC ?_
 refine kC hC [] Tryz.call127 h (fun _ => Xhy) fun q11 h => ?_
 refine kT hT hC h fun h => ?_
 iterate 3 refine kO hT hC ?_
 refine kC hC [(16, 1120)] Tryz.call177 h (fun _ => Xs4) fun q12 h => ?_
 refine kT hT hC h fun h => ?_
 refine kO hT hC ?_
 refine kD (Xam ?_)
 obtain rfl := kj h
 exact Xgl (kW hC [(400, 1136)])
 exact kf b6 (Xag (Xam kM))
 refine Xab ?_
 iterate 4 refine kO hT hC ?_
 exact Vc.nil (Xah kR)
def Xu4 (r : (ByteArray × Bool)) : AV := .tup [.sv (.str r.1), .sv (.bool r.2)]
def Xu3 (r : (ByteArray × Bool)) : Xa1 := []
theorem Ymj {p0 p1 r} (h : Xlq p0 p1 = some r) : AC Tryz.prog 63 [.sv (Xdr.sv p0), .agg [.sv (.bool p1.Key), .sv (.int .i64 p1.Qp), .sv (.bool p1.Large), .sv (.bool p1.Exact)]] [] (Xu4 r) (Xu3 r) := by
 refine Xae hT Tryz.func63 rfl fun C hC => ?_
 unfold Xlq at h
 refine Xab ?_
 iterate 3 refine kO hT hC ?_
 refine Vc.nil (Xap (Xab ?_))
 iterate 2 refine kO hT hC ?_
 refine kC hC [] Tryz.call69 h (fun _ => Xai) fun q1 h => ?_
 refine kO hT hC ?_
 refine Vc.nil ?_
 refine kS h ?_ ?_ <;> intro b1 h
 refine kt b1 (Xab ?_)
 iterate 2 refine kO hT hC ?_
 exact Vc.nil (Xah (Xar kR))
 refine kf b1 (Xag (Xaf (Xab ?_)))
 iterate 2 refine kO hT hC ?_
 refine Vc.nil (Xap (Xab ?_))
 iterate 3 refine kO hT hC ?_
 refine Vc.nil ?_
 refine kL [3,6,16,17,18] [48,240] [_,_,_,_,_] [_,_] ?_
 obtain ⟨o9, hl, h⟩ := Xa8 h
 refine Xgn (fun v4 => ([(18, .sv (.int .i64 v4.1))], [(240, some (.ints .u8 v4.2))])) (fun v7 => ([(3, .any), (16, .any), (17, .any), (18, .any)], [(240, some (.ints .u8 v7)), (48, none)])) (fun r => Xrj C T Tryz.f63.results.toList (Xu4 r) (Xu3 r)) hl ?_ ?_ ?_ ?_
 try dsimp only
 apply Xdk hC []
 exact co
 rfl
 decide
 rfl
 intro v4 s hs
 have h := hs
 unfold Xgg at h
 refine Xab ?_
 refine kO hT hC ?_
 refine Vc.nil (Xap ?_)
 refine kS h ?_ ?_ <;> intro b6 h
 refine kt b6 (Xag (Xaf (Xap (Xak (Xab ?_)))))
 refine kQ hT hC h fun h => ?_
 iterate 3 refine kO hT hC ?_
 refine kN ?_
 iterate 2 refine kO hT hC ?_
 refine kC hC [] Tryz.call129 h (fun _ => Ye2) fun q8 h => ?_
 iterate 5 refine kO hT hC ?_
 refine Vc.nil (Xap (Xab ?_))
 iterate 2 refine kO hT hC ?_
 refine Vc.nil ?_
 refine kS h ?_ ?_ <;> intro b7 h
 refine kt b7 (Xab ?_)
 iterate 2 refine kO hT hC ?_
 refine Vc.nil (Xah (Xar (Xfa (Xar ?_))))
 obtain rfl := kj h
 refine Xsj (Xsi ?_)
 exact Xbw (Xj2.refl _) rfl trivial
 refine kf b7 (Xag (Xaf (Xac ?_)))
 iterate 2 refine kO hT hC ?_
 refine kT hT hC h fun h => ?_
 refine kO hT hC ?_
 refine Vc.nil (Xam (Xaf (Xac ?_)))
 iterate 2 refine kO hT hC ?_
 refine Vc.nil ?_
 obtain rfl := kj h
 exact Xx7 (kW hC [(240, 512)])
 exact kf b6 (Xan (Xat kb))
 intro v7 e
 subst e
 refine Xaf (Xab ?_)
 iterate 4 refine kO hT hC ?_
 exact Vc.nil (Xah kR)
 intro r' σ' e hE
 subst e
 obtain rfl := kj h
 refine Xar ?_
 exact hE
def Yma (r : (ByteArray × Bool)) : AV := .tup [.sv (.str r.1), .sv (.bool r.2)]
def Yl9 (r : (ByteArray × Bool)) : Xa1 := []
theorem Yqd {p0 r} (h : Xqm p0 = some r) : AC Tryz.prog 94 [.agg [.sv (.int .i64 p0.Level), .sv (.int .i64 p0.Bits), .sv (.ints .i64 p0.Cols), .sv (.ints .i64 p0.Rows)]] [] (Yma r) (Yl9 r) := by
 refine Xae hT Tryz.func94 rfl fun C hC => ?_
 unfold Xqm at h
 refine Xab ?_
 iterate 3 refine kO hT hC ?_
 refine Vc.nil (Xap (Xab ?_))
 refine kO hT hC ?_
 refine kC hC [] Tryz.call71 h (fun _ => Xmk) fun q1 h => ?_
 refine kO hT hC ?_
 refine Vc.nil ?_
 refine kS h ?_ ?_ <;> intro b1 h
 refine kt b1 (Xab ?_)
 iterate 2 refine kO hT hC ?_
 exact Vc.nil (Xah (Xar kR))
 refine kf b1 (Xag (Xaf ?_))
 refine Xby hm ?_
 iterate 2 refine kO hT hC ?_
 refine kC hC [] Tryz.call127 h (fun _ => Xhy) fun q2 h => ?_
 iterate 2 refine kO hT hC ?_
 refine kC hC [] Tryz.call128 h (fun _ => Xp1) fun q3 h => ?_
 refine kQ hT hC h fun h => ?_
 refine kO hT hC ?_
 refine kD (Xap (Xab ?_))
 iterate 7 refine kO hT hC ?_
 refine Vc.nil ?_
 refine kL [4,23,24,25] [368] [_,_,_,_] [_] ?_
 refine kX h (fun v14 => ([(4, .sv (.str v14.1)), (25, .sv (.int .i64 v14.2))], [])) (fun v25 => ([(4, .sv (.str v25)), (23, .any), (24, .any), (25, .any)], [(368, none)])) (kW hC []) (fun v14 s h => ?_) fun v25 h => ?_
 unfold Xex at h
 refine Xab ?_
 refine kO hT hC ?_
 refine Vc.nil (Xap ?_)
 refine kS h ?_ ?_ <;> intro b10 h
 refine kt b10 (Xag (Xaf (Xap (Xak (Xab ?_)))))
 iterate 2 refine kQ hT hC h fun h => ?_
 refine kO hT hC ?_
 refine kN ?_
 iterate 3 refine kO hT hC ?_
 refine kC hC [] Tryz.call127 h (fun _ => Xhy) fun q26 h => ?_
 refine kQ hT hC h fun h => ?_
 refine kO hT hC ?_
 refine kN ?_
 iterate 3 refine kO hT hC ?_
 refine Vc.nil ?_
 refine kL [4,23,24,25,34,35,36] [368] [_,_,_,_,_,_,_] [_] ?_
 refine kX h (fun v29 => ([(4, .sv (.str v29.1)), (36, .sv (.int .i64 v29.2))], [])) (fun v32 => ([(4, .sv (.str v32)), (34, .any), (35, .any), (36, .any)], [])) (kW hC []) (fun v29 s h => ?_) fun v32 h => ?_
 unfold Xih at h
 refine Xab ?_
 refine kO hT hC ?_
 refine Vc.nil (Xap ?_)
 refine kS h ?_ ?_ <;> intro b13 h
 refine kt b13 (Xag (Xaf (Xap (Xak (Xab ?_)))))
 refine kQ hT hC h fun h => ?_
 iterate 2 refine kO hT hC ?_
 refine Vc.nil (Xac ?_)
 iterate 2 refine kO hT hC ?_
 refine kC hC [] Tryz.call127 h (fun _ => Xhy) fun q33 h => ?_
 refine kQ hT hC h fun h => ?_
 refine kO hT hC ?_
 refine Vc.nil (Xam (Xaf (Xac ?_)))
 iterate 2 refine kO hT hC ?_
 exact Vc.nil kG
 exact kf b13 (Xan (Xat ku))
 refine Xam (Xaf (Xac ?_))
 iterate 2 refine kO hT hC ?_
 exact Vc.nil kG
 exact kf b10 (Xan (Xat ku))
 refine Xaf (Xab ?_)
 iterate 3 refine kO hT hC ?_
 exact Vc.nil (Xah kR)
def Yt0 (r : ByteArray) : AV := .sv (.str r)
def Ytz (r : ByteArray) : Xa1 := []
theorem Xwd {p0 r} (h : Xta p0 = some r) : AC Tryz.prog 154 [.sv (.bool p0)] [] (Yt0 r) (Ytz r) := by
 refine Xae hT Tryz.func154 rfl fun C hC => ?_
 unfold Xta at h
 refine Xab ?_
 refine kO hT hC ?_
 refine Vc.nil (Xap (Xab ?_))
 refine kO hT hC ?_
 refine Vc.nil ?_
 refine kS h ?_ ?_ <;> intro b1 h
 refine kt b1 (Xab ?_)
 refine kO hT hC ?_
 exact Vc.nil (Xah (Xar kR))
 refine kf b1 (Xag (Xaf (Xab ?_)))
 refine kO hT hC ?_
 exact Vc.nil (Xah kR)
def Yl1 (r : (ByteArray × Bool)) : AV := .tup [.sv (.str r.1), .sv (.bool r.2)]
def Yl0 (r : (ByteArray × Bool)) : Xa1 := []
theorem Yp3 {p0 r} (h : Xqk p0 = some r) : AC Tryz.prog 95 [.agg [.sv (.int .i64 p0.Qp), .sv (.bool p0.Large), .sv (.bool p0.Exact), .sv (.bool p0.Confined)]] [] (Yl1 r) (Yl0 r) := by
 refine Xae hT Tryz.func95 rfl fun C hC => ?_
 unfold Xqk at h
 refine Xab ?_
 iterate 3 refine kO hT hC ?_
 refine Vc.nil (Xap (Xab ?_))
 refine kO hT hC ?_
 refine kC hC [] Tryz.call67 h (fun _ => Xpy) fun q1 h => ?_
 refine kO hT hC ?_
 refine Vc.nil ?_
 refine kS h ?_ ?_ <;> intro b1 h
 refine kt b1 (Xab ?_)
 iterate 2 refine kO hT hC ?_
 exact Vc.nil (Xah (Xar kR))
 refine kf b1 (Xag (Xaf ?_))
 refine Xby hm ?_
 iterate 2 refine kO hT hC ?_
 refine kC hC [] Tryz.call128 h (fun _ => Xp1) fun q2 h => ?_
 iterate 2 refine kO hT hC ?_
 refine kC hC [] Tryz.call154 h (fun _ => Xwd) fun q3 h => ?_
 refine kQ hT hC h fun h => ?_
 iterate 2 refine kO hT hC ?_
 refine kC hC [] Tryz.call154 h (fun _ => Xwd) fun q4 h => ?_
 refine kQ hT hC h fun h => ?_
 iterate 2 refine kO hT hC ?_
 refine kC hC [] Tryz.call154 h (fun _ => Xwd) fun q5 h => ?_
 refine kQ hT hC h fun h => ?_
 iterate 2 refine kO hT hC ?_
 exact kD (Xah kR)
def Yev (r : (ByteArray × Bool)) : AV := .tup [.sv (.str r.1), .sv (.bool r.2)]
def Yeu (r : (ByteArray × Bool)) : Xa1 := []
theorem Yhy {p0 r} (h : Xmh p0 = some r) : AC Tryz.prog 130 [.sv (.str p0)] [] (Yev r) (Yeu r) := by
 refine Xae hT Tryz.func130 rfl fun C hC => ?_
 unfold Xmh at h
 refine Xab ?_
 iterate 2 refine kO hT hC ?_
 refine Vc.nil (Xap (Xab ?_))
 refine kO hT hC ?_
 refine kC hC [] Tryz.call155 h (fun _ => Ybs) fun q1 h => ?_
 refine kO hT hC ?_
 refine Vc.nil ?_
 refine kS h ?_ ?_ <;> intro b1 h
 refine kt b1 (Xab ?_)
 iterate 2 refine kO hT hC ?_
 exact Vc.nil (Xah (Xar kR))
 refine kf b1 (Xag (Xaf (Xab ?_)))
 iterate 2 refine kO hT hC ?_
 refine kQ hT hC h fun h => ?_
 refine kO hT hC ?_
 obtain ⟨hq, h⟩ := Xa0 h
 refine Ypi hT hC rfl rfl rfl rfl ⟨hq.1, hq.2.1, hq.2.2, by decide⟩ ?_
 refine kO hT hC ?_
 refine Vc.nil (Xap (Xab ?_))
 refine kO hT hC ?_
 refine Vc.nil ?_
 refine kL [0,4,5] [208] [_,_,_] [_] ?_
 refine kX h (fun v4 => ([(5, .sv (.int .i64 v4.1))], [(208, some (.ints .u8 v4.2))])) (fun v7 => ([(5, .any)], [(208, some (.ints .u8 v7))])) (kW hC []) (fun v4 s h => ?_) fun v7 h => ?_
 unfold Xhh at h
 refine Xap (Xab ?_)
 iterate 4 refine kO hT hC ?_
 refine Vc.nil ?_
 refine kS h ?_ ?_ <;> intro b6 h
 refine kt b6 (Xag (Xaf ?_))
 refine kL [0,4,5] [208] [_,_,_] [_] ?_
 refine kA h (fun v8 => ([], [(208, some (.ints .u8 v8))])) (fun v8 h => ?_) fun v8 h => ?_
 refine Xak (Xab ?_)
 iterate 2 refine kO hT hC ?_
 refine kQ hT hC h fun h => ?_
 refine kO hT hC ?_
 refine Vc.nil ?_
 refine kS h ?_ ?_ <;> intro b7 h
 refine kt b7 ?_
 refine Xb3 hm ?_
 iterate 2 refine kO hT hC ?_
 iterate 3 refine kQ hT hC h fun h => ?_
 refine kO hT hC ?_
 iterate 2 refine kQ hT hC h fun h => ?_
 refine kO hT hC ?_
 iterate 2 refine kQ hT hC h fun h => ?_
 exact kD (Xam kM)
 exact kf b7 (Xag (Xam kM))
 refine Xac ?_
 iterate 3 refine kO hT hC ?_
 exact Vc.nil kG
 exact kf b6 (Xan (Xat ku))
 refine Xaf ?_
 refine Xby hm ?_
 iterate 3 refine kO hT hC ?_
 iterate 3 refine kQ hT hC h fun h => ?_
 iterate 2 refine kO hT hC ?_
 iterate 2 refine kQ hT hC h fun h => ?_
 refine kO hT hC ?_
 iterate 2 refine kQ hT hC h fun h => ?_
 refine kD (Xab ?_)
 iterate 4 refine kO hT hC ?_
 exact Vc.nil (Xah kR)
def Ymq (r : (ByteArray × Bool)) : AV := .tup [.sv (.str r.1), .sv (.bool r.2)]
def Ymp (r : (ByteArray × Bool)) : Xa1 := []
theorem Xsa {p0 p1 r} (h : Xlb p0 p1 = some r) : AC Tryz.prog 64 [.sv (.int .i64 p0), .sv (.str p1)] [] (Ymq r) (Ymp r) := by
 refine Xae hT Tryz.func64 rfl fun C hC => ?_
 unfold Xlb at h
 refine Xab ?_
 iterate 2 refine kO hT hC ?_
 refine kN ?_
 refine kO hT hC ?_
 refine kC hC [] Tryz.call130 h (fun _ => Yhy) fun q1 h => ?_
 iterate 5 refine kO hT hC ?_
 refine Vc.nil (Xap ?_)
 refine kL [0,6,7] [] [_,_,_] [] ?_
 refine kA h (fun v2 => ([(19, .sv (.bool v2)), (7, .any)], [])) (fun v2 h => ?_) fun v2 h => ?_
 refine Xac ?_
 iterate 3 refine kO hT hC ?_
 refine kS h ?_ ?_ <;> intro b1 h
 refine kI hT hC (kn b1) ?_
 refine kE hC (kn b1) [] Tryz.call96 h (fun _ => Xyu) fun q3 h => ?_
 refine kI hT hC (kn b1) ?_
 refine kP hC false (kn b1) ?_
 exact Vc.nil kM
 iterate 3 refine kF hC (kn b1) ?_
 refine kP hC true (kn b1) ?_
 exact Vc.nil kM
 refine kS h ?_ ?_ <;> intro b2 h
 refine kt b2 (Xab ?_)
 iterate 2 refine kO hT hC ?_
 exact Vc.nil (Xah (Xar kR))
 refine kf b2 (Xag (Xaf (Xab ?_)))
 iterate 5 refine kO hT hC ?_
 refine kQ hT hC h fun h => ?_
 iterate 2 refine kO hT hC ?_
 exact Vc.nil (Xah kR)
def Xz0 (r : (List ByteArray)) : AV := .own 16
def Xzz (r : (List ByteArray)) : Xa1 := [(16, .row Xbj r)]
theorem Xrr {p0 r} (h : Xey p0 = some r) : AC Tryz.prog 32 [.agg [.sv (.int .i64 p0.Seq.Level), .sv (.int .i64 p0.Seq.Bits), .sv (.ints .i64 p0.Seq.Cols), .sv (.ints .i64 p0.Seq.Rows), .sv (.int .i64 p0.Par.Qp), .sv (.bool p0.Par.Large), .sv (.bool p0.Par.Exact), .sv (.bool p0.Par.Confined), .sv (.int .i64 p0.Rate.Qp), .sv (.int .i64 p0.Rate.Target), .sv (.int .i64 p0.Rate.Debt), .sv (.int .i64 p0.Frame), .sv (.int .i64 p0.Since), .sv (.int .i64 p0.Every), .sv (.int .i64 p0.Reach), .sv (.bool p0.Has), .sv (.int .i64 p0.Ref.Wide), .sv (.int .i64 p0.Ref.High), .sv (.str p0.Ref.Dots)]] [] (Xz0 r) (Xzz r) := by
 refine Xae hT Tryz.func32 rfl fun C hC => ?_
 unfold Xey at h
 refine Xab ?_
 iterate 2 refine kO hT hC ?_
 refine Vc.nil (Xap (Xab ?_))
 refine kO hT hC ?_
 refine kC hC [] Tryz.call23 h (fun _ => Xph) fun q1 h => ?_
 refine kO hT hC ?_
 refine Vc.nil ?_
 refine kS h ?_ ?_ <;> intro b1 h
 refine kt b1 (Xab ?_)
 iterate 2 refine kO hT hC ?_
 refine Vc.nil (Xah (Xar ?_))
 obtain rfl := kj h
 exact Xbw (τ := ⟨[(2, .own 16)], [(16, some (.row Xbj ([] : List ByteArray)))]⟩) (kW hC [(16, 224)]) rfl ⟨rfl, trivial⟩
 refine kf b1 (Xag (Xaf (Xab ?_)))
 iterate 2 refine kO hT hC ?_
 refine kC hC [] Tryz.call94 h (fun _ => Yqd) fun q2 h => ?_
 iterate 5 refine kO hT hC ?_
 refine kN ?_
 iterate 2 refine kO hT hC ?_
 refine kC hC [] Tryz.call95 h (fun _ => Yp3) fun q3 h => ?_
 iterate 5 refine kO hT hC ?_
 refine kN ?_
 refine kO hT hC ?_
 refine kC hC [] Tryz.call64 h (fun _ => Xsa) fun q4 h => ?_
 iterate 5 refine kO hT hC ?_
 refine kN ?_
 refine kO hT hC ?_
 refine kC hC [] Tryz.call64 h (fun _ => Xsa) fun q5 h => ?_
 iterate 5 refine kO hT hC ?_
 refine kN ?_
 iterate 4 refine kO hT hC ?_
 refine Vc.nil (Xah ?_)
 obtain rfl := kj h
 exact Xbw (τ := ⟨[(2, .own 16)], [(16, some (.row Xbj ([q4.1, q5.1])))]⟩) (kW hC [(16, 624)]) rfl ⟨rfl, trivial⟩
def Yet (r : Rate) : AV := .agg [.sv (.int .i64 r.Qp), .sv (.int .i64 r.Target), .sv (.int .i64 r.Debt)]
def Yes (r : Rate) : Xa1 := []
theorem Yhs {p0 p1 r} (h : Xmg p0 p1 = some r) : AC Tryz.prog 65 [.agg [.sv (.int .i64 p0.Qp), .sv (.int .i64 p0.Target), .sv (.int .i64 p0.Debt)], .sv (.int .i64 p1)] [] (Yet r) (Yes r) := by
 refine Xae hT Tryz.func65 rfl fun C hC => ?_
 unfold Xmg at h
 refine Xab ?_
 iterate 2 refine kO hT hC ?_
 refine Vc.nil (Xap (Xab ?_))
 refine kO hT hC ?_
 refine kC hC [] Tryz.call68 h (fun _ => Xr8) fun q1 h => ?_
 refine kO hT hC ?_
 refine Vc.nil ?_
 refine kS h ?_ ?_ <;> intro b1 h
 refine kt b1 (Xab ?_)
 iterate 2 refine kO hT hC ?_
 exact Vc.nil (Xah (Xar kR))
 refine kf b1 (Xag (Xaf ?_))
 refine Xby hm ?_
 iterate 3 refine kO hT hC ?_
 refine kC hC [] Tryz.call131 h (fun _ => Xeu) fun q2 h => ?_
 iterate 10 refine kO hT hC ?_
 refine kC hC [] Tryz.call131 h (fun _ => Xeu) fun q3 h => ?_
 iterate 2 refine kO hT hC ?_
 refine kD ?_
 refine kL [2,4] [32,64] [_,_] [_,_] ?_
 refine kA h (fun v4 => ([], [(32, some (.box [.sv (.int .i64 v4), .sv (.int .i64 p0.Target), .sv (.int .i64 q3)]))])) (fun v4 h => ?_) fun v4 h => ?_
 refine Xak (Xab ?_)
 iterate 6 refine kO hT hC ?_
 refine Vc.nil ?_
 refine kS h ?_ ?_ <;> intro b2 h
 refine kt b2 (Xac ?_)
 iterate 5 refine kO hT hC ?_
 exact Vc.nil (Xam kM)
 refine kf b2 (Xab ?_)
 iterate 7 refine kO hT hC ?_
 refine Vc.nil ?_
 refine kS h ?_ ?_ <;> intro b3 h
 refine kt b3 (Xac ?_)
 iterate 5 refine kO hT hC ?_
 exact Vc.nil (Xam kM)
 exact kf b3 (Xag (Xam kM))
 refine Xab ?_
 iterate 2 refine kO hT hC ?_
 refine kC hC [] Tryz.call131 h (fun _ => Xeu) fun q5 h => ?_
 iterate 2 refine kO hT hC ?_
 refine kN ?_
 iterate 2 refine kO hT hC ?_
 exact Vc.nil (Xah kR)
def Xz2 (r : (Xbc × (List ByteArray) × Bool)) : AV := .tup [.agg [.sv (.int .i64 r.1.Seq.Level), .sv (.int .i64 r.1.Seq.Bits), .own 16, .own 17, .sv (.int .i64 r.1.Par.Qp), .sv (.bool r.1.Par.Large), .sv (.bool r.1.Par.Exact), .sv (.bool r.1.Par.Confined), .sv (.int .i64 r.1.Rate.Qp), .sv (.int .i64 r.1.Rate.Target), .sv (.int .i64 r.1.Rate.Debt), .sv (.int .i64 r.1.Frame), .sv (.int .i64 r.1.Since), .sv (.int .i64 r.1.Every), .sv (.int .i64 r.1.Reach), .sv (.bool r.1.Has), .sv (.int .i64 r.1.Ref.Wide), .sv (.int .i64 r.1.Ref.High), .sv (.str r.1.Ref.Dots)], .own 18, .sv (.bool r.2.2)]
def Xz1 (r : (Xbc × (List ByteArray) × Bool)) : Xa1 := [(16, .ints .i64 r.1.Seq.Cols), (17, .ints .i64 r.1.Seq.Rows), (18, .row Xbj r.2.1)]
theorem Ybx {p0 p1 p2 r} (h : Xij p0 p1 p2 = some r) : AC Tryz.prog 22 [.agg [.sv (.int .i64 p0.Seq.Level), .sv (.int .i64 p0.Seq.Bits), .sv (.ints .i64 p0.Seq.Cols), .sv (.ints .i64 p0.Seq.Rows), .sv (.int .i64 p0.Par.Qp), .sv (.bool p0.Par.Large), .sv (.bool p0.Par.Exact), .sv (.bool p0.Par.Confined), .sv (.int .i64 p0.Rate.Qp), .sv (.int .i64 p0.Rate.Target), .sv (.int .i64 p0.Rate.Debt), .sv (.int .i64 p0.Frame), .sv (.int .i64 p0.Since), .sv (.int .i64 p0.Every), .sv (.int .i64 p0.Reach), .sv (.bool p0.Has), .sv (.int .i64 p0.Ref.Wide), .sv (.int .i64 p0.Ref.High), .sv (.str p0.Ref.Dots)], .agg [.sv (.int .i64 p1.Wide), .sv (.int .i64 p1.High), .sv (.str p1.Dots)], .sv (.bool p2)] [] (Xz2 r) (Xz1 r) := by
 refine Xae hT Tryz.func22 rfl fun C hC => ?_
 unfold Xij at h
 refine Xab ?_
 iterate 5 refine kO hT hC ?_
 refine Vc.nil (Xap ?_)
 refine kL [2,3,4,6] [48,64,96] [_,_,_,_] [_,_,_] ?_
 refine kA h (fun v1 => ([(32, .sv (.bool v1))], [])) (fun v1 h => ?_) fun v1 h => ?_
 refine Xac ?_
 refine kO hT hC ?_
 refine kC hC [] Tryz.call23 h (fun _ => Xph) fun q2 h => ?_
 iterate 2 refine kO hT hC ?_
 refine kS h ?_ ?_ <;> intro b1 h
 iterate 3 refine kI hT hC (kn b1) ?_
 refine kE hC (kn b1) [] Tryz.call58 h (fun _ => Ygu) fun q3 h => ?_
 refine kI hT hC (kn b1) ?_
 refine kP hC false (kn b1) ?_
 exact Vc.nil kM
 iterate 5 refine kF hC (kn b1) ?_
 refine kP hC true (kn b1) ?_
 exact Vc.nil kM
 refine kS h ?_ ?_ <;> intro b2 h
 refine kt b2 (Xab ?_)
 refine kO hT hC ?_
 refine kC hC [(16, 544), (17, 545)] Tryz.call59 h (fun _ => Xmp) fun q4 h => ?_
 iterate 4 refine kO hT hC ?_
 refine Vc.nil (Xah (Xar ?_))
 obtain rfl := kj h
 exact Xbw (τ := ⟨[(6, .ptr 2000000 0), (7, .own 18), (8, .sv (.bool false))], [(16, some (.ints .i64 q4.Seq.Cols)), (17, some (.ints .i64 q4.Seq.Rows)), (18, some (.row Xbj ([] : List ByteArray))), (2000000, some (.box [.sv (.int .i64 q4.Seq.Level), .sv (.int .i64 q4.Seq.Bits), .own 16, .own 17, .sv (.int .i64 q4.Par.Qp), .sv (.bool q4.Par.Large), .sv (.bool q4.Par.Exact), .sv (.bool q4.Par.Confined), .sv (.int .i64 q4.Rate.Qp), .sv (.int .i64 q4.Rate.Target), .sv (.int .i64 q4.Rate.Debt), .sv (.int .i64 q4.Frame), .sv (.int .i64 q4.Since), .sv (.int .i64 q4.Every), .sv (.int .i64 q4.Reach), .sv (.bool q4.Has), .sv (.int .i64 q4.Ref.Wide), .sv (.int .i64 q4.Ref.High), .sv (.str q4.Ref.Dots)]))]⟩) (kW hC [(16, 544), (17, 545), (18, 560), (2000000, 96)]) rfl ⟨rfl, rfl, rfl, trivial⟩
 refine kf b2 (Xag (Xaf (Xab ?_)))
 iterate 2 refine kO hT hC ?_
 refine kC hC [] Tryz.call21 h (fun _ => Ypz) fun q5 h => ?_
 refine kO hT hC ?_
 refine Vc.nil (Xap ?_)
 refine kL [3,4,6,9] [48,64,96] [_,_,_,_] [_,_,_] ?_
 refine kA h (fun v6 => ([(45, .sv (.bool v6))], [])) (fun v6 h => ?_) fun v6 h => ?_
 refine Xac ?_
 iterate 3 refine kO hT hC ?_
 refine kS h ?_ ?_ <;> intro b3 h
 iterate 3 refine kF hC (kn b3) ?_
 refine kP hC false (kn b3) ?_
 exact Vc.nil kM
 iterate 3 refine kI hT hC (kn b3) ?_
 refine kP hC true (kn b3) ?_
 exact Vc.nil kM
 refine kS h ?_ ?_ <;> intro b4 h
 refine kt b4 (Xab ?_)
 refine kO hT hC ?_
 refine kC hC [(16, 752), (17, 753)] Tryz.call59 h (fun _ => Xmp) fun q7 h => ?_
 iterate 4 refine kO hT hC ?_
 refine Vc.nil (Xah (Xar ?_))
 obtain rfl := kj h
 exact Xbw (τ := ⟨[(6, .ptr 2000000 0), (7, .own 18), (8, .sv (.bool false))], [(16, some (.ints .i64 q7.Seq.Cols)), (17, some (.ints .i64 q7.Seq.Rows)), (18, some (.row Xbj ([] : List ByteArray))), (2000000, some (.box [.sv (.int .i64 q7.Seq.Level), .sv (.int .i64 q7.Seq.Bits), .own 16, .own 17, .sv (.int .i64 q7.Par.Qp), .sv (.bool q7.Par.Large), .sv (.bool q7.Par.Exact), .sv (.bool q7.Par.Confined), .sv (.int .i64 q7.Rate.Qp), .sv (.int .i64 q7.Rate.Target), .sv (.int .i64 q7.Rate.Debt), .sv (.int .i64 q7.Frame), .sv (.int .i64 q7.Since), .sv (.int .i64 q7.Every), .sv (.int .i64 q7.Reach), .sv (.bool q7.Has), .sv (.int .i64 q7.Ref.Wide), .sv (.int .i64 q7.Ref.High), .sv (.str q7.Ref.Dots)]))]⟩) (kW hC [(16, 752), (17, 753), (18, 768), (2000000, 96)]) rfl ⟨rfl, rfl, rfl, trivial⟩
 refine kf b4 (Xag (Xaf ?_))
 refine Xby hm ?_
 iterate 4 refine kO hT hC ?_
 refine kC hC [] Tryz.call60 h (fun _ => Ytq) fun q8 h => ?_
 iterate 9 refine kO hT hC ?_
 refine kD (Xab ?_)
 iterate 6 refine kO hT hC ?_
 refine kC hC [(16, 1088)] Tryz.call61 h (fun _ => Ymi) fun q9 h => ?_
 iterate 8 refine kO hT hC ?_
 refine kN ?_
 iterate 9 refine kO hT hC ?_
 refine kC hC [] Tryz.call62 h (fun _ => Yls) fun q10 h => ?_
 iterate 5 refine kO hT hC ?_
 refine kN ?_
 iterate 2 refine kO hT hC ?_
 refine kC hC [] Tryz.call63 h (fun _ => Ymj) fun q11 h => ?_
 iterate 5 refine kO hT hC ?_
 refine kN ?_
 refine kO hT hC ?_
 refine kN ?_
 refine kO hT hC ?_
 refine kC hC [(16, 1472), (17, 1473)] Tryz.call59 h (fun _ => Xmp) fun q12 h => ?_
 iterate 2 refine kO hT hC ?_
 refine kN ?_
 iterate 2 refine kO hT hC ?_
 refine kN ?_
 iterate 5 refine kO hT hC ?_
 refine Vc.nil ?_
 refine kL [3,6,9,12,14,16,18,19,20] [48,96,192,304,1472,1473,1488] [_,_,_,_,_,_,_,_,_] [_,_,_,_,_,_,_] ?_
 refine kA h (fun v13 => ([(18, .sv (.int .i64 v13.1)), (9, .any)], [(304, some (.box [.sv (.int .i64 q12.Seq.Level), .sv (.int .i64 q12.Seq.Bits), .own 1472, .own 1473, .sv (.int .i64 q12.Par.Qp), .sv (.bool q12.Par.Large), .sv (.bool q12.Par.Exact), .sv (.bool q12.Par.Confined), .sv (.int .i64 q12.Rate.Qp), .sv (.int .i64 q12.Rate.Target), .sv (.int .i64 q12.Rate.Debt), .sv (.int .i64 q12.Frame), .sv (.int .i64 v13.2.1), .sv (.int .i64 q12.Every), .sv (.int .i64 q12.Reach), .sv (.bool q12.Has), .sv (.int .i64 q12.Ref.Wide), .sv (.int .i64 q12.Ref.High), .sv (.str q12.Ref.Dots)])), (1488, some (.row Xbj v13.2.2))])) (fun v13 h => ?_) fun v13 h => ?_
 refine Xab ?_
 refine kO hT hC ?_
 refine Vc.nil ?_
 refine kS h ?_ ?_ <;> intro b5 h
 refine kt b5 (Xab ?_)
 refine kO hT hC ?_
 refine kN ?_
 refine kO hT hC ?_
 refine kC hC [(16, 1600)] Tryz.call32 h (fun _ => Xrr) fun q14 h => ?_
 refine kO hT hC ?_
 refine Vc.nil (Xac ?_)
 iterate 2 refine kO hT hC ?_
 refine Vc.nil ?_
 obtain rfl := kj h
 exact Xgl (kW hC [(1488, 1600)])
 exact kf b5 (Xag kM)
 refine Xab ?_
 iterate 3 refine kO hT hC ?_
 refine kQ hT hC h fun h => ?_
 refine kC hC [] Tryz.call64 h (fun _ => Xsa) fun q15 h => ?_
 iterate 5 refine kO hT hC ?_
 refine kN ?_
 iterate 7 refine kO hT hC ?_
 refine kC hC [] Tryz.call65 h (fun _ => Yhs) fun q16 h => ?_
 iterate 2 refine kO hT hC ?_
 refine Vc.nil ?_
 refine Xby hm ?_
 iterate 6 refine kO hT hC ?_
 iterate 2 refine kQ hT hC h fun h => ?_
 iterate 2 refine kO hT hC ?_
 refine kD (Xab ?_)
 iterate 2 refine kO hT hC ?_
 refine kN ?_
 iterate 3 refine kO hT hC ?_
 refine Vc.nil ?_
 refine Xby hm ?_
 iterate 4 refine kO hT hC ?_
 obtain ⟨hq, h⟩ := Xa0 h
 refine Ypi hT hC rfl rfl rfl rfl ⟨fun _ _ => rfl, by rw [Xpx]; exact hq⟩ ?_
 rw [Xpx]
 iterate 3 refine kO hT hC ?_
 refine kD (Xah ?_)
 obtain rfl := kj h
 exact Xbw (τ := ⟨[(6, .ptr 2000000 0), (7, .own 18), (8, .sv (.bool true))], [(16, some (.ints .i64 q12.Seq.Cols)), (17, some (.ints .i64 q12.Seq.Rows)), (18, some (.row Xbj (v13.2.2 ++ ([q15.1])))), (2000000, some (.box [.sv (.int .i64 q12.Seq.Level), .sv (.int .i64 q12.Seq.Bits), .own 16, .own 17, .sv (.int .i64 q12.Par.Qp), .sv (.bool q12.Par.Large), .sv (.bool q12.Par.Exact), .sv (.bool q12.Par.Confined), .sv (.int .i64 q16.Qp), .sv (.int .i64 q16.Target), .sv (.int .i64 q16.Debt), .sv (.int .i64 ((Xaa .i64 (p0.Frame + 1)).tmod (Xaa .i64 (1 * 2 ^ min p0.Seq.Bits.toNat (IntKind.bits .i64))))), .sv (.int .i64 v13.2.1), .sv (.int .i64 q12.Every), .sv (.int .i64 q12.Reach), .sv (.bool true), .sv (.int .i64 q9.2.1.Wide), .sv (.int .i64 q9.2.1.High), .sv (.str q9.2.1.Dots)]))]⟩) (kW hC [(16, 1472), (17, 1473), (18, 2160), (2000000, 96)]) rfl ⟨rfl, rfl, rfl, trivial⟩
def Yn3 (r : Bool) : AV := .sv (.bool r)
def Yn2 (r : Bool) : Xa1 := []
theorem Yq4 {p0 p1 r} (h : Xq2 p0 p1 = some r) : AC Tryz.prog 84 [.agg [.sv (.int .i64 p0.Seq.Level), .sv (.int .i64 p0.Seq.Bits), .sv (.ints .i64 p0.Seq.Cols), .sv (.ints .i64 p0.Seq.Rows), .sv (.int .i64 p0.Par.Qp), .sv (.bool p0.Par.Large), .sv (.bool p0.Par.Exact), .sv (.bool p0.Par.Confined), .sv (.int .i64 p0.Rate.Qp), .sv (.int .i64 p0.Rate.Target), .sv (.int .i64 p0.Rate.Debt), .sv (.int .i64 p0.Frame), .sv (.int .i64 p0.Since), .sv (.int .i64 p0.Every), .sv (.int .i64 p0.Reach), .sv (.bool p0.Has), .sv (.int .i64 p0.Ref.Wide), .sv (.int .i64 p0.Ref.High), .sv (.str p0.Ref.Dots)], .sv (.bool p1)] [] (Yn3 r) (Yn2 r) := by
 refine Xae hT Tryz.func84 rfl fun C hC => ?_
 unfold Xq2 at h
 refine Xab ?_
 iterate 2 refine kO hT hC ?_
 refine Vc.nil ?_
 refine kL [1,2,4] [32] [_,_,_] [_] ?_
 refine kA h (fun v1 => ([(4, .sv (.bool v1)), (1, .any), (2, .any)], [(32, none)])) (fun v1 h => ?_) fun v1 h => ?_
 refine Xac ?_
 refine kO hT hC ?_
 refine kC hC [] Tryz.call85 h (fun _ => Xk2) fun q2 h => ?_
 refine kO hT hC ?_
 refine kS h ?_ ?_ <;> intro b1 h
 iterate 2 refine kI hT hC b1 ?_
 refine kS h ?_ ?_ <;> intro b2 h
 iterate 3 refine kF hC b2 ?_
 refine Xbd hC rfl rfl rfl rfl b1 rfl rfl (b := true) b2 rfl rfl rfl trivial ?_
 refine kI hT hC b1 ?_
 iterate 5 refine kF hC rfl ?_
 refine Xbd hC rfl rfl rfl rfl b1 rfl rfl (b := true) rfl rfl rfl rfl trivial ?_
 refine kP hC true b1 ?_
 refine kO hT hC ?_
 exact Vc.nil kM
 iterate 3 refine kI hT hC b2 ?_
 refine Xbd hC rfl rfl rfl rfl b1 rfl rfl (b := false) b2 rfl rfl rfl trivial ?_
 refine kI hT hC b1 ?_
 refine kS h ?_ ?_ <;> intro b3 h
 iterate 5 refine kI hT hC (kn b3) ?_
 refine Xbd hC rfl rfl rfl rfl b1 rfl rfl (b := false) (kn b3) rfl rfl rfl trivial ?_
 refine kP hC true b1 ?_
 refine kO hT hC ?_
 exact Vc.nil kM
 iterate 5 refine kF hC (kn b3) ?_
 refine Xbd hC rfl rfl rfl rfl b1 rfl rfl (b := true) (kn b3) rfl rfl rfl trivial ?_
 refine kP hC true b1 ?_
 refine kO hT hC ?_
 exact Vc.nil kM
 iterate 2 refine kF hC b1 ?_
 iterate 3 refine Xep hC rfl rfl rfl rfl rfl rfl ?_
 iterate 2 refine kF hC b1 ?_
 iterate 5 refine Xep hC rfl rfl rfl rfl rfl rfl ?_
 refine kF hC b1 ?_
 refine kP hC false b1 ?_
 refine kO hT hC ?_
 exact Vc.nil kM
 exact Xah kR
def Yjo (r : Seq) : AV := .agg [.sv (.int .i64 r.Level), .sv (.int .i64 r.Bits), .own 16, .own 17]
def Yjn (r : Seq) : Xa1 := [(16, .ints .i64 r.Cols), (17, .ints .i64 r.Rows)]
theorem Xww {p0 r} (h : Xl3 p0 = some r) : AC Tryz.prog 87 [.agg [.sv (.int .i64 p0.Level), .sv (.int .i64 p0.Bits), .sv (.ints .i64 p0.Cols), .sv (.ints .i64 p0.Rows)]] [] (Yjo r) (Yjn r) := by
 refine Xae hT Tryz.func87 rfl fun C hC => ?_
 unfold Xl3 at h
 refine Xab ?_
 iterate 2 refine kO hT hC ?_
 refine kN ?_
 iterate 3 refine kO hT hC ?_
 refine kT hT hC h fun h => ?_
 iterate 2 refine kO hT hC ?_
 refine kN ?_
 iterate 3 refine kO hT hC ?_
 refine kT hT hC h fun h => ?_
 iterate 2 refine kO hT hC ?_
 refine kN ?_
 iterate 2 refine kO hT hC ?_
 refine Vc.nil (Xah ?_)
 obtain rfl := kj h
 exact Xbw (τ := ⟨[(2, .ptr 2000000 0)], [(16, some (.ints .i64 (([] : List Int) ++ p0.Cols))), (17, some (.ints .i64 (([] : List Int) ++ p0.Rows))), (2000000, some (.box [.sv (.int .i64 p0.Level), .sv (.int .i64 p0.Bits), .own 16, .own 17]))]⟩) (kW hC [(16, 96), (17, 176), (2000000, 32)]) rfl ⟨rfl, rfl, trivial⟩
def Yrb (r : Int) : AV := .sv (.int .i64 r)
def Yra (r : Int) : Xa1 := []
theorem Yu0 {p0 p1 r} (h : Xtq p0 p1 = some r) : AC Tryz.prog 88 [.agg [.sv (.int .i64 p0.Qp), .sv (.int .i64 p0.Target), .sv (.int .i64 p0.Debt)], .sv (.bool p1)] [] (Yrb r) (Yra r) := by
 refine Xae hT Tryz.func88 rfl fun C hC => ?_
 unfold Xtq at h
 refine Xab ?_
 iterate 2 refine kO hT hC ?_
 refine Vc.nil (Xap (Xab ?_))
 refine kO hT hC ?_
 refine kC hC [] Tryz.call142 h (fun _ => Xsm) fun q1 h => ?_
 refine kO hT hC ?_
 refine Vc.nil ?_
 refine kS h ?_ ?_ <;> intro b1 h
 refine kt b1 (Xab ?_)
 refine kO hT hC ?_
 exact Vc.nil (Xah (Xar kR))
 refine kf b1 (Xag (Xaf (Xap (Xab ?_))))
 refine kO hT hC ?_
 refine Vc.nil ?_
 refine kS h ?_ ?_ <;> intro b2 h
 refine kt b2 (Xab ?_)
 iterate 3 refine kO hT hC ?_
 refine kC hC [] Tryz.call143 h (fun _ => Xdu) fun q2 h => ?_
 refine kO hT hC ?_
 exact Vc.nil (Xah (Xar kR))
 refine kf b2 (Xag (Xaf (Xab ?_)))
 iterate 3 refine kO hT hC ?_
 exact Vc.nil (Xah kR)
def Ykc (r : Bool) : AV := .sv (.bool r)
def Ykb (r : Bool) : Xa1 := []
theorem Xxb {p0 r} (h : Xl8 p0 = some r) : AC Tryz.prog 144 [.sv (.int .i64 p0)] [] (Ykc r) (Ykb r) := by
 refine Xae hT Tryz.func144 rfl fun C hC => ?_
 unfold Xl8 at h
 refine Xab ?_
 refine kO hT hC ?_
 refine Vc.nil ?_
 refine kL [0,2] [] [_,_] [] ?_
 refine kA h (fun v1 => ([(2, .sv (.bool v1)), (0, .any)], [])) (fun v1 h => ?_) fun v1 h => ?_
 refine Xac ?_
 refine kO hT hC ?_
 refine kQ hT hC h fun h => ?_
 iterate 2 refine kO hT hC ?_
 refine kS h ?_ ?_ <;> intro b1 h
 refine kI hT hC b1 ?_
 refine kE hC b1 [] Tryz.call107 h (fun _ => Xal) fun q2 h => ?_
 refine kP hC true b1 ?_
 refine kO hT hC ?_
 exact Vc.nil kM
 iterate 2 refine kF hC b1 ?_
 refine kP hC false b1 ?_
 refine kO hT hC ?_
 exact Vc.nil kM
 exact Xah kR
def Ynt (r : Bool) : AV := .sv (.bool r)
def Yns (r : Bool) : Xa1 := []
theorem Xkl {p0 r} (h : Xha p0 = some r) : AC Tryz.prog 145 [.agg [.sv (.bool p0.Key), .sv (.int .i64 p0.Qp), .sv (.bool p0.Large), .sv (.bool p0.Exact)]] [] (Ynt r) (Yns r) := by
 refine Xae hT Tryz.func145 rfl fun C hC => ?_
 unfold Xha at h
 refine Xab ?_
 iterate 2 refine kO hT hC ?_
 refine Vc.nil ?_
 refine kL [1,2] [16] [_,_] [_] ?_
 refine kA h (fun v1 => ([(2, .sv (.bool v1)), (1, .any)], [(16, none)])) (fun v1 h => ?_) fun v1 h => ?_
 refine Xac ?_
 iterate 2 refine kO hT hC ?_
 refine kC hC [] Tryz.call107 h (fun _ => Xal) fun q2 h => ?_
 refine kO hT hC ?_
 refine kS h ?_ ?_ <;> intro b1 h
 iterate 3 refine kI hT hC b1 ?_
 refine kS h ?_ ?_ <;> intro b2 h
 iterate 2 refine kI hT hC b2 ?_
 refine Xbd hC rfl rfl rfl rfl b1 rfl rfl (b := true) b2 rfl rfl rfl trivial ?_
 refine kI hT hC b1 ?_
 refine kP hC true b1 ?_
 refine kO hT hC ?_
 exact Vc.nil kM
 iterate 2 refine kF hC b2 ?_
 refine Xbd hC rfl rfl rfl rfl b1 rfl rfl (b := false) b2 rfl rfl rfl trivial ?_
 refine kI hT hC b1 ?_
 refine kP hC true b1 ?_
 refine kO hT hC ?_
 exact Vc.nil kM
 iterate 3 refine kF hC b1 ?_
 iterate 2 refine Xep hC rfl rfl rfl rfl rfl rfl ?_
 iterate 2 refine kF hC b1 ?_
 refine kP hC false b1 ?_
 refine kO hT hC ?_
 exact Vc.nil kM
 exact Xah kR
def Ykg (r : Bool) : AV := .sv (.bool r)
def Ykf (r : Bool) : Xa1 := []
theorem Xxd {p0 p1 r} (h : Xg2 p0 p1 = some r) : AC Tryz.prog 146 [.agg [.sv (.int .i64 p0.Wide), .sv (.int .i64 p0.High), .sv (.str p0.Dots)], .agg [.sv (.int .i64 p1.Wide), .sv (.int .i64 p1.High), .sv (.str p1.Dots)]] [] (Ykg r) (Ykf r) := by
 refine Xae hT Tryz.func146 rfl fun C hC => ?_
 unfold Xg2 at h
 refine Xab ?_
 iterate 3 refine kO hT hC ?_
 refine Vc.nil ?_
 refine kL [2,3,4] [32,48] [_,_,_] [_,_] ?_
 refine kA h (fun v1 => ([(4, .sv (.bool v1)), (2, .any), (3, .any)], [(32, none), (48, none)])) (fun v1 h => ?_) fun v1 h => ?_
 refine Xac ?_
 refine kO hT hC ?_
 refine kC hC [] Tryz.call86 h (fun _ => Xeh) fun q2 h => ?_
 refine kO hT hC ?_
 refine kS h ?_ ?_ <;> intro b1 h
 refine kI hT hC b1 ?_
 refine kE hC b1 [] Tryz.call86 h (fun _ => Xeh) fun q3 h => ?_
 refine kP hC true b1 ?_
 refine kO hT hC ?_
 refine kS h ?_ ?_ <;> intro b2 h
 iterate 5 refine kI hT hC b2 ?_
 refine kP hC true b2 ?_
 refine kO hT hC ?_
 refine kS h ?_ ?_ <;> intro b3 h
 iterate 5 refine kI hT hC b3 ?_
 refine kP hC true b3 ?_
 refine kO hT hC ?_
 exact Vc.nil kM
 iterate 5 refine kF hC b3 ?_
 refine kP hC false b3 ?_
 refine kO hT hC ?_
 exact Vc.nil kM
 iterate 5 refine kF hC b2 ?_
 refine kP hC false b2 ?_
 refine kO hT hC ?_
 iterate 5 refine kF hC rfl ?_
 iterate 2 refine kO hT hC ?_
 exact Vc.nil kM
 iterate 2 refine kF hC b1 ?_
 refine kP hC false b1 ?_
 refine kO hT hC ?_
 iterate 5 refine kF hC rfl ?_
 iterate 2 refine kO hT hC ?_
 iterate 5 refine kF hC rfl ?_
 iterate 2 refine kO hT hC ?_
 exact Vc.nil kM
 exact Xah kR
def Yuz (r : Pic) : AV := .agg [.sv (.int .i64 r.Wide), .sv (.int .i64 r.High), .sv (.str r.Dots)]
def Yuy (r : Pic) : Xa1 := []
theorem Yxl {p0 p1 r} (h : Xwo p0 p1 = some r) : AC Tryz.prog 147 [.sv (.int .i64 p0), .sv (.int .i64 p1)] [] (Yuz r) (Yuy r) := by
 refine Xae hT Tryz.func147 rfl fun C hC => ?_
 unfold Xwo at h
 refine Xab ?_
 refine kO hT hC ?_
 refine Vc.nil (Xap ?_)
 refine kL [0,1,4] [64] [_,_,_] [_] ?_
 refine kA h (fun v1 => ([(12, .sv (.bool v1))], [])) (fun v1 h => ?_) fun v1 h => ?_
 refine Xac ?_
 refine kO hT hC ?_
 refine kC hC [] Tryz.call107 h (fun _ => Xal) fun q2 h => ?_
 iterate 2 refine kO hT hC ?_
 refine kS h ?_ ?_ <;> intro b1 h
 refine kI hT hC (kn b1) ?_
 refine kE hC (kn b1) [] Tryz.call107 h (fun _ => Xal) fun q3 h => ?_
 refine kI hT hC (kn b1) ?_
 refine kP hC false (kn b1) ?_
 exact Vc.nil kM
 iterate 3 refine kF hC (kn b1) ?_
 refine kP hC true (kn b1) ?_
 exact Vc.nil kM
 refine kS h ?_ ?_ <;> intro b2 h
 refine kt b2 (Xab ?_)
 iterate 2 refine kO hT hC ?_
 exact Vc.nil (Xah (Xar kR))
 refine kf b2 (Xag (Xaf (Xab ?_)))
 iterate 5 refine kO hT hC ?_
 refine kC hC [] Tryz.call159 h (fun _ => Xws) fun q4 h => ?_
 iterate 2 refine kO hT hC ?_
 exact Vc.nil (Xah kR)
def Yin (r : (List Int)) : AV := .own 16
def Yim (r : (List Int)) : Xa1 := [(16, .ints .i64 r)]
theorem Xiu {p0 p1 p2 r} (h : Xfn p0 p1 p2 = some r) : AC Tryz.prog 149 [.agg [.sv (.int .i64 p0.Wide), .sv (.int .i64 p0.High), .sv (.str p0.Dots)], .sv (.int .i64 p1), .sv (.int .i64 p2)] [] (Yin r) (Yim r) := by
 refine Xae hT Tryz.func149 rfl fun C hC => ?_
 unfold Xfn at h
 refine Xab ?_
 iterate 2 refine kO hT hC ?_
 refine kN ?_
 iterate 2 refine kO hT hC ?_
 refine Vc.nil (Xap ?_)
 refine kL [1,2,3,7] [48,144] [_,_,_,_] [_,_] ?_
 refine kA h (fun v1 => ([(22, .sv (.bool v1))], [])) (fun v1 h => ?_) fun v1 h => ?_
 refine Xac ?_
 refine kO hT hC ?_
 refine kC hC [] Tryz.call86 h (fun _ => Xeh) fun q2 h => ?_
 iterate 2 refine kO hT hC ?_
 refine kS h ?_ ?_ <;> intro b1 h
 refine kI hT hC (kn b1) ?_
 refine kE hC (kn b1) [] Tryz.call107 h (fun _ => Xal) fun q3 h => ?_
 refine kI hT hC (kn b1) ?_
 refine kP hC false (kn b1) ?_
 refine kO hT hC ?_
 refine kS h ?_ ?_ <;> intro b2 h
 refine kI hT hC (kn b2) ?_
 refine kE hC (kn b2) [] Tryz.call107 h (fun _ => Xal) fun q4 h => ?_
 refine kI hT hC (kn b2) ?_
 refine kP hC false (kn b2) ?_
 exact Vc.nil kM
 iterate 3 refine kF hC (kn b2) ?_
 refine kP hC true (kn b2) ?_
 exact Vc.nil kM
 iterate 3 refine kF hC (kn b1) ?_
 refine kP hC true (kn b1) ?_
 refine kO hT hC ?_
 iterate 3 refine kF hC rfl ?_
 refine kO hT hC ?_
 exact Vc.nil kM
 refine kS h ?_ ?_ <;> intro b3 h
 refine kt b3 (Xab ?_)
 iterate 2 refine kO hT hC ?_
 refine Vc.nil (Xah (Xar ?_))
 obtain rfl := kj h
 exact Xbw (τ := ⟨[(6, .own 16)], [(16, some (.ints .i64 ([] : List Int)))]⟩) (kW hC [(16, 144)]) rfl ⟨rfl, trivial⟩
 refine kf b3 (Xag (Xaf (Xap (Xab ?_))))
 refine kO hT hC ?_
 refine Vc.nil ?_
 refine kL [1,2,3,7,8] [48,144] [_,_,_,_,_] [_,_] ?_
 refine kX h (fun v7 => ([(8, .sv (.int .i64 v7.1))], [(144, some (.ints .i64 v7.2))])) (fun v10 => ([(1, .any), (2, .any), (3, .any), (8, .any)], [(144, some (.ints .i64 v10)), (48, none)])) (kW hC []) (fun v7 s h => ?_) fun v10 h => ?_
 unfold Xiw at h
 refine Xap (Xab ?_)
 iterate 2 refine kO hT hC ?_
 refine Vc.nil ?_
 refine kS h ?_ ?_ <;> intro b6 h
 refine kt b6 (Xag (Xaf (Xap (Xak (Xac ?_)))))
 iterate 4 refine kO hT hC ?_
 refine kQ hT hC h fun h => ?_
 iterate 3 refine kO hT hC ?_
 refine kQ hT hC h fun h => ?_
 refine kO hT hC ?_
 refine kC hC [] Tryz.call120 h (fun _ => Xmx) fun q11 h => ?_
 refine kO hT hC ?_
 refine kT hT hC h fun h => ?_
 refine kO hT hC ?_
 refine Vc.nil (Xam (Xaf (Xac ?_)))
 iterate 3 refine kO hT hC ?_
 refine Vc.nil ?_
 obtain rfl := kj h
 exact Xx7 (kW hC [(144, 640)])
 exact kf b6 (Xan (Xat ku))
 refine Xaf (Xab ?_)
 iterate 2 refine kO hT hC ?_
 refine Vc.nil (Xah ?_)
 obtain rfl := kj h
 exact Xbw (τ := ⟨[(6, .own 16)], [(16, some (.ints .i64 v10))]⟩) (kW hC [(16, 144)]) rfl ⟨rfl, trivial⟩
def Ydz (r : Bool) : AV := .sv (.bool r)
def Ydy (r : Bool) : Xa1 := []
theorem Xtw {p0 p1 p2 p3 p4 r} (h : Xh3 p0 p1 p2 p3 p4 = some r) : AC Tryz.prog 209 [.agg [.sv (.int .i64 p0.Wide), .sv (.int .i64 p0.High), .sv (.str p0.Dots)], .sv (.int .i64 p1), .sv (.int .i64 p2), .sv (.int .i64 p3), .sv (.int .i64 p4)] [] (Ydz r) (Ydy r) := by
 refine Xae hT Tryz.func209 rfl fun C hC => ?_
 unfold Xh3 at h
 refine Xab ?_
 iterate 2 refine kO hT hC ?_
 refine Vc.nil ?_
 refine kL [1,2,3,4,5,10] [80] [_,_,_,_,_,_] [_] ?_
 refine kA h (fun v1 => ([(10, .sv (.bool v1)), (1, .any), (2, .any), (3, .any), (4, .any), (5, .any)], [(80, none)])) (fun v1 h => ?_) fun v1 h => ?_
 refine Xac ?_
 refine kO hT hC ?_
 refine kC hC [] Tryz.call86 h (fun _ => Xeh) fun q2 h => ?_
 refine kO hT hC ?_
 refine kS h ?_ ?_ <;> intro b1 h
 iterate 3 refine kI hT hC b1 ?_
 refine kE hC b1 [] Tryz.call107 h (fun _ => Xal) fun q3 h => ?_
 refine kP hC true b1 ?_
 refine kO hT hC ?_
 refine kS h ?_ ?_ <;> intro b2 h
 iterate 3 refine kI hT hC b2 ?_
 refine kE hC b2 [] Tryz.call107 h (fun _ => Xal) fun q4 h => ?_
 refine kP hC true b2 ?_
 refine kO hT hC ?_
 refine kS h ?_ ?_ <;> intro b3 h
 iterate 5 refine kI hT hC b3 ?_
 refine kE hC b3 [] Tryz.call107 h (fun _ => Xal) fun q5 h => ?_
 refine kP hC true b3 ?_
 refine kO hT hC ?_
 refine kS h ?_ ?_ <;> intro b4 h
 iterate 5 refine kI hT hC b4 ?_
 refine kE hC b4 [] Tryz.call107 h (fun _ => Xal) fun q6 h => ?_
 refine kP hC true b4 ?_
 refine kO hT hC ?_
 exact Vc.nil kM
 iterate 6 refine kF hC b4 ?_
 refine kP hC false b4 ?_
 refine kO hT hC ?_
 exact Vc.nil kM
 iterate 6 refine kF hC b3 ?_
 refine kP hC false b3 ?_
 refine kO hT hC ?_
 iterate 6 refine kF hC rfl ?_
 iterate 2 refine kO hT hC ?_
 exact Vc.nil kM
 iterate 4 refine kF hC b2 ?_
 refine kP hC false b2 ?_
 refine kO hT hC ?_
 iterate 6 refine kF hC rfl ?_
 iterate 2 refine kO hT hC ?_
 iterate 6 refine kF hC rfl ?_
 iterate 2 refine kO hT hC ?_
 exact Vc.nil kM
 iterate 4 refine kF hC b1 ?_
 refine kP hC false b1 ?_
 refine kO hT hC ?_
 iterate 4 refine kF hC rfl ?_
 iterate 2 refine kO hT hC ?_
 iterate 6 refine kF hC rfl ?_
 iterate 2 refine kO hT hC ?_
 iterate 6 refine kF hC rfl ?_
 iterate 2 refine kO hT hC ?_
 exact Vc.nil kM
 exact Xah kR
def Yka (r : Bool) : AV := .sv (.bool r)
def Yj9 (r : Bool) : Xa1 := []
theorem Xnh {p0 p1 p2 r} (h : Xg1 p0 p1 p2 = some r) : AC Tryz.prog 181 [.agg [.sv (.int .i64 p0.Wide), .sv (.int .i64 p0.High), .sv (.str p0.Dots)], .sv (.int .i64 p1), .sv (.int .i64 p2)] [] (Yka r) (Yj9 r) := by
 refine Xae hT Tryz.func181 rfl fun C hC => ?_
 unfold Xg1 at h
 refine Xab ?_
 iterate 2 refine kO hT hC ?_
 refine Vc.nil ?_
 refine kL [1,2,3,6] [48] [_,_,_,_] [_] ?_
 refine kA h (fun v1 => ([(6, .sv (.bool v1)), (1, .any), (2, .any), (3, .any)], [(48, none)])) (fun v1 h => ?_) fun v1 h => ?_
 refine Xac ?_
 refine kO hT hC ?_
 refine kQ hT hC h fun h => ?_
 iterate 2 refine kO hT hC ?_
 refine kS h ?_ ?_ <;> intro b1 h
 refine kI hT hC b1 ?_
 refine kJ hT hC b1 h fun h => ?_
 refine kI hT hC b1 ?_
 refine kP hC true b1 ?_
 refine kO hT hC ?_
 refine kS h ?_ ?_ <;> intro b2 h
 iterate 3 refine kI hT hC b2 ?_
 refine kE hC b2 [] Tryz.call209 h (fun _ => Xtw) fun q2 h => ?_
 refine kP hC true b2 ?_
 refine kO hT hC ?_
 exact Vc.nil kM
 iterate 4 refine kF hC b2 ?_
 refine kP hC false b2 ?_
 refine kO hT hC ?_
 exact Vc.nil kM
 iterate 3 refine kF hC b1 ?_
 refine kP hC false b1 ?_
 refine kO hT hC ?_
 iterate 4 refine kF hC rfl ?_
 iterate 2 refine kO hT hC ?_
 exact Vc.nil kM
 exact Xah kR
def Xvj (r : Bool) : AV := .sv (.bool r)
def Xvi (r : Bool) : Xa1 := []
theorem Xng {p0 r} (h : Xeo p0 = some r) : AC Tryz.prog 182 [.sv (.ints .i64 p0)] [] (Xvj r) (Xvi r) := by
 refine Xae hT Tryz.func182 rfl fun C hC => ?_
 unfold Xeo at h
 refine Xab ?_
 refine kO hT hC ?_
 refine Vc.nil (Xap (Xab ?_))
 iterate 3 refine kO hT hC ?_
 refine Vc.nil ?_
 refine kS h ?_ ?_ <;> intro b1 h
 refine kt b1 (Xab ?_)
 refine kO hT hC ?_
 exact Vc.nil (Xah (Xar kR))
 refine kf b1 (Xag (Xaf (Xap (Xab ?_))))
 refine kO hT hC ?_
 refine Vc.nil ?_
 refine kL [0,3] [] [_,_] [] ?_
 obtain ⟨o8, hl, h⟩ := Xa8 h
 refine Xgn (fun v3 => ([(3, .sv (.int .i64 v3))], [])) (fun v6 => ([(0, .any), (3, .any)], [])) (fun r => Xrj C T Tryz.f182.results.toList (Xvj r) (Xvi r)) hl ?_ ?_ ?_ ?_
 apply Xdk hC []
 exact co
 rfl
 decide
 rfl
 intro v3 s hs
 have h := hs
 unfold Xd5 at h
 refine Xap (Xab ?_)
 iterate 2 refine kO hT hC ?_
 refine Vc.nil ?_
 refine kS h ?_ ?_ <;> intro b6 h
 refine kt b6 (Xag (Xaf (Xap (Xak (Xab ?_)))))
 iterate 2 refine kO hT hC ?_
 refine kQ hT hC h fun h => ?_
 refine kO hT hC ?_
 refine kC hC [] Tryz.call107 h (fun _ => Xal) fun q7 h => ?_
 refine kO hT hC ?_
 refine Vc.nil ?_
 refine kS h ?_ ?_ <;> intro b7 h
 refine kt b7 (Xab ?_)
 refine kO hT hC ?_
 refine Vc.nil (Xah (Xfa (Xar ?_)))
 obtain rfl := kj h
 refine Xsj (Xsi ?_)
 exact Xbw (Xj2.refl _) rfl trivial
 refine kf b7 (Xag (Xam (Xaf (Xac ?_))))
 iterate 3 refine kO hT hC ?_
 exact Vc.nil kG
 exact kf b6 (Xan (Xat kb))
 intro v6 e
 subst e
 refine Xaf (Xab ?_)
 refine kO hT hC ?_
 exact Vc.nil (Xah kR)
 intro r' σ' e hE
 subst e
 obtain rfl := kj h
 refine Xar ?_
 exact hE
def Yke (r : (List Int)) : AV := .own 16
def Ykd (r : (List Int)) : Xa1 := [(16, .ints .i64 r)]
theorem Xrg {p0 p1 r} (h : Xje p0 p1 = some r) : AC Tryz.prog 211 [.sv (.ints .i64 p0), .sv (.ints .i64 p1)] [] (Yke r) (Ykd r) := by
 refine Xae hT Tryz.func211 rfl fun C hC => ?_
 unfold Xje at h
 refine Xab ?_
 refine kO hT hC ?_
 refine kN ?_
 iterate 2 refine kO hT hC ?_
 refine Vc.nil (Xap (Xab ?_))
 refine kO hT hC ?_
 refine Vc.nil ?_
 refine kL [0,1,5,6] [112] [_,_,_,_] [_] ?_
 refine kX h (fun v2 => ([(6, .sv (.int .i64 v2.1))], [(112, some (.ints .i64 v2.2))])) (fun v4 => ([(0, .any), (1, .any), (6, .any)], [(112, some (.ints .i64 v4))])) (kW hC []) (fun v2 s h => ?_) fun v4 h => ?_
 unfold Xnj at h
 refine Xap (Xab ?_)
 iterate 2 refine kO hT hC ?_
 refine Vc.nil ?_
 refine kS h ?_ ?_ <;> intro b3 h
 refine kt b3 (Xag (Xaf (Xap (Xak ?_))))
 refine Xb3 hm ?_
 iterate 3 refine kO hT hC ?_
 refine kQ hT hC h fun h => ?_
 iterate 3 refine kO hT hC ?_
 refine kQ hT hC h fun h => ?_
 iterate 3 refine kO hT hC ?_
 refine kT hT hC h fun h => ?_
 refine kO hT hC ?_
 refine kD (Xam (Xaf (Xac ?_)))
 iterate 3 refine kO hT hC ?_
 refine Vc.nil ?_
 obtain rfl := kj h
 exact Xx7 (kW hC [(112, 368)])
 exact kf b3 (Xan (Xat ku))
 refine Xaf (Xab ?_)
 iterate 2 refine kO hT hC ?_
 refine Vc.nil (Xah ?_)
 obtain rfl := kj h
 exact Xbw (τ := ⟨[(4, .own 16)], [(16, some (.ints .i64 v4))]⟩) (kW hC [(16, 112)]) rfl ⟨rfl, trivial⟩
def Xvo (r : Bool) : AV := .sv (.bool r)
def Xvn (r : Bool) : Xa1 := []
theorem Xxf {p0 r} (h : Xl9 p0 = some r) : AC Tryz.prog 210 [.sv (.ints .i64 p0)] [] (Xvo r) (Xvn r) := by
 refine Xae hT Tryz.func210 rfl fun C hC => ?_
 unfold Xl9 at h
 refine Xab ?_
 refine kO hT hC ?_
 refine Vc.nil (Xap (Xab ?_))
 refine kO hT hC ?_
 refine Vc.nil ?_
 refine kL [0,3] [] [_,_] [] ?_
 obtain ⟨o5, hl, h⟩ := Xa8 h
 refine Xgn (fun v2 => ([(3, .sv (.int .i64 v2))], [])) (fun v4 => ([(0, .any), (3, .any)], [])) (fun r => Xrj C T Tryz.f210.results.toList (Xvo r) (Xvn r)) hl ?_ ?_ ?_ ?_
 apply Xdk hC []
 exact co
 rfl
 decide
 rfl
 intro v2 s hs
 have h := hs
 unfold Xjf at h
 refine Xap (Xab ?_)
 iterate 4 refine kO hT hC ?_
 refine Vc.nil ?_
 refine kS h ?_ ?_ <;> intro b5 h
 refine kt b5 (Xag (Xaf (Xap (Xak (Xab ?_)))))
 iterate 2 refine kO hT hC ?_
 refine kQ hT hC h fun h => ?_
 iterate 2 refine kO hT hC ?_
 refine Vc.nil ?_
 refine kS h ?_ ?_ <;> intro b6 h
 refine kt b6 (Xab ?_)
 refine kO hT hC ?_
 refine Vc.nil (Xah (Xfa (Xar ?_)))
 obtain rfl := kj h
 refine Xsj (Xsi ?_)
 exact Xbw (Xj2.refl _) rfl trivial
 refine kf b6 (Xag (Xam (Xaf (Xac ?_))))
 iterate 3 refine kO hT hC ?_
 exact Vc.nil kG
 exact kf b5 (Xan (Xat kb))
 intro v4 e
 subst e
 refine Xaf (Xab ?_)
 refine kO hT hC ?_
 exact Vc.nil (Xah kR)
 intro r' σ' e hE
 subst e
 obtain rfl := kj h
 refine Xar ?_
 exact hE
def Yir (r : (Xji × Bool)) : AV := .tup [.agg [.own 16, .own 17, .sv (.int .i64 r.1.Corner)], .sv (.bool r.2)]
def Yiq (r : (Xji × Bool)) : Xa1 := [(16, .ints .i64 r.1.Above), (17, .ints .i64 r.1.Left)]
theorem Xwl {p0 p1 p2 r} (h : Xfo p0 p1 p2 = some r) : AC Tryz.prog 212 [.agg [.sv (.int .i64 p0.Wide), .sv (.int .i64 p0.High), .sv (.str p0.Dots)], .sv (.int .i64 p1), .sv (.int .i64 p2)] [] (Yir r) (Yiq r) := by
 refine Xae hT Tryz.func212 rfl fun C hC => ?_
 unfold Xfo at h
 refine Xab ?_
 iterate 3 refine kO hT hC ?_
 refine Vc.nil (Xap (Xab ?_))
 iterate 3 refine kO hT hC ?_
 refine kC hC [] Tryz.call181 h (fun _ => Xnh) fun q1 h => ?_
 refine kO hT hC ?_
 refine Vc.nil ?_
 refine kS h ?_ ?_ <;> intro b1 h
 refine kt b1 (Xab ?_)
 iterate 3 refine kO hT hC ?_
 refine Vc.nil (Xah (Xar ?_))
 obtain rfl := kj h
 refine Xbw (τ := ⟨[(6, .ptr 2000000 0), (7, .sv (.bool false))], [(16, some (.ints .i64 [])), (17, some (.ints .i64 [])), (2000000, some (.box [.own 16, .own 17, .sv (.int .i64 0)]))]⟩) ?_ rfl ⟨rfl, rfl, trivial⟩
 refine Xma hC 96 0 1025 (.ints .i64 []) rfl rfl rfl rfl rfl trivial ?_
 refine Xma hC 96 1 1026 (.ints .i64 []) rfl rfl rfl rfl rfl trivial ?_
 apply Xdk hC [(16, 1025), (17, 1026), (2000000, 96)]
 exact co
 rfl
 decide
 rfl
 refine kf b1 (Xag (Xaf (Xab ?_)))
 iterate 3 refine kO hT hC ?_
 refine Vc.nil (Xap (Xab ?_))
 refine kO hT hC ?_
 refine Vc.nil ?_
 refine kL [1,2,3,6,8,9] [48,96,128] [_,_,_,_,_,_] [_,_,_] ?_
 obtain ⟨v13, hl, h⟩ := Xa8 h
 refine Zdk (fun v7 => ([(9, .sv (.int .i64 v7.1))], [(128, some (.box [.own 1049, .own 1050, .sv (.int .i64 (-1))])), (1049, some (.ints .i64 v7.2.1)), (1050, some (.ints .i64 v7.2.2))])) (fun v13 => ([(9, .any)], [(128, some (.box [.own 1053, .own 1054, .sv (.int .i64 (-1))])), (1053, some (.ints .i64 v13.1)), (1054, some (.ints .i64 v13.2))])) hl ?_ ?_ ?_
 refine Xma hC 128 0 1055 (.ints .i64 []) rfl rfl rfl rfl rfl trivial ?_
 refine Xma hC 128 1 1056 (.ints .i64 []) rfl rfl rfl rfl rfl trivial ?_
 try dsimp only
 apply Xdk hC [(1049, 1055), (1050, 1056)]
 exact co
 rfl
 decide
 rfl
 intro v7 s hs
 have h := hs
 unfold Xe2 at h
 refine Xap (Xab ?_)
 iterate 2 refine kO hT hC ?_
 refine Vc.nil ?_
 refine kS h ?_ ?_ <;> intro b8 h
 refine kt b8 (Xag (Xaf ?_))
 refine kL [1,2,3,6,8,9] [48,96,128,1049,1050] [_,_,_,_,_,_] [_,_,_,_,_] ?_
 refine kA h (fun v14 => ([], [(1049, some (.ints .i64 v14.1)), (1050, some (.ints .i64 v14.2))])) (fun v14 h => ?_) fun v14 h => ?_
 refine Xak ?_
 refine kL [1,2,3,6,8,9] [48,96,128,1049,1050] [_,_,_,_,_,_] [_,_,_,_,_] ?_
 refine kA h (fun v15 => ([], [(1049, some (.ints .i64 v15))])) (fun v15 h => ?_) fun v15 h => ?_
 refine Xab ?_
 iterate 2 refine kO hT hC ?_
 refine Vc.nil ?_
 refine kS h ?_ ?_ <;> intro b9 h
 refine kt b9 ?_
 refine Xb3 hm ?_
 iterate 8 refine kO hT hC ?_
 refine kC hC [] Tryz.call120 h (fun _ => Xmx) fun q16 h => ?_
 refine kO hT hC ?_
 refine kT hT hC h fun h => ?_
 iterate 2 refine kO hT hC ?_
 refine kD ?_
 obtain rfl := kj h
 exact Xgl (kW hC [(1049, 528)])
 exact kf b9 (Xag kM)
 refine Xab ?_
 iterate 2 refine kO hT hC ?_
 refine Vc.nil ?_
 refine kS h ?_ ?_ <;> intro b10 h
 refine kt b10 ?_
 refine Xb3 hm ?_
 iterate 8 refine kO hT hC ?_
 refine kC hC [] Tryz.call120 h (fun _ => Xmx) fun q17 h => ?_
 refine kO hT hC ?_
 refine kT hT hC h fun h => ?_
 iterate 2 refine kO hT hC ?_
 refine kD (Xam ?_)
 obtain rfl := kj h
 exact Xgl (kW hC [(1050, 752)])
 exact kf b10 (Xag (Xam kM))
 refine Xac ?_
 iterate 3 refine kO hT hC ?_
 exact Vc.nil kG
 refine kf b8 (Xan (Xat ?_))
 obtain rfl := kj h
 exact Yz6 (Zg5 (kW hC [(1053, 1049), (1054, 1050)]))
 refine Xaf ?_
 refine kL [1,2,3,6,8] [48,96,128,1053,1054] [_,_,_,_,_] [_,_,_,_,_] ?_
 refine kA h (fun v19 => ([(1, .any), (2, .any), (3, .any)], [(128, some (.box [.own 1053, .own 1054, .sv (.int .i64 v19)])), (48, none)])) (fun v19 h => ?_) fun v19 h => ?_
 refine kL [1,2,3,6,8] [48,96,128,1053,1054] [_,_,_,_,_] [_,_,_,_,_] ?_
 refine kA h (fun v20 => ([(54, .sv (.bool v20))], [])) (fun v20 h => ?_) fun v20 h => ?_
 refine Xac ?_
 iterate 3 refine kO hT hC ?_
 refine kS h ?_ ?_ <;> intro b11 h
 iterate 2 refine kI hT hC b11 ?_
 refine kP hC true b11 ?_
 exact Vc.nil kM
 iterate 2 refine kF hC b11 ?_
 refine kP hC false b11 ?_
 exact Vc.nil kM
 refine kS h ?_ ?_ <;> intro b12 h
 refine kt b12 (Xac ?_)
 iterate 5 refine kO hT hC ?_
 refine kC hC [] Tryz.call120 h (fun _ => Xmx) fun q21 h => ?_
 iterate 2 refine kO hT hC ?_
 exact Vc.nil kM
 exact kf b12 (Xag kM)
 refine Xab ?_
 iterate 3 refine kO hT hC ?_
 refine Vc.nil (Xah ?_)
 obtain rfl := kj h
 exact Xbw (τ := ⟨[(6, .ptr 2000000 0), (7, .sv (.bool true))], [(16, some (.ints .i64 v13.1)), (17, some (.ints .i64 v13.2)), (2000000, some (.box [.own 16, .own 17, .sv (.int .i64 v19)]))]⟩) (kW hC [(16, 1053), (17, 1054), (2000000, 96)]) rfl ⟨rfl, rfl, trivial⟩
def Xvl (r : Bool) : AV := .sv (.bool r)
def Xvk (r : Bool) : Xa1 := []
theorem Xxa {p0 r} (h : Xl7 p0 = some r) : AC Tryz.prog 254 [.sv (.ints .i64 p0)] [] (Xvl r) (Xvk r) := by
 refine Xae hT Tryz.func254 rfl fun C hC => ?_
 unfold Xl7 at h
 refine Xab ?_
 refine kO hT hC ?_
 refine Vc.nil (Xap ?_)
 refine kL [0] [] [_] [] ?_
 refine kA h (fun v1 => ([(11, .sv (.bool v1))], [])) (fun v1 h => ?_) fun v1 h => ?_
 refine Xac ?_
 iterate 4 refine kO hT hC ?_
 refine kS h ?_ ?_ <;> intro b1 h
 iterate 3 refine kI hT hC b1 ?_
 refine kP hC true b1 ?_
 exact Vc.nil kM
 iterate 3 refine kF hC b1 ?_
 refine kP hC false b1 ?_
 exact Vc.nil kM
 refine kS h ?_ ?_ <;> intro b2 h
 refine kt b2 (Xab ?_)
 refine kO hT hC ?_
 exact Vc.nil (Xah (Xar kR))
 refine kf b2 (Xag (Xaf (Xap (Xab ?_))))
 refine kO hT hC ?_
 refine Vc.nil ?_
 refine kL [0,3] [] [_,_] [] ?_
 obtain ⟨o9, hl, h⟩ := Xa8 h
 refine Xgn (fun v4 => ([(3, .sv (.int .i64 v4))], [])) (fun v7 => ([(0, .any), (3, .any)], [])) (fun r => Xrj C T Tryz.f254.results.toList (Xvl r) (Xvk r)) hl ?_ ?_ ?_ ?_
 apply Xdk hC []
 exact co
 rfl
 decide
 rfl
 intro v4 s hs
 have h := hs
 unfold Xjd at h
 refine Xap (Xab ?_)
 iterate 4 refine kO hT hC ?_
 refine Vc.nil ?_
 refine kS h ?_ ?_ <;> intro b7 h
 refine kt b7 (Xag (Xaf (Xap (Xak (Xab ?_)))))
 iterate 2 refine kO hT hC ?_
 refine kQ hT hC h fun h => ?_
 refine kO hT hC ?_
 refine kC hC [] Tryz.call107 h (fun _ => Xal) fun q8 h => ?_
 refine kO hT hC ?_
 refine Vc.nil ?_
 refine kS h ?_ ?_ <;> intro b8 h
 refine kt b8 (Xab ?_)
 refine kO hT hC ?_
 refine Vc.nil (Xah (Xfa (Xar ?_)))
 obtain rfl := kj h
 refine Xsj (Xsi ?_)
 exact Xbw (Xj2.refl _) rfl trivial
 refine kf b8 (Xag (Xam (Xaf (Xac ?_))))
 iterate 3 refine kO hT hC ?_
 exact Vc.nil kG
 exact kf b7 (Xan (Xat kb))
 intro v7 e
 subst e
 refine Xaf (Xab ?_)
 refine kO hT hC ?_
 exact Vc.nil (Xah kR)
 intro r' σ' e hE
 subst e
 obtain rfl := kj h
 refine Xar ?_
 exact hE
def Yit (r : Bool) : AV := .sv (.bool r)
def Yis (r : Bool) : Xa1 := []
theorem Xwn {p0 r} (h : Xlz p0 = some r) : AC Tryz.prog 234 [.agg [.sv (.ints .i64 p0.Above), .sv (.ints .i64 p0.Left), .sv (.int .i64 p0.Corner)]] [] (Yit r) (Yis r) := by
 refine Xae hT Tryz.func234 rfl fun C hC => ?_
 unfold Xlz at h
 refine Xab ?_
 iterate 2 refine kO hT hC ?_
 refine Vc.nil ?_
 refine kL [1,2] [16] [_,_] [_] ?_
 refine kA h (fun v1 => ([(2, .sv (.bool v1)), (1, .any)], [(16, none)])) (fun v1 h => ?_) fun v1 h => ?_
 refine Xac ?_
 iterate 2 refine kO hT hC ?_
 refine kC hC [] Tryz.call254 h (fun _ => Xxa) fun q2 h => ?_
 refine kO hT hC ?_
 refine kS h ?_ ?_ <;> intro b1 h
 iterate 2 refine kI hT hC b1 ?_
 refine kE hC b1 [] Tryz.call254 h (fun _ => Xxa) fun q3 h => ?_
 refine kP hC true b1 ?_
 refine kO hT hC ?_
 refine kS h ?_ ?_ <;> intro b2 h
 iterate 2 refine kI hT hC b2 ?_
 refine kE hC b2 [] Tryz.call107 h (fun _ => Xal) fun q4 h => ?_
 refine kP hC true b2 ?_
 refine kO hT hC ?_
 exact Vc.nil kM
 iterate 3 refine kF hC b2 ?_
 refine kP hC false b2 ?_
 refine kO hT hC ?_
 exact Vc.nil kM
 iterate 3 refine kF hC b1 ?_
 refine kP hC false b1 ?_
 refine kO hT hC ?_
 iterate 3 refine kF hC rfl ?_
 iterate 2 refine kO hT hC ?_
 exact Vc.nil kM
 exact Xah kR
def Yd1 (r : Int) : AV := .sv (.int .i64 r)
def Yd0 (r : Int) : Xa1 := []
theorem Xtx {p0 p1 r} (h : Xdp p0 p1 = some r) : AC Tryz.prog 245 [.sv (.ints .i64 p0), .sv (.int .i64 p1)] [] (Yd1 r) (Yd0 r) := by
 refine Xae hT Tryz.func245 rfl fun C hC => ?_
 unfold Xdp at h
 refine Xab ?_
 refine kO hT hC ?_
 refine Vc.nil (Xap (Xab ?_))
 iterate 3 refine kO hT hC ?_
 refine Vc.nil ?_
 refine kS h ?_ ?_ <;> intro b1 h
 refine kt b1 (Xab ?_)
 refine kO hT hC ?_
 exact Vc.nil (Xah (Xar kR))
 refine kf b1 (Xag (Xaf (Xab ?_)))
 iterate 2 refine kO hT hC ?_
 refine kQ hT hC h fun h => ?_
 iterate 2 refine kO hT hC ?_
 exact Vc.nil (Xah kR)
def Yo4 (r : Int) : AV := .sv (.int .i64 r)
def Yo3 (r : Int) : Xa1 := []
theorem Yr5 {p0 r} (h : Xlj p0 = some r) : AC Tryz.prog 246 [.agg [.sv (.ints .i64 p0.Above), .sv (.ints .i64 p0.Left), .sv (.int .i64 p0.Corner)]] [] (Yo4 r) (Yo3 r) := by
 refine Xae hT Tryz.func246 rfl fun C hC => ?_
 unfold Xlj at h
 refine Xab ?_
 iterate 2 refine kO hT hC ?_
 refine kN ?_
 iterate 8 refine kO hT hC ?_
 refine Vc.nil (Xap (Xab ?_))
 iterate 2 refine kO hT hC ?_
 refine Vc.nil ?_
 refine kS h ?_ ?_ <;> intro b1 h
 refine kt b1 (Xab ?_)
 refine kO hT hC ?_
 exact Vc.nil (Xah (Xar kR))
 refine kf b1 (Xag (Xaf (Xab ?_)))
 refine kO hT hC ?_
 refine kQ hT hC h fun h => ?_
 refine kO hT hC ?_
 refine Vc.nil (Xap (Xab ?_))
 refine kO hT hC ?_
 refine Vc.nil ?_
 refine kL [1,3,4,5] [16] [_,_,_,_] [_] ?_
 refine kX h (fun v2 => ([(4, .sv (.int .i64 v2.1)), (5, .sv (.int .i64 v2.2))], [])) (fun v4 => ([(4, .sv (.int .i64 v4)), (5, .any)], [])) (kW hC []) (fun v2 s h => ?_) fun v4 h => ?_
 unfold Xh4 at h
 refine Xap (Xab ?_)
 iterate 5 refine kO hT hC ?_
 refine Vc.nil ?_
 refine kS h ?_ ?_ <;> intro b4 h
 refine kt b4 (Xag (Xaf (Xap (Xak (Xac ?_)))))
 iterate 4 refine kO hT hC ?_
 refine kQ hT hC h fun h => ?_
 iterate 3 refine kO hT hC ?_
 refine Vc.nil (Xam (Xaf (Xac ?_)))
 iterate 3 refine kO hT hC ?_
 exact Vc.nil kG
 exact kf b4 (Xan (Xat ku))
 refine Xaf (Xap (Xab ?_))
 refine kO hT hC ?_
 refine Vc.nil ?_
 refine kL [1,3,4,6] [16] [_,_,_,_] [_] ?_
 refine kX h (fun v7 => ([(4, .sv (.int .i64 v7.1)), (6, .sv (.int .i64 v7.2))], [])) (fun v9 => ([(4, .sv (.int .i64 v9)), (1, .any), (6, .any)], [(16, none)])) (kW hC []) (fun v7 s h => ?_) fun v9 h => ?_
 unfold Xh5 at h
 refine Xap (Xab ?_)
 iterate 5 refine kO hT hC ?_
 refine Vc.nil ?_
 refine kS h ?_ ?_ <;> intro b7 h
 refine kt b7 (Xag (Xaf (Xap (Xak (Xac ?_)))))
 iterate 4 refine kO hT hC ?_
 refine kQ hT hC h fun h => ?_
 iterate 3 refine kO hT hC ?_
 refine Vc.nil (Xam (Xaf (Xac ?_)))
 iterate 3 refine kO hT hC ?_
 exact Vc.nil kG
 exact kf b7 (Xan (Xat ku))
 refine Xaf (Xab ?_)
 iterate 2 refine kO hT hC ?_
 refine kQ hT hC h fun h => ?_
 refine kO hT hC ?_
 exact Vc.nil (Xah kR)
def Yiw (r : (List Int)) : AV := .own 16
def Yiv (r : (List Int)) : Xa1 := [(16, .ints .i64 r)]
theorem Xq0 {p0 p1 r} (h : Xdw p0 p1 = some r) : AC Tryz.prog 216 [.sv (.int .i64 p0), .agg [.sv (.ints .i64 p1.Above), .sv (.ints .i64 p1.Left), .sv (.int .i64 p1.Corner)]] [] (Yiw r) (Yiv r) := by
 refine Xae hT Tryz.func216 rfl fun C hC => ?_
 unfold Xdw at h
 refine Xab ?_
 iterate 2 refine kO hT hC ?_
 refine kN ?_
 iterate 2 refine kO hT hC ?_
 refine Vc.nil (Xap ?_)
 refine kL [0,3,5] [48,160] [_,_,_] [_,_] ?_
 refine kA h (fun v1 => ([(18, .sv (.bool v1))], [])) (fun v1 h => ?_) fun v1 h => ?_
 refine Xac ?_
 refine kO hT hC ?_
 refine kC hC [] Tryz.call234 h (fun _ => Xwn) fun q2 h => ?_
 iterate 2 refine kO hT hC ?_
 refine kS h ?_ ?_ <;> intro b1 h
 refine kI hT hC (kn b1) ?_
 refine kE hC (kn b1) [] Tryz.call107 h (fun _ => Xal) fun q3 h => ?_
 refine kI hT hC (kn b1) ?_
 refine kP hC false (kn b1) ?_
 exact Vc.nil kM
 iterate 3 refine kF hC (kn b1) ?_
 refine kP hC true (kn b1) ?_
 exact Vc.nil kM
 refine kS h ?_ ?_ <;> intro b2 h
 refine kt b2 (Xab ?_)
 iterate 2 refine kO hT hC ?_
 refine Vc.nil (Xah (Xar ?_))
 obtain rfl := kj h
 exact Xbw (τ := ⟨[(4, .own 16)], [(16, some (.ints .i64 ([] : List Int)))]⟩) (kW hC [(16, 160)]) rfl ⟨rfl, trivial⟩
 refine kf b2 (Xag (Xaf (Xab ?_)))
 iterate 3 refine kO hT hC ?_
 refine Vc.nil ?_
 refine kL [0,3,5,6] [48,160] [_,_,_,_] [_,_] ?_
 refine kA h (fun v4 => ([(6, .sv (.int .i64 v4))], [])) (fun v4 h => ?_) fun v4 h => ?_
 refine Xab ?_
 iterate 2 refine kO hT hC ?_
 refine Vc.nil ?_
 refine kS h ?_ ?_ <;> intro b3 h
 refine kt b3 (Xac ?_)
 refine kO hT hC ?_
 exact Vc.nil kM
 exact kf b3 (Xag kM)
 refine Xap (Xab ?_)
 refine kO hT hC ?_
 refine Vc.nil ?_
 refine kL [0,3,5,6,7] [48,160] [_,_,_,_,_] [_,_] ?_
 refine kX h (fun v11 => ([(7, .sv (.int .i64 v11.1))], [(160, some (.ints .i64 v11.2))])) (fun v18 => ([(0, .any), (3, .any), (6, .any), (7, .any)], [(160, some (.ints .i64 v18)), (48, none)])) (kW hC []) (fun v11 s h => ?_) fun v18 h => ?_
 unfold Xdx at h
 refine Xap (Xab ?_)
 iterate 2 refine kO hT hC ?_
 refine Vc.nil ?_
 refine kS h ?_ ?_ <;> intro b12 h
 refine kt b12 (Xag (Xaf ?_))
 refine kL [0,3,5,6,7] [48,160] [_,_,_,_,_] [_,_] ?_
 refine kA h (fun v19 => ([(5, .own 1110)], [(1110, some (.ints .i64 v19)), (160, none)])) (fun v19 h => ?_) fun v19 h => ?_
 refine Xak (Xab ?_)
 iterate 3 refine kO hT hC ?_
 refine kQ hT hC h fun h => ?_
 refine kC hC [] Tryz.call245 h (fun _ => Xtx) fun q20 h => ?_
 refine kO hT hC ?_
 refine kN ?_
 iterate 3 refine kO hT hC ?_
 refine kQ hT hC h fun h => ?_
 refine kC hC [] Tryz.call245 h (fun _ => Xtx) fun q21 h => ?_
 refine kO hT hC ?_
 refine kN ?_
 refine kO hT hC ?_
 refine Vc.nil (Xak (Xab ?_))
 iterate 2 refine kO hT hC ?_
 refine Vc.nil ?_
 refine kS h ?_ ?_ <;> intro b13 h
 refine kt b13 (Xac ?_)
 iterate 2 refine kO hT hC ?_
 refine kC hC [] Tryz.call246 h (fun _ => Yr5) fun q22 h => ?_
 refine kO hT hC ?_
 refine kT hT hC h fun h => ?_
 refine kO hT hC ?_
 refine Vc.nil ?_
 iterate 2 refine Xam ?_
 obtain rfl := kj h
 exact Xgl (kW hC [(1110, 864)])
 refine kf b13 (Xab ?_)
 iterate 2 refine kO hT hC ?_
 refine Vc.nil ?_
 refine kS h ?_ ?_ <;> intro b14 h
 refine kt b14 (Xac ?_)
 iterate 3 refine kO hT hC ?_
 refine kT hT hC h fun h => ?_
 refine kO hT hC ?_
 refine Vc.nil ?_
 iterate 2 refine Xam ?_
 obtain rfl := kj h
 exact Xgl (kW hC [(1110, 960)])
 refine kf b14 (Xab ?_)
 iterate 2 refine kO hT hC ?_
 refine Vc.nil ?_
 refine kS h ?_ ?_ <;> intro b15 h
 refine kt b15 (Xac ?_)
 iterate 3 refine kO hT hC ?_
 refine kT hT hC h fun h => ?_
 refine kO hT hC ?_
 refine Vc.nil ?_
 iterate 2 refine Xam ?_
 obtain rfl := kj h
 exact Xgl (kW hC [(1110, 1056)])
 refine kf b15 (Xac ?_)
 iterate 6 refine kO hT hC ?_
 refine kC hC [] Tryz.call143 h (fun _ => Xdu) fun q23 h => ?_
 refine kO hT hC ?_
 refine kT hT hC h fun h => ?_
 refine kO hT hC ?_
 refine Vc.nil ?_
 iterate 2 refine Xam ?_
 obtain rfl := kj h
 exact Xgl (kW hC [(1110, 752)])
 refine Xac ?_
 iterate 3 refine kO hT hC ?_
 refine Vc.nil ?_
 obtain rfl := kj h
 exact Xx7 (kW hC [(160, 1110)])
 exact kf b12 (Xan (Xat ku))
 refine Xaf (Xab ?_)
 iterate 2 refine kO hT hC ?_
 refine Vc.nil (Xah ?_)
 obtain rfl := kj h
 exact Xbw (τ := ⟨[(4, .own 16)], [(16, some (.ints .i64 v18))]⟩) (kW hC [(16, 160)]) rfl ⟨rfl, trivial⟩
def Xw3 (r : Bool) : AV := .sv (.bool r)
def Xw2 (r : Bool) : Xa1 := []
theorem Xcj {p0 p1 p2 r} (h : Xb6 p0 p1 p2 = some r) : AC Tryz.prog 238 [.sv (.ints .i64 p0), .sv (.int .i64 p1), .sv (.int .i64 p2)] [] (Xw3 r) (Xw2 r) := by
 refine Xae hT Tryz.func238 rfl fun C hC => ?_
 unfold Xb6 at h
 refine Xab ?_
 refine kO hT hC ?_
 refine Vc.nil (Xap (Xab ?_))
 iterate 4 refine kO hT hC ?_
 refine Vc.nil ?_
 refine kS h ?_ ?_ <;> intro b1 h
 refine kt b1 (Xab ?_)
 refine kO hT hC ?_
 exact Vc.nil (Xah (Xar kR))
 refine kf b1 (Xag (Xaf (Xap (Xab ?_))))
 refine kO hT hC ?_
 refine Vc.nil ?_
 refine kL [0,1,2,7] [] [_,_,_,_] [] ?_
 obtain ⟨o8, hl, h⟩ := Xa8 h
 refine Xgn (fun v3 => ([(7, .sv (.int .i64 v3))], [])) (fun v6 => ([(0, .any), (1, .any), (2, .any), (7, .any)], [])) (fun r => Xrj C T Tryz.f238.results.toList (Xw3 r) (Xw2 r)) hl ?_ ?_ ?_ ?_
 apply Xdk hC []
 exact co
 rfl
 decide
 rfl
 intro v3 s hs
 have h := hs
 unfold Xel at h
 refine Xap (Xab ?_)
 iterate 3 refine kO hT hC ?_
 refine Vc.nil ?_
 refine kS h ?_ ?_ <;> intro b6 h
 refine kt b6 (Xag (Xaf (Xap (Xak (Xab ?_)))))
 iterate 2 refine kO hT hC ?_
 refine kQ hT hC h fun h => ?_
 iterate 4 refine kO hT hC ?_
 refine kC hC [] Tryz.call107 h (fun _ => Xal) fun q7 h => ?_
 refine kO hT hC ?_
 refine Vc.nil ?_
 refine kS h ?_ ?_ <;> intro b7 h
 refine kt b7 (Xab ?_)
 refine kO hT hC ?_
 refine Vc.nil (Xah (Xfa (Xar ?_)))
 obtain rfl := kj h
 refine Xsj (Xsi ?_)
 exact Xbw (Xj2.refl _) rfl trivial
 refine kf b7 (Xag (Xam (Xaf (Xac ?_))))
 iterate 3 refine kO hT hC ?_
 exact Vc.nil kG
 exact kf b6 (Xan (Xat kb))
 intro v6 e
 subst e
 refine Xaf (Xab ?_)
 refine kO hT hC ?_
 exact Vc.nil (Xah kR)
 intro r' σ' e hE
 subst e
 obtain rfl := kj h
 refine Xar ?_
 exact hE
def Yge (r : Int) : AV := .sv (.int .i64 r)
def Ygd (r : Int) : Xa1 := []
theorem Xpq {p0 r} (h : Xej p0 = some r) : AC Tryz.prog 255 [.sv (.int .i64 p0)] [] (Yge r) (Ygd r) := by
 refine Xae hT Tryz.func255 rfl fun C hC => ?_
 unfold Xej at h
 refine Xab ?_
 refine kO hT hC ?_
 refine Vc.nil (Xap (Xab ?_))
 iterate 2 refine kO hT hC ?_
 refine Vc.nil ?_
 refine kS h ?_ ?_ <;> intro b1 h
 refine kt b1 (Xab ?_)
 iterate 3 refine kO hT hC ?_
 exact Vc.nil (Xah (Xar kR))
 refine kf b1 (Xag (Xaf (Xab ?_)))
 iterate 2 refine kO hT hC ?_
 exact Vc.nil (Xah kR)
def Yq1 (r : Int) : AV := .sv (.int .i64 r)
def Yq0 (r : Int) : Xa1 := []
theorem Ydc {p0 p1 r} (h : Xqe p0 p1 = some r) : AC Tryz.prog 235 [.sv (.ints .i64 p0), .sv (.ints .i64 p1)] [] (Yq1 r) (Yq0 r) := by
 refine Xae hT Tryz.func235 rfl fun C hC => ?_
 unfold Xqe at h
 refine Xab ?_
 refine kO hT hC ?_
 refine Vc.nil (Xap ?_)
 refine kL [0,1] [] [_,_] [] ?_
 refine kA h (fun v1 => ([(14, .sv (.bool v1))], [])) (fun v1 h => ?_) fun v1 h => ?_
 refine Xac ?_
 refine kO hT hC ?_
 refine kC hC [] Tryz.call238 h (fun _ => Xcj) fun q2 h => ?_
 iterate 2 refine kO hT hC ?_
 refine kS h ?_ ?_ <;> intro b1 h
 refine kI hT hC (kn b1) ?_
 refine kE hC (kn b1) [] Tryz.call238 h (fun _ => Xcj) fun q3 h => ?_
 refine kI hT hC (kn b1) ?_
 refine kP hC false (kn b1) ?_
 exact Vc.nil kM
 iterate 3 refine kF hC (kn b1) ?_
 refine kP hC true (kn b1) ?_
 exact Vc.nil kM
 refine kS h ?_ ?_ <;> intro b2 h
 refine kt b2 (Xab ?_)
 refine kO hT hC ?_
 exact Vc.nil (Xah (Xar kR))
 refine kf b2 (Xag (Xaf (Xab ?_)))
 refine kO hT hC ?_
 refine Vc.nil (Xap (Xab ?_))
 refine kO hT hC ?_
 refine Vc.nil ?_
 refine kL [0,1,5,6] [] [_,_,_,_] [] ?_
 refine kX h (fun v6 => ([(5, .sv (.int .i64 v6.1)), (6, .sv (.int .i64 v6.2))], [])) (fun v9 => ([(5, .sv (.int .i64 v9)), (0, .any), (1, .any), (6, .any)], [])) (kW hC []) (fun v6 s h => ?_) fun v9 h => ?_
 unfold Xmy at h
 refine Xap (Xab ?_)
 iterate 2 refine kO hT hC ?_
 refine Vc.nil ?_
 refine kS h ?_ ?_ <;> intro b5 h
 refine kt b5 (Xag (Xaf (Xap (Xak ?_))))
 refine Xb3 hm ?_
 iterate 3 refine kO hT hC ?_
 refine kQ hT hC h fun h => ?_
 iterate 3 refine kO hT hC ?_
 refine kQ hT hC h fun h => ?_
 iterate 2 refine kO hT hC ?_
 refine kC hC [] Tryz.call255 h (fun _ => Xpq) fun q10 h => ?_
 iterate 2 refine kO hT hC ?_
 refine kD (Xam (Xaf (Xac ?_)))
 iterate 3 refine kO hT hC ?_
 exact Vc.nil kG
 exact kf b5 (Xan (Xat ku))
 refine Xaf (Xab ?_)
 iterate 2 refine kO hT hC ?_
 exact Vc.nil (Xah kR)
def Yrk (r : (ByteArray × Bool)) : AV := .tup [.sv (.str r.1), .sv (.bool r.2)]
def Yrj (r : (ByteArray × Bool)) : Xa1 := []
theorem Yu5 {p0 r} (h : Xtt p0 = some r) : AC Tryz.prog 256 [.sv (.int .i64 p0)] [] (Yrk r) (Yrj r) := by
 refine Xae hT Tryz.func256 rfl fun C hC => ?_
 unfold Xtt at h
 refine Xab ?_
 iterate 2 refine kO hT hC ?_
 refine Vc.nil (Xap (Xab ?_))
 refine kO hT hC ?_
 refine kC hC [] Tryz.call107 h (fun _ => Xal) fun q1 h => ?_
 refine kO hT hC ?_
 refine Vc.nil ?_
 refine kS h ?_ ?_ <;> intro b1 h
 refine kt b1 (Xab ?_)
 iterate 2 refine kO hT hC ?_
 exact Vc.nil (Xah (Xar kR))
 refine kf b1 (Xag (Xaf (Xab ?_)))
 refine kO hT hC ?_
 refine kC hC [] Tryz.call109 h (fun _ => Xdo) fun q2 h => ?_
 iterate 2 refine kO hT hC ?_
 exact Vc.nil (Xah kR)
def Yom (r : Int) : AV := .sv (.int .i64 r)
def Yol (r : Int) : Xa1 := []
theorem Yrl {p0 r} (h : Xi4 p0 = some r) : AC Tryz.prog 236 [.sv (.int .i64 p0)] [] (Yom r) (Yol r) := by
 refine Xae hT Tryz.func236 rfl fun C hC => ?_
 unfold Xi4 at h
 refine Xab ?_
 refine kO hT hC ?_
 refine kN ?_
 refine kO hT hC ?_
 refine kC hC [] Tryz.call256 h (fun _ => Yu5) fun q1 h => ?_
 iterate 5 refine kO hT hC ?_
 refine kN ?_
 iterate 3 refine kO hT hC ?_
 exact Vc.nil (Xah kR)
end
end Go.Proofs.YtnhflbeahbcklaaGreat.A
