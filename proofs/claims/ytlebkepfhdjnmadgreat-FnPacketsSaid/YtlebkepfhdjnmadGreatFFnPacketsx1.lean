/- Contracts of the functions that the law FnPackets reaches, part 1: each comes to what its pure function tells. Written by a program of this session. Conditions: as each statement tells. -/
import Derived.Test.YtlebkepfhdjnmadGreatFFnPacketsx0
namespace Go.Proofs.YtlebkepfhdjnmadGreat.A
open Go Go.Proofs Go.Proofs.YtlebkepfhdjnmadGreatAL Go.RowKit
set_option linter.unusedVariables false
set_option linter.unusedSimpArgs false
set_option maxRecDepth 100000
set_option maxHeartbeats 8000000
noncomputable section
def Xua (r : Bool) : AV := .sv (.bool r)
def Xt9 (r : Bool) : Xa2 := []
theorem Xgl {p0 r} (h : Xcr p0 = some r) : AC Tryz.prog 220 [.agg [.sv (.int .i64 p0.Seq.Level), .sv (.int .i64 p0.Seq.Bits), .sv (.ints .i64 p0.Seq.Cols), .sv (.ints .i64 p0.Seq.Rows), .sv (.int .i64 p0.Par.Qp), .sv (.bool p0.Par.Large), .sv (.bool p0.Par.Exact), .sv (.bool p0.Par.Confined), .sv (.int .i64 p0.Rate.Qp), .sv (.int .i64 p0.Rate.Target), .sv (.int .i64 p0.Rate.Debt), .sv (.int .i64 p0.Frame), .sv (.int .i64 p0.Since), .sv (.int .i64 p0.Every), .sv (.int .i64 p0.Reach), .sv (.bool p0.Has), .sv (.int .i64 p0.Ref.Wide), .sv (.int .i64 p0.Ref.High), .sv (.str p0.Ref.Dots)]] [] (Xua r) (Xt9 r) := by
 refine Xae hT Tryz.func220 rfl fun C hC => ?_
 unfold Xcr at h
 refine Xab ?_
 iterate 2 refine kO hT hC ?_
 refine Vc.nil (Xap ?_)
 refine kL [1] [16] [_] [_] ?_
 refine kA h (fun v1 => ([(35, .sv (.bool v1))], [])) (fun v1 h => ?_) fun v1 h => ?_
 refine Xac ?_
 iterate 2 refine kO hT hC ?_
 refine kC hC [] Tryz.call242 h (fun _ => Xn3) fun q2 h => ?_
 iterate 2 refine kO hT hC ?_
 refine kS h ?_ ?_ <;> intro b1 h
 iterate 4 refine kF hC b1 ?_
 refine kP hC true b1 ?_
 refine kO hT hC ?_
 iterate 4 refine kF hC rfl ?_
 iterate 2 refine kO hT hC ?_
 iterate 3 refine kF hC rfl ?_
 iterate 2 refine kO hT hC ?_
 iterate 8 refine kF hC rfl ?_
 refine kO hT hC ?_
 exact Vc.nil kM
 iterate 2 refine kI hT hC b1 ?_
 refine kE hC b1 [] Tryz.call82 h (fun _ => Xr5) fun q3 h => ?_
 refine kI hT hC b1 ?_
 refine kP hC false b1 ?_
 refine kO hT hC ?_
 refine kS h ?_ ?_ <;> intro b2 h
 iterate 2 refine kI hT hC (kn b2) ?_
 refine kE hC (kn b2) [] Tryz.call243 h (fun _ => Xlq) fun q4 h => ?_
 refine kI hT hC (kn b2) ?_
 refine kP hC false (kn b2) ?_
 refine kO hT hC ?_
 refine kS h ?_ ?_ <;> intro b3 h
 iterate 3 refine kI hT hC (kn b3) ?_
 refine kP hC false (kn b3) ?_
 refine kO hT hC ?_
 refine kS h ?_ ?_ <;> intro b4 h
 iterate 8 refine kF hC b4 ?_
 refine kP hC true b4 ?_
 exact Vc.nil kM
 iterate 6 refine kI hT hC b4 ?_
 refine kJ hT hC b4 h fun h => ?_
 refine kI hT hC b4 ?_
 refine kP hC false b4 ?_
 exact Vc.nil kM
 iterate 3 refine kF hC (kn b3) ?_
 refine kP hC true (kn b3) ?_
 refine kO hT hC ?_
 iterate 8 refine kF hC rfl ?_
 refine kO hT hC ?_
 exact Vc.nil kM
 iterate 4 refine kF hC (kn b2) ?_
 refine kP hC true (kn b2) ?_
 refine kO hT hC ?_
 iterate 3 refine kF hC rfl ?_
 iterate 2 refine kO hT hC ?_
 iterate 8 refine kF hC rfl ?_
 refine kO hT hC ?_
 exact Vc.nil kM
 refine kS h ?_ ?_ <;> intro b5 h
 refine kt b5 (Xab ?_)
 refine kO hT hC ?_
 exact Vc.nil (Xah (Xas kR))
 refine kf b5 (Xag (Xaf (Xap ?_)))
 refine kL [1] [16] [_] [_] ?_
 refine kA h (fun v5 => ([(51, .sv (.bool v5))], [])) (fun v5 h => ?_) fun v5 h => ?_
 refine Xac ?_
 iterate 2 refine kO hT hC ?_
 refine kC hC [] Tryz.call53 h (fun _ => Xai) fun q6 h => ?_
 iterate 2 refine kO hT hC ?_
 refine kS h ?_ ?_ <;> intro b6 h
 iterate 2 refine kI hT hC (kn b6) ?_
 refine kE hC (kn b6) [] Tryz.call53 h (fun _ => Xai) fun q7 h => ?_
 refine kI hT hC (kn b6) ?_
 refine kP hC false (kn b6) ?_
 refine kO hT hC ?_
 refine kS h ?_ ?_ <;> intro b7 h
 iterate 2 refine kI hT hC (kn b7) ?_
 refine kE hC (kn b7) [] Tryz.call53 h (fun _ => Xai) fun q8 h => ?_
 refine kI hT hC (kn b7) ?_
 refine kP hC false (kn b7) ?_
 exact Vc.nil kM
 iterate 4 refine kF hC (kn b7) ?_
 refine kP hC true (kn b7) ?_
 exact Vc.nil kM
 iterate 4 refine kF hC (kn b6) ?_
 refine kP hC true (kn b6) ?_
 refine kO hT hC ?_
 iterate 4 refine kF hC rfl ?_
 refine kO hT hC ?_
 exact Vc.nil kM
 refine kS h ?_ ?_ <;> intro b8 h
 refine kt b8 (Xab ?_)
 refine kO hT hC ?_
 exact Vc.nil (Xah (Xas kR))
 refine kf b8 (Xag (Xaf (Xab ?_)))
 iterate 2 refine kO hT hC ?_
 refine kC hC [] Tryz.call184 h (fun _ => Xls) fun q9 h => ?_
 iterate 5 refine kO hT hC ?_
 refine Vc.nil (Xap (Xab ?_))
 iterate 2 refine kO hT hC ?_
 refine Vc.nil ?_
 refine kS h ?_ ?_ <;> intro b9 h
 refine kt b9 ?_
 refine kL [1,3,4] [16] [_,_,_] [_] ?_
 refine kA h (fun v10 => ([(2, .sv (.bool v10)), (1, .any), (3, .any), (4, .any)], [(16, none)])) (fun v10 h => ?_) fun v10 h => ?_
 refine Xac ?_
 iterate 2 refine kO hT hC ?_
 refine kC hC [] Tryz.call96 h (fun _ => Xb4) fun q11 h => ?_
 refine kO hT hC ?_
 refine kS h ?_ ?_ <;> intro b10 h
 iterate 5 refine kI hT hC b10 ?_
 refine kP hC true b10 ?_
 refine kO hT hC ?_
 refine kS h ?_ ?_ <;> intro b11 h
 iterate 5 refine kI hT hC b11 ?_
 refine kP hC true b11 ?_
 refine kO hT hC ?_
 exact Vc.nil kM
 iterate 5 refine kF hC b11 ?_
 refine kP hC false b11 ?_
 refine kO hT hC ?_
 exact Vc.nil kM
 iterate 5 refine kF hC b10 ?_
 refine kP hC false b10 ?_
 refine kO hT hC ?_
 iterate 5 refine kF hC rfl ?_
 iterate 2 refine kO hT hC ?_
 exact Vc.nil kM
 exact Xah (Xas kR)
 refine kf b9 (Xag (Xaf ?_))
 refine kL [1] [16] [_] [_] ?_
 refine kA h (fun v12 => ([(2, .sv (.bool v12)), (1, .any)], [(16, none)])) (fun v12 h => ?_) fun v12 h => ?_
 refine Xac ?_
 iterate 5 refine kO hT hC ?_
 refine kS h ?_ ?_ <;> intro b12 h
 iterate 4 refine kI hT hC b12 ?_
 refine kP hC true b12 ?_
 refine kO hT hC ?_
 refine kS h ?_ ?_ <;> intro b13 h
 iterate 5 refine kI hT hC b13 ?_
 refine kP hC true b13 ?_
 refine kO hT hC ?_
 exact Vc.nil kM
 iterate 5 refine kF hC b13 ?_
 refine kP hC false b13 ?_
 refine kO hT hC ?_
 exact Vc.nil kM
 iterate 4 refine kF hC b12 ?_
 refine kP hC false b12 ?_
 refine kO hT hC ?_
 iterate 5 refine kF hC rfl ?_
 iterate 2 refine kO hT hC ?_
 exact Vc.nil kM
 exact Xah kR
def Xsc (r : (Xcm × Bool)) : AV := .tup [.agg [.sv (.int .i64 r.1.Seq.Level), .sv (.int .i64 r.1.Seq.Bits), .own 16, .own 17, .sv (.int .i64 r.1.Par.Qp), .sv (.bool r.1.Par.Large), .sv (.bool r.1.Par.Exact), .sv (.bool r.1.Par.Confined), .sv (.int .i64 r.1.Rate.Qp), .sv (.int .i64 r.1.Rate.Target), .sv (.int .i64 r.1.Rate.Debt), .sv (.int .i64 r.1.Frame), .sv (.int .i64 r.1.Since), .sv (.int .i64 r.1.Every), .sv (.int .i64 r.1.Reach), .sv (.bool r.1.Has), .sv (.int .i64 r.1.Ref.Wide), .sv (.int .i64 r.1.Ref.High), .sv (.str r.1.Ref.Dots)], .sv (.bool r.2)]
def Xsb (r : (Xcm × Bool)) : Xa2 := [(16, .ints .i64 r.1.Seq.Cols), (17, .ints .i64 r.1.Seq.Rows)]
theorem Xt7 {p0 p1 p2 p3 p4 p5 p6 r} (h : Xf5 p0 p1 p2 p3 p4 p5 p6 = some r) : AC Tryz.prog 181 [.sv (.int .i64 p0), .sv (.int .i64 p1), .sv (.int .i64 p2), .agg [.sv (.int .i64 p3.Qp), .sv (.bool p3.Large), .sv (.bool p3.Exact), .sv (.bool p3.Confined)], .agg [.sv (.int .i64 p4.Qp), .sv (.int .i64 p4.Target), .sv (.int .i64 p4.Debt)], .sv (.int .i64 p5), .sv (.int .i64 p6)] [] (Xsc r) (Xsb r) := by
 refine Xae hT Tryz.func181 rfl fun C hC => ?_
 unfold Xf5 at h
 refine Xab ?_
 iterate 4 refine kO hT hC ?_
 refine kN ?_
 iterate 8 refine kO hT hC ?_
 refine kN ?_
 iterate 4 refine kO hT hC ?_
 refine kC hC [] Tryz.call219 h (fun _ => Xv4) fun q1 h => ?_
 iterate 2 refine kO hT hC ?_
 refine kN ?_
 iterate 8 refine kO hT hC ?_
 refine Vc.nil (Xap (Xab ?_))
 refine kO hT hC ?_
 refine kC hC [] Tryz.call220 h (fun _ => Xgl) fun q2 h => ?_
 refine kO hT hC ?_
 refine Vc.nil ?_
 refine kS h ?_ ?_ <;> intro b1 h
 refine kt b1 (Xab ?_)
 iterate 3 refine kO hT hC ?_
 refine Vc.nil (Xah (Xas ?_))
 obtain rfl := kj h
 refine Xb2 (τ := ⟨[(14, .ptr 2000000 0), (15, .sv (.bool false))], [(16, some (.ints .i64 [])), (17, some (.ints .i64 [])), (2000000, some (.box [.sv (.int .i64 0), .sv (.int .i64 0), .own 16, .own 17, .sv (.int .i64 0), .sv (.bool false), .sv (.bool false), .sv (.bool false), .sv (.int .i64 0), .sv (.int .i64 0), .sv (.int .i64 0), .sv (.int .i64 0), .sv (.int .i64 0), .sv (.int .i64 0), .sv (.int .i64 0), .sv (.bool false), .sv (.int .i64 0), .sv (.int .i64 0), .sv (.str ⟨#[]⟩)]))]⟩) ?_ rfl ⟨rfl, rfl, trivial⟩
 refine Xs1 hC 224 2 673 (.ints .i64 []) rfl rfl rfl rfl rfl trivial ?_
 refine Xs1 hC 224 3 674 (.ints .i64 []) rfl rfl rfl rfl rfl trivial ?_
 apply Xeh hC [(16, 673), (17, 674), (2000000, 224)]
 exact co
 rfl
 decide
 rfl
 refine kf b1 (Xag (Xaf (Xab ?_)))
 iterate 3 refine kO hT hC ?_
 refine Vc.nil (Xah ?_)
 obtain rfl := kj h
 exact Xb2 (τ := ⟨[(14, .ptr 2000000 0), (15, .sv (.bool true))], [(16, some (.ints .i64 ([p0]))), (17, some (.ints .i64 ([p1]))), (2000000, some (.box [.sv (.int .i64 q1), .sv (.int .i64 p2), .own 16, .own 17, .sv (.int .i64 p3.Qp), .sv (.bool p3.Large), .sv (.bool p3.Exact), .sv (.bool p3.Confined), .sv (.int .i64 p4.Qp), .sv (.int .i64 p4.Target), .sv (.int .i64 p4.Debt), .sv (.int .i64 0), .sv (.int .i64 0), .sv (.int .i64 p5), .sv (.int .i64 p6), .sv (.bool false), .sv (.int .i64 0), .sv (.int .i64 0), .sv (.str ⟨#[]⟩)]))]⟩) (kW hC [(16, 320), (17, 352), (2000000, 224)]) rfl ⟨rfl, rfl, trivial⟩
def Xxj (r : (ByteArray × Xaw)) : AV := .sv (.str r.1)
def Xxi (r : (ByteArray × Xaw)) : Xa2 := [(0, .box [.sv (.ints .u8 r.2.b_), .sv (.int .i64 r.2.i_), .sv (.int .i64 r.2.h_)])]
theorem Ya9 {p0 p1 r} (h : Xjn p0 p1 = some r) : AC Tryz.prog 223 [.ptr 0 0, .sv (.int .i64 p1)] [(0, .box [.sv (.ints .u8 p0.b_), .sv (.int .i64 p0.i_), .sv (.int .i64 p0.h_)])] (Xxj r) (Xxi r) := by
 refine Xae hT Tryz.func223 rfl fun C hC => ?_
 unfold Xjn at h
 refine Xab ?_
 refine kO hT hC ?_
 refine kN ?_
 iterate 2 refine kO hT hC ?_
 refine kN ?_
 refine kO hT hC ?_
 refine kC hC [(0, 0)] Tryz.call73 h (fun _ => Xby) fun q1 h => ?_
 refine kO hT hC ?_
 refine Vc.nil (Xap (Xab ?_))
 refine kO hT hC ?_
 refine Vc.nil ?_
 refine kL [0,1,5,6,7] [0,128] [_,_,_,_,_] [_,_] ?_
 refine kX h (fun v7 => ([(6, .sv (.int .i64 v7.1)), (7, .sv (.int .i64 v7.2.1))], [(0, some (.box [.sv (.ints .u8 v7.2.2.1), .sv (.int .i64 v7.2.2.2.1), .sv (.int .i64 v7.2.2.2.2.1)])), (128, some (.ints .u8 v7.2.2.2.2.2))])) (fun v13 => ([(0, .any), (1, .any), (6, .any), (7, .any)], [(0, some (.box [.sv (.ints .u8 v13.2.1), .sv (.int .i64 v13.2.2.1), .sv (.int .i64 v13.2.2.2)])), (128, some (.ints .u8 v13.1))])) (kW hC []) (fun v7 s h => ?_) fun v13 h => ?_
 unfold Xid at h
 refine Xap (Xab ?_)
 iterate 3 refine kO hT hC ?_
 refine Vc.nil ?_
 refine kS h ?_ ?_ <;> intro b7 h
 refine kt b7 (Xag (Xaf (Xap (Xam ?_))))
 refine kL [0,1,5,6,7] [0,128] [_,_,_,_,_] [_,_] ?_
 refine kA h (fun v14 => ([(6, .sv (.int .i64 v14.1))], [(0, some (.box [.sv (.ints .u8 v14.2.1), .sv (.int .i64 v14.2.2.1), .sv (.int .i64 v14.2.2.2)]))])) (fun v14 h => ?_) fun v14 h => ?_
 refine Xab ?_
 refine kO hT hC ?_
 refine kC hC [(0, 0)] Tryz.call74 h (fun _ => Xaq) fun q15 h => ?_
 refine Vc.nil (Xam (Xab ?_))
 iterate 2 refine kO hT hC ?_
 refine Vc.nil ?_
 refine kS h ?_ ?_ <;> intro b8 h
 refine kt b8 (Xac ?_)
 refine kO hT hC ?_
 refine kC hC [(0, 0)] Tryz.call73 h (fun _ => Xby) fun q16 h => ?_
 refine kO hT hC ?_
 exact Vc.nil (Xan kM)
 refine kf b8 (Xab ?_)
 iterate 2 refine kO hT hC ?_
 refine Vc.nil ?_
 refine kS h ?_ ?_ <;> intro b9 h
 refine kt b9 (Xac ?_)
 iterate 2 refine kO hT hC ?_
 refine kC hC [(0, 0)] Tryz.call74 h (fun _ => Xaq) fun q17 h => ?_
 iterate 4 refine kO hT hC ?_
 exact Vc.nil (Xan kM)
 exact kf b9 (Xag (Xan kM))
 refine Xac ?_
 iterate 4 refine kO hT hC ?_
 refine kT hT hC h fun h => ?_
 refine kO hT hC ?_
 refine Vc.nil (Xan (Xaf (Xac ?_)))
 iterate 3 refine kO hT hC ?_
 refine Vc.nil ?_
 obtain rfl := kj h
 exact Xs2 (kW hC [(128, 544)])
 exact kf b7 (Xao (Xaz ku))
 refine Xaf (Xab ?_)
 iterate 3 refine kO hT hC ?_
 refine Vc.nil (Xah ?_)
 obtain rfl := kj h
 exact Xb2 (Xgt.refl _) rfl ⟨rfl, trivial⟩
def Xus (r : (Pic × Xaw)) : AV := .agg [.sv (.int .i64 r.1.Wide), .sv (.int .i64 r.1.High), .sv (.str r.1.Dots)]
def Xur (r : (Pic × Xaw)) : Xa2 := [(0, .box [.sv (.ints .u8 r.2.b_), .sv (.int .i64 r.2.i_), .sv (.int .i64 r.2.h_)])]
theorem Xxk {p0 p1 p2 r} (h : Xie p0 p1 p2 = some r) : AC Tryz.prog 185 [.ptr 0 0, .sv (.int .i64 p1), .sv (.int .i64 p2)] [(0, .box [.sv (.ints .u8 p0.b_), .sv (.int .i64 p0.i_), .sv (.int .i64 p0.h_)])] (Xus r) (Xur r) := by
 refine Xae hT Tryz.func185 rfl fun C hC => ?_
 unfold Xie at h
 refine Xab ?_
 refine kO hT hC ?_
 refine kN ?_
 iterate 6 refine kO hT hC ?_
 refine kC hC [(0, 0)] Tryz.call223 h (fun _ => Ya9) fun q1 h => ?_
 iterate 2 refine kO hT hC ?_
 refine Vc.nil (Xah ?_)
 obtain rfl := kj h
 exact Xb2 (Xgt.refl _) rfl ⟨rfl, trivial⟩
def Xz6 (r : Bool) : AV := .sv (.bool r)
def Xz5 (r : Bool) : Xa2 := []
theorem Ycl {p0 p1 r} (h : Xko p0 p1 = some r) : AC Tryz.prog 224 [.agg [.sv (.int .i64 p0.Seq.Level), .sv (.int .i64 p0.Seq.Bits), .sv (.ints .i64 p0.Seq.Cols), .sv (.ints .i64 p0.Seq.Rows), .sv (.int .i64 p0.Par.Qp), .sv (.bool p0.Par.Large), .sv (.bool p0.Par.Exact), .sv (.bool p0.Par.Confined), .sv (.int .i64 p0.Rate.Qp), .sv (.int .i64 p0.Rate.Target), .sv (.int .i64 p0.Rate.Debt), .sv (.int .i64 p0.Frame), .sv (.int .i64 p0.Since), .sv (.int .i64 p0.Every), .sv (.int .i64 p0.Reach), .sv (.bool p0.Has), .sv (.int .i64 p0.Ref.Wide), .sv (.int .i64 p0.Ref.High), .sv (.str p0.Ref.Dots)], .sv (.bool p1)] [] (Xz6 r) (Xz5 r) := by
 refine Xae hT Tryz.func224 rfl fun C hC => ?_
 unfold Xko at h
 refine Xab ?_
 iterate 2 refine kO hT hC ?_
 refine Vc.nil ?_
 refine kL [1,2,4] [32] [_,_,_] [_] ?_
 refine kA h (fun v1 => ([(4, .sv (.bool v1)), (1, .any), (2, .any)], [(32, none)])) (fun v1 h => ?_) fun v1 h => ?_
 refine Xac ?_
 refine kO hT hC ?_
 refine kC hC [] Tryz.call220 h (fun _ => Xgl) fun q2 h => ?_
 refine kO hT hC ?_
 refine kS h ?_ ?_ <;> intro b1 h
 iterate 2 refine kI hT hC b1 ?_
 refine kS h ?_ ?_ <;> intro b2 h
 iterate 3 refine kF hC b2 ?_
 refine Xbz hC rfl rfl rfl rfl b1 rfl rfl (b := true) b2 rfl rfl rfl trivial ?_
 refine kI hT hC b1 ?_
 iterate 5 refine kF hC rfl ?_
 refine Xbz hC rfl rfl rfl rfl b1 rfl rfl (b := true) rfl rfl rfl rfl trivial ?_
 refine kP hC true b1 ?_
 refine kO hT hC ?_
 exact Vc.nil kM
 iterate 3 refine kI hT hC b2 ?_
 refine Xbz hC rfl rfl rfl rfl b1 rfl rfl (b := false) b2 rfl rfl rfl trivial ?_
 refine kI hT hC b1 ?_
 refine kS h ?_ ?_ <;> intro b3 h
 iterate 5 refine kI hT hC (kn b3) ?_
 refine Xbz hC rfl rfl rfl rfl b1 rfl rfl (b := false) (kn b3) rfl rfl rfl trivial ?_
 refine kP hC true b1 ?_
 refine kO hT hC ?_
 exact Vc.nil kM
 iterate 5 refine kF hC (kn b3) ?_
 refine Xbz hC rfl rfl rfl rfl b1 rfl rfl (b := true) (kn b3) rfl rfl rfl trivial ?_
 refine kP hC true b1 ?_
 refine kO hT hC ?_
 exact Vc.nil kM
 iterate 2 refine kF hC b1 ?_
 iterate 3 refine Xhk hC rfl rfl rfl rfl rfl rfl ?_
 iterate 2 refine kF hC b1 ?_
 iterate 5 refine Xhk hC rfl rfl rfl rfl rfl rfl ?_
 refine kF hC b1 ?_
 refine kP hC false b1 ?_
 refine kO hT hC ?_
 exact Vc.nil kM
 exact Xah kR
def Xwz (r : Seq) : AV := .agg [.sv (.int .i64 r.Level), .sv (.int .i64 r.Bits), .own 16, .own 17]
def Xwy (r : Seq) : Xa2 := [(16, .ints .i64 r.Cols), (17, .ints .i64 r.Rows)]
theorem Xn9 {p0 r} (h : Xhc p0 = some r) : AC Tryz.prog 225 [.agg [.sv (.int .i64 p0.Level), .sv (.int .i64 p0.Bits), .sv (.ints .i64 p0.Cols), .sv (.ints .i64 p0.Rows)]] [] (Xwz r) (Xwy r) := by
 refine Xae hT Tryz.func225 rfl fun C hC => ?_
 unfold Xhc at h
 refine Xab ?_
 iterate 2 refine kO hT hC ?_
 refine kN ?_
 iterate 3 refine kO hT hC ?_
 refine kT hT hC h fun h => ?_
 iterate 2 refine kO hT hC ?_
 refine kN ?_
 iterate 3 refine kO hT hC ?_
 refine kT hT hC h fun h => ?_
 iterate 2 refine kO hT hC ?_
 refine kN ?_
 iterate 2 refine kO hT hC ?_
 refine Vc.nil (Xah ?_)
 obtain rfl := kj h
 exact Xb2 (τ := ⟨[(2, .ptr 2000000 0)], [(16, some (.ints .i64 (([] : List Int) ++ p0.Cols))), (17, some (.ints .i64 (([] : List Int) ++ p0.Rows))), (2000000, some (.box [.sv (.int .i64 p0.Level), .sv (.int .i64 p0.Bits), .own 16, .own 17]))]⟩) (kW hC [(16, 96), (17, 176), (2000000, 32)]) rfl ⟨rfl, rfl, trivial⟩
def Ycs (r : Int) : AV := .sv (.int .i64 r)
def Ycr (r : Int) : Xa2 := []
theorem Yfn {p0 p1 r} (h : Xmc p0 p1 = some r) : AC Tryz.prog 226 [.agg [.sv (.int .i64 p0.Qp), .sv (.int .i64 p0.Target), .sv (.int .i64 p0.Debt)], .sv (.bool p1)] [] (Ycs r) (Ycr r) := by
 refine Xae hT Tryz.func226 rfl fun C hC => ?_
 unfold Xmc at h
 refine Xab ?_
 iterate 2 refine kO hT hC ?_
 refine Vc.nil (Xap (Xab ?_))
 refine kO hT hC ?_
 refine kC hC [] Tryz.call243 h (fun _ => Xlq) fun q1 h => ?_
 refine kO hT hC ?_
 refine Vc.nil ?_
 refine kS h ?_ ?_ <;> intro b1 h
 refine kt b1 (Xab ?_)
 refine kO hT hC ?_
 exact Vc.nil (Xah (Xas kR))
 refine kf b1 (Xag (Xaf (Xap (Xab ?_))))
 refine kO hT hC ?_
 refine Vc.nil ?_
 refine kS h ?_ ?_ <;> intro b2 h
 refine kt b2 (Xab ?_)
 iterate 3 refine kO hT hC ?_
 refine kC hC [] Tryz.call159 h (fun _ => Xbn) fun q2 h => ?_
 refine kO hT hC ?_
 exact Vc.nil (Xah (Xas kR))
 refine kf b2 (Xag (Xaf (Xab ?_)))
 iterate 3 refine kO hT hC ?_
 exact Vc.nil (Xah kR)
def Xwj (r : ((List Xba) × Pic × Bool)) : AV := .tup [.own 16, .agg [.sv (.int .i64 r.2.1.Wide), .sv (.int .i64 r.2.1.High), .sv (.str r.2.1.Dots)], .sv (.bool r.2.2)]
def Xwi (r : ((List Xba) × Pic × Bool)) : Xa2 := [(16, .row Xfs r.1)]
theorem Yap {p0 p1 p2 p3 r} (h : Xjk p0 p1 p2 p3 = some r) : AC Tryz.prog 227 [.agg [.sv (.int .i64 p0.Wide), .sv (.int .i64 p0.High), .sv (.str p0.Dots)], .agg [.sv (.int .i64 p1.Wide), .sv (.int .i64 p1.High), .sv (.str p1.Dots)], .agg [.sv (.bool p2.Key), .sv (.int .i64 p2.Qp), .sv (.bool p2.Large), .sv (.bool p2.Exact)], .sv (.int .i64 p3)] [] (Xwj r) (Xwi r) := by
 refine Xae hT Tryz.func227 rfl fun C hC => ?_
 unfold Xjk at h
 refine Xab ?_
 iterate 6 refine kO hT hC ?_
 refine kN ?_
 iterate 2 refine kO hT hC ?_
 refine Vc.nil (Xap ?_)
 refine kL [3,4,5,6,9,11] [64,80,96,144,288] [_,_,_,_,_,_] [_,_,_,_,_] ?_
 refine kA h (fun v1 => ([(54, .sv (.bool v1))], [])) (fun v1 h => ?_) fun v1 h => ?_
 refine Xac ?_
 refine kO hT hC ?_
 refine kC hC [] Tryz.call96 h (fun _ => Xb4) fun q2 h => ?_
 iterate 2 refine kO hT hC ?_
 refine kS h ?_ ?_ <;> intro b1 h
 iterate 2 refine kI hT hC (kn b1) ?_
 refine kE hC (kn b1) [] Tryz.call40 h (fun _ => Xom) fun q3 h => ?_
 refine kI hT hC (kn b1) ?_
 refine kP hC false (kn b1) ?_
 refine kO hT hC ?_
 refine kS h ?_ ?_ <;> intro b2 h
 iterate 2 refine kI hT hC (kn b2) ?_
 refine kE hC (kn b2) [] Tryz.call40 h (fun _ => Xom) fun q4 h => ?_
 refine kI hT hC (kn b2) ?_
 refine kP hC false (kn b2) ?_
 refine kO hT hC ?_
 refine kS h ?_ ?_ <;> intro b3 h
 refine kI hT hC (kn b3) ?_
 refine kE hC (kn b3) [] Tryz.call52 h (fun _ => Xfy) fun q5 h => ?_
 refine kI hT hC (kn b3) ?_
 refine kP hC false (kn b3) ?_
 refine kO hT hC ?_
 refine kS h ?_ ?_ <;> intro b4 h
 refine kI hT hC (kn b4) ?_
 refine kE hC (kn b4) [] Tryz.call53 h (fun _ => Xai) fun q6 h => ?_
 refine kI hT hC (kn b4) ?_
 refine kP hC false (kn b4) ?_
 refine kO hT hC ?_
 refine kS h ?_ ?_ <;> intro b5 h
 iterate 4 refine kI hT hC (kn b5) ?_
 refine kS h ?_ ?_ <;> intro b6 h
 iterate 4 refine kF hC (kn b6) ?_
 refine Xbz hC rfl rfl rfl rfl (kn b5) rfl rfl (b := false) (kn b6) rfl rfl rfl trivial ?_
 refine kP hC false (kn b5) ?_
 exact Vc.nil kM
 iterate 2 refine kI hT hC (kn b6) ?_
 refine kE hC (kn b6) [] Tryz.call54 h (fun _ => Xoo) fun q7 h => ?_
 refine kI hT hC (kn b6) ?_
 refine Xbz hC rfl rfl rfl rfl (kn b5) rfl rfl (b := true) (kn b6) rfl rfl rfl trivial ?_
 refine kP hC false (kn b5) ?_
 exact Vc.nil kM
 iterate 4 refine kF hC (kn b5) ?_
 iterate 4 refine Xhk hC rfl rfl rfl rfl rfl rfl ?_
 refine kF hC (kn b5) ?_
 refine kP hC true (kn b5) ?_
 exact Vc.nil kM
 iterate 3 refine kF hC (kn b4) ?_
 refine kP hC true (kn b4) ?_
 refine kO hT hC ?_
 iterate 4 refine kF hC rfl ?_
 iterate 4 refine Xhk hC rfl rfl rfl rfl rfl rfl ?_
 refine kF hC rfl ?_
 refine kO hT hC ?_
 exact Vc.nil kM
 iterate 3 refine kF hC (kn b3) ?_
 refine kP hC true (kn b3) ?_
 refine kO hT hC ?_
 iterate 3 refine kF hC rfl ?_
 iterate 2 refine kO hT hC ?_
 iterate 4 refine kF hC rfl ?_
 iterate 4 refine Xhk hC rfl rfl rfl rfl rfl rfl ?_
 refine kF hC rfl ?_
 refine kO hT hC ?_
 exact Vc.nil kM
 iterate 4 refine kF hC (kn b2) ?_
 refine kP hC true (kn b2) ?_
 refine kO hT hC ?_
 iterate 3 refine kF hC rfl ?_
 iterate 2 refine kO hT hC ?_
 iterate 3 refine kF hC rfl ?_
 iterate 2 refine kO hT hC ?_
 iterate 4 refine kF hC rfl ?_
 iterate 4 refine Xhk hC rfl rfl rfl rfl rfl rfl ?_
 refine kF hC rfl ?_
 refine kO hT hC ?_
 exact Vc.nil kM
 iterate 4 refine kF hC (kn b1) ?_
 refine kP hC true (kn b1) ?_
 refine kO hT hC ?_
 iterate 4 refine kF hC rfl ?_
 iterate 2 refine kO hT hC ?_
 iterate 3 refine kF hC rfl ?_
 iterate 2 refine kO hT hC ?_
 iterate 3 refine kF hC rfl ?_
 iterate 2 refine kO hT hC ?_
 iterate 4 refine kF hC rfl ?_
 iterate 4 refine Xhk hC rfl rfl rfl rfl rfl rfl ?_
 refine kF hC rfl ?_
 refine kO hT hC ?_
 exact Vc.nil kM
 refine kS h ?_ ?_ <;> intro b7 h
 refine kt b7 (Xab ?_)
 iterate 5 refine kO hT hC ?_
 refine Vc.nil (Xah (Xas ?_))
 obtain rfl := kj h
 exact Xb2 (τ := ⟨[(8, .own 16), (9, .ptr 2000001 0), (10, .sv (.bool false))], [(16, some (.row Xfs ([] : List Xba))), (2000001, some (.box [.sv (.int .i64 0), .sv (.int .i64 0), .sv (.str ⟨#[]⟩)]))]⟩) (kW hC [(16, 288), (2000001, 144)]) rfl ⟨rfl, trivial⟩
 refine kf b7 (Xag (Xaf (Xab ?_)))
 iterate 4 refine kO hT hC ?_
 refine kC hC [] Tryz.call88 h (fun _ => Yhg) fun q8 h => ?_
 iterate 2 refine kO hT hC ?_
 refine Vc.nil (Xap (Xab ?_))
 refine kO hT hC ?_
 refine Vc.nil ?_
 refine kL [3,4,5,6,9,11,12,13] [64,80,96,144,192,288] [_,_,_,_,_,_,_,_] [_,_,_,_,_,_] ?_
 refine kX h (fun v24 => ([(13, .sv (.int .i64 v24.1))], [(192, some (.box [.sv (.int .i64 v24.2.2.1), .sv (.int .i64 v24.2.2.2.1), .sv (.str v24.2.2.2.2)])), (288, some (.row Xfs v24.2.1))])) (fun v40 => ([(3, .any), (4, .any), (5, .any), (6, .any), (13, .any)], [(192, some (.box [.sv (.int .i64 v40.2.1), .sv (.int .i64 v40.2.2.1), .sv (.str v40.2.2.2)])), (288, some (.row Xfs v40.1)), (64, none), (80, none), (96, none)])) (kW hC []) (fun v24 s h => ?_) fun v40 h => ?_
 unfold Xgn at h
 refine Xap (Xab ?_)
 iterate 4 refine kO hT hC ?_
 refine Vc.nil ?_
 refine kS h ?_ ?_ <;> intro b16 h
 refine kt b16 (Xag (Xaf (Xap (Xam (Xab ?_)))))
 refine kO hT hC ?_
 refine Vc.nil ?_
 refine kL [3,4,5,6,9,11,12,13,14] [64,80,96,144,192,288] [_,_,_,_,_,_,_,_,_] [_,_,_,_,_,_] ?_
 refine kX h (fun v45 => ([(14, .sv (.int .i64 v45.1))], [(192, some (.box [.sv (.int .i64 v45.2.2.1), .sv (.int .i64 v45.2.2.2.1), .sv (.str v45.2.2.2.2)])), (288, some (.row Xfs v45.2.1))])) (fun v50 => ([(14, .any)], [(192, some (.box [.sv (.int .i64 v50.2.1), .sv (.int .i64 v50.2.2.1), .sv (.str v50.2.2.2)])), (288, some (.row Xfs v50.1))])) (kW hC []) (fun v45 s h => ?_) fun v50 h => ?_
 unfold Xgo at h
 refine Xap (Xab ?_)
 iterate 4 refine kO hT hC ?_
 refine Vc.nil ?_
 refine kS h ?_ ?_ <;> intro b19 h
 refine kt b19 (Xag (Xaf (Xap (Xam ?_))))
 refine Xdn hm ?_
 iterate 5 refine kO hT hC ?_
 refine kC hC [(16, 1280)] Tryz.call99 h (fun _ => Xet) fun q51 h => ?_
 iterate 4 refine kO hT hC ?_
 obtain ⟨q52, hq, h⟩ := Xbl h
 refine Ym2 hC [(16, 1360), (17, 1361)] rfl rfl rfl rfl Tryz.call16 (Xub hq) rfl (by decide) trivial rfl (.inr ⟨rfl, ⟨trivial, trivial, trivial⟩⟩) rfl ?_
 iterate 8 refine kO hT hC ?_
 refine kD (Xab ?_)
 iterate 3 refine kO hT hC ?_
 obtain ⟨hq, h⟩ := Xbm h
 refine Yej hT hC rfl rfl rfl rfl ⟨fun _ _ => rfl, by rw [Yd1]; exact hq⟩ ?_
 rw [Yd1]
 refine kO hT hC ?_
 refine Vc.nil (Xac ?_)
 iterate 4 refine kO hT hC ?_
 refine kC hC [] Tryz.call89 h (fun _ => Ydo) fun q53 h => ?_
 refine kO hT hC ?_
 refine Vc.nil (Xan (Xaf (Xac ?_)))
 iterate 3 refine kO hT hC ?_
 refine Vc.nil ?_
 obtain rfl := kj h
 exact Xs2 (kW hC [(288, 1472)])
 exact kf b19 (Xao (Xaz ku))
 refine Xan (Xaf (Xac ?_))
 iterate 3 refine kO hT hC ?_
 exact Vc.nil kG
 exact kf b16 (Xao (Xaz ku))
 refine Xaf ?_
 refine Xdn hm ?_
 iterate 5 refine kO hT hC ?_
 refine kD (Xah ?_)
 obtain rfl := kj h
 exact Xb2 (τ := ⟨[(8, .own 16), (9, .ptr 2000001 0), (10, .sv (.bool true))], [(16, some (.row Xfs v40.1)), (2000001, some (.box [.sv (.int .i64 v40.2.1), .sv (.int .i64 v40.2.2.1), .sv (.str v40.2.2.2)]))]⟩) (kW hC [(16, 288), (2000001, 144)]) rfl ⟨rfl, trivial⟩
def Xz0 (r : Bool) : AV := .sv (.bool r)
def Xzz (r : Bool) : Xa2 := []
theorem Yck {p0 p1 p2 r} (h : Xmu p0 p1 p2 = some r) : AC Tryz.prog 246 [.agg [.sv (.int .i64 p0.Level), .sv (.int .i64 p0.Bits), .sv (.ints .i64 p0.Cols), .sv (.ints .i64 p0.Rows)], .agg [.sv (.int .i64 p1.Qp), .sv (.bool p1.Large), .sv (.bool p1.Exact), .sv (.bool p1.Confined)], .agg [.sv (.int .i64 p2.Tile), .sv (.int .i64 p2.Frame), .sv (.int .i64 p2.Qp)]] [] (Xz0 r) (Xzz r) := by
 refine Xae hT Tryz.func246 rfl fun C hC => ?_
 unfold Xmu at h
 refine Xab ?_
 iterate 4 refine kO hT hC ?_
 refine Vc.nil ?_
 refine kL [3,4,5,6] [48,64,80] [_,_,_,_] [_,_,_] ?_
 refine kA h (fun v1 => ([(6, .sv (.bool v1)), (3, .any), (4, .any), (5, .any)], [(48, none), (64, none), (80, none)])) (fun v1 h => ?_) fun v1 h => ?_
 refine Xcn hm ?_
 refine kO hT hC ?_
 refine kC hC [] Tryz.call82 h (fun _ => Xr5) fun q2 h => ?_
 refine kO hT hC ?_
 refine kS h ?_ ?_ <;> intro b1 h
 iterate 3 refine kI hT hC b1 ?_
 refine kP hC true b1 ?_
 refine kO hT hC ?_
 refine kS h ?_ ?_ <;> intro b2 h
 iterate 3 refine kI hT hC b2 ?_
 refine kE hC b2 [] Tryz.call242 h (fun _ => Xn3) fun q3 h => ?_
 refine kI hT hC b2 ?_
 refine kP hC true b2 ?_
 refine kO hT hC ?_
 refine kS h ?_ ?_ <;> intro b3 h
 iterate 3 refine kI hT hC b3 ?_
 refine kP hC true b3 ?_
 refine kO hT hC ?_
 refine kS h ?_ ?_ <;> intro b4 h
 iterate 5 refine kI hT hC b4 ?_
 refine kJ hT hC b4 h fun h => ?_
 refine kI hT hC b4 ?_
 refine kP hC true b4 ?_
 refine kO hT hC ?_
 refine kS h ?_ ?_ <;> intro b5 h
 iterate 2 refine kI hT hC b5 ?_
 refine kE hC b5 [] Tryz.call53 h (fun _ => Xai) fun q4 h => ?_
 refine kP hC true b5 ?_
 refine kO hT hC ?_
 exact kD kM
 iterate 3 refine kF hC b5 ?_
 refine kP hC false b5 ?_
 refine kO hT hC ?_
 exact kD kM
 iterate 7 refine kF hC b4 ?_
 refine kP hC false b4 ?_
 refine kO hT hC ?_
 iterate 3 refine kF hC rfl ?_
 iterate 2 refine kO hT hC ?_
 exact kD kM
 iterate 3 refine kF hC b3 ?_
 refine kP hC false b3 ?_
 refine kO hT hC ?_
 iterate 7 refine kF hC rfl ?_
 iterate 2 refine kO hT hC ?_
 iterate 3 refine kF hC rfl ?_
 iterate 2 refine kO hT hC ?_
 exact kD kM
 iterate 5 refine kF hC b2 ?_
 refine kP hC false b2 ?_
 refine kO hT hC ?_
 iterate 3 refine kF hC rfl ?_
 iterate 2 refine kO hT hC ?_
 iterate 7 refine kF hC rfl ?_
 iterate 2 refine kO hT hC ?_
 iterate 3 refine kF hC rfl ?_
 iterate 2 refine kO hT hC ?_
 exact kD kM
 iterate 3 refine kF hC b1 ?_
 refine kP hC false b1 ?_
 refine kO hT hC ?_
 iterate 5 refine kF hC rfl ?_
 iterate 2 refine kO hT hC ?_
 iterate 3 refine kF hC rfl ?_
 iterate 2 refine kO hT hC ?_
 iterate 7 refine kF hC rfl ?_
 iterate 2 refine kO hT hC ?_
 iterate 3 refine kF hC rfl ?_
 iterate 2 refine kO hT hC ?_
 exact kD kM
 exact Xah kR
def Yay (r : ByteArray) : AV := .sv (.str r)
def Yax (r : ByteArray) : Xa2 := []
theorem Xlw {p0 p1 r} (h : Xg3 p0 p1 = some r) : AC Tryz.prog 247 [.sv (.int .i64 p0), .sv (.int .i64 p1)] [] (Yay r) (Yax r) := by
 refine Xae hT Tryz.func247 rfl fun C hC => ?_
 unfold Xg3 at h
 refine Xab ?_
 refine kO hT hC ?_
 refine kN ?_
 refine kO hT hC ?_
 obtain ⟨hq, h⟩ := Xbm h
 refine Yej hT hC rfl rfl rfl rfl ⟨hq.1, hq.2.1, hq.2.2, by decide⟩ ?_
 refine kO hT hC ?_
 refine Vc.nil (Xap (Xab ?_))
 iterate 3 refine kO hT hC ?_
 refine Vc.nil ?_
 refine kL [0,5,6] [128] [_,_,_] [_] ?_
 refine kX h (fun v2 => ([(0, .sv (.int .i64 v2.1)), (6, .sv (.int .i64 v2.2.1))], [(128, some (.ints .u8 v2.2.2))])) (fun v4 => ([(0, .any), (6, .any)], [(128, some (.ints .u8 v4))])) (kW hC []) (fun v2 s h => ?_) fun v4 h => ?_
 unfold Xf8 at h
 refine Xap (Xab ?_)
 iterate 2 refine kO hT hC ?_
 refine Vc.nil ?_
 refine kS h ?_ ?_ <;> intro b3 h
 refine kt b3 (Xag (Xaf (Xap (Xam (Xab ?_)))))
 iterate 3 refine kO hT hC ?_
 refine kQ hT hC h fun h => ?_
 iterate 2 refine kO hT hC ?_
 iterate 2 refine kQ hT hC h fun h => ?_
 refine Vc.nil (Xac ?_)
 refine kO hT hC ?_
 refine kQ hT hC h fun h => ?_
 refine kO hT hC ?_
 refine Vc.nil (Xan (Xaf (Xac ?_)))
 iterate 3 refine kO hT hC ?_
 exact Vc.nil kG
 exact kf b3 (Xao (Xaz ku))
 refine Xaf (Xab ?_)
 iterate 3 refine kO hT hC ?_
 exact Vc.nil (Xah kR)
def Xv3 (r : (ByteArray × Bool)) : AV := .tup [.sv (.str r.1), .sv (.bool r.2)]
def Xv2 (r : (ByteArray × Bool)) : Xa2 := []
theorem Xz1 {p0 p1 p2 r} (h : Xjg p0 p1 p2 = some r) : AC Tryz.prog 228 [.agg [.sv (.int .i64 p0.Level), .sv (.int .i64 p0.Bits), .sv (.ints .i64 p0.Cols), .sv (.ints .i64 p0.Rows)], .agg [.sv (.int .i64 p1.Qp), .sv (.bool p1.Large), .sv (.bool p1.Exact), .sv (.bool p1.Confined)], .agg [.sv (.int .i64 p2.Tile), .sv (.int .i64 p2.Frame), .sv (.int .i64 p2.Qp)]] [] (Xv3 r) (Xv2 r) := by
 refine Xae hT Tryz.func228 rfl fun C hC => ?_
 unfold Xjg at h
 refine Xab ?_
 iterate 5 refine kO hT hC ?_
 refine Vc.nil (Xap (Xab ?_))
 iterate 3 refine kO hT hC ?_
 refine kC hC [] Tryz.call246 h (fun _ => Yck) fun q1 h => ?_
 refine kO hT hC ?_
 refine Vc.nil ?_
 refine kS h ?_ ?_ <;> intro b1 h
 refine kt b1 (Xab ?_)
 iterate 2 refine kO hT hC ?_
 exact Vc.nil (Xah (Xas kR))
 refine kf b1 (Xag (Xaf ?_))
 refine Xdn hm ?_
 iterate 2 refine kO hT hC ?_
 refine kC hC [] Tryz.call234 h (fun _ => Xbu) fun q2 h => ?_
 iterate 4 refine kO hT hC ?_
 refine kC hC [] Tryz.call247 h (fun _ => Xlw) fun q3 h => ?_
 refine kQ hT hC h fun h => ?_
 iterate 5 refine kO hT hC ?_
 refine kC hC [] Tryz.call235 h (fun _ => Xh5) fun q4 h => ?_
 refine kQ hT hC h fun h => ?_
 iterate 2 refine kO hT hC ?_
 exact kD (Xah kR)
def Xxh (r : ByteArray) : AV := .sv (.str r)
def Xxg (r : ByteArray) : Xa2 := []
theorem Xfb {p0 r} (h : Xct p0 = some r) : AC Tryz.prog 258 [.sv (.ints .i64 p0)] [] (Xxh r) (Xxg r) := by
 refine Xae hT Tryz.func258 rfl fun C hC => ?_
 unfold Xct at h
 refine Xab ?_
 refine kO hT hC ?_
 refine kN ?_
 refine kO hT hC ?_
 refine kN ?_
 refine kO hT hC ?_
 refine kN ?_
 refine kO hT hC ?_
 refine Vc.nil (Xap (Xab ?_))
 refine kO hT hC ?_
 refine Vc.nil ?_
 refine kL [0,3,4,5,6] [] [_,_,_,_,_] [] ?_
 refine kX h (fun v5 => ([(3, .sv (.int .i64 v5.1)), (4, .sv (.int .i64 v5.2.1)), (5, .sv (.str v5.2.2.1)), (6, .sv (.int .i64 v5.2.2.2))], [])) (fun v10 => ([(3, .sv (.int .i64 v10.1)), (5, .sv (.str v10.2)), (0, .any), (4, .any), (6, .any)], [])) (kW hC []) (fun v5 s h => ?_) fun v10 h => ?_
 unfold Xdl at h
 refine Xap (Xab ?_)
 iterate 4 refine kO hT hC ?_
 refine Vc.nil ?_
 refine kS h ?_ ?_ <;> intro b5 h
 refine kt b5 (Xag (Xaf ?_))
 refine kL [0,3,4,5,6] [] [_,_,_,_,_] [] ?_
 refine kA h (fun v11 => ([(3, .sv (.int .i64 v11.1)), (4, .sv (.int .i64 v11.2.1)), (5, .sv (.str v11.2.2))], [])) (fun v11 h => ?_) fun v11 h => ?_
 refine Xam (Xap (Xab ?_))
 iterate 2 refine kO hT hC ?_
 refine kQ hT hC h fun h => ?_
 iterate 2 refine kO hT hC ?_
 refine Vc.nil ?_
 refine kS h ?_ ?_ <;> intro b6 h
 refine kt b6 (Xab ?_)
 iterate 3 refine kO hT hC ?_
 exact Vc.nil (Xao (Xaz (Yd0 kM)))
 refine kf b6 (Xag (Xaf (Xab ?_)))
 iterate 3 refine kO hT hC ?_
 refine Vc.nil ?_
 refine Xdn hm ?_
 iterate 2 refine kO hT hC ?_
 refine kC hC [] Tryz.call234 h (fun _ => Xbu) fun q12 h => ?_
 refine kQ hT hC h fun h => ?_
 iterate 2 refine kO hT hC ?_
 refine kQ hT hC h fun h => ?_
 refine kO hT hC ?_
 refine kC hC [] Tryz.call235 h (fun _ => Xh5) fun q13 h => ?_
 refine kQ hT hC h fun h => ?_
 refine kO hT hC ?_
 refine kD (Xac ?_)
 refine kO hT hC ?_
 exact Vc.nil (Xan kM)
 refine Xac ?_
 iterate 3 refine kO hT hC ?_
 exact Vc.nil kG
 exact kf b5 (Xao (Xaz ku))
 refine Xaf (Xab ?_)
 refine kO hT hC ?_
 refine kC hC [] Tryz.call234 h (fun _ => Xbu) fun q15 h => ?_
 refine kO hT hC ?_
 refine kQ hT hC h fun h => ?_
 refine kO hT hC ?_
 exact Vc.nil (Xah kR)
def Ybe (r : ByteArray) : AV := .sv (.str r)
def Ybd (r : ByteArray) : Xa2 := []
theorem Xpx {p0 p1 r} (h : Xi1 p0 p1 = some r) : AC Tryz.prog 255 [.sv (.ints .i64 p0), .agg [.sv (.bool p1.Key), .sv (.int .i64 p1.Qp), .sv (.bool p1.Large), .sv (.bool p1.Exact)]] [] (Ybe r) (Ybd r) := by
 refine Xae hT Tryz.func255 rfl fun C hC => ?_
 unfold Xi1 at h
 refine Xab ?_
 iterate 2 refine kO hT hC ?_
 refine Vc.nil (Xap ?_)
 refine kL [0,3] [48] [_,_] [_] ?_
 refine kA h (fun v1 => ([(10, .sv (.bool v1)), (3, .any)], [(48, none)])) (fun v1 h => ?_) fun v1 h => ?_
 refine Xac ?_
 iterate 3 refine kO hT hC ?_
 refine kS h ?_ ?_ <;> intro b1 h
 iterate 2 refine kF hC b1 ?_
 refine kP hC true b1 ?_
 exact Vc.nil kM
 iterate 2 refine kI hT hC b1 ?_
 refine kP hC false b1 ?_
 exact Vc.nil kM
 refine kS h ?_ ?_ <;> intro b2 h
 refine kt b2 (Xab ?_)
 refine kO hT hC ?_
 refine kC hC [] Tryz.call258 h (fun _ => Xfb) fun q2 h => ?_
 refine kO hT hC ?_
 exact Vc.nil (Xah (Xas kR))
 refine kf b2 (Xag (Xaf ?_))
 refine Xdn hm ?_
 refine kO hT hC ?_
 refine kQ hT hC h fun h => ?_
 refine kC hC [] Tryz.call258 h (fun _ => Xfb) fun q3 h => ?_
 refine kO hT hC ?_
 refine kQ hT hC h fun h => ?_
 refine kC hC [] Tryz.call258 h (fun _ => Xfb) fun q4 h => ?_
 refine kQ hT hC h fun h => ?_
 refine kO hT hC ?_
 refine kQ hT hC h fun h => ?_
 refine kC hC [] Tryz.call258 h (fun _ => Xfb) fun q5 h => ?_
 refine kQ hT hC h fun h => ?_
 refine kO hT hC ?_
 refine kQ hT hC h fun h => ?_
 refine kC hC [] Tryz.call258 h (fun _ => Xfb) fun q6 h => ?_
 refine kQ hT hC h fun h => ?_
 refine kO hT hC ?_
 exact kD (Xah kR)
def Ybg (r : ByteArray) : AV := .sv (.str r)
def Ybf (r : ByteArray) : Xa2 := []
theorem Ydm {p0 p1 r} (h : Xk3 p0 p1 = some r) : AC Tryz.prog 248 [.agg [.sv (.int .i64 p0.Kind), .sv (.int .i64 p0.Mode), .sv (.int .i64 p0.Dx), .sv (.int .i64 p0.Dy), .sv (.ints .i64 p0.Levels)], .agg [.sv (.bool p1.Key), .sv (.int .i64 p1.Qp), .sv (.bool p1.Large), .sv (.bool p1.Exact)]] [] (Ybg r) (Ybf r) := by
 refine Xae hT Tryz.func248 rfl fun C hC => ?_
 unfold Xk3 at h
 refine Xab ?_
 iterate 3 refine kO hT hC ?_
 refine kN ?_
 refine kO hT hC ?_
 refine Vc.nil ?_
 refine kL [2,3,5] [32,48] [_,_,_] [_,_] ?_
 refine kA h (fun v1 => ([(5, .sv (.str v1))], [])) (fun v1 h => ?_) fun v1 h => ?_
 refine Xab ?_
 iterate 3 refine kO hT hC ?_
 refine Vc.nil ?_
 refine kS h ?_ ?_ <;> intro b1 h
 refine kt b1 (Xac ?_)
 iterate 2 refine kO hT hC ?_
 refine kC hC [] Tryz.call234 h (fun _ => Xbu) fun q2 h => ?_
 refine kO hT hC ?_
 exact Vc.nil kM
 exact kf b1 (Xag kM)
 refine Xap (Xab ?_)
 iterate 2 refine kO hT hC ?_
 refine Vc.nil (Xam (Xab ?_))
 iterate 2 refine kO hT hC ?_
 refine Vc.nil ?_
 refine kS h ?_ ?_ <;> intro b2 h
 refine kt b2 ?_
 refine Xdn hm ?_
 iterate 3 refine kO hT hC ?_
 refine kC hC [] Tryz.call235 h (fun _ => Xh5) fun q3 h => ?_
 refine kQ hT hC h fun h => ?_
 iterate 2 refine kO hT hC ?_
 refine kC hC [] Tryz.call235 h (fun _ => Xh5) fun q4 h => ?_
 refine kQ hT hC h fun h => ?_
 iterate 3 refine kO hT hC ?_
 refine kC hC [] Tryz.call255 h (fun _ => Xpx) fun q5 h => ?_
 refine kQ hT hC h fun h => ?_
 refine kO hT hC ?_
 exact kD (Xah (Xgu (Xas kR)))
 refine kf b2 (Xab ?_)
 iterate 2 refine kO hT hC ?_
 refine Vc.nil ?_
 refine kS h ?_ ?_ <;> intro b3 h
 refine kt b3 ?_
 refine Xdn hm ?_
 iterate 3 refine kO hT hC ?_
 refine kC hC [] Tryz.call234 h (fun _ => Xbu) fun q6 h => ?_
 refine kQ hT hC h fun h => ?_
 iterate 3 refine kO hT hC ?_
 refine kC hC [] Tryz.call255 h (fun _ => Xpx) fun q7 h => ?_
 refine kQ hT hC h fun h => ?_
 refine kO hT hC ?_
 exact kD (Xah (Xgu (Xas kR)))
 refine kf b3 (Xag (Xan (Xaf (Xab ?_))))
 iterate 2 refine kO hT hC ?_
 exact Vc.nil (Xah kR)
def Ybk (r : ByteArray) : AV := .sv (.str r)
def Ybj (r : ByteArray) : Xa2 := []
theorem Ydq {p0 p1 r} (h : Xk5 p0 p1 = some r) : AC Tryz.prog 229 [.sv (Xfs.sv p0), .agg [.sv (.bool p1.Key), .sv (.int .i64 p1.Qp), .sv (.bool p1.Large), .sv (.bool p1.Exact)]] [] (Ybk r) (Ybj r) := by
 refine Xae hT Tryz.func229 rfl fun C hC => ?_
 unfold Xk5 at h
 refine Xab ?_
 iterate 2 refine kO hT hC ?_
 refine kN ?_
 iterate 2 refine kO hT hC ?_
 refine Vc.nil (Xap (Xab ?_))
 refine kO hT hC ?_
 refine Vc.nil ?_
 refine kL [0,3,5,6] [48,112] [_,_,_,_] [_,_] ?_
 refine kX h (fun v3 => ([(6, .sv (.int .i64 v3.1))], [(112, some (.ints .u8 v3.2))])) (fun v6 => ([(0, .any), (3, .any), (6, .any)], [(112, some (.ints .u8 v6)), (48, none)])) (kW hC []) (fun v3 s h => ?_) fun v6 h => ?_
 unfold Xge at h
 refine Xap (Xab ?_)
 iterate 4 refine kO hT hC ?_
 refine Vc.nil ?_
 refine kS h ?_ ?_ <;> intro b3 h
 refine kt b3 (Xag (Xaf (Xap (Xam ?_))))
 refine Xcn hm ?_
 iterate 3 refine kO hT hC ?_
 refine kQ hT hC h fun h => ?_
 iterate 2 refine kO hT hC ?_
 refine kC hC [] Tryz.call248 h (fun _ => Ydm) fun q7 h => ?_
 refine kT hT hC h fun h => ?_
 refine kO hT hC ?_
 refine kD (Xan (Xaf (Xac ?_)))
 iterate 3 refine kO hT hC ?_
 refine Vc.nil ?_
 obtain rfl := kj h
 exact Xs2 (kW hC [(112, 336)])
 exact kf b3 (Xao (Xaz ku))
 refine Xaf (Xab ?_)
 iterate 3 refine kO hT hC ?_
 exact Vc.nil (Xah kR)
def Xw3 (r : ByteArray) : AV := .sv (.str r)
def Xw2 (r : ByteArray) : Xa2 := []
theorem Xob {p0 r} (h : Xhe p0 = some r) : AC Tryz.prog 256 [.sv (.ints .i64 p0)] [] (Xw3 r) (Xw2 r) := by
 refine Xae hT Tryz.func256 rfl fun C hC => ?_
 unfold Xhe at h
 refine Xab ?_
 refine kO hT hC ?_
 refine kN ?_
 iterate 2 refine kO hT hC ?_
 refine kC hC [] Tryz.call234 h (fun _ => Xbu) fun q1 h => ?_
 refine kO hT hC ?_
 refine Vc.nil (Xap (Xab ?_))
 refine kO hT hC ?_
 refine Vc.nil ?_
 refine kL [0,3,4] [] [_,_,_] [] ?_
 refine kX h (fun v4 => ([(3, .sv (.str v4.1)), (4, .sv (.int .i64 v4.2))], [])) (fun v7 => ([(3, .sv (.str v7)), (0, .any), (4, .any)], [])) (kW hC []) (fun v4 s h => ?_) fun v7 h => ?_
 unfold Xe7 at h
 refine Xap (Xab ?_)
 iterate 4 refine kO hT hC ?_
 refine Vc.nil ?_
 refine kS h ?_ ?_ <;> intro b3 h
 refine kt b3 (Xag (Xaf (Xap (Xam (Xac ?_)))))
 iterate 3 refine kO hT hC ?_
 refine kQ hT hC h fun h => ?_
 refine kO hT hC ?_
 refine kC hC [] Tryz.call234 h (fun _ => Xbu) fun q8 h => ?_
 refine kQ hT hC h fun h => ?_
 refine kO hT hC ?_
 refine Vc.nil (Xan (Xaf (Xac ?_)))
 iterate 3 refine kO hT hC ?_
 exact Vc.nil kG
 exact kf b3 (Xao (Xaz ku))
 refine Xaf (Xab ?_)
 iterate 2 refine kO hT hC ?_
 exact Vc.nil (Xah kR)
def Ya4 (r : ByteArray) : AV := .sv (.str r)
def Ya3 (r : ByteArray) : Xa2 := []
theorem Ydf {p0 r} (h : Xk0 p0 = some r) : AC Tryz.prog 249 [.agg [.sv (.int .i64 p0.Level), .sv (.int .i64 p0.Bits), .sv (.ints .i64 p0.Cols), .sv (.ints .i64 p0.Rows)]] [] (Ya4 r) (Ya3 r) := by
 refine Xae hT Tryz.func249 rfl fun C hC => ?_
 unfold Xk0 at h
 refine Xab ?_
 iterate 2 refine kO hT hC ?_
 refine Vc.nil ?_
 refine Xdn hm ?_
 iterate 2 refine kO hT hC ?_
 refine kC hC [] Tryz.call234 h (fun _ => Xbu) fun q1 h => ?_
 iterate 2 refine kO hT hC ?_
 refine kC hC [] Tryz.call247 h (fun _ => Xlw) fun q2 h => ?_
 refine kQ hT hC h fun h => ?_
 iterate 2 refine kO hT hC ?_
 refine kC hC [] Tryz.call256 h (fun _ => Xob) fun q3 h => ?_
 refine kQ hT hC h fun h => ?_
 iterate 2 refine kO hT hC ?_
 refine kC hC [] Tryz.call256 h (fun _ => Xob) fun q4 h => ?_
 refine kQ hT hC h fun h => ?_
 refine kO hT hC ?_
 exact kD (Xah kR)
def Xw5 (r : Bool) : AV := .sv (.bool r)
def Xw4 (r : Bool) : Xa2 := []
theorem Ya5 {p0 r} (h : Xjm p0 = some r) : AC Tryz.prog 251 [.sv (.int .i64 p0)] [] (Xw5 r) (Xw4 r) := by
 refine Xae hT Tryz.func251 rfl fun C hC => ?_
 unfold Xjm at h
 refine Xab ?_
 refine kO hT hC ?_
 refine Vc.nil ?_
 refine kL [0,2] [] [_,_] [] ?_
 refine kA h (fun v1 => ([(2, .sv (.bool v1)), (0, .any)], [])) (fun v1 h => ?_) fun v1 h => ?_
 refine Xac ?_
 iterate 3 refine kO hT hC ?_
 refine kS h ?_ ?_ <;> intro b1 h
 iterate 2 refine kF hC b1 ?_
 refine kP hC true b1 ?_
 refine kO hT hC ?_
 iterate 2 refine kF hC rfl ?_
 iterate 2 refine kO hT hC ?_
 iterate 2 refine kF hC rfl ?_
 iterate 2 refine kO hT hC ?_
 exact Vc.nil kM
 iterate 2 refine kI hT hC b1 ?_
 refine kP hC false b1 ?_
 refine kO hT hC ?_
 refine kS h ?_ ?_ <;> intro b2 h
 iterate 2 refine kF hC b2 ?_
 refine kP hC true b2 ?_
 refine kO hT hC ?_
 iterate 2 refine kF hC rfl ?_
 iterate 2 refine kO hT hC ?_
 exact Vc.nil kM
 iterate 2 refine kI hT hC b2 ?_
 refine kP hC false b2 ?_
 refine kO hT hC ?_
 refine kS h ?_ ?_ <;> intro b3 h
 iterate 2 refine kF hC b3 ?_
 refine kP hC true b3 ?_
 refine kO hT hC ?_
 exact Vc.nil kM
 iterate 2 refine kI hT hC b3 ?_
 refine kP hC false b3 ?_
 refine kO hT hC ?_
 exact Vc.nil kM
 exact Xah kR
def Xuk (r : ByteArray) : AV := .sv (.str r)
def Xuj (r : ByteArray) : Xa2 := []
theorem Xws {p0 r} (h : Xh4 p0 = some r) : AC Tryz.prog 252 [.sv (.str p0)] [] (Xuk r) (Xuj r) := by
 refine Xae hT Tryz.func252 rfl fun C hC => ?_
 unfold Xh4 at h
 refine Xab ?_
 refine kO hT hC ?_
 refine kN ?_
 refine kO hT hC ?_
 refine kQ hT hC h fun h => ?_
 refine kO hT hC ?_
 refine kT hT hC h fun h => ?_
 refine kO hT hC ?_
 refine Vc.nil (Xap ?_)
 refine kL [3] [176] [_] [_] ?_
 refine kX h (fun v2 => ([], [(176, some (.ints .u8 v2))])) (fun v4 => ([], [(176, some (.ints .u8 v4))])) (kW hC []) (fun v2 s h => ?_) fun v4 h => ?_
 unfold Xd3 at h
 refine Xap (Xab ?_)
 iterate 2 refine kO hT hC ?_
 refine kQ hT hC h fun h => ?_
 refine kO hT hC ?_
 refine Vc.nil ?_
 refine kS h ?_ ?_ <;> intro b3 h
 refine kt b3 (Xag (Xaf (Xam (Xac ?_))))
 iterate 2 refine kO hT hC ?_
 refine kT hT hC h fun h => ?_
 refine kO hT hC ?_
 refine Vc.nil (Xan ?_)
 obtain rfl := kj h
 exact Xs2 (kW hC [(176, 288)])
 exact kf b3 (Xao (Xaz ku))
 refine Xaf (Xab ?_)
 iterate 2 refine kO hT hC ?_
 refine Vc.nil (Xap (Xab ?_))
 refine kO hT hC ?_
 refine Vc.nil ?_
 refine kL [3,4,5] [176,304] [_,_,_] [_,_] ?_
 refine kX h (fun v12 => ([(5, .sv (.int .i64 v12.1))], [(304, some (.ints .u8 v12.2))])) (fun v19 => ([(3, .any), (5, .any)], [(304, some (.ints .u8 v19)), (176, none)])) (kW hC []) (fun v12 s h => ?_) fun v19 h => ?_
 unfold Xdh at h
 refine Xap (Xab ?_)
 iterate 4 refine kO hT hC ?_
 refine Vc.nil ?_
 refine kS h ?_ ?_ <;> intro b12 h
 refine kt b12 (Xag (Xaf (Xap (Xam (Xab ?_)))))
 refine kO hT hC ?_
 refine Vc.nil (Xap (Xab ?_))
 refine kO hT hC ?_
 refine Vc.nil ?_
 refine kL [3,4,5,6,7] [176,304] [_,_,_,_,_] [_,_] ?_
 refine kX h (fun v21 => ([(6, .sv (.int .i64 v21.1)), (7, .sv (.int .i64 v21.2))], [])) (fun v23 => ([(6, .sv (.int .i64 v23)), (7, .any)], [])) (kW hC []) (fun v21 s h => ?_) fun v23 h => ?_
 unfold Xcd at h
 refine Xap (Xab ?_)
 iterate 2 refine kO hT hC ?_
 refine Vc.nil ?_
 refine kS h ?_ ?_ <;> intro b15 h
 refine kt b15 (Xag (Xaf (Xap (Xam (Xac ?_)))))
 iterate 6 refine kO hT hC ?_
 iterate 2 refine kQ hT hC h fun h => ?_
 iterate 4 refine kO hT hC ?_
 refine Vc.nil (Xan (Xaf (Xac ?_)))
 iterate 3 refine kO hT hC ?_
 exact Vc.nil kG
 exact kf b15 (Xao (Xaz ku))
 refine Xaf (Xac ?_)
 iterate 4 refine kO hT hC ?_
 refine kT hT hC h fun h => ?_
 refine kO hT hC ?_
 refine Vc.nil (Xan (Xaf (Xac ?_)))
 iterate 3 refine kO hT hC ?_
 refine Vc.nil ?_
 obtain rfl := kj h
 exact Xs2 (kW hC [(304, 720)])
 exact kf b12 (Xao (Xaz ku))
 refine Xaf (Xab ?_)
 iterate 3 refine kO hT hC ?_
 exact Vc.nil (Xah kR)
def Yau (r : (ByteArray × Bool)) : AV := .tup [.sv (.str r.1), .sv (.bool r.2)]
def Yat (r : (ByteArray × Bool)) : Xa2 := []
theorem Xlu {p0 p1 r} (h : Xg2 p0 p1 = some r) : AC Tryz.prog 231 [.sv (.int .i64 p0), .sv (.str p1)] [] (Yau r) (Yat r) := by
 refine Xae hT Tryz.func231 rfl fun C hC => ?_
 unfold Xg2 at h
 refine Xab ?_
 iterate 2 refine kO hT hC ?_
 refine Vc.nil (Xap ?_)
 refine kL [0,1] [] [_,_] [] ?_
 refine kA h (fun v1 => ([(13, .sv (.bool v1))], [])) (fun v1 h => ?_) fun v1 h => ?_
 refine Xac ?_
 refine kO hT hC ?_
 refine kC hC [] Tryz.call251 h (fun _ => Ya5) fun q2 h => ?_
 iterate 2 refine kO hT hC ?_
 refine kS h ?_ ?_ <;> intro b1 h
 refine kI hT hC (kn b1) ?_
 refine kE hC (kn b1) [] Tryz.call83 h (fun _ => Yfp) fun q3 h => ?_
 refine kI hT hC (kn b1) ?_
 refine kP hC false (kn b1) ?_
 exact Vc.nil kM
 iterate 3 refine kF hC (kn b1) ?_
 refine kP hC true (kn b1) ?_
 exact Vc.nil kM
 refine kS h ?_ ?_ <;> intro b2 h
 refine kt b2 (Xab ?_)
 iterate 2 refine kO hT hC ?_
 exact Vc.nil (Xah (Xas kR))
 refine kf b2 (Xag (Xaf ?_))
 refine Xdn hm ?_
 iterate 5 refine kO hT hC ?_
 refine kC hC [] Tryz.call252 h (fun _ => Xws) fun q4 h => ?_
 refine kQ hT hC h fun h => ?_
 iterate 2 refine kO hT hC ?_
 exact kD (Xah kR)
def Xw1 (r : ByteArray) : AV := .sv (.str r)
def Xw0 (r : ByteArray) : Xa2 := []
theorem Xkx {p0 r} (h : Xhd p0 = some r) : AC Tryz.prog 257 [.sv (.bool p0)] [] (Xw1 r) (Xw0 r) := by
 refine Xae hT Tryz.func257 rfl fun C hC => ?_
 unfold Xhd at h
 refine Xab ?_
 refine kO hT hC ?_
 refine Vc.nil (Xap (Xab ?_))
 refine kO hT hC ?_
 refine Vc.nil ?_
 refine kS h ?_ ?_ <;> intro b1 h
 refine kt b1 (Xab ?_)
 refine kO hT hC ?_
 exact Vc.nil (Xah (Xas kR))
 refine kf b1 (Xag (Xaf (Xab ?_)))
 refine kO hT hC ?_
 exact Vc.nil (Xah kR)
def Ya2 (r : ByteArray) : AV := .sv (.str r)
def Ya1 (r : ByteArray) : Xa2 := []
theorem Ydd {p0 r} (h : Xkz p0 = some r) : AC Tryz.prog 250 [.agg [.sv (.int .i64 p0.Qp), .sv (.bool p0.Large), .sv (.bool p0.Exact), .sv (.bool p0.Confined)]] [] (Ya2 r) (Ya1 r) := by
 refine Xae hT Tryz.func250 rfl fun C hC => ?_
 unfold Xkz at h
 refine Xab ?_
 iterate 2 refine kO hT hC ?_
 refine Vc.nil ?_
 refine Xdn hm ?_
 iterate 2 refine kO hT hC ?_
 refine kC hC [] Tryz.call247 h (fun _ => Xlw) fun q1 h => ?_
 iterate 2 refine kO hT hC ?_
 refine kC hC [] Tryz.call257 h (fun _ => Xkx) fun q2 h => ?_
 refine kQ hT hC h fun h => ?_
 iterate 2 refine kO hT hC ?_
 refine kC hC [] Tryz.call257 h (fun _ => Xkx) fun q3 h => ?_
 refine kQ hT hC h fun h => ?_
 iterate 2 refine kO hT hC ?_
 refine kC hC [] Tryz.call257 h (fun _ => Xkx) fun q4 h => ?_
 refine kQ hT hC h fun h => ?_
 refine kO hT hC ?_
 exact kD (Xah kR)
def Xqq (r : (List ByteArray)) : AV := .own 16
def Xqp (r : (List ByteArray)) : Xa2 := [(16, .row Xau r)]
theorem Xsd {p0 r} (h : Xdd p0 = some r) : AC Tryz.prog 230 [.agg [.sv (.int .i64 p0.Seq.Level), .sv (.int .i64 p0.Seq.Bits), .sv (.ints .i64 p0.Seq.Cols), .sv (.ints .i64 p0.Seq.Rows), .sv (.int .i64 p0.Par.Qp), .sv (.bool p0.Par.Large), .sv (.bool p0.Par.Exact), .sv (.bool p0.Par.Confined), .sv (.int .i64 p0.Rate.Qp), .sv (.int .i64 p0.Rate.Target), .sv (.int .i64 p0.Rate.Debt), .sv (.int .i64 p0.Frame), .sv (.int .i64 p0.Since), .sv (.int .i64 p0.Every), .sv (.int .i64 p0.Reach), .sv (.bool p0.Has), .sv (.int .i64 p0.Ref.Wide), .sv (.int .i64 p0.Ref.High), .sv (.str p0.Ref.Dots)]] [] (Xqq r) (Xqp r) := by
 refine Xae hT Tryz.func230 rfl fun C hC => ?_
 unfold Xdd at h
 refine Xab ?_
 iterate 2 refine kO hT hC ?_
 refine Vc.nil (Xap (Xab ?_))
 refine kO hT hC ?_
 refine kC hC [] Tryz.call220 h (fun _ => Xgl) fun q1 h => ?_
 refine kO hT hC ?_
 refine Vc.nil ?_
 refine kS h ?_ ?_ <;> intro b1 h
 refine kt b1 (Xab ?_)
 iterate 2 refine kO hT hC ?_
 refine Vc.nil (Xah (Xas ?_))
 obtain rfl := kj h
 exact Xb2 (τ := ⟨[(2, .own 16)], [(16, some (.row Xau ([] : List ByteArray)))]⟩) (kW hC [(16, 160)]) rfl ⟨rfl, trivial⟩
 refine kf b1 (Xag (Xaf (Xab ?_)))
 iterate 2 refine kO hT hC ?_
 refine kC hC [] Tryz.call249 h (fun _ => Ydf) fun q2 h => ?_
 refine kC hC [] Tryz.call231 h (fun _ => Xlu) fun q3 h => ?_
 iterate 5 refine kO hT hC ?_
 refine kN ?_
 iterate 2 refine kO hT hC ?_
 refine kC hC [] Tryz.call250 h (fun _ => Ydd) fun q4 h => ?_
 refine kC hC [] Tryz.call231 h (fun _ => Xlu) fun q5 h => ?_
 iterate 5 refine kO hT hC ?_
 refine kN ?_
 iterate 4 refine kO hT hC ?_
 refine Vc.nil (Xah ?_)
 obtain rfl := kj h
 exact Xb2 (τ := ⟨[(2, .own 16)], [(16, some (.row Xau ([q3.1, q5.1])))]⟩) (kW hC [(16, 432)]) rfl ⟨rfl, trivial⟩
def Xt4 (r : Rate) : AV := .agg [.sv (.int .i64 r.Qp), .sv (.int .i64 r.Target), .sv (.int .i64 r.Debt)]
def Xt3 (r : Rate) : Xa2 := []
theorem Xv6 {p0 p1 r} (h : Xhz p0 p1 = some r) : AC Tryz.prog 232 [.agg [.sv (.int .i64 p0.Qp), .sv (.int .i64 p0.Target), .sv (.int .i64 p0.Debt)], .sv (.int .i64 p1)] [] (Xt4 r) (Xt3 r) := by
 refine Xae hT Tryz.func232 rfl fun C hC => ?_
 unfold Xhz at h
 refine Xab ?_
 iterate 2 refine kO hT hC ?_
 refine Vc.nil (Xap (Xab ?_))
 refine kO hT hC ?_
 refine kC hC [] Tryz.call243 h (fun _ => Xlq) fun q1 h => ?_
 refine kO hT hC ?_
 refine Vc.nil ?_
 refine kS h ?_ ?_ <;> intro b1 h
 refine kt b1 (Xab ?_)
 iterate 2 refine kO hT hC ?_
 exact Vc.nil (Xah (Xas kR))
 refine kf b1 (Xag (Xaf ?_))
 refine Xdn hm ?_
 iterate 3 refine kO hT hC ?_
 refine kC hC [] Tryz.call159 h (fun _ => Xbn) fun q2 h => ?_
 iterate 10 refine kO hT hC ?_
 refine kC hC [] Tryz.call159 h (fun _ => Xbn) fun q3 h => ?_
 refine kO hT hC ?_
 refine kD (Xab ?_)
 iterate 3 refine kO hT hC ?_
 refine Vc.nil ?_
 refine kL [2,4,5,6] [32,64] [_,_,_,_] [_,_] ?_
 refine kA h (fun v4 => ([(6, .sv (.int .i64 v4))], [])) (fun v4 h => ?_) fun v4 h => ?_
 refine Xab ?_
 iterate 4 refine kO hT hC ?_
 refine Vc.nil ?_
 refine kS h ?_ ?_ <;> intro b2 h
 refine kt b2 (Xac ?_)
 iterate 3 refine kO hT hC ?_
 exact Vc.nil kM
 exact kf b2 (Xag kM)
 refine kL [2,4,5,6] [32,64] [_,_,_,_] [_,_] ?_
 refine kA h (fun v5 => ([(6, .sv (.int .i64 v5))], [])) (fun v5 h => ?_) fun v5 h => ?_
 refine Xab ?_
 iterate 5 refine kO hT hC ?_
 refine Vc.nil ?_
 refine kS h ?_ ?_ <;> intro b3 h
 refine kt b3 (Xac ?_)
 iterate 3 refine kO hT hC ?_
 exact Vc.nil kM
 exact kf b3 (Xag kM)
 refine Xdn hm ?_
 refine kO hT hC ?_
 refine kC hC [] Tryz.call159 h (fun _ => Xbn) fun q6 h => ?_
 iterate 5 refine kO hT hC ?_
 exact kD (Xah kR)
def Xqs (r : (Xcm × (List ByteArray) × Bool)) : AV := .tup [.agg [.sv (.int .i64 r.1.Seq.Level), .sv (.int .i64 r.1.Seq.Bits), .own 16, .own 17, .sv (.int .i64 r.1.Par.Qp), .sv (.bool r.1.Par.Large), .sv (.bool r.1.Par.Exact), .sv (.bool r.1.Par.Confined), .sv (.int .i64 r.1.Rate.Qp), .sv (.int .i64 r.1.Rate.Target), .sv (.int .i64 r.1.Rate.Debt), .sv (.int .i64 r.1.Frame), .sv (.int .i64 r.1.Since), .sv (.int .i64 r.1.Every), .sv (.int .i64 r.1.Reach), .sv (.bool r.1.Has), .sv (.int .i64 r.1.Ref.Wide), .sv (.int .i64 r.1.Ref.High), .sv (.str r.1.Ref.Dots)], .own 18, .sv (.bool r.2.2)]
def Xqr (r : (Xcm × (List ByteArray) × Bool)) : Xa2 := [(16, .ints .i64 r.1.Seq.Cols), (17, .ints .i64 r.1.Seq.Rows), (18, .row Xau r.2.1)]
theorem Xsf {p0 p1 p2 r} (h : Xe3 p0 p1 p2 = some r) : AC Tryz.prog 186 [.agg [.sv (.int .i64 p0.Seq.Level), .sv (.int .i64 p0.Seq.Bits), .sv (.ints .i64 p0.Seq.Cols), .sv (.ints .i64 p0.Seq.Rows), .sv (.int .i64 p0.Par.Qp), .sv (.bool p0.Par.Large), .sv (.bool p0.Par.Exact), .sv (.bool p0.Par.Confined), .sv (.int .i64 p0.Rate.Qp), .sv (.int .i64 p0.Rate.Target), .sv (.int .i64 p0.Rate.Debt), .sv (.int .i64 p0.Frame), .sv (.int .i64 p0.Since), .sv (.int .i64 p0.Every), .sv (.int .i64 p0.Reach), .sv (.bool p0.Has), .sv (.int .i64 p0.Ref.Wide), .sv (.int .i64 p0.Ref.High), .sv (.str p0.Ref.Dots)], .agg [.sv (.int .i64 p1.Wide), .sv (.int .i64 p1.High), .sv (.str p1.Dots)], .sv (.bool p2)] [] (Xqs r) (Xqr r) := by
 refine Xae hT Tryz.func186 rfl fun C hC => ?_
 unfold Xe3 at h
 refine Xab ?_
 iterate 5 refine kO hT hC ?_
 refine kN ?_
 iterate 2 refine kO hT hC ?_
 refine kC hC [] Tryz.call184 h (fun _ => Xls) fun q1 h => ?_
 iterate 5 refine kO hT hC ?_
 refine kN ?_
 iterate 2 refine kO hT hC ?_
 refine kC hC [] Tryz.call224 h (fun _ => Ycl) fun q2 h => ?_
 refine kO hT hC ?_
 refine Vc.nil (Xap ?_)
 refine kL [3,4,6,9,10,11] [48,64,96] [_,_,_,_,_,_] [_,_,_] ?_
 refine kA h (fun v3 => ([(61, .sv (.bool v3)), (9, .any), (10, .any)], [])) (fun v3 h => ?_) fun v3 h => ?_
 refine Xac ?_
 refine kO hT hC ?_
 refine kC hC [] Tryz.call220 h (fun _ => Xgl) fun q4 h => ?_
 iterate 2 refine kO hT hC ?_
 refine kS h ?_ ?_ <;> intro b1 h
 refine kI hT hC (kn b1) ?_
 refine kE hC (kn b1) [] Tryz.call96 h (fun _ => Xb4) fun q5 h => ?_
 refine kI hT hC (kn b1) ?_
 refine kP hC false (kn b1) ?_
 refine kO hT hC ?_
 refine kS h ?_ ?_ <;> intro b2 h
 iterate 4 refine kI hT hC (kn b2) ?_
 refine kP hC false (kn b2) ?_
 refine kO hT hC ?_
 refine kS h ?_ ?_ <;> intro b3 h
 iterate 4 refine kF hC b3 ?_
 refine kP hC true b3 ?_
 refine kO hT hC ?_
 iterate 3 refine kF hC rfl ?_
 iterate 3 refine Xhk hC rfl rfl rfl rfl rfl rfl ?_
 refine kF hC rfl ?_
 refine kO hT hC ?_
 exact Vc.nil kM
 iterate 4 refine kI hT hC b3 ?_
 refine kP hC false b3 ?_
 refine kO hT hC ?_
 refine kS h ?_ ?_ <;> intro b4 h
 iterate 3 refine kF hC b4 ?_
 iterate 3 refine Xhk hC rfl rfl rfl rfl rfl rfl ?_
 refine kF hC b4 ?_
 refine kP hC true b4 ?_
 exact Vc.nil kM
 iterate 3 refine kI hT hC b4 ?_
 refine kS h ?_ ?_ <;> intro b5 h
 iterate 3 refine kF hC (kn b5) ?_
 refine Xbz hC rfl rfl rfl rfl b4 rfl rfl (b := false) (kn b5) rfl rfl rfl trivial ?_
 refine kP hC false b4 ?_
 exact Vc.nil kM
 iterate 3 refine kI hT hC (kn b5) ?_
 refine Xbz hC rfl rfl rfl rfl b4 rfl rfl (b := true) (kn b5) rfl rfl rfl trivial ?_
 refine kP hC false b4 ?_
 exact Vc.nil kM
 iterate 4 refine kF hC (kn b2) ?_
 refine kP hC true (kn b2) ?_
 refine kO hT hC ?_
 iterate 4 refine kF hC rfl ?_
 iterate 2 refine kO hT hC ?_
 iterate 3 refine kF hC rfl ?_
 iterate 3 refine Xhk hC rfl rfl rfl rfl rfl rfl ?_
 refine kF hC rfl ?_
 refine kO hT hC ?_
 exact Vc.nil kM
 iterate 3 refine kF hC (kn b1) ?_
 refine kP hC true (kn b1) ?_
 refine kO hT hC ?_
 iterate 4 refine kF hC rfl ?_
 iterate 2 refine kO hT hC ?_
 iterate 4 refine kF hC rfl ?_
 iterate 2 refine kO hT hC ?_
 iterate 3 refine kF hC rfl ?_
 iterate 3 refine Xhk hC rfl rfl rfl rfl rfl rfl ?_
 refine kF hC rfl ?_
 refine kO hT hC ?_
 exact Vc.nil kM
 refine kS h ?_ ?_ <;> intro b6 h
 refine kt b6 (Xab ?_)
 iterate 2 refine kO hT hC ?_
 refine kC hC [(16, 1024), (17, 1025)] Tryz.call225 h (fun _ => Xn9) fun q6 h => ?_
 iterate 2 refine kO hT hC ?_
 refine kN ?_
 iterate 5 refine kO hT hC ?_
 refine Vc.nil (Xah (Xas ?_))
 obtain rfl := kj h
 exact Xb2 (τ := ⟨[(6, .ptr 2000000 0), (7, .own 18), (8, .sv (.bool false))], [(16, some (.ints .i64 q6.Cols)), (17, some (.ints .i64 q6.Rows)), (18, some (.row Xau ([] : List ByteArray))), (2000000, some (.box [.sv (.int .i64 q6.Level), .sv (.int .i64 q6.Bits), .own 16, .own 17, .sv (.int .i64 p0.Par.Qp), .sv (.bool p0.Par.Large), .sv (.bool p0.Par.Exact), .sv (.bool p0.Par.Confined), .sv (.int .i64 p0.Rate.Qp), .sv (.int .i64 p0.Rate.Target), .sv (.int .i64 p0.Rate.Debt), .sv (.int .i64 p0.Frame), .sv (.int .i64 p0.Since), .sv (.int .i64 p0.Every), .sv (.int .i64 p0.Reach), .sv (.bool p0.Has), .sv (.int .i64 p0.Ref.Wide), .sv (.int .i64 p0.Ref.High), .sv (.str p0.Ref.Dots)]))]⟩) (kW hC [(16, 1024), (17, 1025), (18, 1072), (2000000, 96)]) rfl ⟨rfl, rfl, rfl, trivial⟩
 refine kf b6 (Xag (Xaf ?_))
 refine Xdn hm ?_
 iterate 4 refine kO hT hC ?_
 refine kC hC [] Tryz.call226 h (fun _ => Yfn) fun q7 h => ?_
 iterate 9 refine kO hT hC ?_
 refine kD (Xab ?_)
 iterate 6 refine kO hT hC ?_
 refine kC hC [(16, 1392)] Tryz.call227 h (fun _ => Yap) fun q8 h => ?_
 iterate 8 refine kO hT hC ?_
 refine kN ?_
 iterate 9 refine kO hT hC ?_
 refine kC hC [] Tryz.call228 h (fun _ => Xz1) fun q9 h => ?_
 iterate 5 refine kO hT hC ?_
 refine kN ?_
 iterate 3 refine kO hT hC ?_
 refine kC hC [] Tryz.call229 h (fun _ => Ydq) fun q10 h => ?_
 refine kQ hT hC h fun h => ?_
 refine kO hT hC ?_
 refine kN ?_
 iterate 2 refine kO hT hC ?_
 refine kN ?_
 refine kO hT hC ?_
 refine Vc.nil ?_
 refine kL [3,6,11,14,18,19,20] [48,96,224,1744] [_,_,_,_,_,_,_] [_,_,_,_] ?_
 refine kA h (fun v11 => ([(20, .sv (.int .i64 v11.1))], [(1744, some (.row Xau v11.2))])) (fun v11 h => ?_) fun v11 h => ?_
 refine Xab ?_
 refine kO hT hC ?_
 refine Vc.nil ?_
 refine kS h ?_ ?_ <;> intro b7 h
 refine kt b7 (Xab ?_)
 refine kO hT hC ?_
 refine Vc.nil (Xac ?_)
 refine kO hT hC ?_
 refine kC hC [(16, 1792)] Tryz.call230 h (fun _ => Xsd) fun q12 h => ?_
 refine kO hT hC ?_
 refine Vc.nil ?_
 obtain rfl := kj h
 exact Xj4 (kW hC [(1744, 1792)])
 exact kf b7 (Xag kM)
 refine Xab ?_
 iterate 2 refine kO hT hC ?_
 refine kC hC [] Tryz.call231 h (fun _ => Xlu) fun q13 h => ?_
 iterate 5 refine kO hT hC ?_
 refine kN ?_
 iterate 3 refine kO hT hC ?_
 obtain ⟨hq, h⟩ := Xbm h
 refine Yej hT hC rfl rfl rfl rfl ⟨fun _ _ => rfl, by rw [Xbs]; exact hq⟩ ?_
 rw [Xbs]
 refine kO hT hC ?_
 refine kN ?_
 iterate 3 refine kO hT hC ?_
 refine kN ?_
 iterate 2 refine kO hT hC ?_
 refine kC hC [(16, 2016), (17, 2017)] Tryz.call225 h (fun _ => Xn9) fun q14 h => ?_
 iterate 2 refine kO hT hC ?_
 refine kN ?_
 iterate 4 refine kO hT hC ?_
 refine kC hC [] Tryz.call232 h (fun _ => Xv6) fun q15 h => ?_
 iterate 2 refine kO hT hC ?_
 refine kN ?_
 iterate 7 refine kO hT hC ?_
 iterate 2 refine kQ hT hC h fun h => ?_
 iterate 2 refine kO hT hC ?_
 refine kN ?_
 iterate 5 refine kO hT hC ?_
 refine Vc.nil ?_
 refine kL [6,11,14,19,23] [96,224,368,1952,2016,2017] [_,_,_,_,_] [_,_,_,_,_,_] ?_
 refine kA h (fun v16 => ([(11, .any)], [(368, some (.box [.sv (.int .i64 q14.Level), .sv (.int .i64 q14.Bits), .own 2016, .own 2017, .sv (.int .i64 p0.Par.Qp), .sv (.bool p0.Par.Large), .sv (.bool p0.Par.Exact), .sv (.bool p0.Par.Confined), .sv (.int .i64 q15.Qp), .sv (.int .i64 q15.Target), .sv (.int .i64 q15.Debt), .sv (.int .i64 ((Xaa .i64 (p0.Frame + 1)).tmod (Xaa .i64 (1 * 2 ^ min (Xaa .u64 (p0.Seq.Bits)).toNat (IntKind.bits .i64))))), .sv (.int .i64 v16), .sv (.int .i64 p0.Every), .sv (.int .i64 p0.Reach), .sv (.bool p0.Has), .sv (.int .i64 p0.Ref.Wide), .sv (.int .i64 p0.Ref.High), .sv (.str p0.Ref.Dots)]))])) (fun v16 h => ?_) fun v16 h => ?_
 refine Xab ?_
 refine kO hT hC ?_
 refine Vc.nil ?_
 refine kS h ?_ ?_ <;> intro b8 h
 refine kt b8 (Xac ?_)
 iterate 2 refine kO hT hC ?_
 exact Vc.nil kM
 exact kf b8 (Xag kM)
 refine Xab ?_
 iterate 2 refine kO hT hC ?_
 refine kN ?_
 iterate 3 refine kO hT hC ?_
 refine kN ?_
 iterate 5 refine kO hT hC ?_
 refine Vc.nil (Xah ?_)
 obtain rfl := kj h
 exact Xb2 (τ := ⟨[(6, .ptr 2000000 0), (7, .own 18), (8, .sv (.bool true))], [(16, some (.ints .i64 q14.Cols)), (17, some (.ints .i64 q14.Rows)), (18, some (.row Xau (v11.2 ++ ([q13.1])))), (2000000, some (.box [.sv (.int .i64 q14.Level), .sv (.int .i64 q14.Bits), .own 16, .own 17, .sv (.int .i64 p0.Par.Qp), .sv (.bool p0.Par.Large), .sv (.bool p0.Par.Exact), .sv (.bool p0.Par.Confined), .sv (.int .i64 q15.Qp), .sv (.int .i64 q15.Target), .sv (.int .i64 q15.Debt), .sv (.int .i64 ((Xaa .i64 (p0.Frame + 1)).tmod (Xaa .i64 (1 * 2 ^ min (Xaa .u64 (p0.Seq.Bits)).toNat (IntKind.bits .i64))))), .sv (.int .i64 v16), .sv (.int .i64 p0.Every), .sv (.int .i64 p0.Reach), .sv (.bool true), .sv (.int .i64 q8.2.1.Wide), .sv (.int .i64 q8.2.1.High), .sv (.str q8.2.1.Dots)]))]⟩) (kW hC [(16, 2016), (17, 2017), (18, 1952), (2000000, 96)]) rfl ⟨rfl, rfl, rfl, trivial⟩
def Xxv (r : (Pic × Xaw)) : AV := .agg [.sv (.int .i64 r.1.Wide), .sv (.int .i64 r.1.High), .sv (.str r.1.Dots)]
def Xxu (r : (Pic × Xaw)) : Xa2 := [(0, .box [.sv (.ints .u8 r.2.b_), .sv (.int .i64 r.2.i_), .sv (.int .i64 r.2.h_)])]
theorem Ybl {p0 p1 r} (h : Xjo p0 p1 = some r) : AC Tryz.prog 187 [.ptr 0 0, .agg [.sv (.int .i64 p1.Wide), .sv (.int .i64 p1.High), .sv (.str p1.Dots)]] [(0, .box [.sv (.ints .u8 p0.b_), .sv (.int .i64 p0.i_), .sv (.int .i64 p0.h_)])] (Xxv r) (Xxu r) := by
 refine Xae hT Tryz.func187 rfl fun C hC => ?_
 unfold Xjo at h
 refine Xab ?_
 iterate 2 refine kO hT hC ?_
 refine kN ?_
 refine kO hT hC ?_
 refine kC hC [(0, 0)] Tryz.call74 h (fun _ => Xaq) fun q1 h => ?_
 iterate 2 refine kO hT hC ?_
 refine kN ?_
 refine kO hT hC ?_
 refine kC hC [(0, 0)] Tryz.call74 h (fun _ => Xaq) fun q2 h => ?_
 iterate 2 refine kO hT hC ?_
 refine Vc.nil ?_
 refine kL [0,3,4,5,6] [0,48,64] [_,_,_,_,_] [_,_,_] ?_
 refine kA h (fun v3 => ([(5, .sv (.int .i64 v3.1)), (6, .sv (.int .i64 v3.2.1))], [(0, some (.box [.sv (.ints .u8 v3.2.2.1), .sv (.int .i64 v3.2.2.2.1), .sv (.int .i64 v3.2.2.2.2)]))])) (fun v3 h => ?_) fun v3 h => ?_
 refine Xab ?_
 refine kO hT hC ?_
 refine kC hC [(0, 0)] Tryz.call127 h (fun _ => Xdf) fun q4 h => ?_
 refine Vc.nil ?_
 refine kS h ?_ ?_ <;> intro b1 h
 refine kt b1 (Xab ?_)
 refine kO hT hC ?_
 refine Vc.nil (Xac ?_)
 refine kO hT hC ?_
 exact Vc.nil kM
 exact kf b1 (Xag kM)
 refine Xab ?_
 iterate 2 refine kO hT hC ?_
 refine Vc.nil (Xap (Xab ?_))
 refine kO hT hC ?_
 refine Vc.nil ?_
 refine kL [0,3,4,5,6,7,8] [0,48,64,288] [_,_,_,_,_,_,_] [_,_,_,_] ?_
 refine kX h (fun v7 => ([(8, .sv (.int .i64 v7.1))], [(288, some (.ints .u8 v7.2))])) (fun v10 => ([(5, .any), (6, .any), (8, .any)], [(288, some (.ints .u8 v10))])) (kW hC []) (fun v7 s h => ?_) fun v10 h => ?_
 unfold Xih at h
 refine Xap (Xab ?_)
 iterate 5 refine kO hT hC ?_
 refine Vc.nil ?_
 refine kS h ?_ ?_ <;> intro b4 h
 refine kt b4 (Xag (Xaf (Xap (Xam ?_))))
 refine Xcn hm ?_
 iterate 5 refine kO hT hC ?_
 refine kQ hT hC h fun h => ?_
 iterate 5 refine kO hT hC ?_
 refine kQ hT hC h fun h => ?_
 iterate 2 refine kO hT hC ?_
 refine kC hC [] Tryz.call145 h (fun _ => Xhu) fun q11 h => ?_
 iterate 2 refine kO hT hC ?_
 refine kT hT hC h fun h => ?_
 refine kO hT hC ?_
 refine kD (Xan (Xaf (Xac ?_)))
 iterate 3 refine kO hT hC ?_
 refine Vc.nil ?_
 obtain rfl := kj h
 exact Xs2 (kW hC [(288, 688)])
 exact kf b4 (Xao (Xaz ku))
 refine Xaf (Xap (Xab ?_))
 refine kO hT hC ?_
 refine Vc.nil ?_
 refine kL [0,3,4,7,9] [0,48,64,288] [_,_,_,_,_] [_,_,_,_] ?_
 refine kX h (fun v17 => ([(9, .sv (.int .i64 v17.1))], [(0, some (.box [.sv (.ints .u8 v17.2.1), .sv (.int .i64 v17.2.2.1), .sv (.int .i64 v17.2.2.2.1)])), (288, some (.ints .u8 v17.2.2.2.2))])) (fun v22 => ([(0, .any), (9, .any)], [(0, some (.box [.sv (.ints .u8 v22.2.1), .sv (.int .i64 v22.2.2.1), .sv (.int .i64 v22.2.2.2)])), (288, some (.ints .u8 v22.1))])) (kW hC []) (fun v17 s h => ?_) fun v22 h => ?_
 unfold Xii at h
 refine Xap (Xab ?_)
 iterate 2 refine kO hT hC ?_
 refine kC hC [(0, 0)] Tryz.call74 h (fun _ => Xaq) fun q23 h => ?_
 refine kO hT hC ?_
 refine Vc.nil ?_
 refine kS h ?_ ?_ <;> intro b7 h
 refine kt b7 (Xag (Xaf (Xap (Xam (Xac ?_)))))
 iterate 4 refine kO hT hC ?_
 refine kC hC [(0, 0)] Tryz.call74 h (fun _ => Xaq) fun q24 h => ?_
 refine kO hT hC ?_
 refine kC hC [(0, 0)] Tryz.call73 h (fun _ => Xby) fun q25 h => ?_
 refine kO hT hC ?_
 iterate 2 refine kQ hT hC h fun h => ?_
 refine Vc.nil (Xan (Xaf (Xac ?_)))
 iterate 3 refine kO hT hC ?_
 exact Vc.nil kG
 exact kf b7 (Xao (Xaz ku))
 refine Xaf (Xab ?_)
 iterate 8 refine kO hT hC ?_
 refine Vc.nil (Xah ?_)
 obtain rfl := kj h
 exact Xb2 (Xgt.refl _) rfl ⟨rfl, trivial⟩
def Xuy (r : (Xcm × (List ByteArray) × Xaw)) : AV := .tup [.agg [.sv (.int .i64 r.1.Seq.Level), .sv (.int .i64 r.1.Seq.Bits), .own 16, .own 17, .sv (.int .i64 r.1.Par.Qp), .sv (.bool r.1.Par.Large), .sv (.bool r.1.Par.Exact), .sv (.bool r.1.Par.Confined), .sv (.int .i64 r.1.Rate.Qp), .sv (.int .i64 r.1.Rate.Target), .sv (.int .i64 r.1.Rate.Debt), .sv (.int .i64 r.1.Frame), .sv (.int .i64 r.1.Since), .sv (.int .i64 r.1.Every), .sv (.int .i64 r.1.Reach), .sv (.bool r.1.Has), .sv (.int .i64 r.1.Ref.Wide), .sv (.int .i64 r.1.Ref.High), .sv (.str r.1.Ref.Dots)], .own 18]
def Xux (r : (Xcm × (List ByteArray) × Xaw)) : Xa2 := [(16, .ints .i64 r.1.Seq.Cols), (17, .ints .i64 r.1.Seq.Rows), (18, .row Xau r.2.1), (0, .box [.sv (.ints .u8 r.2.2.b_), .sv (.int .i64 r.2.2.i_), .sv (.int .i64 r.2.2.h_)])]
theorem Xxy {p0 r} (h : Xfr p0 = some r) : AC Tryz.prog 128 [.ptr 0 0] [(0, .box [.sv (.ints .u8 p0.b_), .sv (.int .i64 p0.i_), .sv (.int .i64 p0.h_)])] (Xuy r) (Xux r) := by
 refine Xae hT Tryz.func128 rfl fun C hC => ?_
 unfold Xfr at h
 refine Xab ?_
 iterate 2 refine kO hT hC ?_
 refine kN ?_
 refine kO hT hC ?_
 refine kC hC [(0, 0)] Tryz.call74 h (fun _ => Xaq) fun q1 h => ?_
 iterate 2 refine kO hT hC ?_
 refine kC hC [(0, 0)] Tryz.call74 h (fun _ => Xaq) fun q2 h => ?_
 iterate 2 refine kO hT hC ?_
 refine kC hC [(0, 0)] Tryz.call74 h (fun _ => Xaq) fun q3 h => ?_
 iterate 2 refine kO hT hC ?_
 refine kC hC [(0, 0)] Tryz.call182 h (fun _ => Xqz) fun q4 h => ?_
 refine kO hT hC ?_
 refine kC hC [(0, 0)] Tryz.call183 h (fun _ => Xxw) fun q5 h => ?_
 refine kO hT hC ?_
 refine kC hC [(0, 0)] Tryz.call74 h (fun _ => Xaq) fun q6 h => ?_
 iterate 2 refine kO hT hC ?_
 refine kC hC [(0, 0)] Tryz.call74 h (fun _ => Xaq) fun q7 h => ?_
 refine kC hC [(16, 528), (17, 529)] Tryz.call181 h (fun _ => Xt7) fun q8 h => ?_
 iterate 6 refine kO hT hC ?_
 refine kN ?_
 iterate 2 refine kO hT hC ?_
 refine kN ?_
 iterate 2 refine kO hT hC ?_
 refine kC hC [] Tryz.call184 h (fun _ => Xls) fun q9 h => ?_
 iterate 5 refine kO hT hC ?_
 refine kN ?_
 iterate 3 refine kO hT hC ?_
 refine kC hC [(0, 0)] Tryz.call185 h (fun _ => Xxk) fun q10 h => ?_
 iterate 2 refine kO hT hC ?_
 refine Vc.nil (Xap (Xab ?_))
 refine kO hT hC ?_
 refine Vc.nil ?_
 refine kL [0,2,4,6,9,10] [0,32,64,144,528,529,576] [_,_,_,_,_,_] [_,_,_,_,_,_,_] ?_
 refine kX h (fun v16 => ([(10, .sv (.int .i64 v16.1))], [(0, some (.box [.sv (.ints .u8 v16.2.1), .sv (.int .i64 v16.2.2.1), .sv (.int .i64 v16.2.2.2.1)])), (64, some (.box [.sv (.int .i64 v16.2.2.2.2.1), .sv (.int .i64 v16.2.2.2.2.2.1), .own 528, .own 529, .sv (.int .i64 v16.2.2.2.2.2.2.1), .sv (.bool v16.2.2.2.2.2.2.2.1), .sv (.bool v16.2.2.2.2.2.2.2.2.1), .sv (.bool v16.2.2.2.2.2.2.2.2.2.1), .sv (.int .i64 v16.2.2.2.2.2.2.2.2.2.2.1), .sv (.int .i64 v16.2.2.2.2.2.2.2.2.2.2.2.1), .sv (.int .i64 v16.2.2.2.2.2.2.2.2.2.2.2.2.1), .sv (.int .i64 v16.2.2.2.2.2.2.2.2.2.2.2.2.2.1), .sv (.int .i64 v16.2.2.2.2.2.2.2.2.2.2.2.2.2.2.1), .sv (.int .i64 v16.2.2.2.2.2.2.2.2.2.2.2.2.2.2.2.1), .sv (.int .i64 v16.2.2.2.2.2.2.2.2.2.2.2.2.2.2.2.2.1), .sv (.bool v16.2.2.2.2.2.2.2.2.2.2.2.2.2.2.2.2.2.1), .sv (.int .i64 v16.2.2.2.2.2.2.2.2.2.2.2.2.2.2.2.2.2.2.1), .sv (.int .i64 v16.2.2.2.2.2.2.2.2.2.2.2.2.2.2.2.2.2.2.2.1), .sv (.str v16.2.2.2.2.2.2.2.2.2.2.2.2.2.2.2.2.2.2.2.2.1)])), (144, some (.box [.sv (.int .i64 v16.2.2.2.2.2.2.2.2.2.2.2.2.2.2.2.2.2.2.2.2.2.2.1), .sv (.int .i64 v16.2.2.2.2.2.2.2.2.2.2.2.2.2.2.2.2.2.2.2.2.2.2.2.1), .sv (.str v16.2.2.2.2.2.2.2.2.2.2.2.2.2.2.2.2.2.2.2.2.2.2.2.2.1)])), (528, some (.ints .i64 v16.2.2.2.2.2.2.2.2.2.2.2.2.2.2.2.2.2.2.2.2.2.2.2.2.2.1)), (529, some (.ints .i64 v16.2.2.2.2.2.2.2.2.2.2.2.2.2.2.2.2.2.2.2.2.2.2.2.2.2.2)), (576, some (.row Xau v16.2.2.2.2.2.2.2.2.2.2.2.2.2.2.2.2.2.2.2.2.2.1))])) (fun v22 => ([(0, .any), (9, .any), (10, .any)], [(0, some (.box [.sv (.ints .u8 v22.2.2.2.2.2.2.2.2.2.2.2.2.2.2.2.2.2.2.1), .sv (.int .i64 v22.2.2.2.2.2.2.2.2.2.2.2.2.2.2.2.2.2.2.2.1), .sv (.int .i64 v22.2.2.2.2.2.2.2.2.2.2.2.2.2.2.2.2.2.2.2.2.1)])), (64, some (.box [.sv (.int .i64 v22.1), .sv (.int .i64 v22.2.1), .own 528, .own 529, .sv (.int .i64 v22.2.2.1), .sv (.bool v22.2.2.2.1), .sv (.bool v22.2.2.2.2.1), .sv (.bool v22.2.2.2.2.2.1), .sv (.int .i64 v22.2.2.2.2.2.2.1), .sv (.int .i64 v22.2.2.2.2.2.2.2.1), .sv (.int .i64 v22.2.2.2.2.2.2.2.2.1), .sv (.int .i64 v22.2.2.2.2.2.2.2.2.2.1), .sv (.int .i64 v22.2.2.2.2.2.2.2.2.2.2.1), .sv (.int .i64 v22.2.2.2.2.2.2.2.2.2.2.2.1), .sv (.int .i64 v22.2.2.2.2.2.2.2.2.2.2.2.2.1), .sv (.bool v22.2.2.2.2.2.2.2.2.2.2.2.2.2.1), .sv (.int .i64 v22.2.2.2.2.2.2.2.2.2.2.2.2.2.2.1), .sv (.int .i64 v22.2.2.2.2.2.2.2.2.2.2.2.2.2.2.2.1), .sv (.str v22.2.2.2.2.2.2.2.2.2.2.2.2.2.2.2.2.1)])), (528, some (.ints .i64 v22.2.2.2.2.2.2.2.2.2.2.2.2.2.2.2.2.2.2.2.2.2.1)), (529, some (.ints .i64 v22.2.2.2.2.2.2.2.2.2.2.2.2.2.2.2.2.2.2.2.2.2.2)), (576, some (.row Xau v22.2.2.2.2.2.2.2.2.2.2.2.2.2.2.2.2.2.1)), (144, none)])) (kW hC []) (fun v16 s h => ?_) fun v22 h => ?_
 unfold Xgs at h
 refine Xap (Xab ?_)
 iterate 2 refine kO hT hC ?_
 refine kC hC [(0, 0)] Tryz.call74 h (fun _ => Xaq) fun q23 h => ?_
 refine kO hT hC ?_
 refine Vc.nil ?_
 refine kS h ?_ ?_ <;> intro b3 h
 refine kt b3 (Xag (Xaf (Xap (Xam ?_))))
 refine Xdn hm ?_
 iterate 3 refine kO hT hC ?_
 refine kC hC [(0, 0)] Tryz.call127 h (fun _ => Xdf) fun q24 h => ?_
 obtain ⟨q25, hq, h⟩ := Xbl h
 refine Ym2 hC [(16, 928), (17, 929), (18, 930)] rfl rfl rfl rfl Tryz.call186 (Xsf hq) rfl (by decide) trivial rfl (.inr ⟨rfl, ⟨trivial, trivial, fun _ => rfl, trivial⟩⟩) rfl ?_
 iterate 8 refine kO hT hC ?_
 refine kD (Xab ?_)
 iterate 2 refine kO hT hC ?_
 refine kN ?_
 iterate 2 refine kO hT hC ?_
 obtain ⟨hq, h⟩ := Xbm h
 refine Yej hT hC rfl rfl rfl rfl ⟨fun _ _ => rfl, by rw [Xbs]; exact hq⟩ ?_
 rw [Xbs]
 refine kO hT hC ?_
 refine Vc.nil (Xac ?_)
 iterate 2 refine kO hT hC ?_
 refine kC hC [(0, 0)] Tryz.call187 h (fun _ => Ybl) fun q26 h => ?_
 refine kO hT hC ?_
 refine Vc.nil (Xan (Xaf (Xac ?_)))
 iterate 3 refine kO hT hC ?_
 refine Vc.nil ?_
 obtain rfl := kj h
 exact Xs2 (kW hC [(528, 928), (529, 929), (576, 1040)])
 exact kf b3 (Xao (Xaz ku))
 refine Xaf (Xab ?_)
 iterate 4 refine kO hT hC ?_
 refine Vc.nil (Xah ?_)
 obtain rfl := kj h
 exact Xb2 (τ := ⟨[(2, .ptr 2000000 0), (3, .own 18)], [(16, some (.ints .i64 v22.2.2.2.2.2.2.2.2.2.2.2.2.2.2.2.2.2.2.2.2.2.1)), (17, some (.ints .i64 v22.2.2.2.2.2.2.2.2.2.2.2.2.2.2.2.2.2.2.2.2.2.2)), (18, some (.row Xau v22.2.2.2.2.2.2.2.2.2.2.2.2.2.2.2.2.2.1)), (0, some (.box [.sv (.ints .u8 v22.2.2.2.2.2.2.2.2.2.2.2.2.2.2.2.2.2.2.1), .sv (.int .i64 v22.2.2.2.2.2.2.2.2.2.2.2.2.2.2.2.2.2.2.2.1), .sv (.int .i64 v22.2.2.2.2.2.2.2.2.2.2.2.2.2.2.2.2.2.2.2.2.1)])), (2000000, some (.box [.sv (.int .i64 v22.1), .sv (.int .i64 v22.2.1), .own 16, .own 17, .sv (.int .i64 v22.2.2.1), .sv (.bool v22.2.2.2.1), .sv (.bool v22.2.2.2.2.1), .sv (.bool v22.2.2.2.2.2.1), .sv (.int .i64 v22.2.2.2.2.2.2.1), .sv (.int .i64 v22.2.2.2.2.2.2.2.1), .sv (.int .i64 v22.2.2.2.2.2.2.2.2.1), .sv (.int .i64 v22.2.2.2.2.2.2.2.2.2.1), .sv (.int .i64 v22.2.2.2.2.2.2.2.2.2.2.1), .sv (.int .i64 v22.2.2.2.2.2.2.2.2.2.2.2.1), .sv (.int .i64 v22.2.2.2.2.2.2.2.2.2.2.2.2.1), .sv (.bool v22.2.2.2.2.2.2.2.2.2.2.2.2.2.1), .sv (.int .i64 v22.2.2.2.2.2.2.2.2.2.2.2.2.2.2.1), .sv (.int .i64 v22.2.2.2.2.2.2.2.2.2.2.2.2.2.2.2.1), .sv (.str v22.2.2.2.2.2.2.2.2.2.2.2.2.2.2.2.2.1)]))]⟩) (kW hC [(16, 528), (17, 529), (18, 576), (2000000, 32)]) rfl ⟨rfl, rfl, rfl, rfl, trivial⟩
def Ybq (r : (Int × Xaw)) : AV := .sv (.int .i64 r.1)
def Ybp (r : (Int × Xaw)) : Xa2 := [(0, .box [.sv (.ints .u8 r.2.b_), .sv (.int .i64 r.2.i_), .sv (.int .i64 r.2.h_)])]
theorem Yds {p0 r} (h : Xk8 p0 = some r) : AC Tryz.prog 130 [.ptr 0 0] [(0, .box [.sv (.ints .u8 p0.b_), .sv (.int .i64 p0.i_), .sv (.int .i64 p0.h_)])] (Ybq r) (Ybp r) := by
 refine Xae hT Tryz.func130 rfl fun C hC => ?_
 unfold Xk8 at h
 refine Xab ?_
 refine kO hT hC ?_
 refine Vc.nil (Xap (Xab ?_))
 refine kO hT hC ?_
 refine kC hC [(0, 0)] Tryz.call127 h (fun _ => Xdf) fun q1 h => ?_
 refine Vc.nil ?_
 refine kS h ?_ ?_ <;> intro b1 h
 refine kt b1 (Xab ?_)
 refine kO hT hC ?_
 refine Ym4 hT hC rfl rfl rfl rfl trivial rfl ?_
 refine kC hC [(0, 0)] Tryz.call131 h (fun _ => Xh2) fun q2 h => ?_
 refine kO hT hC ?_
 refine Vc.nil (Xah (Xas ?_))
 obtain rfl := kj h
 exact Xb2 (Xgt.refl _) rfl ⟨rfl, trivial⟩
 refine kf b1 (Xag (Xaf (Xab ?_)))
 refine kO hT hC ?_
 refine kC hC [(0, 0)] Tryz.call74 h (fun _ => Xaq) fun q3 h => ?_
 refine kO hT hC ?_
 refine Vc.nil (Xah ?_)
 obtain rfl := kj h
 exact Xb2 (Xgt.refl _) rfl ⟨rfl, trivial⟩
def Xqy (r : ByteArray) : AV := .sv (.str r)
def Xqx (r : ByteArray) : Xa2 := []
theorem Xsp {p0 r} (h : Xe6 p0 = some r) : AC Tryz.prog 253 [.sv (.str p0)] [] (Xqy r) (Xqx r) := by
 refine Xae hT Tryz.func253 rfl fun C hC => ?_
 unfold Xe6 at h
 refine Xab ?_
 refine kO hT hC ?_
 refine kN ?_
 iterate 2 refine kO hT hC ?_
 refine Vc.nil (Xap (Xab ?_))
 refine kO hT hC ?_
 refine Vc.nil ?_
 refine kL [0,3,4] [96] [_,_,_] [_] ?_
 refine kX h (fun v4 => ([(4, .sv (.int .i64 v4.1))], [(96, some (.ints .u8 v4.2))])) (fun v8 => ([(0, .any), (4, .any)], [(96, some (.ints .u8 v8))])) (kW hC []) (fun v4 s h => ?_) fun v8 h => ?_
 unfold Xcs at h
 refine Xap (Xab ?_)
 iterate 4 refine kO hT hC ?_
 refine Vc.nil ?_
 refine kS h ?_ ?_ <;> intro b11 h
 refine kt b11 (Xag (Xaf (Xap (Xam (Xab ?_)))))
 iterate 3 refine kO hT hC ?_
 refine Vc.nil ?_
 refine kL [0,3,4,5] [96] [_,_,_,_] [_] ?_
 refine kA h (fun v9 => ([(5, .any)], [(96, some (.ints .u8 v9))])) (fun v9 h => ?_) fun v9 h => ?_
 refine kL [0,3,4,5] [96] [_,_,_,_] [_] ?_
 refine kA h (fun v10 => ([(38, .sv (.bool v10)), (5, .any)], [])) (fun v10 h => ?_) fun v10 h => ?_
 refine Xac ?_
 iterate 3 refine kO hT hC ?_
 refine kS h ?_ ?_ <;> intro b12 h
 iterate 3 refine kI hT hC b12 ?_
 iterate 2 refine kJ hT hC b12 h fun h => ?_
 refine kI hT hC b12 ?_
 refine kP hC true b12 ?_
 refine kO hT hC ?_
 refine kS h ?_ ?_ <;> intro b13 h
 iterate 3 refine kI hT hC b13 ?_
 iterate 2 refine kJ hT hC b13 h fun h => ?_
 refine kI hT hC b13 ?_
 refine kP hC true b13 ?_
 refine kO hT hC ?_
 refine kS h ?_ ?_ <;> intro b14 h
 iterate 2 refine kI hT hC b14 ?_
 refine kJ hT hC b14 h fun h => ?_
 refine kI hT hC b14 ?_
 refine kP hC true b14 ?_
 exact Vc.nil kM
 iterate 4 refine kF hC b14 ?_
 refine kP hC false b14 ?_
 exact Vc.nil kM
 iterate 6 refine kF hC b13 ?_
 refine kP hC false b13 ?_
 refine kO hT hC ?_
 iterate 4 refine kF hC rfl ?_
 refine kO hT hC ?_
 exact Vc.nil kM
 iterate 6 refine kF hC b12 ?_
 refine kP hC false b12 ?_
 refine kO hT hC ?_
 iterate 6 refine kF hC rfl ?_
 iterate 2 refine kO hT hC ?_
 iterate 4 refine kF hC rfl ?_
 refine kO hT hC ?_
 exact Vc.nil kM
 refine kS h ?_ ?_ <;> intro b15 h
 refine kt b15 (Xac ?_)
 iterate 2 refine kO hT hC ?_
 refine kT hT hC h fun h => ?_
 refine kO hT hC ?_
 refine Vc.nil ?_
 obtain rfl := kj h
 exact Xj4 (kW hC [(96, 656)])
 exact kf b15 (Xag kM)
 refine Xac ?_
 iterate 3 refine kO hT hC ?_
 refine kQ hT hC h fun h => ?_
 refine kO hT hC ?_
 refine kT hT hC h fun h => ?_
 refine kO hT hC ?_
 refine Vc.nil (Xan (Xaf (Xac ?_)))
 iterate 3 refine kO hT hC ?_
 refine Vc.nil ?_
 obtain rfl := kj h
 exact Xs2 (kW hC [(96, 752)])
 exact kf b11 (Xao (Xaz ku))
 refine Xaf (Xab ?_)
 iterate 3 refine kO hT hC ?_
 exact Vc.nil (Xah kR)
def Xvx (r : (ByteArray × Bool)) : AV := .tup [.sv (.str r.1), .sv (.bool r.2)]
def Xvw (r : (ByteArray × Bool)) : Xa2 := []
theorem Xzv {p0 r} (h : Xjf p0 = some r) : AC Tryz.prog 233 [.sv (.str p0)] [] (Xvx r) (Xvw r) := by
 refine Xae hT Tryz.func233 rfl fun C hC => ?_
 unfold Xjf at h
 refine Xab ?_
 iterate 2 refine kO hT hC ?_
 refine Vc.nil (Xap ?_)
 refine kL [0] [] [_] [] ?_
 refine kA h (fun v1 => ([(19, .sv (.bool v1))], [])) (fun v1 h => ?_) fun v1 h => ?_
 refine Xac ?_
 iterate 4 refine kO hT hC ?_
 refine kS h ?_ ?_ <;> intro b1 h
 iterate 3 refine kF hC b1 ?_
 refine kP hC true b1 ?_
 refine kO hT hC ?_
 iterate 6 refine kF hC rfl ?_
 refine kO hT hC ?_
 exact Vc.nil kM
 iterate 3 refine kI hT hC b1 ?_
 refine kP hC false b1 ?_
 refine kO hT hC ?_
 refine kS h ?_ ?_ <;> intro b2 h
 iterate 6 refine kF hC b2 ?_
 refine kP hC true b2 ?_
 exact Vc.nil kM
 iterate 4 refine kI hT hC b2 ?_
 refine kJ hT hC b2 h fun h => ?_
 refine kI hT hC b2 ?_
 refine kP hC false b2 ?_
 exact Vc.nil kM
 refine kS h ?_ ?_ <;> intro b3 h
 refine kt b3 (Xab ?_)
 iterate 2 refine kO hT hC ?_
 exact Vc.nil (Xah (Xas kR))
 refine kf b3 (Xag (Xaf (Xab ?_)))
 refine kO hT hC ?_
 refine kC hC [] Tryz.call253 h (fun _ => Xsp) fun q2 h => ?_
 iterate 2 refine kO hT hC ?_
 exact Vc.nil (Xah kR)
def Xnz (r : (ByteArray × Bool)) : AV := .tup [.sv (.str r.1), .sv (.bool r.2)]
def Xny (r : (ByteArray × Bool)) : Xa2 := []
theorem Ycg {p0 r} (h : Xkl p0 = some r) : AC Tryz.prog 188 [.sv (Xau.sv p0)] [] (Xnz r) (Xny r) := by
 refine Xae hT Tryz.func188 rfl fun C hC => ?_
 unfold Xkl at h
 refine Xab ?_
 iterate 2 refine kO hT hC ?_
 refine Vc.nil (Xap (Xab ?_))
 iterate 3 refine kO hT hC ?_
 refine Vc.nil ?_
 refine kS h ?_ ?_ <;> intro b1 h
 refine kt b1 (Xab ?_)
 iterate 2 refine kO hT hC ?_
 exact Vc.nil (Xah (Xas kR))
 refine kf b1 (Xag (Xaf (Xab ?_)))
 iterate 2 refine kO hT hC ?_
 refine Vc.nil (Xap (Xab ?_))
 refine kO hT hC ?_
 refine Vc.nil ?_
 refine kL [0,4,5] [176] [_,_,_] [_] ?_
 obtain ⟨o8, hl, h⟩ := Xbl h
 refine Xgy (fun v3 => ([(5, .sv (.int .i64 v3.1))], [(176, some (.ints .u8 v3.2))])) (fun v6 => ([(0, .any), (5, .any)], [(176, some (.ints .u8 v6))])) (fun r => Xnc C T Tryz.f188.results.toList (Xnz r) (Xny r)) hl ?_ ?_ ?_ ?_
 try dsimp only
 apply Xeh hC []
 exact co
 rfl
 decide
 rfl
 intro v3 s hs
 have h := hs
 unfold Xea at h
 refine Xap (Xab ?_)
 iterate 4 refine kO hT hC ?_
 refine Vc.nil ?_
 refine kS h ?_ ?_ <;> intro b8 h
 refine kt b8 (Xag (Xaf (Xap (Xam (Xab ?_)))))
 iterate 2 refine kO hT hC ?_
 refine kQ hT hC h fun h => ?_
 refine kO hT hC ?_
 refine kC hC [] Tryz.call233 h (fun _ => Xzv) fun q7 h => ?_
 iterate 5 refine kO hT hC ?_
 refine Vc.nil (Xap (Xab ?_))
 iterate 2 refine kO hT hC ?_
 refine Vc.nil ?_
 refine kS h ?_ ?_ <;> intro b9 h
 refine kt b9 (Xab ?_)
 iterate 2 refine kO hT hC ?_
 refine Vc.nil (Xah (Xas (Xgu (Xas ?_))))
 obtain rfl := kj h
 refine Xpa (Xo9 ?_)
 exact Xb2 (Xgt.refl _) rfl trivial
 refine kf b9 (Xag (Xaf (Xab ?_)))
 iterate 2 refine kO hT hC ?_
 refine kT hT hC h fun h => ?_
 refine kO hT hC ?_
 refine kN ?_
 iterate 2 refine kO hT hC ?_
 refine kT hT hC h fun h => ?_
 refine kO hT hC ?_
 refine kN ?_
 iterate 3 refine kO hT hC ?_
 refine Vc.nil ?_
 refine kS h ?_ ?_ <;> intro b10 h
 refine kt b10 (Xab ?_)
 iterate 2 refine kO hT hC ?_
 refine Vc.nil (Xah (Xgu (Xas ?_)))
 obtain rfl := kj h
 refine Xpa (Xo9 ?_)
 exact Xb2 (Xgt.refl _) rfl trivial
 refine kf b10 (Xag (Xan (Xaf (Xac ?_))))
 iterate 3 refine kO hT hC ?_
 refine Vc.nil ?_
 obtain rfl := kj h
 exact Xs2 (kW hC [(176, 528)])
 exact kf b8 (Xao (Xaz kb))
 intro v6 e
 subst e
 refine Xaf (Xab ?_)
 iterate 4 refine kO hT hC ?_
 exact Vc.nil (Xah kR)
 intro r' σ' e hE
 subst e
 obtain rfl := kj h
 refine Xas ?_
 exact hE
def Xwd (r : Int) : AV := .sv (.int .i64 r)
def Xwc (r : Int) : Xa2 := []
theorem Yaf {p0 p1 r} (h : Xji p0 p1 = some r) : AC Tryz.prog 189 [.sv (.int .i64 p0), .sv (.int .i64 p1)] [] (Xwd r) (Xwc r) := by
 refine Xae hT Tryz.func189 rfl fun C hC => ?_
 unfold Xji at h
 refine Xab ?_
 refine kO hT hC ?_
 refine Vc.nil (Xap ?_)
 refine kL [0,1] [] [_,_] [] ?_
 refine kA h (fun v1 => ([(12, .sv (.bool v1))], [])) (fun v1 h => ?_) fun v1 h => ?_
 refine Xac ?_
 refine kO hT hC ?_
 refine kC hC [] Tryz.call53 h (fun _ => Xai) fun q2 h => ?_
 iterate 2 refine kO hT hC ?_
 refine kS h ?_ ?_ <;> intro b1 h
 refine kI hT hC (kn b1) ?_
 refine kE hC (kn b1) [] Tryz.call53 h (fun _ => Xai) fun q3 h => ?_
 refine kI hT hC (kn b1) ?_
 refine kP hC false (kn b1) ?_
 exact Vc.nil kM
 iterate 3 refine kF hC (kn b1) ?_
 refine kP hC true (kn b1) ?_
 exact Vc.nil kM
 refine kS h ?_ ?_ <;> intro b2 h
 refine kt b2 (Xab ?_)
 refine kO hT hC ?_
 exact Vc.nil (Xah (Xas kR))
 refine kf b2 (Xag (Xaf (Xab ?_)))
 iterate 3 refine kO hT hC ?_
 refine kQ hT hC h fun h => ?_
 refine kO hT hC ?_
 exact Vc.nil (Xah kR)
def Xr4 (r : ((List Xay) × Bool)) : AV := .tup [.own 16, .sv (.bool r.2)]
def Xr3 (r : ((List Xay) × Bool)) : Xa2 := [(16, .row Xbp r.1)]
theorem Xt1 {p0 p1 p2 r} (h : Xf3 p0 p1 p2 = some r) : AC Tryz.prog 129 [.sv (Xau.sv p0), .sv (.int .i64 p1), .sv (.int .i64 p2)] [] (Xr4 r) (Xr3 r) := by
 refine Xae hT Tryz.func129 rfl fun C hC => ?_
 unfold Xf3 at h
 refine Xab ?_
 iterate 2 refine kO hT hC ?_
 refine kN ?_
 iterate 2 refine kO hT hC ?_
 refine Vc.nil (Xap ?_)
 refine kL [0,1,2,8] [208] [_,_,_,_] [_] ?_
 refine kA h (fun v1 => ([(21, .sv (.bool v1))], [])) (fun v1 h => ?_) fun v1 h => ?_
 refine Xac ?_
 refine kO hT hC ?_
 refine kC hC [] Tryz.call53 h (fun _ => Xai) fun q2 h => ?_
 iterate 2 refine kO hT hC ?_
 refine kS h ?_ ?_ <;> intro b1 h
 refine kI hT hC (kn b1) ?_
 refine kE hC (kn b1) [] Tryz.call53 h (fun _ => Xai) fun q3 h => ?_
 refine kI hT hC (kn b1) ?_
 refine kP hC false (kn b1) ?_
 exact Vc.nil kM
 iterate 3 refine kF hC (kn b1) ?_
 refine kP hC true (kn b1) ?_
 exact Vc.nil kM
 refine kS h ?_ ?_ <;> intro b2 h
 refine kt b2 (Xab ?_)
 iterate 3 refine kO hT hC ?_
 refine Vc.nil (Xah (Xas ?_))
 obtain rfl := kj h
 exact Xb2 (τ := ⟨[(6, .own 16), (7, .sv (.bool false))], [(16, some (.row Xbp ([] : List Xay)))]⟩) (kW hC [(16, 208)]) rfl ⟨rfl, trivial⟩
 refine kf b2 (Xag (Xaf (Xab ?_)))
 refine kO hT hC ?_
 refine kC hC [] Tryz.call188 h (fun _ => Ycg) fun q4 h => ?_
 iterate 5 refine kO hT hC ?_
 refine Vc.nil (Xap ?_)
 refine kL [1,2,8,9,10] [208] [_,_,_,_,_] [_] ?_
 refine kA h (fun v5 => ([(44, .sv (.bool v5)), (10, .any)], [])) (fun v5 h => ?_) fun v5 h => ?_
 refine Xac ?_
 iterate 3 refine kO hT hC ?_
 refine kS h ?_ ?_ <;> intro b3 h
 iterate 3 refine kI hT hC (kn b3) ?_
 refine kP hC false (kn b3) ?_
 refine kO hT hC ?_
 refine kS h ?_ ?_ <;> intro b4 h
 iterate 8 refine kF hC b4 ?_
 refine kP hC true b4 ?_
 exact Vc.nil kM
 iterate 6 refine kI hT hC b4 ?_
 refine kJ hT hC b4 h fun h => ?_
 refine kI hT hC b4 ?_
 refine kP hC false b4 ?_
 exact Vc.nil kM
 iterate 3 refine kF hC (kn b3) ?_
 refine kP hC true (kn b3) ?_
 refine kO hT hC ?_
 iterate 8 refine kF hC rfl ?_
 refine kO hT hC ?_
 exact Vc.nil kM
 refine kS h ?_ ?_ <;> intro b5 h
 refine kt b5 (Xab ?_)
 iterate 3 refine kO hT hC ?_
 refine Vc.nil (Xah (Xas ?_))
 obtain rfl := kj h
 exact Xb2 (τ := ⟨[(6, .own 16), (7, .sv (.bool false))], [(16, some (.row Xbp ([] : List Xay)))]⟩) (kW hC [(16, 208)]) rfl ⟨rfl, trivial⟩
 refine kf b5 (Xag (Xaf (Xap (Xab ?_))))
 refine kO hT hC ?_
 refine Vc.nil ?_
 refine kL [1,2,8,9,11] [208] [_,_,_,_,_] [_] ?_
 refine kX h (fun v9 => ([(11, .sv (.int .i64 v9.1))], [(208, some (.row Xbp v9.2))])) (fun v13 => ([(1, .any), (2, .any), (9, .any), (11, .any)], [(208, some (.row Xbp v13))])) (kW hC []) (fun v9 s h => ?_) fun v13 h => ?_
 unfold Xdb at h
 refine Xap (Xab ?_)
 iterate 4 refine kO hT hC ?_
 refine Vc.nil ?_
 refine kS h ?_ ?_ <;> intro b8 h
 refine kt b8 (Xag (Xaf (Xap (Xam (Xab ?_)))))
 iterate 5 refine kO hT hC ?_
 refine kC hC [] Tryz.call159 h (fun _ => Xbn) fun q14 h => ?_
 refine kO hT hC ?_
 refine Vc.nil ?_
 refine Xcn hm ?_
 iterate 4 refine kO hT hC ?_
 refine kC hC [] Tryz.call189 h (fun _ => Yaf) fun q15 h => ?_
 iterate 9 refine kO hT hC ?_
 refine kQ hT hC h fun h => ?_
 iterate 2 refine kO hT hC ?_
 obtain ⟨hq, h⟩ := Xbm h
 refine Yej hT hC rfl rfl rfl rfl ⟨fun _ _ => rfl, by rw [Xg4]; exact hq⟩ ?_
 rw [Xg4]
 refine kO hT hC ?_
 refine kD (Xan (Xaf (Xac ?_)))
 iterate 4 refine kO hT hC ?_
 refine Vc.nil ?_
 obtain rfl := kj h
 exact Xs2 (kW hC [(208, 1216)])
 exact kf b8 (Xao (Xaz ku))
 refine Xaf (Xab ?_)
 iterate 3 refine kO hT hC ?_
 refine Vc.nil (Xah ?_)
 obtain rfl := kj h
 exact Xb2 (τ := ⟨[(6, .own 16), (7, .sv (.bool true))], [(16, some (.row Xbp v13))]⟩) (kW hC [(16, 208)]) rfl ⟨rfl, trivial⟩
def Xx1 (r : ((List Xay) × Xaw)) : AV := .own 16
def Xx0 (r : ((List Xay) × Xaw)) : Xa2 := [(16, .row Xbp r.1), (0, .box [.sv (.ints .u8 r.2.b_), .sv (.int .i64 r.2.i_), .sv (.int .i64 r.2.h_)])]
theorem Ybn {p0 r} (h : Xjp p0 = some r) : AC Tryz.prog 71 [.ptr 0 0] [(0, .box [.sv (.ints .u8 p0.b_), .sv (.int .i64 p0.i_), .sv (.int .i64 p0.h_)])] (Xx1 r) (Xx0 r) := by
 refine Xae hT Tryz.func71 rfl fun C hC => ?_
 unfold Xjp at h
 refine Xab ?_
 refine kO hT hC ?_
 refine kN ?_
 refine kO hT hC ?_
 refine kC hC [(16, 112), (0, 0)] Tryz.call126 h (fun _ => Xww) fun q1 h => ?_
 refine kO hT hC ?_
 refine Vc.nil ?_
 refine kL [0,3] [0,112] [_,_] [_,_] ?_
 refine kA h (fun v2 => ([], [(0, some (.box [.sv (.ints .u8 v2.1), .sv (.int .i64 v2.2.1), .sv (.int .i64 v2.2.2.1)])), (112, some (.row Xau v2.2.2.2))])) (fun v2 h => ?_) fun v2 h => ?_
 refine Xab ?_
 refine kO hT hC ?_
 refine kC hC [(0, 0)] Tryz.call127 h (fun _ => Xdf) fun q3 h => ?_
 refine Vc.nil ?_
 refine kS h ?_ ?_ <;> intro b1 h
 refine kt b1 (Xac ?_)
 refine kO hT hC ?_
 refine kC hC [(16, 192), (17, 193), (18, 194), (0, 0)] Tryz.call128 h (fun _ => Xxy) fun q4 h => ?_
 iterate 4 refine kO hT hC ?_
 refine Vc.nil ?_
 obtain rfl := kj h
 exact Xj4 (kW hC [(112, 194)])
 exact kf b1 (Xag kM)
 refine Xab ?_
 iterate 2 refine kO hT hC ?_
 refine kC hC [(0, 0)] Tryz.call130 h (fun _ => Yds) fun q5 h => ?_
 refine kO hT hC ?_
 refine Ym4 hT hC rfl rfl rfl rfl trivial rfl ?_
 refine kC hC [(0, 0)] Tryz.call131 h (fun _ => Xh2) fun q6 h => ?_
 refine kC hC [(16, 352)] Tryz.call129 h (fun _ => Xt1) fun q7 h => ?_
 iterate 5 refine kO hT hC ?_
 refine kN ?_
 iterate 2 refine kO hT hC ?_
 refine Vc.nil (Xah ?_)
 obtain rfl := kj h
 exact Xb2 (τ := ⟨[(2, .own 16)], [(16, some (.row Xbp q7.1)), (0, some (.box [.sv (.ints .u8 q6.2.b_), .sv (.int .i64 q6.2.i_), .sv (.int .i64 q6.2.h_)]))]⟩) (kW hC [(16, 352)]) rfl ⟨rfl, rfl, trivial⟩
def Xpc (r : (List Xay)) : AV := .own 16
def Xpb (r : (List Xay)) : Xa2 := [(16, .row Xbp r)]
theorem Xqh {p0 r} (h : Xd0 p0 = some r) : AC Tryz.prog 27 [.sv (.ints .u8 p0)] [] (Xpc r) (Xpb r) := by
 refine Xae hT Tryz.func27 rfl fun C hC => ?_
 unfold Xd0 at h
 refine Xab ?_
 refine kO hT hC ?_
 refine kN ?_
 refine kO hT hC ?_
 refine kC hC [(16, 80)] Tryz.call72 h (fun _ => Yc5) fun q1 h => ?_
 refine kC hC [(16, 96), (0, 80)] Tryz.call71 h (fun _ => Ybn) fun q2 h => ?_
 refine kO hT hC ?_
 refine Vc.nil (Xap ?_)
 refine kL [3] [96] [_] [_] ?_
 refine kA h (fun v3 => ([(14, .sv (.bool v3))], [])) (fun v3 h => ?_) fun v3 h => ?_
 refine Xac ?_
 iterate 4 refine kO hT hC ?_
 refine kS h ?_ ?_ <;> intro b1 h
 iterate 3 refine kF hC b1 ?_
 refine kP hC true b1 ?_
 exact Vc.nil kM
 iterate 3 refine kI hT hC b1 ?_
 refine kP hC false b1 ?_
 exact Vc.nil kM
 refine kS h ?_ ?_ <;> intro b2 h
 refine kt b2 (Xab ?_)
 iterate 2 refine kO hT hC ?_
 refine Vc.nil (Xah (Xas ?_))
 obtain rfl := kj h
 exact Xb2 (τ := ⟨[(2, .own 16)], [(16, some (.row Xbp ([] : List Xay)))]⟩) (kW hC [(16, 240)]) rfl ⟨rfl, trivial⟩
 refine kf b2 (Xag (Xaf (Xab ?_)))
 iterate 2 refine kO hT hC ?_
 refine Vc.nil (Xah ?_)
 obtain rfl := kj h
 exact Xb2 (τ := ⟨[(2, .own 16)], [(16, some (.row Xbp q2.1))]⟩) (kW hC [(16, 96)]) rfl ⟨rfl, trivial⟩
def Xtk (r : Bool) : AV := .sv (.bool r)
def Xtj (r : Bool) : Xa2 := []
theorem Xco {p0 r} (h : Xbt p0 = some r) : AC Tryz.prog 79 [.sv (.int .i64 p0)] [] (Xtk r) (Xtj r) := by
 refine Xae hT Tryz.func79 rfl fun C hC => ?_
 unfold Xbt at h
 refine Xab ?_
 refine kO hT hC ?_
 refine kN ?_
 refine kO hT hC ?_
 refine kC hC [] Tryz.call61 h (fun _ => Xi4) fun q1 h => ?_
 refine kO hT hC ?_
 exact Vc.nil (Xah kR)
def Xyy (r : Int) : AV := .sv (.int .i64 r)
def Xyx (r : Int) : Xa2 := []
theorem Yb2 {p0 p1 r} (h : Xke p0 p1 = some r) : AC Tryz.prog 39 [.sv (.int .i64 p0), .sv (.int .i64 p1)] [] (Xyy r) (Xyx r) := by
 refine Xae hT Tryz.func39 rfl fun C hC => ?_
 unfold Xke at h
 refine Xab ?_
 refine kO hT hC ?_
 refine Vc.nil (Xap ?_)
 refine kL [0,1] [] [_,_] [] ?_
 refine kA h (fun v1 => ([(13, .sv (.bool v1))], [])) (fun v1 h => ?_) fun v1 h => ?_
 refine Xac ?_
 refine kO hT hC ?_
 refine kC hC [] Tryz.call79 h (fun _ => Xco) fun q2 h => ?_
 iterate 2 refine kO hT hC ?_
 refine kS h ?_ ?_ <;> intro b1 h
 refine kI hT hC (kn b1) ?_
 refine kE hC (kn b1) [] Tryz.call79 h (fun _ => Xco) fun q3 h => ?_
 refine kI hT hC (kn b1) ?_
 refine kP hC false (kn b1) ?_
 exact Vc.nil kM
 iterate 3 refine kF hC (kn b1) ?_
 refine kP hC true (kn b1) ?_
 exact Vc.nil kM
 refine kS h ?_ ?_ <;> intro b2 h
 refine kt b2 (Xab ?_)
 refine kO hT hC ?_
 exact Vc.nil (Xah (Xas kR))
 refine kf b2 (Xag (Xaf (Xab ?_)))
 iterate 4 refine kO hT hC ?_
 refine kQ hT hC h fun h => ?_
 refine kO hT hC ?_
 refine Vc.nil ?_
 refine kL [5] [] [_] [] ?_
 refine kA h (fun v4 => ([(5, .sv (.int .i64 v4))], [])) (fun v4 h => ?_) fun v4 h => ?_
 refine Xab ?_
 iterate 2 refine kO hT hC ?_
 refine Vc.nil ?_
 refine kS h ?_ ?_ <;> intro b3 h
 refine kt b3 (Xac ?_)
 iterate 3 refine kO hT hC ?_
 exact Vc.nil kM
 exact kf b3 (Xag kM)
 refine Xab ?_
 iterate 2 refine kO hT hC ?_
 exact Vc.nil (Xah kR)
def Xtd (r : Bool) : AV := .sv (.bool r)
def Xtc (r : Bool) : Xa2 := []
theorem Xju {p0 r} (h : Xds p0 = some r) : AC Tryz.prog 76 [.agg [.sv (.int .i64 p0.Seq), .sv (.bool p0.First), .sv (.bool p0.Last), .sv (.str p0.Bytes)]] [] (Xtd r) (Xtc r) := by
 refine Xae hT Tryz.func76 rfl fun C hC => ?_
 unfold Xds at h
 refine Xab ?_
 iterate 2 refine kO hT hC ?_
 refine Vc.nil ?_
 refine kL [1,2] [16] [_,_] [_] ?_
 refine kA h (fun v1 => ([(2, .sv (.bool v1)), (1, .any)], [(16, none)])) (fun v1 h => ?_) fun v1 h => ?_
 refine Xac ?_
 iterate 2 refine kO hT hC ?_
 refine kC hC [] Tryz.call79 h (fun _ => Xco) fun q2 h => ?_
 refine kO hT hC ?_
 refine kS h ?_ ?_ <;> intro b1 h
 iterate 3 refine kI hT hC b1 ?_
 refine kE hC b1 [] Tryz.call61 h (fun _ => Xi4) fun q3 h => ?_
 refine kP hC true b1 ?_
 refine kO hT hC ?_
 exact Vc.nil kM
 iterate 4 refine kF hC b1 ?_
 refine kP hC false b1 ?_
 refine kO hT hC ?_
 exact Vc.nil kM
 exact Xah kR
def Xvf (r : Int) : AV := .sv (.int .i64 r)
def Xve (r : Int) : Xa2 := []
theorem Xkf {p0 p1 r} (h : Xep p0 p1 = some r) : AC Tryz.prog 33 [.sv (.int .i64 p0), .sv (.int .i64 p1)] [] (Xvf r) (Xve r) := by
 refine Xae hT Tryz.func33 rfl fun C hC => ?_
 unfold Xep at h
 refine Xab ?_
 refine kO hT hC ?_
 refine Vc.nil (Xap ?_)
 refine kL [0,1] [] [_,_] [] ?_
 refine kA h (fun v1 => ([(12, .sv (.bool v1))], [])) (fun v1 h => ?_) fun v1 h => ?_
 refine Xac ?_
 refine kO hT hC ?_
 refine kC hC [] Tryz.call79 h (fun _ => Xco) fun q2 h => ?_
 iterate 2 refine kO hT hC ?_
 refine kS h ?_ ?_ <;> intro b1 h
 refine kI hT hC (kn b1) ?_
 refine kE hC (kn b1) [] Tryz.call79 h (fun _ => Xco) fun q3 h => ?_
 refine kI hT hC (kn b1) ?_
 refine kP hC false (kn b1) ?_
 exact Vc.nil kM
 iterate 3 refine kF hC (kn b1) ?_
 refine kP hC true (kn b1) ?_
 exact Vc.nil kM
 refine kS h ?_ ?_ <;> intro b2 h
 refine kt b2 (Xab ?_)
 refine kO hT hC ?_
 exact Vc.nil (Xah (Xas kR))
 refine kf b2 (Xag (Xaf (Xab ?_)))
 iterate 3 refine kO hT hC ?_
 refine kQ hT hC h fun h => ?_
 refine kO hT hC ?_
 exact Vc.nil (Xah kR)
def Xj3 (r : Bool) : AV := .sv (.bool r)
def Xj2 (r : Bool) : Xa2 := []
theorem Xqd {p0 p1 r} (h : Xdz p0 p1 = some r) : AC Tryz.prog 32 [.sv (Xbp.sv p0), .sv (Xbp.sv p1)] [] (Xj3 r) (Xj2 r) := by
 refine Xae hT Tryz.func32 rfl fun C hC => ?_
 unfold Xdz at h
 refine Xab ?_
 refine kO hT hC ?_
 refine Vc.nil (Xap (Xab ?_))
 iterate 5 refine kO hT hC ?_
 refine Vc.nil ?_
 refine kS h ?_ ?_ <;> intro b1 h
 refine kt b1 (Xab ?_)
 refine kO hT hC ?_
 exact Vc.nil (Xah (Xas kR))
 refine kf b1 (Xag (Xaf (Xap (Xab ?_))))
 refine kO hT hC ?_
 refine Vc.nil ?_
 refine kL [0,1,5] [] [_,_,_] [] ?_
 obtain ⟨o5, hl, h⟩ := Xbl h
 refine Xgy (fun v2 => ([(5, .sv (.int .i64 v2))], [])) (fun v4 => ([(0, .any), (1, .any), (5, .any)], [])) (fun r => Xnc C T Tryz.f32.results.toList (Xj3 r) (Xj2 r)) hl ?_ ?_ ?_ ?_
 apply Xeh hC []
 exact co
 rfl
 decide
 rfl
 intro v2 s hs
 have h := hs
 unfold Xce at h
 refine Xap (Xab ?_)
 iterate 4 refine kO hT hC ?_
 refine Vc.nil ?_
 refine kS h ?_ ?_ <;> intro b6 h
 refine kt b6 (Xag (Xaf (Xap (Xam ?_))))
 refine Xdn hm ?_
 iterate 2 refine kO hT hC ?_
 refine kQ hT hC h fun h => ?_
 iterate 3 refine kO hT hC ?_
 refine kQ hT hC h fun h => ?_
 refine kO hT hC ?_
 refine Ysn hC rfl rfl rfl rfl Yo7 rfl rfl ?_
 refine kD ?_
 refine kS h ?_ ?_ <;> intro b7 h
 refine kt b7 (Xab ?_)
 refine kO hT hC ?_
 refine Vc.nil (Xah (Xgu (Xas ?_)))
 obtain rfl := kj h
 refine Xpa (Xo9 ?_)
 exact Xb2 (Xgt.refl _) rfl trivial
 refine kf b7 (Xag (Xan (Xaf (Xac ?_))))
 iterate 3 refine kO hT hC ?_
 exact Vc.nil kG
 exact kf b6 (Xao (Xaz kb))
 intro v4 e
 subst e
 refine Xaf (Xab ?_)
 refine kO hT hC ?_
 exact Vc.nil (Xah kR)
 intro r' σ' e hE
 subst e
 obtain rfl := kj h
 refine Xas ?_
 exact hE
def Xy0 (r : (List Int)) : AV := .own 16
def Xyz (r : (List Int)) : Xa2 := [(16, .ints .i64 r)]
theorem Yb4 {p0 r} (h : Xkh p0 = some r) : AC Tryz.prog 132 [.sv (.str p0)] [] (Xy0 r) (Xyz r) := by
 refine Xae hT Tryz.func132 rfl fun C hC => ?_
 unfold Xkh at h
 refine Xab ?_
 refine kO hT hC ?_
 refine kN ?_
 iterate 2 refine kO hT hC ?_
 refine Vc.nil (Xap (Xab ?_))
 refine kO hT hC ?_
 refine Vc.nil ?_
 refine kL [0,3,4] [80] [_,_,_] [_] ?_
 refine kX h (fun v3 => ([(4, .sv (.int .i64 v3.1))], [(80, some (.ints .i64 v3.2))])) (fun v6 => ([(0, .any), (4, .any)], [(80, some (.ints .i64 v6))])) (kW hC []) (fun v3 s h => ?_) fun v6 h => ?_
 unfold Xcv at h
 refine Xap (Xab ?_)
 iterate 5 refine kO hT hC ?_
 refine Vc.nil ?_
 refine kS h ?_ ?_ <;> intro b5 h
 refine kt b5 (Xag (Xaf ?_))
 refine kL [0,3,4] [80] [_,_,_] [_] ?_
 refine kA h (fun v7 => ([], [(80, some (.ints .i64 v7))])) (fun v7 h => ?_) fun v7 h => ?_
 refine Xam (Xab ?_)
 iterate 4 refine kO hT hC ?_
 refine kQ hT hC h fun h => ?_
 refine kO hT hC ?_
 refine Vc.nil ?_
 refine kS h ?_ ?_ <;> intro b6 h
 refine kt b6 (Xac ?_)
 iterate 3 refine kO hT hC ?_
 refine kT hT hC h fun h => ?_
 refine kO hT hC ?_
 refine Vc.nil (Xan ?_)
 obtain rfl := kj h
 exact Xj4 (kW hC [(80, 352)])
 exact kf b6 (Xag (Xan kM))
 refine Xac ?_
 iterate 3 refine kO hT hC ?_
 exact Vc.nil kG
 exact kf b5 (Xao (Xaz ku))
 refine Xaf (Xab ?_)
 iterate 2 refine kO hT hC ?_
 refine Vc.nil (Xah ?_)
 obtain rfl := kj h
 exact Xb2 (τ := ⟨[(2, .own 16)], [(16, some (.ints .i64 v6))]⟩) (kW hC [(16, 80)]) rfl ⟨rfl, trivial⟩
def Xvd (r : (ByteArray × Bool)) : AV := .tup [.sv (.str r.1), .sv (.bool r.2)]
def Xvc (r : (ByteArray × Bool)) : Xa2 := []
theorem Xng {p0 r} (h : Xg5 p0 = some r) : AC Tryz.prog 134 [.sv (.str p0)] [] (Xvd r) (Xvc r) := by
 refine Xae hT Tryz.func134 rfl fun C hC => ?_
 unfold Xg5 at h
 refine Xab ?_
 iterate 2 refine kO hT hC ?_
 refine Vc.nil (Xap ?_)
 refine kL [0] [] [_] [] ?_
 refine kA h (fun v1 => ([(21, .sv (.bool v1))], [])) (fun v1 h => ?_) fun v1 h => ?_
 refine Xac ?_
 iterate 3 refine kO hT hC ?_
 refine kS h ?_ ?_ <;> intro b1 h
 iterate 3 refine kF hC b1 ?_
 refine kP hC true b1 ?_
 refine kO hT hC ?_
 iterate 6 refine kF hC rfl ?_
 refine kO hT hC ?_
 exact Vc.nil kM
 iterate 3 refine kI hT hC b1 ?_
 refine kP hC false b1 ?_
 refine kO hT hC ?_
 refine kS h ?_ ?_ <;> intro b2 h
 iterate 6 refine kF hC b2 ?_
 refine kP hC true b2 ?_
 exact Vc.nil kM
 iterate 4 refine kI hT hC b2 ?_
 refine kJ hT hC b2 h fun h => ?_
 refine kI hT hC b2 ?_
 refine kP hC false b2 ?_
 exact Vc.nil kM
 refine kS h ?_ ?_ <;> intro b3 h
 refine kt b3 (Xab ?_)
 iterate 2 refine kO hT hC ?_
 exact Vc.nil (Xah (Xas kR))
 refine kf b3 (Xag (Xaf (Xab ?_)))
 iterate 4 refine kO hT hC ?_
 refine kQ hT hC h fun h => ?_
 refine kO hT hC ?_
 obtain ⟨hq, h⟩ := Xbm h
 refine Yej hT hC rfl rfl rfl rfl ⟨hq.1, hq.2.1, hq.2.2, by decide⟩ ?_
 refine kO hT hC ?_
 refine kN ?_
 refine kO hT hC ?_
 refine Vc.nil (Xap (Xab ?_))
 refine kO hT hC ?_
 refine Vc.nil ?_
 refine kL [0,4,5,6] [448] [_,_,_,_] [_] ?_
 refine kX h (fun v6 => ([(5, .sv (.int .i64 v6.1)), (6, .sv (.int .i64 v6.2.1))], [(448, some (.ints .u8 v6.2.2))])) (fun v11 => ([(0, .any), (5, .any), (6, .any)], [(448, some (.ints .u8 v11))])) (kW hC []) (fun v6 s h => ?_) fun v11 h => ?_
 unfold Xc2 at h
 refine Xap (Xab ?_)
 iterate 4 refine kO hT hC ?_
 refine Vc.nil ?_
 refine kS h ?_ ?_ <;> intro b12 h
 refine kt b12 (Xag (Xaf ?_))
 refine kL [0,4,5,6] [448] [_,_,_,_] [_] ?_
 refine kA h (fun v12 => ([(4, .own 982), (5, .sv (.int .i64 v12.1))], [(982, some (.ints .u8 v12.2)), (448, none)])) (fun v12 h => ?_) fun v12 h => ?_
 refine Xam ?_
 refine kL [0,4,5,6] [448] [_,_,_,_] [_] ?_
 refine kA h (fun v13 => ([(5, .sv (.int .i64 v13.1))], [(448, some (.ints .u8 v13.2))])) (fun v13 h => ?_) fun v13 h => ?_
 refine kL [0,4,5,6] [448] [_,_,_,_] [_] ?_
 refine kA h (fun v14 => ([(42, .sv (.bool v14))], [])) (fun v14 h => ?_) fun v14 h => ?_
 refine Xac ?_
 iterate 2 refine kO hT hC ?_
 refine kQ hT hC h fun h => ?_
 iterate 2 refine kO hT hC ?_
 refine kS h ?_ ?_ <;> intro b13 h
 iterate 2 refine kI hT hC b13 ?_
 refine kP hC true b13 ?_
 exact Vc.nil kM
 iterate 2 refine kF hC b13 ?_
 refine kP hC false b13 ?_
 exact Vc.nil kM
 refine kS h ?_ ?_ <;> intro b14 h
 refine kt b14 (Xab ?_)
 iterate 2 refine kO hT hC ?_
 refine kT hT hC h fun h => ?_
 refine kO hT hC ?_
 refine Vc.nil (Xac ?_)
 refine kO hT hC ?_
 refine Vc.nil ?_
 obtain rfl := kj h
 exact Xj4 (kW hC [(448, 720)])
 exact kf b14 (Xag kM)
 refine Xab ?_
 iterate 3 refine kO hT hC ?_
 refine kQ hT hC h fun h => ?_
 refine kO hT hC ?_
 refine kT hT hC h fun h => ?_
 refine kO hT hC ?_
 refine kN ?_
 iterate 2 refine kO hT hC ?_
 refine kQ hT hC h fun h => ?_
 refine kO hT hC ?_
 refine Vc.nil ?_
 refine kS h ?_ ?_ <;> intro b15 h
 refine kt b15 (Xac ?_)
 iterate 3 refine kO hT hC ?_
 refine Vc.nil (Xan ?_)
 obtain rfl := kj h
 exact Xj4 (kW hC [(982, 816)])
 refine kf b15 (Xac ?_)
 refine kO hT hC ?_
 refine Vc.nil (Xan ?_)
 obtain rfl := kj h
 exact Xj4 (kW hC [(982, 816)])
 refine Xac ?_
 iterate 3 refine kO hT hC ?_
 refine Vc.nil ?_
 obtain rfl := kj h
 exact Xs2 (kW hC [(448, 982)])
 exact kf b12 (Xao (Xaz ku))
 refine Xaf (Xab ?_)
 iterate 4 refine kO hT hC ?_
 exact Vc.nil (Xah kR)
def Xrf (r : (ByteArray × Bool)) : AV := .tup [.sv (.str r.1), .sv (.bool r.2)]
def Xre (r : (ByteArray × Bool)) : Xa2 := []
theorem Xtg {p0 r} (h : Xfv p0 = some r) : AC Tryz.prog 133 [.sv (.str p0)] [] (Xrf r) (Xre r) := by
 refine Xae hT Tryz.func133 rfl fun C hC => ?_
 unfold Xfv at h
 refine Xab ?_
 iterate 2 refine kO hT hC ?_
 refine kN ?_
 iterate 2 refine kO hT hC ?_
 obtain ⟨hq, h⟩ := Xbm h
 refine Yej hT hC rfl rfl rfl rfl ⟨hq.1, hq.2.1, hq.2.2, by decide⟩ ?_
 refine kO hT hC ?_
 refine kN ?_
 refine kO hT hC ?_
 refine Vc.nil (Xap (Xab ?_))
 refine kO hT hC ?_
 refine Vc.nil ?_
 refine kL [0,4,5,6] [176] [_,_,_,_] [_] ?_
 refine kX h (fun v5 => ([(5, .sv (.int .i64 v5.1)), (6, .sv (.int .i64 v5.2.1))], [(176, some (.ints .u8 v5.2.2))])) (fun v10 => ([(5, .any), (6, .any)], [(176, some (.ints .u8 v10))])) (kW hC []) (fun v5 s h => ?_) fun v10 h => ?_
 unfold Xcb at h
 refine Xap (Xab ?_)
 iterate 4 refine kO hT hC ?_
 refine Vc.nil ?_
 refine kS h ?_ ?_ <;> intro b9 h
 refine kt b9 (Xag (Xaf ?_))
 refine kL [0,4,5,6] [176] [_,_,_,_] [_] ?_
 refine kA h (fun v11 => ([(5, .sv (.int .i64 v11.1))], [(176, some (.ints .u8 v11.2))])) (fun v11 h => ?_) fun v11 h => ?_
 refine Xam ?_
 refine kL [0,4,5,6] [176] [_,_,_,_] [_] ?_
 refine Yen h (fun (v12 : Int) => ([(5, .sv (.int .i64 v12))], [])) (fun v12 h => ?_) (fun h => ?_)
 refine Xac ?_
 iterate 3 refine kO hT hC ?_
 refine kQ hT hC h fun h => ?_
 refine kO hT hC ?_
 refine kT hT hC h fun h => ?_
 refine kO hT hC ?_
 refine Vc.nil (Xan ?_)
 obtain rfl := kj h
 exact Xj4 (kW hC [(176, 624)])
 refine Xam ?_
 refine kL [0,4,5,6] [176] [_,_,_,_] [_] ?_
 refine kA h (fun v13 => ([(18, .sv (.bool v13))], [])) (fun v13 h => ?_) fun v13 h => ?_
 refine Xac ?_
 iterate 3 refine kO hT hC ?_
 refine kS h ?_ ?_ <;> intro b10 h
 iterate 2 refine kI hT hC b10 ?_
 refine kJ hT hC b10 h fun h => ?_
 refine kI hT hC b10 ?_
 refine kP hC true b10 ?_
 refine kO hT hC ?_
 exact Vc.nil kM
 iterate 4 refine kF hC b10 ?_
 refine kP hC false b10 ?_
 refine kO hT hC ?_
 exact Vc.nil kM
 refine kS h ?_ ?_ <;> intro b11 h
 refine kt b11 (Xab ?_)
 refine kO hT hC ?_
 refine Vc.nil (Xao ?_)
 refine Ypn rfl ?_
 exact Yq5 (Yd0 kM)
 refine kf b11 (Xab ?_)
 iterate 2 refine kO hT hC ?_
 refine kQ hT hC h fun h => ?_
 iterate 2 refine kO hT hC ?_
 refine Vc.nil ?_
 refine kS h ?_ ?_ <;> intro b12 h
 refine kt b12 (Xac ?_)
 iterate 3 refine kO hT hC ?_
 refine Vc.nil (Xan ?_)
 exact Yd6 (Xaa .i64 (v5.1 + 1)) h (kW hC [])
 refine kf b12 (Xac ?_)
 refine kO hT hC ?_
 refine Vc.nil (Xan ?_)
 exact Yd6 0 h (kW hC [])
 refine Xac ?_
 iterate 3 refine kO hT hC ?_
 exact Vc.nil kG
 exact kf b9 (Xao (Xaz ku))
 refine Xaf (Xap (Xab ?_))
 iterate 2 refine kO hT hC ?_
 refine kC hC [] Tryz.call134 h (fun _ => Xng) fun q15 h => ?_
 iterate 5 refine kO hT hC ?_
 refine Vc.nil ?_
 refine kL [0,4,7,8] [176] [_,_,_,_] [_] ?_
 refine kA h (fun v16 => ([(52, .sv (.bool v16)), (0, .any), (7, .any), (8, .any)], [])) (fun v16 h => ?_) fun v16 h => ?_
 refine Xac ?_
 iterate 3 refine kO hT hC ?_
 refine kS h ?_ ?_ <;> intro b13 h
 iterate 3 refine kI hT hC (kn b13) ?_
 refine kP hC false (kn b13) ?_
 exact Vc.nil kM
 iterate 3 refine kF hC (kn b13) ?_
 refine kP hC true (kn b13) ?_
 exact Vc.nil kM
 refine kS h ?_ ?_ <;> intro b14 h
 refine kt b14 (Xab ?_)
 iterate 2 refine kO hT hC ?_
 exact Vc.nil (Xah (Xas kR))
 refine kf b14 (Xag (Xaf (Xab ?_)))
 iterate 4 refine kO hT hC ?_
 exact Vc.nil (Xah kR)
def Xnj (r : (ByteArray × Bool)) : AV := .tup [.sv (.str r.1), .sv (.bool r.2)]
def Xni (r : (ByteArray × Bool)) : Xa2 := []
theorem Xpi {p0 r} (h : Xgw p0 = some r) : AC Tryz.prog 81 [.sv (Xau.sv p0)] [] (Xnj r) (Xni r) := by
 refine Xae hT Tryz.func81 rfl fun C hC => ?_
 unfold Xgw at h
 refine Xab ?_
 iterate 2 refine kO hT hC ?_
 refine Vc.nil (Xap (Xab ?_))
 iterate 3 refine kO hT hC ?_
 refine Vc.nil ?_
 refine kS h ?_ ?_ <;> intro b1 h
 refine kt b1 (Xab ?_)
 iterate 2 refine kO hT hC ?_
 exact Vc.nil (Xah (Xas kR))
 refine kf b1 (Xag (Xaf (Xab ?_)))
 iterate 2 refine kO hT hC ?_
 refine Vc.nil (Xap (Xab ?_))
 iterate 3 refine kO hT hC ?_
 refine Vc.nil ?_
 refine kL [4,13,14,15] [192] [_,_,_,_] [_] ?_
 obtain ⟨o11, hl, h⟩ := Xbl h
 refine Xgy (fun v4 => ([(15, .sv (.int .i64 v4.1))], [(192, some (.ints .u8 v4.2))])) (fun v8 => ([(13, .any), (14, .any), (15, .any)], [(192, some (.ints .u8 v8))])) (fun r => Xnc C T Tryz.f81.results.toList (Xnj r) (Xni r)) hl ?_ ?_ ?_ ?_
 try dsimp only
 apply Xeh hC []
 exact co
 rfl
 decide
 rfl
 intro v4 s hs
 have h := hs
 unfold Xd8 at h
 refine Xab ?_
 refine kO hT hC ?_
 refine Vc.nil (Xap ?_)
 refine kS h ?_ ?_ <;> intro b8 h
 refine kt b8 (Xag (Xaf (Xap (Xam (Xab ?_)))))
 refine kQ hT hC h fun h => ?_
 iterate 2 refine kO hT hC ?_
 refine kN ?_
 refine kO hT hC ?_
 refine kC hC [] Tryz.call134 h (fun _ => Xng) fun q9 h => ?_
 iterate 5 refine kO hT hC ?_
 refine Vc.nil (Xap ?_)
 refine kL [4,7,8,13,14,15] [192] [_,_,_,_,_,_] [_] ?_
 refine kA h (fun v10 => ([(34, .sv (.bool v10)), (8, .any)], [])) (fun v10 h => ?_) fun v10 h => ?_
 refine Xac ?_
 iterate 3 refine kO hT hC ?_
 refine kS h ?_ ?_ <;> intro b9 h
 iterate 7 refine kI hT hC (kn b9) ?_
 refine kP hC false (kn b9) ?_
 exact Vc.nil kM
 iterate 7 refine kF hC (kn b9) ?_
 refine kP hC true (kn b9) ?_
 exact Vc.nil kM
 refine kS h ?_ ?_ <;> intro b10 h
 refine kt b10 (Xab ?_)
 iterate 2 refine kO hT hC ?_
 refine Vc.nil (Xah (Xas (Xgu (Xas ?_))))
 obtain rfl := kj h
 refine Xpa (Xo9 ?_)
 exact Xb2 (Xgt.refl _) rfl trivial
 refine kf b10 (Xag (Xaf (Xac ?_)))
 iterate 2 refine kO hT hC ?_
 refine kT hT hC h fun h => ?_
 refine kO hT hC ?_
 refine kT hT hC h fun h => ?_
 refine kO hT hC ?_
 refine Vc.nil (Xan (Xaf (Xac ?_)))
 iterate 2 refine kO hT hC ?_
 refine Vc.nil ?_
 obtain rfl := kj h
 exact Xs2 (kW hC [(192, 624)])
 exact kf b8 (Xao (Xaz kb))
 intro v8 e
 subst e
 refine Xaf (Xab ?_)
 iterate 4 refine kO hT hC ?_
 exact Vc.nil (Xah kR)
 intro r' σ' e hE
 subst e
 obtain rfl := kj h
 refine Xas ?_
 exact hE
def Xl4 (r : ((List ByteArray) × Bool)) : AV := .tup [.own 16, .sv (.bool r.2)]
def Xl3 (r : ((List ByteArray) × Bool)) : Xa2 := [(16, .row Xau r.1)]
theorem Xvg {p0 r} (h : Xho p0 = some r) : AC Tryz.prog 80 [.sv (.str p0)] [] (Xl4 r) (Xl3 r) := by
 refine Xae hT Tryz.func80 rfl fun C hC => ?_
 unfold Xho at h
 refine Xab ?_
 iterate 2 refine kO hT hC ?_
 refine kN ?_
 iterate 2 refine kO hT hC ?_
 refine Vc.nil (Xap (Xab ?_))
 iterate 3 refine kO hT hC ?_
 refine Vc.nil ?_
 refine kS h ?_ ?_ <;> intro b1 h
 refine kt b1 (Xab ?_)
 iterate 3 refine kO hT hC ?_
 refine Vc.nil (Xah (Xas ?_))
 obtain rfl := kj h
 exact Xb2 (τ := ⟨[(2, .own 16), (3, .sv (.bool false))], [(16, some (.row Xau ([] : List ByteArray)))]⟩) (kW hC [(16, 176)]) rfl ⟨rfl, trivial⟩
 refine kf b1 (Xag (Xaf (Xab ?_)))
 refine kO hT hC ?_
 refine kC hC [(16, 272)] Tryz.call132 h (fun _ => Yb4) fun q1 h => ?_
 iterate 3 refine kO hT hC ?_
 refine kT hT hC h fun h => ?_
 refine kO hT hC ?_
 refine Vc.nil (Xap (Xab ?_))
 refine kO hT hC ?_
 refine Vc.nil ?_
 refine kL [0,4,5,6] [176,336] [_,_,_,_] [_,_] ?_
 obtain ⟨o9, hl, h⟩ := Xbl h
 refine Xgy (fun v4 => ([(6, .sv (.int .i64 v4.1))], [(176, some (.row Xau v4.2))])) (fun v7 => ([(5, .any), (6, .any)], [(176, some (.row Xau v7)), (336, none)])) (fun r => Xnc C T Tryz.f80.results.toList (Xl4 r) (Xl3 r)) hl ?_ ?_ ?_ ?_
 try dsimp only
 apply Xeh hC []
 exact co
 rfl
 decide
 rfl
 intro v4 s hs
 have h := hs
 unfold Xbg at h
 refine Xap (Xab ?_)
 iterate 5 refine kO hT hC ?_
 refine Vc.nil ?_
 refine kS h ?_ ?_ <;> intro b6 h
 refine kt b6 (Xag (Xaf (Xap (Xam ?_))))
 refine Xdn hm ?_
 iterate 3 refine kO hT hC ?_
 iterate 2 refine kQ hT hC h fun h => ?_
 iterate 4 refine kO hT hC ?_
 iterate 3 refine kQ hT hC h fun h => ?_
 refine kC hC [] Tryz.call133 h (fun _ => Xtg) fun q8 h => ?_
 iterate 5 refine kO hT hC ?_
 refine kD (Xap (Xab ?_))
 iterate 2 refine kO hT hC ?_
 refine Vc.nil ?_
 refine kS h ?_ ?_ <;> intro b7 h
 refine kt b7 (Xab ?_)
 iterate 3 refine kO hT hC ?_
 refine Vc.nil (Xah (Xas (Xgu (Xas ?_))))
 obtain rfl := kj h
 refine Xpa (Xo9 ?_)
 refine Xb2 (τ := ⟨[(2, .own 16), (3, .sv (.bool false))], [(16, some (.row Xau ([] : List ByteArray)))]⟩) ?_ rfl ⟨rfl, trivial⟩
 apply Xeh hC [(16, 752)]
 exact co
 rfl
 decide
 rfl
 refine kf b7 (Xag (Xaf (Xac ?_)))
 iterate 3 refine kO hT hC ?_
 obtain ⟨hq, h⟩ := Xbm h
 refine Yej hT hC rfl rfl rfl rfl ⟨fun _ _ => rfl, by rw [Xbs]; exact hq⟩ ?_
 rw [Xbs]
 refine kO hT hC ?_
 refine Vc.nil (Xan (Xaf (Xac ?_)))
 iterate 3 refine kO hT hC ?_
 refine Vc.nil ?_
 obtain rfl := kj h
 exact Xs2 (kW hC [(176, 816)])
 exact kf b6 (Xao (Xaz kb))
 intro v7 e
 subst e
 refine Xaf (Xap (Xab ?_))
 refine kO hT hC ?_
 refine kC hC [] Tryz.call81 h (fun _ => Xpi) fun q10 h => ?_
 iterate 5 refine kO hT hC ?_
 refine Vc.nil ?_
 refine kL [0,4,9,10] [176] [_,_,_,_] [_] ?_
 refine kA h (fun v11 => ([(63, .sv (.bool v11)), (0, .any), (9, .any), (10, .any)], [])) (fun v11 h => ?_) fun v11 h => ?_
 refine Xac ?_
 iterate 3 refine kO hT hC ?_
 refine kS h ?_ ?_ <;> intro b8 h
 iterate 3 refine kI hT hC (kn b8) ?_
 refine kP hC false (kn b8) ?_
 exact Vc.nil kM
 iterate 3 refine kF hC (kn b8) ?_
 refine kP hC true (kn b8) ?_
 exact Vc.nil kM
 refine kS h ?_ ?_ <;> intro b9 h
 refine kt b9 (Xab ?_)
 iterate 3 refine kO hT hC ?_
 refine Vc.nil (Xah (Xas ?_))
 obtain rfl := kj h
 exact Xb2 (τ := ⟨[(2, .own 16), (3, .sv (.bool false))], [(16, some (.row Xau ([] : List ByteArray)))]⟩) (kW hC [(16, 1024)]) rfl ⟨rfl, trivial⟩
 refine kf b9 (Xag (Xaf (Xab ?_)))
 iterate 3 refine kO hT hC ?_
 refine Vc.nil (Xah ?_)
 obtain rfl := kj h
 exact Xb2 (τ := ⟨[(2, .own 16), (3, .sv (.bool true))], [(16, some (.row Xau v7))]⟩) (kW hC [(16, 176)]) rfl ⟨rfl, trivial⟩
 intro r' σ' e hE
 subst e
 obtain rfl := kj h
 refine Xas ?_
 exact hE
def Xlc (r : ((List ByteArray) × Bool)) : AV := .tup [.own 16, .sv (.bool r.2)]
def Xlb (r : ((List ByteArray) × Bool)) : Xa2 := [(16, .row Xau r.1)]
theorem Xl2 {p0 r} (h : Xb6 p0 = some r) : AC Tryz.prog 35 [.sv (Xbp.sv p0)] [] (Xlc r) (Xlb r) := by
 refine Xae hT Tryz.func35 rfl fun C hC => ?_
 unfold Xb6 at h
 refine Xab ?_
 iterate 2 refine kO hT hC ?_
 refine Vc.nil (Xap (Xab ?_))
 iterate 2 refine kO hT hC ?_
 refine kC hC [] Tryz.call61 h (fun _ => Xi4) fun q1 h => ?_
 refine kO hT hC ?_
 refine Vc.nil ?_
 refine kS h ?_ ?_ <;> intro b1 h
 refine kt b1 (Xab ?_)
 iterate 3 refine kO hT hC ?_
 refine Vc.nil (Xah (Xas ?_))
 obtain rfl := kj h
 exact Xb2 (τ := ⟨[(2, .own 16), (3, .sv (.bool false))], [(16, some (.row Xau ([] : List ByteArray)))]⟩) (kW hC [(16, 208)]) rfl ⟨rfl, trivial⟩
 refine kf b1 (Xag (Xaf (Xab ?_)))
 refine kO hT hC ?_
 refine Vc.nil (Xap (Xab ?_))
 iterate 3 refine kO hT hC ?_
 refine Vc.nil ?_
 refine kL [0,4,14,15,16] [] [_,_,_,_,_] [] ?_
 obtain ⟨o15, hl, h⟩ := Xbl h
 refine Xgy (fun v6 => ([(4, .sv (.str v6.1)), (16, .sv (.int .i64 v6.2))], [])) (fun v11 => ([(4, .sv (.str v11)), (0, .any), (14, .any), (15, .any), (16, .any)], [])) (fun r => Xnc C T Tryz.f35.results.toList (Xlc r) (Xlb r)) hl ?_ ?_ ?_ ?_
 try dsimp only
 apply Xeh hC []
 exact co
 rfl
 decide
 rfl
 intro v6 s hs
 have h := hs
 unfold Xca at h
 refine Xab ?_
 refine kO hT hC ?_
 refine Vc.nil (Xap ?_)
 refine kS h ?_ ?_ <;> intro b14 h
 refine kt b14 (Xag (Xaf (Xap (Xam (Xab ?_)))))
 refine kO hT hC ?_
 refine kQ hT hC h fun h => ?_
 iterate 4 refine kO hT hC ?_
 refine Vc.nil (Xap ?_)
 refine kL [0,4,5,6,14,15,16] [96] [_,_,_,_,_,_,_] [_] ?_
 refine kA h (fun v12 => ([(56, .sv (.bool v12)), (5, .any)], [])) (fun v12 h => ?_) fun v12 h => ?_
 refine Xcn hm ?_
 refine kO hT hC ?_
 refine kC hC [] Tryz.call76 h (fun _ => Xju) fun q13 h => ?_
 iterate 2 refine kO hT hC ?_
 refine kS h ?_ ?_ <;> intro b15 h
 iterate 5 refine kI hT hC (kn b15) ?_
 refine kP hC false (kn b15) ?_
 refine kO hT hC ?_
 refine kS h ?_ ?_ <;> intro b16 h
 iterate 8 refine kI hT hC (kn b16) ?_
 refine kP hC false (kn b16) ?_
 refine kO hT hC ?_
 refine kS h ?_ ?_ <;> intro b17 h
 iterate 3 refine kI hT hC (kn b17) ?_
 refine kS h ?_ ?_ <;> intro b18 h
 iterate 5 refine kI hT hC b18 ?_
 refine kJ hT hC b18 h fun h => ?_
 iterate 2 refine kI hT hC b18 ?_
 refine kE hC b18 [] Tryz.call33 h (fun _ => Xkf) fun q14 h => ?_
 refine kI hT hC b18 ?_
 refine Xbz hC rfl rfl rfl rfl (kn b17) rfl rfl (b := true) b18 rfl rfl rfl trivial ?_
 refine kP hC false (kn b17) ?_
 exact kD kM
 iterate 10 refine kF hC b18 ?_
 refine Xbz hC rfl rfl rfl rfl (kn b17) rfl rfl (b := false) b18 rfl rfl rfl trivial ?_
 refine kP hC false (kn b17) ?_
 exact kD kM
 iterate 3 refine kF hC (kn b17) ?_
 iterate 10 refine Xhk hC rfl rfl rfl rfl rfl rfl ?_
 refine kF hC (kn b17) ?_
 refine kP hC true (kn b17) ?_
 exact kD kM
 iterate 8 refine kF hC (kn b16) ?_
 refine kP hC true (kn b16) ?_
 refine kO hT hC ?_
 iterate 3 refine kF hC rfl ?_
 iterate 10 refine Xhk hC rfl rfl rfl rfl rfl rfl ?_
 refine kF hC rfl ?_
 refine kO hT hC ?_
 exact kD kM
 iterate 5 refine kF hC (kn b15) ?_
 refine kP hC true (kn b15) ?_
 refine kO hT hC ?_
 iterate 8 refine kF hC rfl ?_
 iterate 2 refine kO hT hC ?_
 iterate 3 refine kF hC rfl ?_
 iterate 10 refine Xhk hC rfl rfl rfl rfl rfl rfl ?_
 refine kF hC rfl ?_
 refine kO hT hC ?_
 exact kD kM
 refine kS h ?_ ?_ <;> intro b19 h
 refine kt b19 (Xab ?_)
 iterate 3 refine kO hT hC ?_
 refine Vc.nil (Xah (Xas (Xgu (Xas ?_))))
 obtain rfl := kj h
 refine Xpa (Xo9 ?_)
 refine Xb2 (τ := ⟨[(2, .own 16), (3, .sv (.bool false))], [(16, some (.row Xau ([] : List ByteArray)))]⟩) ?_ rfl ⟨rfl, trivial⟩
 apply Xeh hC [(16, 912)]
 exact co
 rfl
 decide
 rfl
 refine kf b19 (Xag (Xaf (Xac ?_)))
 iterate 3 refine kO hT hC ?_
 refine kQ hT hC h fun h => ?_
 refine kO hT hC ?_
 refine Vc.nil (Xan (Xaf (Xac ?_)))
 iterate 2 refine kO hT hC ?_
 exact Vc.nil kG
 exact kf b14 (Xao (Xaz kb))
 intro v11 e
 subst e
 refine Xaf (Xab ?_)
 refine kO hT hC ?_
 refine kC hC [(16, 1040)] Tryz.call80 h (fun _ => Xvg) fun q16 h => ?_
 iterate 5 refine kO hT hC ?_
 refine Vc.nil (Xap ?_)
 refine kL [7,8] [1040] [_,_] [_] ?_
 refine kA h (fun v17 => ([(74, .sv (.bool v17)), (8, .any)], [])) (fun v17 h => ?_) fun v17 h => ?_
 refine Xac ?_
 iterate 3 refine kO hT hC ?_
 refine kS h ?_ ?_ <;> intro b20 h
 iterate 3 refine kI hT hC (kn b20) ?_
 refine kP hC false (kn b20) ?_
 exact Vc.nil kM
 iterate 3 refine kF hC (kn b20) ?_
 refine kP hC true (kn b20) ?_
 exact Vc.nil kM
 refine kS h ?_ ?_ <;> intro b21 h
 refine kt b21 (Xab ?_)
 iterate 3 refine kO hT hC ?_
 refine Vc.nil (Xah (Xas ?_))
 obtain rfl := kj h
 exact Xb2 (τ := ⟨[(2, .own 16), (3, .sv (.bool false))], [(16, some (.row Xau ([] : List ByteArray)))]⟩) (kW hC [(16, 1200)]) rfl ⟨rfl, trivial⟩
 refine kf b21 (Xag (Xaf (Xab ?_)))
 iterate 3 refine kO hT hC ?_
 refine Vc.nil (Xah ?_)
 obtain rfl := kj h
 exact Xb2 (τ := ⟨[(2, .own 16), (3, .sv (.bool true))], [(16, some (.row Xau q16.1))]⟩) (kW hC [(16, 1040)]) rfl ⟨rfl, trivial⟩
 intro r' σ' e hE
 subst e
 obtain rfl := kj h
 refine Xas ?_
 exact hE
def Xrc (r : ((List Xay) × Bool)) : AV := .tup [.own 16, .sv (.bool r.2)]
def Xrb (r : ((List Xay) × Bool)) : Xa2 := [(16, .row Xbp r.1)]
theorem Xte {p0 p1 p2 r} (h : Xd9 p0 p1 p2 = some r) : AC Tryz.prog 36 [.sv (Xau.sv p0), .sv (.int .i64 p1), .sv (.int .i64 p2)] [] (Xrc r) (Xrb r) := by
 refine Xae hT Tryz.func36 rfl fun C hC => ?_
 unfold Xd9 at h
 refine Xab ?_
 iterate 2 refine kO hT hC ?_
 refine kN ?_
 iterate 2 refine kO hT hC ?_
 refine kN ?_
 refine kO hT hC ?_
 refine kC hC [] Tryz.call81 h (fun _ => Xpi) fun q1 h => ?_
 iterate 5 refine kO hT hC ?_
 refine Vc.nil (Xap ?_)
 refine kL [1,2,8,9,10] [208] [_,_,_,_,_] [_] ?_
 refine kA h (fun v2 => ([(44, .sv (.bool v2)), (10, .any)], [])) (fun v2 h => ?_) fun v2 h => ?_
 refine Xac ?_
 iterate 3 refine kO hT hC ?_
 refine kS h ?_ ?_ <;> intro b1 h
 iterate 2 refine kI hT hC (kn b1) ?_
 refine kP hC false (kn b1) ?_
 refine kO hT hC ?_
 refine kS h ?_ ?_ <;> intro b2 h
 iterate 3 refine kF hC b2 ?_
 refine kP hC true b2 ?_
 refine kO hT hC ?_
 iterate 3 refine kF hC rfl ?_
 iterate 2 refine kO hT hC ?_
 iterate 8 refine kF hC rfl ?_
 refine kO hT hC ?_
 exact Vc.nil kM
 refine kI hT hC b2 ?_
 refine kE hC b2 [] Tryz.call79 h (fun _ => Xco) fun q3 h => ?_
 refine kI hT hC b2 ?_
 refine kP hC false b2 ?_
 refine kO hT hC ?_
 refine kS h ?_ ?_ <;> intro b3 h
 refine kI hT hC (kn b3) ?_
 refine kE hC (kn b3) [] Tryz.call61 h (fun _ => Xi4) fun q4 h => ?_
 refine kI hT hC (kn b3) ?_
 refine kP hC false (kn b3) ?_
 refine kO hT hC ?_
 refine kS h ?_ ?_ <;> intro b4 h
 iterate 6 refine kI hT hC (kn b4) ?_
 refine kJ hT hC (kn b4) h fun h => ?_
 refine kI hT hC (kn b4) ?_
 refine kP hC false (kn b4) ?_
 exact Vc.nil kM
 iterate 8 refine kF hC (kn b4) ?_
 refine kP hC true (kn b4) ?_
 exact Vc.nil kM
 iterate 3 refine kF hC (kn b3) ?_
 refine kP hC true (kn b3) ?_
 refine kO hT hC ?_
 iterate 8 refine kF hC rfl ?_
 refine kO hT hC ?_
 exact Vc.nil kM
 iterate 2 refine kF hC (kn b1) ?_
 refine kP hC true (kn b1) ?_
 refine kO hT hC ?_
 iterate 3 refine kF hC rfl ?_
 iterate 2 refine kO hT hC ?_
 iterate 3 refine kF hC rfl ?_
 iterate 2 refine kO hT hC ?_
 iterate 8 refine kF hC rfl ?_
 refine kO hT hC ?_
 exact Vc.nil kM
 refine kS h ?_ ?_ <;> intro b5 h
 refine kt b5 (Xab ?_)
 iterate 3 refine kO hT hC ?_
 refine Vc.nil (Xah (Xas ?_))
 obtain rfl := kj h
 exact Xb2 (τ := ⟨[(6, .own 16), (7, .sv (.bool false))], [(16, some (.row Xbp ([] : List Xay)))]⟩) (kW hC [(16, 208)]) rfl ⟨rfl, trivial⟩
 refine kf b5 (Xag (Xaf (Xap (Xab ?_))))
 refine kO hT hC ?_
 refine Vc.nil ?_
 refine kL [1,2,8,9,11] [208] [_,_,_,_,_] [_] ?_
 refine kX h (fun v7 => ([(11, .sv (.int .i64 v7.1))], [(208, some (.row Xbp v7.2))])) (fun v10 => ([(1, .any), (2, .any), (9, .any), (11, .any)], [(208, some (.row Xbp v10))])) (kW hC []) (fun v7 s h => ?_) fun v10 h => ?_
 unfold Xc3 at h
 refine Xap (Xab ?_)
 iterate 4 refine kO hT hC ?_
 refine Vc.nil ?_
 refine kS h ?_ ?_ <;> intro b8 h
 refine kt b8 (Xag (Xaf (Xap (Xam (Xab ?_)))))
 iterate 7 refine kO hT hC ?_
 refine Vc.nil ?_
 refine Xcn hm ?_
 iterate 4 refine kO hT hC ?_
 refine kC hC [] Tryz.call33 h (fun _ => Xkf) fun q11 h => ?_
 iterate 9 refine kO hT hC ?_
 refine kQ hT hC h fun h => ?_
 iterate 2 refine kO hT hC ?_
 obtain ⟨hq, h⟩ := Xbm h
 refine Yej hT hC rfl rfl rfl rfl ⟨fun _ _ => rfl, by rw [Xg4]; exact hq⟩ ?_
 rw [Xg4]
 refine kO hT hC ?_
 refine kD (Xan (Xaf (Xac ?_)))
 iterate 4 refine kO hT hC ?_
 refine Vc.nil ?_
 obtain rfl := kj h
 exact Xs2 (kW hC [(208, 1216)])
 exact kf b8 (Xao (Xaz ku))
 refine Xaf (Xab ?_)
 iterate 3 refine kO hT hC ?_
 refine Vc.nil (Xah ?_)
 obtain rfl := kj h
 exact Xb2 (τ := ⟨[(6, .own 16), (7, .sv (.bool true))], [(16, some (.row Xbp v10))]⟩) (kW hC [(16, 208)]) rfl ⟨rfl, trivial⟩
def Xp8 (r : (ByteArray × Bool)) : AV := .tup [.sv (.str r.1), .sv (.bool r.2)]
def Xp7 (r : (ByteArray × Bool)) : Xa2 := []
theorem Xra {p0 r} (h : Xen p0 = some r) : AC Tryz.prog 37 [.agg [.sv (.int .i64 p0.Seq), .sv (.bool p0.First), .sv (.bool p0.Last), .sv (.str p0.Bytes)]] [] (Xp8 r) (Xp7 r) := by
 refine Xae hT Tryz.func37 rfl fun C hC => ?_
 unfold Xen at h
 refine Xab ?_
 iterate 3 refine kO hT hC ?_
 refine Vc.nil (Xap (Xab ?_))
 refine kO hT hC ?_
 refine kC hC [] Tryz.call76 h (fun _ => Xju) fun q1 h => ?_
 refine kO hT hC ?_
 refine Vc.nil ?_
 refine kS h ?_ ?_ <;> intro b1 h
 refine kt b1 (Xab ?_)
 iterate 2 refine kO hT hC ?_
 exact Vc.nil (Xah (Xas kR))
 refine kf b1 (Xag (Xaf (Xab ?_)))
 refine kO hT hC ?_
 refine Vc.nil ?_
 refine kL [1,4] [16] [_,_] [_] ?_
 refine kA h (fun v2 => ([(4, .sv (.int .u8 v2))], [])) (fun v2 h => ?_) fun v2 h => ?_
 refine Xab ?_
 iterate 2 refine kO hT hC ?_
 refine Vc.nil ?_
 refine kS h ?_ ?_ <;> intro b2 h
 refine kt b2 (Xac ?_)
 iterate 3 refine kO hT hC ?_
 exact Vc.nil kM
 exact kf b2 (Xag kM)
 refine kL [1,4] [16] [_,_] [_] ?_
 refine kA h (fun v3 => ([(4, .sv (.int .u8 v3))], [])) (fun v3 h => ?_) fun v3 h => ?_
 refine Xab ?_
 iterate 2 refine kO hT hC ?_
 refine Vc.nil ?_
 refine kS h ?_ ?_ <;> intro b3 h
 refine kt b3 (Xac ?_)
 iterate 3 refine kO hT hC ?_
 exact Vc.nil kM
 exact kf b3 (Xag kM)
 refine Xab ?_
 iterate 2 refine kO hT hC ?_
 refine kQ hT hC h fun h => ?_
 iterate 9 refine kO hT hC ?_
 refine kQ hT hC h fun h => ?_
 iterate 2 refine kO hT hC ?_
 exact Vc.nil (Xah kR)
def Xqa (r : (Xay × Bool)) : AV := .tup [.agg [.sv (.int .i64 r.1.Seq), .sv (.bool r.1.First), .sv (.bool r.1.Last), .sv (.str r.1.Bytes)], .sv (.bool r.2)]
def Xp9 (r : (Xay × Bool)) : Xa2 := []
theorem Xrd {p0 r} (h : Xeo p0 = some r) : AC Tryz.prog 38 [.sv (.str p0)] [] (Xqa r) (Xp9 r) := by
 refine Xae hT Tryz.func38 rfl fun C hC => ?_
 unfold Xeo at h
 refine Xab ?_
 iterate 2 refine kO hT hC ?_
 refine Vc.nil (Xap ?_)
 refine kL [0,2] [32] [_,_] [_] ?_
 refine kA h (fun v1 => ([(12, .sv (.bool v1))], [])) (fun v1 h => ?_) fun v1 h => ?_
 refine Xac ?_
 iterate 4 refine kO hT hC ?_
 refine kS h ?_ ?_ <;> intro b1 h
 iterate 3 refine kF hC b1 ?_
 refine kP hC true b1 ?_
 exact Vc.nil kM
 refine kI hT hC b1 ?_
 refine kJ hT hC b1 h fun h => ?_
 refine kI hT hC b1 ?_
 refine kP hC false b1 ?_
 exact Vc.nil kM
 refine kS h ?_ ?_ <;> intro b2 h
 refine kt b2 (Xab ?_)
 iterate 3 refine kO hT hC ?_
 exact Vc.nil (Xah (Xas kR))
 refine kf b2 (Xag (Xaf ?_))
 refine Xdn hm ?_
 refine kO hT hC ?_
 refine kQ hT hC h fun h => ?_
 refine kO hT hC ?_
 refine kQ hT hC h fun h => ?_
 refine kO hT hC ?_
 refine kQ hT hC h fun h => ?_
 iterate 3 refine kO hT hC ?_
 refine kQ hT hC h fun h => ?_
 iterate 3 refine kO hT hC ?_
 refine kQ hT hC h fun h => ?_
 iterate 3 refine kO hT hC ?_
 refine kQ hT hC h fun h => ?_
 iterate 3 refine kO hT hC ?_
 refine kD (Xap (Xab ?_))
 refine kO hT hC ?_
 refine kC hC [] Tryz.call76 h (fun _ => Xju) fun q2 h => ?_
 refine kO hT hC ?_
 refine Vc.nil ?_
 refine kS h ?_ ?_ <;> intro b3 h
 refine kt b3 (Xab ?_)
 iterate 3 refine kO hT hC ?_
 exact Vc.nil (Xah (Xas kR))
 refine kf b3 (Xag (Xaf (Xab ?_)))
 iterate 3 refine kO hT hC ?_
 exact Vc.nil (Xah kR)
def Xle (r : Bool) : AV := .sv (.bool r)
def Xld (r : Bool) : Xa2 := []
theorem Xtl {p0 r} (h : Xi5 p0 = some r) : AC Tryz.prog 6 [.sv (.ints .u8 p0)] [] (Xle r) (Xld r) := by
 refine Xae hT Tryz.func6 rfl fun C hC => ?_
 unfold Xi5 at h
 refine Xab ?_
 refine kO hT hC ?_
 refine Vc.nil (Xap (Xab ?_))
 refine kO hT hC ?_
 refine kC hC [] Tryz.call26 h (fun _ => Yh5) fun q1 h => ?_
 refine Vc.nil ?_
 refine kS h ?_ ?_ <;> intro b1 h
 refine kt b1 (Xab ?_)
 refine kO hT hC ?_
 exact Vc.nil (Xah (Xas kR))
 refine kf b1 (Xag (Xaf (Xab ?_)))
 refine kO hT hC ?_
 refine kC hC [(16, 288)] Tryz.call27 h (fun _ => Xqh) fun q2 h => ?_
 refine kO hT hC ?_
 refine Vc.nil (Xap (Xab ?_))
 iterate 3 refine kO hT hC ?_
 refine Vc.nil ?_
 refine kS h ?_ ?_ <;> intro b2 h
 refine kt b2 (Xab ?_)
 refine kO hT hC ?_
 exact Vc.nil (Xah (Xas kR))
 refine kf b2 (Xag (Xaf (Xab ?_)))
 iterate 2 refine kO hT hC ?_
 obtain ⟨hq, h⟩ := Xbm h
 refine Yej hT hC rfl rfl rfl rfl ⟨fun _ _ => rfl, by rw [Xg4]; exact hq⟩ ?_
 rw [Xg4]
 refine kC hC [(16, 416)] Tryz.call35 h (fun _ => Xl2) fun q3 h => ?_
 iterate 5 refine kO hT hC ?_
 refine Vc.nil ?_
 refine Xdn hm ?_
 iterate 2 refine kO hT hC ?_
 obtain ⟨hq, h⟩ := Xbm h
 refine Yej hT hC rfl rfl rfl rfl ⟨fun _ _ => rfl, by rw [Xbs]; exact hq⟩ ?_
 rw [Xbs]
 refine kO hT hC ?_
 refine kQ hT hC h fun h => ?_
 refine kO hT hC ?_
 refine kQ hT hC h fun h => ?_
 refine kO hT hC ?_
 refine kQ hT hC h fun h => ?_
 refine kO hT hC ?_
 refine kQ hT hC h fun h => ?_
 refine kO hT hC ?_
 refine kC hC [(16, 672)] Tryz.call36 h (fun _ => Xte) fun q4 h => ?_
 iterate 5 refine kO hT hC ?_
 refine kD (Xap ?_)
 refine kL [3,5,6,7] [288,672] [_,_,_,_] [_,_] ?_
 refine kA h (fun v5 => ([(56, .sv (.bool v5)), (5, .any), (6, .any), (7, .any)], [(672, none)])) (fun v5 h => ?_) fun v5 h => ?_
 refine Xac ?_
 iterate 3 refine kO hT hC ?_
 refine kS h ?_ ?_ <;> intro b3 h
 iterate 2 refine kI hT hC (kn b3) ?_
 refine kP hC false (kn b3) ?_
 refine kO hT hC ?_
 refine kS h ?_ ?_ <;> intro b4 h
 iterate 2 refine kI hT hC (kn b4) ?_
 refine kE hC (kn b4) [] Tryz.call32 h (fun _ => Xqd) fun q6 h => ?_
 refine kI hT hC (kn b4) ?_
 refine kP hC false (kn b4) ?_
 exact Vc.nil kM
 iterate 4 refine kF hC (kn b4) ?_
 refine kP hC true (kn b4) ?_
 exact Vc.nil kM
 iterate 2 refine kF hC (kn b3) ?_
 refine kP hC true (kn b3) ?_
 refine kO hT hC ?_
 iterate 4 refine kF hC rfl ?_
 refine kO hT hC ?_
 exact Vc.nil kM
 refine kS h ?_ ?_ <;> intro b5 h
 refine kt b5 (Xab ?_)
 refine kO hT hC ?_
 exact Vc.nil (Xah (Xas kR))
 refine kf b5 (Xag (Xaf (Xap (Xab ?_))))
 refine kO hT hC ?_
 refine Vc.nil ?_
 refine kL [3,8] [288] [_,_] [_] ?_
 obtain ⟨o26, hl, h⟩ := Xbl h
 refine Xgy (fun v13 => ([(8, .sv (.int .i64 v13))], [])) (fun v20 => ([(8, .any)], [])) (fun r => Xnc C T Tryz.f6.results.toList (Xle r) (Xld r)) hl ?_ ?_ ?_ ?_
 apply Xeh hC []
 exact co
 rfl
 decide
 rfl
 intro v13 s hs
 have h := hs
 unfold Xc4 at h
 refine Xap (Xab ?_)
 iterate 4 refine kO hT hC ?_
 refine Vc.nil ?_
 refine kS h ?_ ?_ <;> intro b18 h
 refine kt b18 (Xag (Xaf (Xap (Xam (Xab ?_)))))
 iterate 2 refine kO hT hC ?_
 iterate 2 refine kQ hT hC h fun h => ?_
 refine kC hC [] Tryz.call37 h (fun _ => Xra) fun q21 h => ?_
 iterate 5 refine kO hT hC ?_
 refine kN ?_
 refine kO hT hC ?_
 refine kC hC [] Tryz.call38 h (fun _ => Xrd) fun q22 h => ?_
 iterate 6 refine kO hT hC ?_
 refine Vc.nil ?_
 refine kL [3,8,10,11,12] [176,288] [_,_,_,_,_] [_,_] ?_
 refine kA h (fun v23 => ([(117, .sv (.bool v23)), (10, .any), (11, .any), (12, .any)], [(176, none)])) (fun v23 h => ?_) fun v23 h => ?_
 refine Xcn hm ?_
 iterate 3 refine kO hT hC ?_
 refine kS h ?_ ?_ <;> intro b19 h
 iterate 2 refine kI hT hC (kn b19) ?_
 refine kP hC false (kn b19) ?_
 refine kO hT hC ?_
 refine kS h ?_ ?_ <;> intro b20 h
 iterate 3 refine kI hT hC (kn b20) ?_
 iterate 2 refine kJ hT hC (kn b20) h fun h => ?_
 refine Yqp hC rfl rfl rfl rfl (kn b20) rfl rfl rfl Yo7 rfl rfl ?_
 refine kP hC false (kn b20) ?_
 refine kO hT hC ?_
 refine kS h ?_ ?_ <;> intro b21 h
 iterate 12 refine kF hC b21 ?_
 refine kP hC true b21 ?_
 refine kO hT hC ?_
 iterate 12 refine kF hC rfl ?_
 refine kO hT hC ?_
 exact kD kM
 iterate 2 refine kI hT hC b21 ?_
 refine kJ hT hC b21 h fun h => ?_
 refine kI hT hC b21 ?_
 refine kJ hT hC b21 h fun h => ?_
 refine kI hT hC b21 ?_
 refine kJ hT hC b21 h fun h => ?_
 refine kI hT hC b21 ?_
 refine kJ hT hC b21 h fun h => ?_
 refine kI hT hC b21 ?_
 refine kE hC b21 [] Tryz.call33 h (fun _ => Xkf) fun q24 h => ?_
 refine kI hT hC b21 ?_
 refine kP hC false b21 ?_
 refine kO hT hC ?_
 refine kS h ?_ ?_ <;> intro b22 h
 iterate 12 refine kF hC b22 ?_
 refine kP hC true b22 ?_
 exact kD kM
 refine kI hT hC b22 ?_
 refine kJ hT hC b22 h fun h => ?_
 refine kI hT hC b22 ?_
 refine kJ hT hC b22 h fun h => ?_
 iterate 2 refine kI hT hC b22 ?_
 refine kJ hT hC b22 h fun h => ?_
 refine kI hT hC b22 ?_
 refine kJ hT hC b22 h fun h => ?_
 refine kE hC b22 [] Tryz.call39 h (fun _ => Yb2) fun q25 h => ?_
 iterate 2 refine kI hT hC b22 ?_
 refine kP hC false b22 ?_
 exact kD kM
 iterate 6 refine kF hC (kn b20) ?_
 refine kP hC true (kn b20) ?_
 refine kO hT hC ?_
 iterate 12 refine kF hC rfl ?_
 iterate 2 refine kO hT hC ?_
 iterate 12 refine kF hC rfl ?_
 refine kO hT hC ?_
 exact kD kM
 iterate 2 refine kF hC (kn b19) ?_
 refine kP hC true (kn b19) ?_
 refine kO hT hC ?_
 iterate 6 refine kF hC rfl ?_
 iterate 2 refine kO hT hC ?_
 iterate 12 refine kF hC rfl ?_
 iterate 2 refine kO hT hC ?_
 iterate 12 refine kF hC rfl ?_
 refine kO hT hC ?_
 exact kD kM
 refine kS h ?_ ?_ <;> intro b23 h
 refine kt b23 (Xab ?_)
 refine kO hT hC ?_
 refine Vc.nil (Xah (Xgu (Xas ?_)))
 obtain rfl := kj h
 refine Xpa (Xo9 ?_)
 exact Xb2 (Xgt.refl _) rfl trivial
 refine kf b23 (Xag (Xan (Xaf (Xac ?_))))
 iterate 3 refine kO hT hC ?_
 exact Vc.nil kG
 exact kf b18 (Xao (Xaz kb))
 intro v20 e
 subst e
 refine Xaf (Xab ?_)
 iterate 2 refine kO hT hC ?_
 refine kQ hT hC h fun h => ?_
 obtain ⟨hq, h⟩ := Xbm h
 refine Yej hT hC rfl rfl rfl rfl ⟨⟨hq.1, fun _ _ => rfl⟩, by rw [Xg4]; exact hq.2⟩ ?_
 rw [Xg4]
 refine kC hC [(16, 1968)] Tryz.call35 h (fun _ => Xl2) fun q27 h => ?_
 iterate 5 refine kO hT hC ?_
 refine kN ?_
 iterate 3 refine kO hT hC ?_
 exact Vc.nil (Xah kR)
 intro r' σ' e hE
 subst e
 obtain rfl := kj h
 refine Xas ?_
 exact hE
end
end Go.Proofs.YtlebkepfhdjnmadGreat.A
