/- Contracts of the functions that the law FnInOrder reaches, part 1: each comes to what its pure function tells. Written by a program of this session. Conditions: as each statement tells. -/
import Derived.Test.YtlebkepfhdjnmadGreatFFnInOrderx0
namespace Go.Proofs.YtlebkepfhdjnmadGreat.A
open Go Go.Proofs Go.Proofs.YtlebkepfhdjnmadGreatAL Go.RowKit
set_option linter.unusedVariables false
set_option linter.unusedSimpArgs false
set_option maxRecDepth 100000
set_option maxHeartbeats 8000000
noncomputable section
def Xud (r : Bool) : AV := .sv (.bool r)
def Xuc (r : Bool) : Xa1 := []
theorem Xg4 {p0 r} (h : Xc3 p0 = some r) : AC Tryz.prog 220 [.agg [.sv (.int .i64 p0.Seq.Level), .sv (.int .i64 p0.Seq.Bits), .sv (.ints .i64 p0.Seq.Cols), .sv (.ints .i64 p0.Seq.Rows), .sv (.int .i64 p0.Par.Qp), .sv (.bool p0.Par.Large), .sv (.bool p0.Par.Exact), .sv (.bool p0.Par.Confined), .sv (.int .i64 p0.Rate.Qp), .sv (.int .i64 p0.Rate.Target), .sv (.int .i64 p0.Rate.Debt), .sv (.int .i64 p0.Frame), .sv (.int .i64 p0.Since), .sv (.int .i64 p0.Every), .sv (.int .i64 p0.Reach), .sv (.bool p0.Has), .sv (.int .i64 p0.Ref.Wide), .sv (.int .i64 p0.Ref.High), .sv (.str p0.Ref.Dots)]] [] (Xud r) (Xuc r) := by
 refine Xae hT Tryz.func220 rfl fun C hC => ?_
 unfold Xc3 at h
 refine Xab ?_
 iterate 2 refine kO hT hC ?_
 refine Vc.nil (Xar ?_)
 refine kL [1] [16] [_] [_] ?_
 refine kA h (fun v1 => ([(35, .sv (.bool v1))], [])) (fun v1 h => ?_) fun v1 h => ?_
 refine Xac ?_
 iterate 2 refine kO hT hC ?_
 refine kC hC [] Tryz.call242 h (fun _ => Xol) fun q2 h => ?_
 iterate 2 refine kO hT hC ?_
 refine kS h ?_ ?_ <;> intro b1 h
 iterate 4 refine kF hC b1 ?_
 refine kP hC true b1 ?_
 refine kO hT hC ?_
 iterate 4 refine kF hC rfl ?_
 iterate 2 refine kO hT hC ?_
 iterate 3 refine kF hC rfl ?_
 iterate 2 refine kO hT hC ?_
 iterate 8 refine kF hC rfl ?_
 refine kO hT hC ?_
 exact Vc.nil kM
 iterate 2 refine kI hT hC b1 ?_
 refine kE hC b1 [] Tryz.call82 h (fun _ => Xr8) fun q3 h => ?_
 refine kI hT hC b1 ?_
 refine kP hC false b1 ?_
 refine kO hT hC ?_
 refine kS h ?_ ?_ <;> intro b2 h
 iterate 2 refine kI hT hC (kn b2) ?_
 refine kE hC (kn b2) [] Tryz.call243 h (fun _ => Xl3) fun q4 h => ?_
 refine kI hT hC (kn b2) ?_
 refine kP hC false (kn b2) ?_
 refine kO hT hC ?_
 refine kS h ?_ ?_ <;> intro b3 h
 iterate 3 refine kI hT hC (kn b3) ?_
 refine kP hC false (kn b3) ?_
 refine kO hT hC ?_
 refine kS h ?_ ?_ <;> intro b4 h
 iterate 8 refine kF hC b4 ?_
 refine kP hC true b4 ?_
 exact Vc.nil kM
 iterate 6 refine kI hT hC b4 ?_
 refine kJ hT hC b4 h fun h => ?_
 refine kI hT hC b4 ?_
 refine kP hC false b4 ?_
 exact Vc.nil kM
 iterate 3 refine kF hC (kn b3) ?_
 refine kP hC true (kn b3) ?_
 refine kO hT hC ?_
 iterate 8 refine kF hC rfl ?_
 refine kO hT hC ?_
 exact Vc.nil kM
 iterate 4 refine kF hC (kn b2) ?_
 refine kP hC true (kn b2) ?_
 refine kO hT hC ?_
 iterate 3 refine kF hC rfl ?_
 iterate 2 refine kO hT hC ?_
 iterate 8 refine kF hC rfl ?_
 refine kO hT hC ?_
 exact Vc.nil kM
 refine kS h ?_ ?_ <;> intro b5 h
 refine kt b5 (Xab ?_)
 refine kO hT hC ?_
 exact Vc.nil (Xah (Xat kR))
 refine kf b5 (Xag (Xaf (Xar ?_)))
 refine kL [1] [16] [_] [_] ?_
 refine kA h (fun v5 => ([(51, .sv (.bool v5))], [])) (fun v5 h => ?_) fun v5 h => ?_
 refine Xac ?_
 iterate 2 refine kO hT hC ?_
 refine kC hC [] Tryz.call53 h (fun _ => Xai) fun q6 h => ?_
 iterate 2 refine kO hT hC ?_
 refine kS h ?_ ?_ <;> intro b6 h
 iterate 2 refine kI hT hC (kn b6) ?_
 refine kE hC (kn b6) [] Tryz.call53 h (fun _ => Xai) fun q7 h => ?_
 refine kI hT hC (kn b6) ?_
 refine kP hC false (kn b6) ?_
 refine kO hT hC ?_
 refine kS h ?_ ?_ <;> intro b7 h
 iterate 2 refine kI hT hC (kn b7) ?_
 refine kE hC (kn b7) [] Tryz.call53 h (fun _ => Xai) fun q8 h => ?_
 refine kI hT hC (kn b7) ?_
 refine kP hC false (kn b7) ?_
 exact Vc.nil kM
 iterate 4 refine kF hC (kn b7) ?_
 refine kP hC true (kn b7) ?_
 exact Vc.nil kM
 iterate 4 refine kF hC (kn b6) ?_
 refine kP hC true (kn b6) ?_
 refine kO hT hC ?_
 iterate 4 refine kF hC rfl ?_
 refine kO hT hC ?_
 exact Vc.nil kM
 refine kS h ?_ ?_ <;> intro b8 h
 refine kt b8 (Xab ?_)
 refine kO hT hC ?_
 exact Vc.nil (Xah (Xat kR))
 refine kf b8 (Xag (Xaf (Xab ?_)))
 iterate 2 refine kO hT hC ?_
 refine kC hC [] Tryz.call184 h (fun _ => Xl5) fun q9 h => ?_
 iterate 5 refine kO hT hC ?_
 refine Vc.nil (Xar (Xab ?_))
 iterate 2 refine kO hT hC ?_
 refine Vc.nil ?_
 refine kS h ?_ ?_ <;> intro b9 h
 refine kt b9 ?_
 refine kL [1,3,4] [16] [_,_,_] [_] ?_
 refine kA h (fun v10 => ([(2, .sv (.bool v10)), (1, .any), (3, .any), (4, .any)], [(16, none)])) (fun v10 h => ?_) fun v10 h => ?_
 refine Xac ?_
 iterate 2 refine kO hT hC ?_
 refine kC hC [] Tryz.call96 h (fun _ => Xcc) fun q11 h => ?_
 refine kO hT hC ?_
 refine kS h ?_ ?_ <;> intro b10 h
 iterate 5 refine kI hT hC b10 ?_
 refine kP hC true b10 ?_
 refine kO hT hC ?_
 refine kS h ?_ ?_ <;> intro b11 h
 iterate 5 refine kI hT hC b11 ?_
 refine kP hC true b11 ?_
 refine kO hT hC ?_
 exact Vc.nil kM
 iterate 5 refine kF hC b11 ?_
 refine kP hC false b11 ?_
 refine kO hT hC ?_
 exact Vc.nil kM
 iterate 5 refine kF hC b10 ?_
 refine kP hC false b10 ?_
 refine kO hT hC ?_
 iterate 5 refine kF hC rfl ?_
 iterate 2 refine kO hT hC ?_
 exact Vc.nil kM
 exact Xah (Xat kR)
 refine kf b9 (Xag (Xaf ?_))
 refine kL [1] [16] [_] [_] ?_
 refine kA h (fun v12 => ([(2, .sv (.bool v12)), (1, .any)], [(16, none)])) (fun v12 h => ?_) fun v12 h => ?_
 refine Xac ?_
 iterate 5 refine kO hT hC ?_
 refine kS h ?_ ?_ <;> intro b12 h
 iterate 4 refine kI hT hC b12 ?_
 refine kP hC true b12 ?_
 refine kO hT hC ?_
 refine kS h ?_ ?_ <;> intro b13 h
 iterate 5 refine kI hT hC b13 ?_
 refine kP hC true b13 ?_
 refine kO hT hC ?_
 exact Vc.nil kM
 iterate 5 refine kF hC b13 ?_
 refine kP hC false b13 ?_
 refine kO hT hC ?_
 exact Vc.nil kM
 iterate 4 refine kF hC b12 ?_
 refine kP hC false b12 ?_
 refine kO hT hC ?_
 iterate 5 refine kF hC rfl ?_
 iterate 2 refine kO hT hC ?_
 exact Vc.nil kM
 exact Xah kR
def Xsf (r : (Xcw × Bool)) : AV := .tup [.agg [.sv (.int .i64 r.1.Seq.Level), .sv (.int .i64 r.1.Seq.Bits), .own 16, .own 17, .sv (.int .i64 r.1.Par.Qp), .sv (.bool r.1.Par.Large), .sv (.bool r.1.Par.Exact), .sv (.bool r.1.Par.Confined), .sv (.int .i64 r.1.Rate.Qp), .sv (.int .i64 r.1.Rate.Target), .sv (.int .i64 r.1.Rate.Debt), .sv (.int .i64 r.1.Frame), .sv (.int .i64 r.1.Since), .sv (.int .i64 r.1.Every), .sv (.int .i64 r.1.Reach), .sv (.bool r.1.Has), .sv (.int .i64 r.1.Ref.Wide), .sv (.int .i64 r.1.Ref.High), .sv (.str r.1.Ref.Dots)], .sv (.bool r.2)]
def Xse (r : (Xcw × Bool)) : Xa1 := [(16, .ints .i64 r.1.Seq.Cols), (17, .ints .i64 r.1.Seq.Rows)]
theorem Xua {p0 p1 p2 p3 p4 p5 p6 r} (h : Xgq p0 p1 p2 p3 p4 p5 p6 = some r) : AC Tryz.prog 181 [.sv (.int .i64 p0), .sv (.int .i64 p1), .sv (.int .i64 p2), .agg [.sv (.int .i64 p3.Qp), .sv (.bool p3.Large), .sv (.bool p3.Exact), .sv (.bool p3.Confined)], .agg [.sv (.int .i64 p4.Qp), .sv (.int .i64 p4.Target), .sv (.int .i64 p4.Debt)], .sv (.int .i64 p5), .sv (.int .i64 p6)] [] (Xsf r) (Xse r) := by
 refine Xae hT Tryz.func181 rfl fun C hC => ?_
 unfold Xgq at h
 refine Xab ?_
 iterate 4 refine kO hT hC ?_
 refine kN ?_
 iterate 8 refine kO hT hC ?_
 refine kN ?_
 iterate 4 refine kO hT hC ?_
 refine kC hC [] Tryz.call219 h (fun _ => Xv9) fun q1 h => ?_
 iterate 2 refine kO hT hC ?_
 refine kN ?_
 iterate 8 refine kO hT hC ?_
 refine Vc.nil (Xar (Xab ?_))
 refine kO hT hC ?_
 refine kC hC [] Tryz.call220 h (fun _ => Xg4) fun q2 h => ?_
 refine kO hT hC ?_
 refine Vc.nil ?_
 refine kS h ?_ ?_ <;> intro b1 h
 refine kt b1 (Xab ?_)
 iterate 3 refine kO hT hC ?_
 refine Vc.nil (Xah (Xat ?_))
 obtain rfl := kj h
 refine Xb7 (τ := ⟨[(14, .ptr 2000000 0), (15, .sv (.bool false))], [(16, some (.ints .i64 [])), (17, some (.ints .i64 [])), (2000000, some (.box [.sv (.int .i64 0), .sv (.int .i64 0), .own 16, .own 17, .sv (.int .i64 0), .sv (.bool false), .sv (.bool false), .sv (.bool false), .sv (.int .i64 0), .sv (.int .i64 0), .sv (.int .i64 0), .sv (.int .i64 0), .sv (.int .i64 0), .sv (.int .i64 0), .sv (.int .i64 0), .sv (.bool false), .sv (.int .i64 0), .sv (.int .i64 0), .sv (.str ⟨#[]⟩)]))]⟩) ?_ rfl ⟨rfl, rfl, trivial⟩
 refine Xs5 hC 224 2 673 (.ints .i64 []) rfl rfl rfl rfl rfl trivial ?_
 refine Xs5 hC 224 3 674 (.ints .i64 []) rfl rfl rfl rfl rfl trivial ?_
 apply Xen hC [(16, 673), (17, 674), (2000000, 224)]
 exact co
 rfl
 decide
 rfl
 refine kf b1 (Xag (Xaf (Xab ?_)))
 iterate 3 refine kO hT hC ?_
 refine Vc.nil (Xah ?_)
 obtain rfl := kj h
 exact Xb7 (τ := ⟨[(14, .ptr 2000000 0), (15, .sv (.bool true))], [(16, some (.ints .i64 ([p0]))), (17, some (.ints .i64 ([p1]))), (2000000, some (.box [.sv (.int .i64 q1), .sv (.int .i64 p2), .own 16, .own 17, .sv (.int .i64 p3.Qp), .sv (.bool p3.Large), .sv (.bool p3.Exact), .sv (.bool p3.Confined), .sv (.int .i64 p4.Qp), .sv (.int .i64 p4.Target), .sv (.int .i64 p4.Debt), .sv (.int .i64 0), .sv (.int .i64 0), .sv (.int .i64 p5), .sv (.int .i64 p6), .sv (.bool false), .sv (.int .i64 0), .sv (.int .i64 0), .sv (.str ⟨#[]⟩)]))]⟩) (kW hC [(16, 320), (17, 352), (2000000, 224)]) rfl ⟨rfl, rfl, trivial⟩
def Xxo (r : (ByteArray × Xau)) : AV := .sv (.str r.1)
def Xxn (r : (ByteArray × Xau)) : Xa1 := [(0, .box [.sv (.ints .u8 r.2.b_), .sv (.int .i64 r.2.i_), .sv (.int .i64 r.2.h_)])]
theorem Ya8 {p0 p1 r} (h : Xj3 p0 p1 = some r) : AC Tryz.prog 223 [.ptr 0 0, .sv (.int .i64 p1)] [(0, .box [.sv (.ints .u8 p0.b_), .sv (.int .i64 p0.i_), .sv (.int .i64 p0.h_)])] (Xxo r) (Xxn r) := by
 refine Xae hT Tryz.func223 rfl fun C hC => ?_
 unfold Xj3 at h
 refine Xab ?_
 refine kO hT hC ?_
 refine kN ?_
 iterate 2 refine kO hT hC ?_
 refine kN ?_
 refine kO hT hC ?_
 refine kC hC [(0, 0)] Tryz.call73 h (fun _ => Xbs) fun q1 h => ?_
 refine kO hT hC ?_
 refine Vc.nil (Xar (Xab ?_))
 refine kO hT hC ?_
 refine Vc.nil ?_
 refine kL [0,1,5,6,7] [0,128] [_,_,_,_,_] [_,_] ?_
 refine kX h (fun v7 => ([(6, .sv (.int .i64 v7.1)), (7, .sv (.int .i64 v7.2.1))], [(0, some (.box [.sv (.ints .u8 v7.2.2.1), .sv (.int .i64 v7.2.2.2.1), .sv (.int .i64 v7.2.2.2.2.1)])), (128, some (.ints .u8 v7.2.2.2.2.2))])) (fun v13 => ([(0, .any), (1, .any), (6, .any), (7, .any)], [(0, some (.box [.sv (.ints .u8 v13.2.1), .sv (.int .i64 v13.2.2.1), .sv (.int .i64 v13.2.2.2)])), (128, some (.ints .u8 v13.1))])) (kW hC []) (fun v7 s h => ?_) fun v13 h => ?_
 unfold Xis at h
 refine Xar (Xab ?_)
 iterate 3 refine kO hT hC ?_
 refine Vc.nil ?_
 refine kS h ?_ ?_ <;> intro b7 h
 refine kt b7 (Xag (Xaf (Xar (Xam ?_))))
 refine kL [0,1,5,6,7] [0,128] [_,_,_,_,_] [_,_] ?_
 refine kA h (fun v14 => ([(6, .sv (.int .i64 v14.1))], [(0, some (.box [.sv (.ints .u8 v14.2.1), .sv (.int .i64 v14.2.2.1), .sv (.int .i64 v14.2.2.2)]))])) (fun v14 h => ?_) fun v14 h => ?_
 refine Xab ?_
 refine kO hT hC ?_
 refine kC hC [(0, 0)] Tryz.call74 h (fun _ => Xap) fun q15 h => ?_
 refine Vc.nil (Xam (Xab ?_))
 iterate 2 refine kO hT hC ?_
 refine Vc.nil ?_
 refine kS h ?_ ?_ <;> intro b8 h
 refine kt b8 (Xac ?_)
 refine kO hT hC ?_
 refine kC hC [(0, 0)] Tryz.call73 h (fun _ => Xbs) fun q16 h => ?_
 refine kO hT hC ?_
 exact Vc.nil (Xan kM)
 refine kf b8 (Xab ?_)
 iterate 2 refine kO hT hC ?_
 refine Vc.nil ?_
 refine kS h ?_ ?_ <;> intro b9 h
 refine kt b9 (Xac ?_)
 iterate 2 refine kO hT hC ?_
 refine kC hC [(0, 0)] Tryz.call74 h (fun _ => Xap) fun q17 h => ?_
 iterate 4 refine kO hT hC ?_
 exact Vc.nil (Xan kM)
 exact kf b9 (Xag (Xan kM))
 refine Xac ?_
 iterate 4 refine kO hT hC ?_
 refine kT hT hC h fun h => ?_
 refine kO hT hC ?_
 refine Vc.nil (Xan (Xaf (Xac ?_)))
 iterate 3 refine kO hT hC ?_
 refine Vc.nil ?_
 obtain rfl := kj h
 exact Xvc (kW hC [(128, 544)])
 exact kf b7 (Xao (Xav ku))
 refine Xaf (Xab ?_)
 iterate 3 refine kO hT hC ?_
 refine Vc.nil (Xah ?_)
 obtain rfl := kj h
 exact Xb7 (Xey.refl _) rfl ⟨rfl, trivial⟩
def Xuv (r : (Pic × Xau)) : AV := .agg [.sv (.int .i64 r.1.Wide), .sv (.int .i64 r.1.High), .sv (.str r.1.Dots)]
def Xuu (r : (Pic × Xau)) : Xa1 := [(0, .box [.sv (.ints .u8 r.2.b_), .sv (.int .i64 r.2.i_), .sv (.int .i64 r.2.h_)])]
theorem Xxp {p0 p1 p2 r} (h : Xit p0 p1 p2 = some r) : AC Tryz.prog 185 [.ptr 0 0, .sv (.int .i64 p1), .sv (.int .i64 p2)] [(0, .box [.sv (.ints .u8 p0.b_), .sv (.int .i64 p0.i_), .sv (.int .i64 p0.h_)])] (Xuv r) (Xuu r) := by
 refine Xae hT Tryz.func185 rfl fun C hC => ?_
 unfold Xit at h
 refine Xab ?_
 refine kO hT hC ?_
 refine kN ?_
 iterate 6 refine kO hT hC ?_
 refine kC hC [(0, 0)] Tryz.call223 h (fun _ => Ya8) fun q1 h => ?_
 iterate 2 refine kO hT hC ?_
 refine Vc.nil (Xah ?_)
 obtain rfl := kj h
 exact Xb7 (Xey.refl _) rfl ⟨rfl, trivial⟩
def Xz5 (r : Bool) : AV := .sv (.bool r)
def Xz4 (r : Bool) : Xa1 := []
theorem Yce {p0 p1 r} (h : Xk4 p0 p1 = some r) : AC Tryz.prog 224 [.agg [.sv (.int .i64 p0.Seq.Level), .sv (.int .i64 p0.Seq.Bits), .sv (.ints .i64 p0.Seq.Cols), .sv (.ints .i64 p0.Seq.Rows), .sv (.int .i64 p0.Par.Qp), .sv (.bool p0.Par.Large), .sv (.bool p0.Par.Exact), .sv (.bool p0.Par.Confined), .sv (.int .i64 p0.Rate.Qp), .sv (.int .i64 p0.Rate.Target), .sv (.int .i64 p0.Rate.Debt), .sv (.int .i64 p0.Frame), .sv (.int .i64 p0.Since), .sv (.int .i64 p0.Every), .sv (.int .i64 p0.Reach), .sv (.bool p0.Has), .sv (.int .i64 p0.Ref.Wide), .sv (.int .i64 p0.Ref.High), .sv (.str p0.Ref.Dots)], .sv (.bool p1)] [] (Xz5 r) (Xz4 r) := by
 refine Xae hT Tryz.func224 rfl fun C hC => ?_
 unfold Xk4 at h
 refine Xab ?_
 iterate 2 refine kO hT hC ?_
 refine Vc.nil ?_
 refine kL [1,2,4] [32] [_,_,_] [_] ?_
 refine kA h (fun v1 => ([(4, .sv (.bool v1)), (1, .any), (2, .any)], [(32, none)])) (fun v1 h => ?_) fun v1 h => ?_
 refine Xac ?_
 refine kO hT hC ?_
 refine kC hC [] Tryz.call220 h (fun _ => Xg4) fun q2 h => ?_
 refine kO hT hC ?_
 refine kS h ?_ ?_ <;> intro b1 h
 iterate 2 refine kI hT hC b1 ?_
 refine kS h ?_ ?_ <;> intro b2 h
 iterate 3 refine kF hC b2 ?_
 refine Xcu hC rfl rfl rfl rfl b1 rfl rfl (b := true) b2 rfl rfl rfl trivial ?_
 refine kI hT hC b1 ?_
 iterate 5 refine kF hC rfl ?_
 refine Xcu hC rfl rfl rfl rfl b1 rfl rfl (b := true) rfl rfl rfl rfl trivial ?_
 refine kP hC true b1 ?_
 refine kO hT hC ?_
 exact Vc.nil kM
 iterate 3 refine kI hT hC b2 ?_
 refine Xcu hC rfl rfl rfl rfl b1 rfl rfl (b := false) b2 rfl rfl rfl trivial ?_
 refine kI hT hC b1 ?_
 refine kS h ?_ ?_ <;> intro b3 h
 iterate 5 refine kI hT hC (kn b3) ?_
 refine Xcu hC rfl rfl rfl rfl b1 rfl rfl (b := false) (kn b3) rfl rfl rfl trivial ?_
 refine kP hC true b1 ?_
 refine kO hT hC ?_
 exact Vc.nil kM
 iterate 5 refine kF hC (kn b3) ?_
 refine Xcu hC rfl rfl rfl rfl b1 rfl rfl (b := true) (kn b3) rfl rfl rfl trivial ?_
 refine kP hC true b1 ?_
 refine kO hT hC ?_
 exact Vc.nil kM
 iterate 2 refine kF hC b1 ?_
 iterate 3 refine Xj6 hC rfl rfl rfl rfl rfl rfl ?_
 iterate 2 refine kF hC b1 ?_
 iterate 5 refine Xj6 hC rfl rfl rfl rfl rfl rfl ?_
 refine kF hC b1 ?_
 refine kP hC false b1 ?_
 refine kO hT hC ?_
 exact Vc.nil kM
 exact Xah kR
def Xw4 (r : Seq) : AV := .agg [.sv (.int .i64 r.Level), .sv (.int .i64 r.Bits), .own 16, .own 17]
def Xw3 (r : Seq) : Xa1 := [(16, .ints .i64 r.Cols), (17, .ints .i64 r.Rows)]
theorem Xor {p0 r} (h : Xhp p0 = some r) : AC Tryz.prog 225 [.agg [.sv (.int .i64 p0.Level), .sv (.int .i64 p0.Bits), .sv (.ints .i64 p0.Cols), .sv (.ints .i64 p0.Rows)]] [] (Xw4 r) (Xw3 r) := by
 refine Xae hT Tryz.func225 rfl fun C hC => ?_
 unfold Xhp at h
 refine Xab ?_
 iterate 2 refine kO hT hC ?_
 refine kN ?_
 iterate 3 refine kO hT hC ?_
 refine kT hT hC h fun h => ?_
 iterate 2 refine kO hT hC ?_
 refine kN ?_
 iterate 3 refine kO hT hC ?_
 refine kT hT hC h fun h => ?_
 iterate 2 refine kO hT hC ?_
 refine kN ?_
 iterate 2 refine kO hT hC ?_
 refine Vc.nil (Xah ?_)
 obtain rfl := kj h
 exact Xb7 (τ := ⟨[(2, .ptr 2000000 0)], [(16, some (.ints .i64 (([] : List Int) ++ p0.Cols))), (17, some (.ints .i64 (([] : List Int) ++ p0.Rows))), (2000000, some (.box [.sv (.int .i64 p0.Level), .sv (.int .i64 p0.Bits), .own 16, .own 17]))]⟩) (kW hC [(16, 96), (17, 176), (2000000, 32)]) rfl ⟨rfl, rfl, trivial⟩
def Ycl (r : Int) : AV := .sv (.int .i64 r)
def Yck (r : Int) : Xa1 := []
theorem Yfa {p0 p1 r} (h : Xmq p0 p1 = some r) : AC Tryz.prog 226 [.agg [.sv (.int .i64 p0.Qp), .sv (.int .i64 p0.Target), .sv (.int .i64 p0.Debt)], .sv (.bool p1)] [] (Ycl r) (Yck r) := by
 refine Xae hT Tryz.func226 rfl fun C hC => ?_
 unfold Xmq at h
 refine Xab ?_
 iterate 2 refine kO hT hC ?_
 refine Vc.nil (Xar (Xab ?_))
 refine kO hT hC ?_
 refine kC hC [] Tryz.call243 h (fun _ => Xl3) fun q1 h => ?_
 refine kO hT hC ?_
 refine Vc.nil ?_
 refine kS h ?_ ?_ <;> intro b1 h
 refine kt b1 (Xab ?_)
 refine kO hT hC ?_
 exact Vc.nil (Xah (Xat kR))
 refine kf b1 (Xag (Xaf (Xar (Xab ?_))))
 refine kO hT hC ?_
 refine Vc.nil ?_
 refine kS h ?_ ?_ <;> intro b2 h
 refine kt b2 (Xab ?_)
 iterate 3 refine kO hT hC ?_
 refine kC hC [] Tryz.call159 h (fun _ => Xbr) fun q2 h => ?_
 refine kO hT hC ?_
 exact Vc.nil (Xah (Xat kR))
 refine kf b2 (Xag (Xaf (Xab ?_)))
 iterate 3 refine kO hT hC ?_
 exact Vc.nil (Xah kR)
def Xwo (r : ((List Xbc) × Pic × Bool)) : AV := .tup [.own 16, .agg [.sv (.int .i64 r.2.1.Wide), .sv (.int .i64 r.2.1.High), .sv (.str r.2.1.Dots)], .sv (.bool r.2.2)]
def Xwn (r : ((List Xbc) × Pic × Bool)) : Xa1 := [(16, .row Xgb r.1)]
theorem Yao {p0 p1 p2 p3 r} (h : Xj0 p0 p1 p2 p3 = some r) : AC Tryz.prog 227 [.agg [.sv (.int .i64 p0.Wide), .sv (.int .i64 p0.High), .sv (.str p0.Dots)], .agg [.sv (.int .i64 p1.Wide), .sv (.int .i64 p1.High), .sv (.str p1.Dots)], .agg [.sv (.bool p2.Key), .sv (.int .i64 p2.Qp), .sv (.bool p2.Large), .sv (.bool p2.Exact)], .sv (.int .i64 p3)] [] (Xwo r) (Xwn r) := by
 refine Xae hT Tryz.func227 rfl fun C hC => ?_
 unfold Xj0 at h
 refine Xab ?_
 iterate 6 refine kO hT hC ?_
 refine kN ?_
 iterate 2 refine kO hT hC ?_
 refine Vc.nil (Xar ?_)
 refine kL [3,4,5,6,9,11] [64,80,96,144,288] [_,_,_,_,_,_] [_,_,_,_,_] ?_
 refine kA h (fun v1 => ([(54, .sv (.bool v1))], [])) (fun v1 h => ?_) fun v1 h => ?_
 refine Xac ?_
 refine kO hT hC ?_
 refine kC hC [] Tryz.call96 h (fun _ => Xcc) fun q2 h => ?_
 iterate 2 refine kO hT hC ?_
 refine kS h ?_ ?_ <;> intro b1 h
 iterate 2 refine kI hT hC (kn b1) ?_
 refine kE hC (kn b1) [] Tryz.call40 h (fun _ => Xo4) fun q3 h => ?_
 refine kI hT hC (kn b1) ?_
 refine kP hC false (kn b1) ?_
 refine kO hT hC ?_
 refine kS h ?_ ?_ <;> intro b2 h
 iterate 2 refine kI hT hC (kn b2) ?_
 refine kE hC (kn b2) [] Tryz.call40 h (fun _ => Xo4) fun q4 h => ?_
 refine kI hT hC (kn b2) ?_
 refine kP hC false (kn b2) ?_
 refine kO hT hC ?_
 refine kS h ?_ ?_ <;> intro b3 h
 refine kI hT hC (kn b3) ?_
 refine kE hC (kn b3) [] Tryz.call52 h (fun _ => Xgj) fun q5 h => ?_
 refine kI hT hC (kn b3) ?_
 refine kP hC false (kn b3) ?_
 refine kO hT hC ?_
 refine kS h ?_ ?_ <;> intro b4 h
 refine kI hT hC (kn b4) ?_
 refine kE hC (kn b4) [] Tryz.call53 h (fun _ => Xai) fun q6 h => ?_
 refine kI hT hC (kn b4) ?_
 refine kP hC false (kn b4) ?_
 refine kO hT hC ?_
 refine kS h ?_ ?_ <;> intro b5 h
 iterate 4 refine kI hT hC (kn b5) ?_
 refine kS h ?_ ?_ <;> intro b6 h
 iterate 4 refine kF hC (kn b6) ?_
 refine Xcu hC rfl rfl rfl rfl (kn b5) rfl rfl (b := false) (kn b6) rfl rfl rfl trivial ?_
 refine kP hC false (kn b5) ?_
 exact Vc.nil kM
 iterate 2 refine kI hT hC (kn b6) ?_
 refine kE hC (kn b6) [] Tryz.call54 h (fun _ => Xo6) fun q7 h => ?_
 refine kI hT hC (kn b6) ?_
 refine Xcu hC rfl rfl rfl rfl (kn b5) rfl rfl (b := true) (kn b6) rfl rfl rfl trivial ?_
 refine kP hC false (kn b5) ?_
 exact Vc.nil kM
 iterate 4 refine kF hC (kn b5) ?_
 iterate 4 refine Xj6 hC rfl rfl rfl rfl rfl rfl ?_
 refine kF hC (kn b5) ?_
 refine kP hC true (kn b5) ?_
 exact Vc.nil kM
 iterate 3 refine kF hC (kn b4) ?_
 refine kP hC true (kn b4) ?_
 refine kO hT hC ?_
 iterate 4 refine kF hC rfl ?_
 iterate 4 refine Xj6 hC rfl rfl rfl rfl rfl rfl ?_
 refine kF hC rfl ?_
 refine kO hT hC ?_
 exact Vc.nil kM
 iterate 3 refine kF hC (kn b3) ?_
 refine kP hC true (kn b3) ?_
 refine kO hT hC ?_
 iterate 3 refine kF hC rfl ?_
 iterate 2 refine kO hT hC ?_
 iterate 4 refine kF hC rfl ?_
 iterate 4 refine Xj6 hC rfl rfl rfl rfl rfl rfl ?_
 refine kF hC rfl ?_
 refine kO hT hC ?_
 exact Vc.nil kM
 iterate 4 refine kF hC (kn b2) ?_
 refine kP hC true (kn b2) ?_
 refine kO hT hC ?_
 iterate 3 refine kF hC rfl ?_
 iterate 2 refine kO hT hC ?_
 iterate 3 refine kF hC rfl ?_
 iterate 2 refine kO hT hC ?_
 iterate 4 refine kF hC rfl ?_
 iterate 4 refine Xj6 hC rfl rfl rfl rfl rfl rfl ?_
 refine kF hC rfl ?_
 refine kO hT hC ?_
 exact Vc.nil kM
 iterate 4 refine kF hC (kn b1) ?_
 refine kP hC true (kn b1) ?_
 refine kO hT hC ?_
 iterate 4 refine kF hC rfl ?_
 iterate 2 refine kO hT hC ?_
 iterate 3 refine kF hC rfl ?_
 iterate 2 refine kO hT hC ?_
 iterate 3 refine kF hC rfl ?_
 iterate 2 refine kO hT hC ?_
 iterate 4 refine kF hC rfl ?_
 iterate 4 refine Xj6 hC rfl rfl rfl rfl rfl rfl ?_
 refine kF hC rfl ?_
 refine kO hT hC ?_
 exact Vc.nil kM
 refine kS h ?_ ?_ <;> intro b7 h
 refine kt b7 (Xab ?_)
 iterate 5 refine kO hT hC ?_
 refine Vc.nil (Xah (Xat ?_))
 obtain rfl := kj h
 exact Xb7 (τ := ⟨[(8, .own 16), (9, .ptr 2000001 0), (10, .sv (.bool false))], [(16, some (.row Xgb ([] : List Xbc))), (2000001, some (.box [.sv (.int .i64 0), .sv (.int .i64 0), .sv (.str ⟨#[]⟩)]))]⟩) (kW hC [(16, 288), (2000001, 144)]) rfl ⟨rfl, trivial⟩
 refine kf b7 (Xag (Xaf (Xab ?_)))
 iterate 4 refine kO hT hC ?_
 refine kC hC [] Tryz.call88 h (fun _ => Yg2) fun q8 h => ?_
 iterate 2 refine kO hT hC ?_
 refine Vc.nil (Xar (Xab ?_))
 refine kO hT hC ?_
 refine Vc.nil ?_
 refine kL [3,4,5,6,9,11,12,13] [64,80,96,144,192,288] [_,_,_,_,_,_,_,_] [_,_,_,_,_,_] ?_
 refine kX h (fun v24 => ([(13, .sv (.int .i64 v24.1))], [(192, some (.box [.sv (.int .i64 v24.2.2.1), .sv (.int .i64 v24.2.2.2.1), .sv (.str v24.2.2.2.2)])), (288, some (.row Xgb v24.2.1))])) (fun v40 => ([(3, .any), (4, .any), (5, .any), (6, .any), (13, .any)], [(192, some (.box [.sv (.int .i64 v40.2.1), .sv (.int .i64 v40.2.2.1), .sv (.str v40.2.2.2)])), (288, some (.row Xgb v40.1)), (64, none), (80, none), (96, none)])) (kW hC []) (fun v24 s h => ?_) fun v40 h => ?_
 unfold Xg6 at h
 refine Xar (Xab ?_)
 iterate 4 refine kO hT hC ?_
 refine Vc.nil ?_
 refine kS h ?_ ?_ <;> intro b16 h
 refine kt b16 (Xag (Xaf (Xar (Xam (Xab ?_)))))
 refine kO hT hC ?_
 refine Vc.nil ?_
 refine kL [3,4,5,6,9,11,12,13,14] [64,80,96,144,192,288] [_,_,_,_,_,_,_,_,_] [_,_,_,_,_,_] ?_
 refine kX h (fun v45 => ([(14, .sv (.int .i64 v45.1))], [(192, some (.box [.sv (.int .i64 v45.2.2.1), .sv (.int .i64 v45.2.2.2.1), .sv (.str v45.2.2.2.2)])), (288, some (.row Xgb v45.2.1))])) (fun v50 => ([(14, .any)], [(192, some (.box [.sv (.int .i64 v50.2.1), .sv (.int .i64 v50.2.2.1), .sv (.str v50.2.2.2)])), (288, some (.row Xgb v50.1))])) (kW hC []) (fun v45 s h => ?_) fun v50 h => ?_
 unfold Xg7 at h
 refine Xar (Xab ?_)
 iterate 4 refine kO hT hC ?_
 refine Vc.nil ?_
 refine kS h ?_ ?_ <;> intro b19 h
 refine kt b19 (Xag (Xaf (Xar (Xam ?_))))
 refine Xee hm ?_
 iterate 5 refine kO hT hC ?_
 refine kC hC [(16, 1280)] Tryz.call99 h (fun _ => Xe8) fun q51 h => ?_
 iterate 4 refine kO hT hC ?_
 obtain ⟨q52, hq, h⟩ := Xbn h
 refine Yj3 hC [(16, 1360), (17, 1361)] rfl rfl rfl rfl Tryz.call16 (Xue hq) rfl (by decide) trivial rfl (.inr ⟨rfl, ⟨trivial, trivial, trivial⟩⟩) rfl ?_
 iterate 8 refine kO hT hC ?_
 refine kD (Xab ?_)
 iterate 3 refine kO hT hC ?_
 obtain ⟨hq, h⟩ := Xbk h
 refine Xyj hT hC rfl rfl rfl rfl ⟨fun _ _ => rfl, by rw [Yds]; exact hq⟩ ?_
 rw [Yds]
 refine kO hT hC ?_
 refine Vc.nil (Xac ?_)
 iterate 4 refine kO hT hC ?_
 refine kC hC [] Tryz.call89 h (fun _ => Ydf) fun q53 h => ?_
 refine kO hT hC ?_
 refine Vc.nil (Xan (Xaf (Xac ?_)))
 iterate 3 refine kO hT hC ?_
 refine Vc.nil ?_
 obtain rfl := kj h
 exact Xvc (kW hC [(288, 1472)])
 exact kf b19 (Xao (Xav ku))
 refine Xan (Xaf (Xac ?_))
 iterate 3 refine kO hT hC ?_
 exact Vc.nil kG
 exact kf b16 (Xao (Xav ku))
 refine Xaf ?_
 refine Xee hm ?_
 iterate 5 refine kO hT hC ?_
 refine kD (Xah ?_)
 obtain rfl := kj h
 exact Xb7 (τ := ⟨[(8, .own 16), (9, .ptr 2000001 0), (10, .sv (.bool true))], [(16, some (.row Xgb v40.1)), (2000001, some (.box [.sv (.int .i64 v40.2.1), .sv (.int .i64 v40.2.2.1), .sv (.str v40.2.2.2)]))]⟩) (kW hC [(16, 288), (2000001, 144)]) rfl ⟨rfl, trivial⟩
def Xzz (r : Bool) : AV := .sv (.bool r)
def Xzy (r : Bool) : Xa1 := []
theorem Ycd {p0 p1 p2 r} (h : Xm9 p0 p1 p2 = some r) : AC Tryz.prog 246 [.agg [.sv (.int .i64 p0.Level), .sv (.int .i64 p0.Bits), .sv (.ints .i64 p0.Cols), .sv (.ints .i64 p0.Rows)], .agg [.sv (.int .i64 p1.Qp), .sv (.bool p1.Large), .sv (.bool p1.Exact), .sv (.bool p1.Confined)], .agg [.sv (.int .i64 p2.Tile), .sv (.int .i64 p2.Frame), .sv (.int .i64 p2.Qp)]] [] (Xzz r) (Xzy r) := by
 refine Xae hT Tryz.func246 rfl fun C hC => ?_
 unfold Xm9 at h
 refine Xab ?_
 iterate 4 refine kO hT hC ?_
 refine Vc.nil ?_
 refine kL [3,4,5,6] [48,64,80] [_,_,_,_] [_,_,_] ?_
 refine kA h (fun v1 => ([(6, .sv (.bool v1)), (3, .any), (4, .any), (5, .any)], [(48, none), (64, none), (80, none)])) (fun v1 h => ?_) fun v1 h => ?_
 refine Xcb hm ?_
 refine kO hT hC ?_
 refine kC hC [] Tryz.call82 h (fun _ => Xr8) fun q2 h => ?_
 refine kO hT hC ?_
 refine kS h ?_ ?_ <;> intro b1 h
 iterate 3 refine kI hT hC b1 ?_
 refine kP hC true b1 ?_
 refine kO hT hC ?_
 refine kS h ?_ ?_ <;> intro b2 h
 iterate 3 refine kI hT hC b2 ?_
 refine kE hC b2 [] Tryz.call242 h (fun _ => Xol) fun q3 h => ?_
 refine kI hT hC b2 ?_
 refine kP hC true b2 ?_
 refine kO hT hC ?_
 refine kS h ?_ ?_ <;> intro b3 h
 iterate 3 refine kI hT hC b3 ?_
 refine kP hC true b3 ?_
 refine kO hT hC ?_
 refine kS h ?_ ?_ <;> intro b4 h
 iterate 5 refine kI hT hC b4 ?_
 refine kJ hT hC b4 h fun h => ?_
 refine kI hT hC b4 ?_
 refine kP hC true b4 ?_
 refine kO hT hC ?_
 refine kS h ?_ ?_ <;> intro b5 h
 iterate 2 refine kI hT hC b5 ?_
 refine kE hC b5 [] Tryz.call53 h (fun _ => Xai) fun q4 h => ?_
 refine kP hC true b5 ?_
 refine kO hT hC ?_
 exact kD kM
 iterate 3 refine kF hC b5 ?_
 refine kP hC false b5 ?_
 refine kO hT hC ?_
 exact kD kM
 iterate 7 refine kF hC b4 ?_
 refine kP hC false b4 ?_
 refine kO hT hC ?_
 iterate 3 refine kF hC rfl ?_
 iterate 2 refine kO hT hC ?_
 exact kD kM
 iterate 3 refine kF hC b3 ?_
 refine kP hC false b3 ?_
 refine kO hT hC ?_
 iterate 7 refine kF hC rfl ?_
 iterate 2 refine kO hT hC ?_
 iterate 3 refine kF hC rfl ?_
 iterate 2 refine kO hT hC ?_
 exact kD kM
 iterate 5 refine kF hC b2 ?_
 refine kP hC false b2 ?_
 refine kO hT hC ?_
 iterate 3 refine kF hC rfl ?_
 iterate 2 refine kO hT hC ?_
 iterate 7 refine kF hC rfl ?_
 iterate 2 refine kO hT hC ?_
 iterate 3 refine kF hC rfl ?_
 iterate 2 refine kO hT hC ?_
 exact kD kM
 iterate 3 refine kF hC b1 ?_
 refine kP hC false b1 ?_
 refine kO hT hC ?_
 iterate 5 refine kF hC rfl ?_
 iterate 2 refine kO hT hC ?_
 iterate 3 refine kF hC rfl ?_
 iterate 2 refine kO hT hC ?_
 iterate 7 refine kF hC rfl ?_
 iterate 2 refine kO hT hC ?_
 iterate 3 refine kF hC rfl ?_
 iterate 2 refine kO hT hC ?_
 exact kD kM
 exact Xah kR
def Yax (r : ByteArray) : AV := .sv (.str r)
def Yaw (r : ByteArray) : Xa1 := []
theorem Xl9 {p0 p1 r} (h : Xhh p0 p1 = some r) : AC Tryz.prog 247 [.sv (.int .i64 p0), .sv (.int .i64 p1)] [] (Yax r) (Yaw r) := by
 refine Xae hT Tryz.func247 rfl fun C hC => ?_
 unfold Xhh at h
 refine Xab ?_
 refine kO hT hC ?_
 refine kN ?_
 refine kO hT hC ?_
 obtain ⟨hq, h⟩ := Xbk h
 refine Xyj hT hC rfl rfl rfl rfl ⟨hq.1, hq.2.1, hq.2.2, by decide⟩ ?_
 refine kO hT hC ?_
 refine Vc.nil (Xar (Xab ?_))
 iterate 3 refine kO hT hC ?_
 refine Vc.nil ?_
 refine kL [0,5,6] [128] [_,_,_] [_] ?_
 refine kX h (fun v2 => ([(0, .sv (.int .i64 v2.1)), (6, .sv (.int .i64 v2.2.1))], [(128, some (.ints .u8 v2.2.2))])) (fun v4 => ([(0, .any), (6, .any)], [(128, some (.ints .u8 v4))])) (kW hC []) (fun v2 s h => ?_) fun v4 h => ?_
 unfold Xgt at h
 refine Xar (Xab ?_)
 iterate 2 refine kO hT hC ?_
 refine Vc.nil ?_
 refine kS h ?_ ?_ <;> intro b3 h
 refine kt b3 (Xag (Xaf (Xar (Xam (Xab ?_)))))
 iterate 3 refine kO hT hC ?_
 refine kQ hT hC h fun h => ?_
 iterate 2 refine kO hT hC ?_
 iterate 2 refine kQ hT hC h fun h => ?_
 refine Vc.nil (Xac ?_)
 refine kO hT hC ?_
 refine kQ hT hC h fun h => ?_
 refine kO hT hC ?_
 refine Vc.nil (Xan (Xaf (Xac ?_)))
 iterate 3 refine kO hT hC ?_
 exact Vc.nil kG
 exact kf b3 (Xao (Xav ku))
 refine Xaf (Xab ?_)
 iterate 3 refine kO hT hC ?_
 exact Vc.nil (Xah kR)
def Xv8 (r : (ByteArray × Bool)) : AV := .tup [.sv (.str r.1), .sv (.bool r.2)]
def Xv7 (r : (ByteArray × Bool)) : Xa1 := []
theorem Xz0 {p0 p1 p2 r} (h : Xjw p0 p1 p2 = some r) : AC Tryz.prog 228 [.agg [.sv (.int .i64 p0.Level), .sv (.int .i64 p0.Bits), .sv (.ints .i64 p0.Cols), .sv (.ints .i64 p0.Rows)], .agg [.sv (.int .i64 p1.Qp), .sv (.bool p1.Large), .sv (.bool p1.Exact), .sv (.bool p1.Confined)], .agg [.sv (.int .i64 p2.Tile), .sv (.int .i64 p2.Frame), .sv (.int .i64 p2.Qp)]] [] (Xv8 r) (Xv7 r) := by
 refine Xae hT Tryz.func228 rfl fun C hC => ?_
 unfold Xjw at h
 refine Xab ?_
 iterate 5 refine kO hT hC ?_
 refine Vc.nil (Xar (Xab ?_))
 iterate 3 refine kO hT hC ?_
 refine kC hC [] Tryz.call246 h (fun _ => Ycd) fun q1 h => ?_
 refine kO hT hC ?_
 refine Vc.nil ?_
 refine kS h ?_ ?_ <;> intro b1 h
 refine kt b1 (Xab ?_)
 iterate 2 refine kO hT hC ?_
 exact Vc.nil (Xah (Xat kR))
 refine kf b1 (Xag (Xaf ?_))
 refine Xee hm ?_
 iterate 2 refine kO hT hC ?_
 refine kC hC [] Tryz.call234 h (fun _ => Xb4) fun q2 h => ?_
 iterate 4 refine kO hT hC ?_
 refine kC hC [] Tryz.call247 h (fun _ => Xl9) fun q3 h => ?_
 refine kQ hT hC h fun h => ?_
 iterate 5 refine kO hT hC ?_
 refine kC hC [] Tryz.call235 h (fun _ => Xik) fun q4 h => ?_
 refine kQ hT hC h fun h => ?_
 iterate 2 refine kO hT hC ?_
 exact kD (Xah kR)
def Xxm (r : ByteArray) : AV := .sv (.str r)
def Xxl (r : ByteArray) : Xa1 := []
theorem Xfr {p0 r} (h : Xc5 p0 = some r) : AC Tryz.prog 258 [.sv (.ints .i64 p0)] [] (Xxm r) (Xxl r) := by
 refine Xae hT Tryz.func258 rfl fun C hC => ?_
 unfold Xc5 at h
 refine Xab ?_
 refine kO hT hC ?_
 refine kN ?_
 refine kO hT hC ?_
 refine kN ?_
 refine kO hT hC ?_
 refine kN ?_
 refine kO hT hC ?_
 refine Vc.nil (Xar (Xab ?_))
 refine kO hT hC ?_
 refine Vc.nil ?_
 refine kL [0,3,4,5,6] [] [_,_,_,_,_] [] ?_
 refine kX h (fun v5 => ([(3, .sv (.int .i64 v5.1)), (4, .sv (.int .i64 v5.2.1)), (5, .sv (.str v5.2.2.1)), (6, .sv (.int .i64 v5.2.2.2))], [])) (fun v10 => ([(3, .sv (.int .i64 v10.1)), (5, .sv (.str v10.2)), (0, .any), (4, .any), (6, .any)], [])) (kW hC []) (fun v5 s h => ?_) fun v10 h => ?_
 unfold Xdx at h
 refine Xar (Xab ?_)
 iterate 4 refine kO hT hC ?_
 refine Vc.nil ?_
 refine kS h ?_ ?_ <;> intro b5 h
 refine kt b5 (Xag (Xaf ?_))
 refine kL [0,3,4,5,6] [] [_,_,_,_,_] [] ?_
 refine kA h (fun v11 => ([(3, .sv (.int .i64 v11.1)), (4, .sv (.int .i64 v11.2.1)), (5, .sv (.str v11.2.2))], [])) (fun v11 h => ?_) fun v11 h => ?_
 refine Xam (Xar (Xab ?_))
 iterate 2 refine kO hT hC ?_
 refine kQ hT hC h fun h => ?_
 iterate 2 refine kO hT hC ?_
 refine Vc.nil ?_
 refine kS h ?_ ?_ <;> intro b6 h
 refine kt b6 (Xab ?_)
 iterate 3 refine kO hT hC ?_
 exact Vc.nil (Xao (Xav (Yfs kM)))
 refine kf b6 (Xag (Xaf (Xab ?_)))
 iterate 3 refine kO hT hC ?_
 refine Vc.nil ?_
 refine Xee hm ?_
 iterate 2 refine kO hT hC ?_
 refine kC hC [] Tryz.call234 h (fun _ => Xb4) fun q12 h => ?_
 refine kQ hT hC h fun h => ?_
 iterate 2 refine kO hT hC ?_
 refine kQ hT hC h fun h => ?_
 refine kO hT hC ?_
 refine kC hC [] Tryz.call235 h (fun _ => Xik) fun q13 h => ?_
 refine kQ hT hC h fun h => ?_
 refine kO hT hC ?_
 refine kD (Xac ?_)
 refine kO hT hC ?_
 exact Vc.nil (Xan kM)
 refine Xac ?_
 iterate 3 refine kO hT hC ?_
 exact Vc.nil kG
 exact kf b5 (Xao (Xav ku))
 refine Xaf (Xab ?_)
 refine kO hT hC ?_
 refine kC hC [] Tryz.call234 h (fun _ => Xb4) fun q15 h => ?_
 refine kO hT hC ?_
 refine kQ hT hC h fun h => ?_
 refine kO hT hC ?_
 exact Vc.nil (Xah kR)
def Ybd (r : ByteArray) : AV := .sv (.str r)
def Ybc (r : ByteArray) : Xa1 := []
theorem Xp8 {p0 p1 r} (h : Xjf p0 p1 = some r) : AC Tryz.prog 255 [.sv (.ints .i64 p0), .agg [.sv (.bool p1.Key), .sv (.int .i64 p1.Qp), .sv (.bool p1.Large), .sv (.bool p1.Exact)]] [] (Ybd r) (Ybc r) := by
 refine Xae hT Tryz.func255 rfl fun C hC => ?_
 unfold Xjf at h
 refine Xab ?_
 iterate 2 refine kO hT hC ?_
 refine Vc.nil (Xar ?_)
 refine kL [0,3] [48] [_,_] [_] ?_
 refine kA h (fun v1 => ([(10, .sv (.bool v1)), (3, .any)], [(48, none)])) (fun v1 h => ?_) fun v1 h => ?_
 refine Xac ?_
 iterate 3 refine kO hT hC ?_
 refine kS h ?_ ?_ <;> intro b1 h
 iterate 2 refine kF hC b1 ?_
 refine kP hC true b1 ?_
 exact Vc.nil kM
 iterate 2 refine kI hT hC b1 ?_
 refine kP hC false b1 ?_
 exact Vc.nil kM
 refine kS h ?_ ?_ <;> intro b2 h
 refine kt b2 (Xab ?_)
 refine kO hT hC ?_
 refine kC hC [] Tryz.call258 h (fun _ => Xfr) fun q2 h => ?_
 refine kO hT hC ?_
 exact Vc.nil (Xah (Xat kR))
 refine kf b2 (Xag (Xaf ?_))
 refine Xee hm ?_
 refine kO hT hC ?_
 refine kQ hT hC h fun h => ?_
 refine kC hC [] Tryz.call258 h (fun _ => Xfr) fun q3 h => ?_
 refine kO hT hC ?_
 refine kQ hT hC h fun h => ?_
 refine kC hC [] Tryz.call258 h (fun _ => Xfr) fun q4 h => ?_
 refine kQ hT hC h fun h => ?_
 refine kO hT hC ?_
 refine kQ hT hC h fun h => ?_
 refine kC hC [] Tryz.call258 h (fun _ => Xfr) fun q5 h => ?_
 refine kQ hT hC h fun h => ?_
 refine kO hT hC ?_
 refine kQ hT hC h fun h => ?_
 refine kC hC [] Tryz.call258 h (fun _ => Xfr) fun q6 h => ?_
 refine kQ hT hC h fun h => ?_
 refine kO hT hC ?_
 exact kD (Xah kR)
def Ybf (r : ByteArray) : AV := .sv (.str r)
def Ybe (r : ByteArray) : Xa1 := []
theorem Ydd {p0 p1 r} (h : Xli p0 p1 = some r) : AC Tryz.prog 248 [.agg [.sv (.int .i64 p0.Kind), .sv (.int .i64 p0.Mode), .sv (.int .i64 p0.Dx), .sv (.int .i64 p0.Dy), .sv (.ints .i64 p0.Levels)], .agg [.sv (.bool p1.Key), .sv (.int .i64 p1.Qp), .sv (.bool p1.Large), .sv (.bool p1.Exact)]] [] (Ybf r) (Ybe r) := by
 refine Xae hT Tryz.func248 rfl fun C hC => ?_
 unfold Xli at h
 refine Xab ?_
 iterate 3 refine kO hT hC ?_
 refine kN ?_
 refine kO hT hC ?_
 refine Vc.nil ?_
 refine kL [2,3,5] [32,48] [_,_,_] [_,_] ?_
 refine kA h (fun v1 => ([(5, .sv (.str v1))], [])) (fun v1 h => ?_) fun v1 h => ?_
 refine Xab ?_
 iterate 3 refine kO hT hC ?_
 refine Vc.nil ?_
 refine kS h ?_ ?_ <;> intro b1 h
 refine kt b1 (Xac ?_)
 iterate 2 refine kO hT hC ?_
 refine kC hC [] Tryz.call234 h (fun _ => Xb4) fun q2 h => ?_
 refine kO hT hC ?_
 exact Vc.nil kM
 exact kf b1 (Xag kM)
 refine Xar (Xab ?_)
 iterate 2 refine kO hT hC ?_
 refine Vc.nil (Xam (Xab ?_))
 iterate 2 refine kO hT hC ?_
 refine Vc.nil ?_
 refine kS h ?_ ?_ <;> intro b2 h
 refine kt b2 ?_
 refine Xee hm ?_
 iterate 3 refine kO hT hC ?_
 refine kC hC [] Tryz.call235 h (fun _ => Xik) fun q3 h => ?_
 refine kQ hT hC h fun h => ?_
 iterate 2 refine kO hT hC ?_
 refine kC hC [] Tryz.call235 h (fun _ => Xik) fun q4 h => ?_
 refine kQ hT hC h fun h => ?_
 iterate 3 refine kO hT hC ?_
 refine kC hC [] Tryz.call255 h (fun _ => Xp8) fun q5 h => ?_
 refine kQ hT hC h fun h => ?_
 refine kO hT hC ?_
 exact kD (Xah (Xdc (Xat kR)))
 refine kf b2 (Xab ?_)
 iterate 2 refine kO hT hC ?_
 refine Vc.nil ?_
 refine kS h ?_ ?_ <;> intro b3 h
 refine kt b3 ?_
 refine Xee hm ?_
 iterate 3 refine kO hT hC ?_
 refine kC hC [] Tryz.call234 h (fun _ => Xb4) fun q6 h => ?_
 refine kQ hT hC h fun h => ?_
 iterate 3 refine kO hT hC ?_
 refine kC hC [] Tryz.call255 h (fun _ => Xp8) fun q7 h => ?_
 refine kQ hT hC h fun h => ?_
 refine kO hT hC ?_
 exact kD (Xah (Xdc (Xat kR)))
 refine kf b3 (Xag (Xan (Xaf (Xab ?_))))
 iterate 2 refine kO hT hC ?_
 exact Vc.nil (Xah kR)
def Ybj (r : ByteArray) : AV := .sv (.str r)
def Ybi (r : ByteArray) : Xa1 := []
theorem Ydh {p0 p1 r} (h : Xlk p0 p1 = some r) : AC Tryz.prog 229 [.sv (Xgb.sv p0), .agg [.sv (.bool p1.Key), .sv (.int .i64 p1.Qp), .sv (.bool p1.Large), .sv (.bool p1.Exact)]] [] (Ybj r) (Ybi r) := by
 refine Xae hT Tryz.func229 rfl fun C hC => ?_
 unfold Xlk at h
 refine Xab ?_
 iterate 2 refine kO hT hC ?_
 refine kN ?_
 iterate 2 refine kO hT hC ?_
 refine Vc.nil (Xar (Xab ?_))
 refine kO hT hC ?_
 refine Vc.nil ?_
 refine kL [0,3,5,6] [48,112] [_,_,_,_] [_,_] ?_
 refine kX h (fun v3 => ([(6, .sv (.int .i64 v3.1))], [(112, some (.ints .u8 v3.2))])) (fun v6 => ([(0, .any), (3, .any), (6, .any)], [(112, some (.ints .u8 v6)), (48, none)])) (kW hC []) (fun v3 s h => ?_) fun v6 h => ?_
 unfold Xgz at h
 refine Xar (Xab ?_)
 iterate 4 refine kO hT hC ?_
 refine Vc.nil ?_
 refine kS h ?_ ?_ <;> intro b3 h
 refine kt b3 (Xag (Xaf (Xar (Xam ?_))))
 refine Xcb hm ?_
 iterate 3 refine kO hT hC ?_
 refine kQ hT hC h fun h => ?_
 iterate 2 refine kO hT hC ?_
 refine kC hC [] Tryz.call248 h (fun _ => Ydd) fun q7 h => ?_
 refine kT hT hC h fun h => ?_
 refine kO hT hC ?_
 refine kD (Xan (Xaf (Xac ?_)))
 iterate 3 refine kO hT hC ?_
 refine Vc.nil ?_
 obtain rfl := kj h
 exact Xvc (kW hC [(112, 336)])
 exact kf b3 (Xao (Xav ku))
 refine Xaf (Xab ?_)
 iterate 3 refine kO hT hC ?_
 exact Vc.nil (Xah kR)
def Xw8 (r : ByteArray) : AV := .sv (.str r)
def Xw7 (r : ByteArray) : Xa1 := []
theorem Xot {p0 r} (h : Xhr p0 = some r) : AC Tryz.prog 256 [.sv (.ints .i64 p0)] [] (Xw8 r) (Xw7 r) := by
 refine Xae hT Tryz.func256 rfl fun C hC => ?_
 unfold Xhr at h
 refine Xab ?_
 refine kO hT hC ?_
 refine kN ?_
 iterate 2 refine kO hT hC ?_
 refine kC hC [] Tryz.call234 h (fun _ => Xb4) fun q1 h => ?_
 refine kO hT hC ?_
 refine Vc.nil (Xar (Xab ?_))
 refine kO hT hC ?_
 refine Vc.nil ?_
 refine kL [0,3,4] [] [_,_,_] [] ?_
 refine kX h (fun v4 => ([(3, .sv (.str v4.1)), (4, .sv (.int .i64 v4.2))], [])) (fun v7 => ([(3, .sv (.str v7)), (0, .any), (4, .any)], [])) (kW hC []) (fun v4 s h => ?_) fun v7 h => ?_
 unfold Xfn at h
 refine Xar (Xab ?_)
 iterate 4 refine kO hT hC ?_
 refine Vc.nil ?_
 refine kS h ?_ ?_ <;> intro b3 h
 refine kt b3 (Xag (Xaf (Xar (Xam (Xac ?_)))))
 iterate 3 refine kO hT hC ?_
 refine kQ hT hC h fun h => ?_
 refine kO hT hC ?_
 refine kC hC [] Tryz.call234 h (fun _ => Xb4) fun q8 h => ?_
 refine kQ hT hC h fun h => ?_
 refine kO hT hC ?_
 refine Vc.nil (Xan (Xaf (Xac ?_)))
 iterate 3 refine kO hT hC ?_
 exact Vc.nil kG
 exact kf b3 (Xao (Xav ku))
 refine Xaf (Xab ?_)
 iterate 2 refine kO hT hC ?_
 exact Vc.nil (Xah kR)
def Ya3 (r : ByteArray) : AV := .sv (.str r)
def Ya2 (r : ByteArray) : Xa1 := []
theorem Yc6 {p0 r} (h : Xlf p0 = some r) : AC Tryz.prog 249 [.agg [.sv (.int .i64 p0.Level), .sv (.int .i64 p0.Bits), .sv (.ints .i64 p0.Cols), .sv (.ints .i64 p0.Rows)]] [] (Ya3 r) (Ya2 r) := by
 refine Xae hT Tryz.func249 rfl fun C hC => ?_
 unfold Xlf at h
 refine Xab ?_
 iterate 2 refine kO hT hC ?_
 refine Vc.nil ?_
 refine Xee hm ?_
 iterate 2 refine kO hT hC ?_
 refine kC hC [] Tryz.call234 h (fun _ => Xb4) fun q1 h => ?_
 iterate 2 refine kO hT hC ?_
 refine kC hC [] Tryz.call247 h (fun _ => Xl9) fun q2 h => ?_
 refine kQ hT hC h fun h => ?_
 iterate 2 refine kO hT hC ?_
 refine kC hC [] Tryz.call256 h (fun _ => Xot) fun q3 h => ?_
 refine kQ hT hC h fun h => ?_
 iterate 2 refine kO hT hC ?_
 refine kC hC [] Tryz.call256 h (fun _ => Xot) fun q4 h => ?_
 refine kQ hT hC h fun h => ?_
 refine kO hT hC ?_
 exact kD (Xah kR)
def Xxa (r : Bool) : AV := .sv (.bool r)
def Xw9 (r : Bool) : Xa1 := []
theorem Ya4 {p0 r} (h : Xj2 p0 = some r) : AC Tryz.prog 251 [.sv (.int .i64 p0)] [] (Xxa r) (Xw9 r) := by
 refine Xae hT Tryz.func251 rfl fun C hC => ?_
 unfold Xj2 at h
 refine Xab ?_
 refine kO hT hC ?_
 refine Vc.nil ?_
 refine kL [0,2] [] [_,_] [] ?_
 refine kA h (fun v1 => ([(2, .sv (.bool v1)), (0, .any)], [])) (fun v1 h => ?_) fun v1 h => ?_
 refine Xac ?_
 iterate 3 refine kO hT hC ?_
 refine kS h ?_ ?_ <;> intro b1 h
 iterate 2 refine kF hC b1 ?_
 refine kP hC true b1 ?_
 refine kO hT hC ?_
 iterate 2 refine kF hC rfl ?_
 iterate 2 refine kO hT hC ?_
 iterate 2 refine kF hC rfl ?_
 iterate 2 refine kO hT hC ?_
 exact Vc.nil kM
 iterate 2 refine kI hT hC b1 ?_
 refine kP hC false b1 ?_
 refine kO hT hC ?_
 refine kS h ?_ ?_ <;> intro b2 h
 iterate 2 refine kF hC b2 ?_
 refine kP hC true b2 ?_
 refine kO hT hC ?_
 iterate 2 refine kF hC rfl ?_
 iterate 2 refine kO hT hC ?_
 exact Vc.nil kM
 iterate 2 refine kI hT hC b2 ?_
 refine kP hC false b2 ?_
 refine kO hT hC ?_
 refine kS h ?_ ?_ <;> intro b3 h
 iterate 2 refine kF hC b3 ?_
 refine kP hC true b3 ?_
 refine kO hT hC ?_
 exact Vc.nil kM
 iterate 2 refine kI hT hC b3 ?_
 refine kP hC false b3 ?_
 refine kO hT hC ?_
 exact Vc.nil kM
 exact Xah kR
def Xun (r : ByteArray) : AV := .sv (.str r)
def Xum (r : ByteArray) : Xa1 := []
theorem Xwx {p0 r} (h : Xij p0 = some r) : AC Tryz.prog 252 [.sv (.str p0)] [] (Xun r) (Xum r) := by
 refine Xae hT Tryz.func252 rfl fun C hC => ?_
 unfold Xij at h
 refine Xab ?_
 refine kO hT hC ?_
 refine kN ?_
 refine kO hT hC ?_
 refine kQ hT hC h fun h => ?_
 refine kO hT hC ?_
 refine kT hT hC h fun h => ?_
 refine kO hT hC ?_
 refine Vc.nil (Xar ?_)
 refine kL [3] [176] [_] [_] ?_
 refine kX h (fun v2 => ([], [(176, some (.ints .u8 v2))])) (fun v4 => ([], [(176, some (.ints .u8 v4))])) (kW hC []) (fun v2 s h => ?_) fun v4 h => ?_
 unfold Xei at h
 refine Xar (Xab ?_)
 iterate 2 refine kO hT hC ?_
 refine kQ hT hC h fun h => ?_
 refine kO hT hC ?_
 refine Vc.nil ?_
 refine kS h ?_ ?_ <;> intro b3 h
 refine kt b3 (Xag (Xaf (Xam (Xac ?_))))
 iterate 2 refine kO hT hC ?_
 refine kT hT hC h fun h => ?_
 refine kO hT hC ?_
 refine Vc.nil (Xan ?_)
 obtain rfl := kj h
 exact Xvc (kW hC [(176, 288)])
 exact kf b3 (Xao (Xav ku))
 refine Xaf (Xab ?_)
 iterate 2 refine kO hT hC ?_
 refine Vc.nil (Xar (Xab ?_))
 refine kO hT hC ?_
 refine Vc.nil ?_
 refine kL [3,4,5] [176,304] [_,_,_] [_,_] ?_
 refine kX h (fun v12 => ([(5, .sv (.int .i64 v12.1))], [(304, some (.ints .u8 v12.2))])) (fun v19 => ([(3, .any), (5, .any)], [(304, some (.ints .u8 v19)), (176, none)])) (kW hC []) (fun v12 s h => ?_) fun v19 h => ?_
 unfold Xdt at h
 refine Xar (Xab ?_)
 iterate 4 refine kO hT hC ?_
 refine Vc.nil ?_
 refine kS h ?_ ?_ <;> intro b12 h
 refine kt b12 (Xag (Xaf (Xar (Xam (Xab ?_)))))
 refine kO hT hC ?_
 refine Vc.nil (Xar (Xab ?_))
 refine kO hT hC ?_
 refine Vc.nil ?_
 refine kL [3,4,5,6,7] [176,304] [_,_,_,_,_] [_,_] ?_
 refine kX h (fun v21 => ([(6, .sv (.int .i64 v21.1)), (7, .sv (.int .i64 v21.2))], [])) (fun v23 => ([(6, .sv (.int .i64 v23)), (7, .any)], [])) (kW hC []) (fun v21 s h => ?_) fun v23 h => ?_
 unfold Xck at h
 refine Xar (Xab ?_)
 iterate 2 refine kO hT hC ?_
 refine Vc.nil ?_
 refine kS h ?_ ?_ <;> intro b15 h
 refine kt b15 (Xag (Xaf (Xar (Xam (Xac ?_)))))
 iterate 6 refine kO hT hC ?_
 iterate 2 refine kQ hT hC h fun h => ?_
 iterate 4 refine kO hT hC ?_
 refine Vc.nil (Xan (Xaf (Xac ?_)))
 iterate 3 refine kO hT hC ?_
 exact Vc.nil kG
 exact kf b15 (Xao (Xav ku))
 refine Xaf (Xac ?_)
 iterate 4 refine kO hT hC ?_
 refine kT hT hC h fun h => ?_
 refine kO hT hC ?_
 refine Vc.nil (Xan (Xaf (Xac ?_)))
 iterate 3 refine kO hT hC ?_
 refine Vc.nil ?_
 obtain rfl := kj h
 exact Xvc (kW hC [(304, 720)])
 exact kf b12 (Xao (Xav ku))
 refine Xaf (Xab ?_)
 iterate 3 refine kO hT hC ?_
 exact Vc.nil (Xah kR)
def Yat (r : (ByteArray × Bool)) : AV := .tup [.sv (.str r.1), .sv (.bool r.2)]
def Yas (r : (ByteArray × Bool)) : Xa1 := []
theorem Xl7 {p0 p1 r} (h : Xhg p0 p1 = some r) : AC Tryz.prog 231 [.sv (.int .i64 p0), .sv (.str p1)] [] (Yat r) (Yas r) := by
 refine Xae hT Tryz.func231 rfl fun C hC => ?_
 unfold Xhg at h
 refine Xab ?_
 iterate 2 refine kO hT hC ?_
 refine Vc.nil (Xar ?_)
 refine kL [0,1] [] [_,_] [] ?_
 refine kA h (fun v1 => ([(13, .sv (.bool v1))], [])) (fun v1 h => ?_) fun v1 h => ?_
 refine Xac ?_
 refine kO hT hC ?_
 refine kC hC [] Tryz.call251 h (fun _ => Ya4) fun q2 h => ?_
 iterate 2 refine kO hT hC ?_
 refine kS h ?_ ?_ <;> intro b1 h
 refine kI hT hC (kn b1) ?_
 refine kE hC (kn b1) [] Tryz.call83 h (fun _ => Yfc) fun q3 h => ?_
 refine kI hT hC (kn b1) ?_
 refine kP hC false (kn b1) ?_
 exact Vc.nil kM
 iterate 3 refine kF hC (kn b1) ?_
 refine kP hC true (kn b1) ?_
 exact Vc.nil kM
 refine kS h ?_ ?_ <;> intro b2 h
 refine kt b2 (Xab ?_)
 iterate 2 refine kO hT hC ?_
 exact Vc.nil (Xah (Xat kR))
 refine kf b2 (Xag (Xaf ?_))
 refine Xee hm ?_
 iterate 5 refine kO hT hC ?_
 refine kC hC [] Tryz.call252 h (fun _ => Xwx) fun q4 h => ?_
 refine kQ hT hC h fun h => ?_
 iterate 2 refine kO hT hC ?_
 exact kD (Xah kR)
def Xw6 (r : ByteArray) : AV := .sv (.str r)
def Xw5 (r : ByteArray) : Xa1 := []
theorem Xlc {p0 r} (h : Xhq p0 = some r) : AC Tryz.prog 257 [.sv (.bool p0)] [] (Xw6 r) (Xw5 r) := by
 refine Xae hT Tryz.func257 rfl fun C hC => ?_
 unfold Xhq at h
 refine Xab ?_
 refine kO hT hC ?_
 refine Vc.nil (Xar (Xab ?_))
 refine kO hT hC ?_
 refine Vc.nil ?_
 refine kS h ?_ ?_ <;> intro b1 h
 refine kt b1 (Xab ?_)
 refine kO hT hC ?_
 exact Vc.nil (Xah (Xat kR))
 refine kf b1 (Xag (Xaf (Xab ?_)))
 refine kO hT hC ?_
 exact Vc.nil (Xah kR)
def Ya1 (r : ByteArray) : AV := .sv (.str r)
def Ya0 (r : ByteArray) : Xa1 := []
theorem Yc4 {p0 r} (h : Xle p0 = some r) : AC Tryz.prog 250 [.agg [.sv (.int .i64 p0.Qp), .sv (.bool p0.Large), .sv (.bool p0.Exact), .sv (.bool p0.Confined)]] [] (Ya1 r) (Ya0 r) := by
 refine Xae hT Tryz.func250 rfl fun C hC => ?_
 unfold Xle at h
 refine Xab ?_
 iterate 2 refine kO hT hC ?_
 refine Vc.nil ?_
 refine Xee hm ?_
 iterate 2 refine kO hT hC ?_
 refine kC hC [] Tryz.call247 h (fun _ => Xl9) fun q1 h => ?_
 iterate 2 refine kO hT hC ?_
 refine kC hC [] Tryz.call257 h (fun _ => Xlc) fun q2 h => ?_
 refine kQ hT hC h fun h => ?_
 iterate 2 refine kO hT hC ?_
 refine kC hC [] Tryz.call257 h (fun _ => Xlc) fun q3 h => ?_
 refine kQ hT hC h fun h => ?_
 iterate 2 refine kO hT hC ?_
 refine kC hC [] Tryz.call257 h (fun _ => Xlc) fun q4 h => ?_
 refine kQ hT hC h fun h => ?_
 refine kO hT hC ?_
 exact kD (Xah kR)
def Xqy (r : (List ByteArray)) : AV := .own 16
def Xqx (r : (List ByteArray)) : Xa1 := [(16, .row Xa2 r)]
theorem Xsg {p0 r} (h : Xdp p0 = some r) : AC Tryz.prog 230 [.agg [.sv (.int .i64 p0.Seq.Level), .sv (.int .i64 p0.Seq.Bits), .sv (.ints .i64 p0.Seq.Cols), .sv (.ints .i64 p0.Seq.Rows), .sv (.int .i64 p0.Par.Qp), .sv (.bool p0.Par.Large), .sv (.bool p0.Par.Exact), .sv (.bool p0.Par.Confined), .sv (.int .i64 p0.Rate.Qp), .sv (.int .i64 p0.Rate.Target), .sv (.int .i64 p0.Rate.Debt), .sv (.int .i64 p0.Frame), .sv (.int .i64 p0.Since), .sv (.int .i64 p0.Every), .sv (.int .i64 p0.Reach), .sv (.bool p0.Has), .sv (.int .i64 p0.Ref.Wide), .sv (.int .i64 p0.Ref.High), .sv (.str p0.Ref.Dots)]] [] (Xqy r) (Xqx r) := by
 refine Xae hT Tryz.func230 rfl fun C hC => ?_
 unfold Xdp at h
 refine Xab ?_
 iterate 2 refine kO hT hC ?_
 refine Vc.nil (Xar (Xab ?_))
 refine kO hT hC ?_
 refine kC hC [] Tryz.call220 h (fun _ => Xg4) fun q1 h => ?_
 refine kO hT hC ?_
 refine Vc.nil ?_
 refine kS h ?_ ?_ <;> intro b1 h
 refine kt b1 (Xab ?_)
 iterate 2 refine kO hT hC ?_
 refine Vc.nil (Xah (Xat ?_))
 obtain rfl := kj h
 exact Xb7 (τ := ⟨[(2, .own 16)], [(16, some (.row Xa2 ([] : List ByteArray)))]⟩) (kW hC [(16, 160)]) rfl ⟨rfl, trivial⟩
 refine kf b1 (Xag (Xaf (Xab ?_)))
 iterate 2 refine kO hT hC ?_
 refine kC hC [] Tryz.call249 h (fun _ => Yc6) fun q2 h => ?_
 refine kC hC [] Tryz.call231 h (fun _ => Xl7) fun q3 h => ?_
 iterate 5 refine kO hT hC ?_
 refine kN ?_
 iterate 2 refine kO hT hC ?_
 refine kC hC [] Tryz.call250 h (fun _ => Yc4) fun q4 h => ?_
 refine kC hC [] Tryz.call231 h (fun _ => Xl7) fun q5 h => ?_
 iterate 5 refine kO hT hC ?_
 refine kN ?_
 iterate 4 refine kO hT hC ?_
 refine Vc.nil (Xah ?_)
 obtain rfl := kj h
 exact Xb7 (τ := ⟨[(2, .own 16)], [(16, some (.row Xa2 ([q3.1, q5.1])))]⟩) (kW hC [(16, 432)]) rfl ⟨rfl, trivial⟩
def Xt7 (r : Rate) : AV := .agg [.sv (.int .i64 r.Qp), .sv (.int .i64 r.Target), .sv (.int .i64 r.Debt)]
def Xt6 (r : Rate) : Xa1 := []
theorem Xwb {p0 p1 r} (h : Xie p0 p1 = some r) : AC Tryz.prog 232 [.agg [.sv (.int .i64 p0.Qp), .sv (.int .i64 p0.Target), .sv (.int .i64 p0.Debt)], .sv (.int .i64 p1)] [] (Xt7 r) (Xt6 r) := by
 refine Xae hT Tryz.func232 rfl fun C hC => ?_
 unfold Xie at h
 refine Xab ?_
 iterate 2 refine kO hT hC ?_
 refine Vc.nil (Xar (Xab ?_))
 refine kO hT hC ?_
 refine kC hC [] Tryz.call243 h (fun _ => Xl3) fun q1 h => ?_
 refine kO hT hC ?_
 refine Vc.nil ?_
 refine kS h ?_ ?_ <;> intro b1 h
 refine kt b1 (Xab ?_)
 iterate 2 refine kO hT hC ?_
 exact Vc.nil (Xah (Xat kR))
 refine kf b1 (Xag (Xaf ?_))
 refine Xee hm ?_
 iterate 3 refine kO hT hC ?_
 refine kC hC [] Tryz.call159 h (fun _ => Xbr) fun q2 h => ?_
 iterate 10 refine kO hT hC ?_
 refine kC hC [] Tryz.call159 h (fun _ => Xbr) fun q3 h => ?_
 refine kO hT hC ?_
 refine kD (Xab ?_)
 iterate 3 refine kO hT hC ?_
 refine Vc.nil ?_
 refine kL [2,4,5,6] [32,64] [_,_,_,_] [_,_] ?_
 refine kA h (fun v4 => ([(6, .sv (.int .i64 v4))], [])) (fun v4 h => ?_) fun v4 h => ?_
 refine Xab ?_
 iterate 4 refine kO hT hC ?_
 refine Vc.nil ?_
 refine kS h ?_ ?_ <;> intro b2 h
 refine kt b2 (Xac ?_)
 iterate 3 refine kO hT hC ?_
 exact Vc.nil kM
 exact kf b2 (Xag kM)
 refine kL [2,4,5,6] [32,64] [_,_,_,_] [_,_] ?_
 refine kA h (fun v5 => ([(6, .sv (.int .i64 v5))], [])) (fun v5 h => ?_) fun v5 h => ?_
 refine Xab ?_
 iterate 5 refine kO hT hC ?_
 refine Vc.nil ?_
 refine kS h ?_ ?_ <;> intro b3 h
 refine kt b3 (Xac ?_)
 iterate 3 refine kO hT hC ?_
 exact Vc.nil kM
 exact kf b3 (Xag kM)
 refine Xee hm ?_
 refine kO hT hC ?_
 refine kC hC [] Tryz.call159 h (fun _ => Xbr) fun q6 h => ?_
 iterate 5 refine kO hT hC ?_
 exact kD (Xah kR)
def Xq0 (r : (Xcw × (List ByteArray) × Bool)) : AV := .tup [.agg [.sv (.int .i64 r.1.Seq.Level), .sv (.int .i64 r.1.Seq.Bits), .own 16, .own 17, .sv (.int .i64 r.1.Par.Qp), .sv (.bool r.1.Par.Large), .sv (.bool r.1.Par.Exact), .sv (.bool r.1.Par.Confined), .sv (.int .i64 r.1.Rate.Qp), .sv (.int .i64 r.1.Rate.Target), .sv (.int .i64 r.1.Rate.Debt), .sv (.int .i64 r.1.Frame), .sv (.int .i64 r.1.Since), .sv (.int .i64 r.1.Every), .sv (.int .i64 r.1.Reach), .sv (.bool r.1.Has), .sv (.int .i64 r.1.Ref.Wide), .sv (.int .i64 r.1.Ref.High), .sv (.str r.1.Ref.Dots)], .own 18, .sv (.bool r.2.2)]
def Xqz (r : (Xcw × (List ByteArray) × Bool)) : Xa1 := [(16, .ints .i64 r.1.Seq.Cols), (17, .ints .i64 r.1.Seq.Rows), (18, .row Xa2 r.2.1)]
theorem Xsi {p0 p1 p2 r} (h : Xfj p0 p1 p2 = some r) : AC Tryz.prog 186 [.agg [.sv (.int .i64 p0.Seq.Level), .sv (.int .i64 p0.Seq.Bits), .sv (.ints .i64 p0.Seq.Cols), .sv (.ints .i64 p0.Seq.Rows), .sv (.int .i64 p0.Par.Qp), .sv (.bool p0.Par.Large), .sv (.bool p0.Par.Exact), .sv (.bool p0.Par.Confined), .sv (.int .i64 p0.Rate.Qp), .sv (.int .i64 p0.Rate.Target), .sv (.int .i64 p0.Rate.Debt), .sv (.int .i64 p0.Frame), .sv (.int .i64 p0.Since), .sv (.int .i64 p0.Every), .sv (.int .i64 p0.Reach), .sv (.bool p0.Has), .sv (.int .i64 p0.Ref.Wide), .sv (.int .i64 p0.Ref.High), .sv (.str p0.Ref.Dots)], .agg [.sv (.int .i64 p1.Wide), .sv (.int .i64 p1.High), .sv (.str p1.Dots)], .sv (.bool p2)] [] (Xq0 r) (Xqz r) := by
 refine Xae hT Tryz.func186 rfl fun C hC => ?_
 unfold Xfj at h
 refine Xab ?_
 iterate 5 refine kO hT hC ?_
 refine kN ?_
 iterate 2 refine kO hT hC ?_
 refine kC hC [] Tryz.call184 h (fun _ => Xl5) fun q1 h => ?_
 iterate 5 refine kO hT hC ?_
 refine kN ?_
 iterate 2 refine kO hT hC ?_
 refine kC hC [] Tryz.call224 h (fun _ => Yce) fun q2 h => ?_
 refine kO hT hC ?_
 refine Vc.nil (Xar ?_)
 refine kL [3,4,6,9,10,11] [48,64,96] [_,_,_,_,_,_] [_,_,_] ?_
 refine kA h (fun v3 => ([(61, .sv (.bool v3)), (9, .any), (10, .any)], [])) (fun v3 h => ?_) fun v3 h => ?_
 refine Xac ?_
 refine kO hT hC ?_
 refine kC hC [] Tryz.call220 h (fun _ => Xg4) fun q4 h => ?_
 iterate 2 refine kO hT hC ?_
 refine kS h ?_ ?_ <;> intro b1 h
 refine kI hT hC (kn b1) ?_
 refine kE hC (kn b1) [] Tryz.call96 h (fun _ => Xcc) fun q5 h => ?_
 refine kI hT hC (kn b1) ?_
 refine kP hC false (kn b1) ?_
 refine kO hT hC ?_
 refine kS h ?_ ?_ <;> intro b2 h
 iterate 4 refine kI hT hC (kn b2) ?_
 refine kP hC false (kn b2) ?_
 refine kO hT hC ?_
 refine kS h ?_ ?_ <;> intro b3 h
 iterate 4 refine kF hC b3 ?_
 refine kP hC true b3 ?_
 refine kO hT hC ?_
 iterate 3 refine kF hC rfl ?_
 iterate 3 refine Xj6 hC rfl rfl rfl rfl rfl rfl ?_
 refine kF hC rfl ?_
 refine kO hT hC ?_
 exact Vc.nil kM
 iterate 4 refine kI hT hC b3 ?_
 refine kP hC false b3 ?_
 refine kO hT hC ?_
 refine kS h ?_ ?_ <;> intro b4 h
 iterate 3 refine kF hC b4 ?_
 iterate 3 refine Xj6 hC rfl rfl rfl rfl rfl rfl ?_
 refine kF hC b4 ?_
 refine kP hC true b4 ?_
 exact Vc.nil kM
 iterate 3 refine kI hT hC b4 ?_
 refine kS h ?_ ?_ <;> intro b5 h
 iterate 3 refine kF hC (kn b5) ?_
 refine Xcu hC rfl rfl rfl rfl b4 rfl rfl (b := false) (kn b5) rfl rfl rfl trivial ?_
 refine kP hC false b4 ?_
 exact Vc.nil kM
 iterate 3 refine kI hT hC (kn b5) ?_
 refine Xcu hC rfl rfl rfl rfl b4 rfl rfl (b := true) (kn b5) rfl rfl rfl trivial ?_
 refine kP hC false b4 ?_
 exact Vc.nil kM
 iterate 4 refine kF hC (kn b2) ?_
 refine kP hC true (kn b2) ?_
 refine kO hT hC ?_
 iterate 4 refine kF hC rfl ?_
 iterate 2 refine kO hT hC ?_
 iterate 3 refine kF hC rfl ?_
 iterate 3 refine Xj6 hC rfl rfl rfl rfl rfl rfl ?_
 refine kF hC rfl ?_
 refine kO hT hC ?_
 exact Vc.nil kM
 iterate 3 refine kF hC (kn b1) ?_
 refine kP hC true (kn b1) ?_
 refine kO hT hC ?_
 iterate 4 refine kF hC rfl ?_
 iterate 2 refine kO hT hC ?_
 iterate 4 refine kF hC rfl ?_
 iterate 2 refine kO hT hC ?_
 iterate 3 refine kF hC rfl ?_
 iterate 3 refine Xj6 hC rfl rfl rfl rfl rfl rfl ?_
 refine kF hC rfl ?_
 refine kO hT hC ?_
 exact Vc.nil kM
 refine kS h ?_ ?_ <;> intro b6 h
 refine kt b6 (Xab ?_)
 iterate 2 refine kO hT hC ?_
 refine kC hC [(16, 1024), (17, 1025)] Tryz.call225 h (fun _ => Xor) fun q6 h => ?_
 iterate 2 refine kO hT hC ?_
 refine kN ?_
 iterate 5 refine kO hT hC ?_
 refine Vc.nil (Xah (Xat ?_))
 obtain rfl := kj h
 exact Xb7 (τ := ⟨[(6, .ptr 2000000 0), (7, .own 18), (8, .sv (.bool false))], [(16, some (.ints .i64 q6.Cols)), (17, some (.ints .i64 q6.Rows)), (18, some (.row Xa2 ([] : List ByteArray))), (2000000, some (.box [.sv (.int .i64 q6.Level), .sv (.int .i64 q6.Bits), .own 16, .own 17, .sv (.int .i64 p0.Par.Qp), .sv (.bool p0.Par.Large), .sv (.bool p0.Par.Exact), .sv (.bool p0.Par.Confined), .sv (.int .i64 p0.Rate.Qp), .sv (.int .i64 p0.Rate.Target), .sv (.int .i64 p0.Rate.Debt), .sv (.int .i64 p0.Frame), .sv (.int .i64 p0.Since), .sv (.int .i64 p0.Every), .sv (.int .i64 p0.Reach), .sv (.bool p0.Has), .sv (.int .i64 p0.Ref.Wide), .sv (.int .i64 p0.Ref.High), .sv (.str p0.Ref.Dots)]))]⟩) (kW hC [(16, 1024), (17, 1025), (18, 1072), (2000000, 96)]) rfl ⟨rfl, rfl, rfl, trivial⟩
 refine kf b6 (Xag (Xaf ?_))
 refine Xee hm ?_
 iterate 4 refine kO hT hC ?_
 refine kC hC [] Tryz.call226 h (fun _ => Yfa) fun q7 h => ?_
 iterate 9 refine kO hT hC ?_
 refine kD (Xab ?_)
 iterate 6 refine kO hT hC ?_
 refine kC hC [(16, 1392)] Tryz.call227 h (fun _ => Yao) fun q8 h => ?_
 iterate 8 refine kO hT hC ?_
 refine kN ?_
 iterate 9 refine kO hT hC ?_
 refine kC hC [] Tryz.call228 h (fun _ => Xz0) fun q9 h => ?_
 iterate 5 refine kO hT hC ?_
 refine kN ?_
 iterate 3 refine kO hT hC ?_
 refine kC hC [] Tryz.call229 h (fun _ => Ydh) fun q10 h => ?_
 refine kQ hT hC h fun h => ?_
 refine kO hT hC ?_
 refine kN ?_
 iterate 2 refine kO hT hC ?_
 refine kN ?_
 refine kO hT hC ?_
 refine Vc.nil ?_
 refine kL [3,6,11,14,18,19,20] [48,96,224,1744] [_,_,_,_,_,_,_] [_,_,_,_] ?_
 refine kA h (fun v11 => ([(20, .sv (.int .i64 v11.1))], [(1744, some (.row Xa2 v11.2))])) (fun v11 h => ?_) fun v11 h => ?_
 refine Xab ?_
 refine kO hT hC ?_
 refine Vc.nil ?_
 refine kS h ?_ ?_ <;> intro b7 h
 refine kt b7 (Xab ?_)
 refine kO hT hC ?_
 refine Vc.nil (Xac ?_)
 refine kO hT hC ?_
 refine kC hC [(16, 1792)] Tryz.call230 h (fun _ => Xsg) fun q12 h => ?_
 refine kO hT hC ?_
 refine Vc.nil ?_
 obtain rfl := kj h
 exact Xnh (kW hC [(1744, 1792)])
 exact kf b7 (Xag kM)
 refine Xab ?_
 iterate 2 refine kO hT hC ?_
 refine kC hC [] Tryz.call231 h (fun _ => Xl7) fun q13 h => ?_
 iterate 5 refine kO hT hC ?_
 refine kN ?_
 iterate 3 refine kO hT hC ?_
 obtain ⟨hq, h⟩ := Xbk h
 refine Xyj hT hC rfl rfl rfl rfl ⟨fun _ _ => rfl, by rw [Xfz]; exact hq⟩ ?_
 rw [Xfz]
 refine kO hT hC ?_
 refine kN ?_
 iterate 3 refine kO hT hC ?_
 refine kN ?_
 iterate 2 refine kO hT hC ?_
 refine kC hC [(16, 2016), (17, 2017)] Tryz.call225 h (fun _ => Xor) fun q14 h => ?_
 iterate 2 refine kO hT hC ?_
 refine kN ?_
 iterate 4 refine kO hT hC ?_
 refine kC hC [] Tryz.call232 h (fun _ => Xwb) fun q15 h => ?_
 iterate 2 refine kO hT hC ?_
 refine kN ?_
 iterate 7 refine kO hT hC ?_
 iterate 2 refine kQ hT hC h fun h => ?_
 iterate 2 refine kO hT hC ?_
 refine kN ?_
 iterate 5 refine kO hT hC ?_
 refine Vc.nil ?_
 refine kL [6,11,14,19,23] [96,224,368,1952,2016,2017] [_,_,_,_,_] [_,_,_,_,_,_] ?_
 refine kA h (fun v16 => ([(11, .any)], [(368, some (.box [.sv (.int .i64 q14.Level), .sv (.int .i64 q14.Bits), .own 2016, .own 2017, .sv (.int .i64 p0.Par.Qp), .sv (.bool p0.Par.Large), .sv (.bool p0.Par.Exact), .sv (.bool p0.Par.Confined), .sv (.int .i64 q15.Qp), .sv (.int .i64 q15.Target), .sv (.int .i64 q15.Debt), .sv (.int .i64 ((Xaa .i64 (p0.Frame + 1)).tmod (Xaa .i64 (1 * 2 ^ min (Xaa .u64 (p0.Seq.Bits)).toNat (IntKind.bits .i64))))), .sv (.int .i64 v16), .sv (.int .i64 p0.Every), .sv (.int .i64 p0.Reach), .sv (.bool p0.Has), .sv (.int .i64 p0.Ref.Wide), .sv (.int .i64 p0.Ref.High), .sv (.str p0.Ref.Dots)]))])) (fun v16 h => ?_) fun v16 h => ?_
 refine Xab ?_
 refine kO hT hC ?_
 refine Vc.nil ?_
 refine kS h ?_ ?_ <;> intro b8 h
 refine kt b8 (Xac ?_)
 iterate 2 refine kO hT hC ?_
 exact Vc.nil kM
 exact kf b8 (Xag kM)
 refine Xab ?_
 iterate 2 refine kO hT hC ?_
 refine kN ?_
 iterate 3 refine kO hT hC ?_
 refine kN ?_
 iterate 5 refine kO hT hC ?_
 refine Vc.nil (Xah ?_)
 obtain rfl := kj h
 exact Xb7 (τ := ⟨[(6, .ptr 2000000 0), (7, .own 18), (8, .sv (.bool true))], [(16, some (.ints .i64 q14.Cols)), (17, some (.ints .i64 q14.Rows)), (18, some (.row Xa2 (v11.2 ++ ([q13.1])))), (2000000, some (.box [.sv (.int .i64 q14.Level), .sv (.int .i64 q14.Bits), .own 16, .own 17, .sv (.int .i64 p0.Par.Qp), .sv (.bool p0.Par.Large), .sv (.bool p0.Par.Exact), .sv (.bool p0.Par.Confined), .sv (.int .i64 q15.Qp), .sv (.int .i64 q15.Target), .sv (.int .i64 q15.Debt), .sv (.int .i64 ((Xaa .i64 (p0.Frame + 1)).tmod (Xaa .i64 (1 * 2 ^ min (Xaa .u64 (p0.Seq.Bits)).toNat (IntKind.bits .i64))))), .sv (.int .i64 v16), .sv (.int .i64 p0.Every), .sv (.int .i64 p0.Reach), .sv (.bool true), .sv (.int .i64 q8.2.1.Wide), .sv (.int .i64 q8.2.1.High), .sv (.str q8.2.1.Dots)]))]⟩) (kW hC [(16, 2016), (17, 2017), (18, 1952), (2000000, 96)]) rfl ⟨rfl, rfl, rfl, trivial⟩
def Xx0 (r : (Pic × Xau)) : AV := .agg [.sv (.int .i64 r.1.Wide), .sv (.int .i64 r.1.High), .sv (.str r.1.Dots)]
def Xxz (r : (Pic × Xau)) : Xa1 := [(0, .box [.sv (.ints .u8 r.2.b_), .sv (.int .i64 r.2.i_), .sv (.int .i64 r.2.h_)])]
theorem Ybk {p0 p1 r} (h : Xj4 p0 p1 = some r) : AC Tryz.prog 187 [.ptr 0 0, .agg [.sv (.int .i64 p1.Wide), .sv (.int .i64 p1.High), .sv (.str p1.Dots)]] [(0, .box [.sv (.ints .u8 p0.b_), .sv (.int .i64 p0.i_), .sv (.int .i64 p0.h_)])] (Xx0 r) (Xxz r) := by
 refine Xae hT Tryz.func187 rfl fun C hC => ?_
 unfold Xj4 at h
 refine Xab ?_
 iterate 2 refine kO hT hC ?_
 refine kN ?_
 refine kO hT hC ?_
 refine kC hC [(0, 0)] Tryz.call74 h (fun _ => Xap) fun q1 h => ?_
 iterate 2 refine kO hT hC ?_
 refine kN ?_
 refine kO hT hC ?_
 refine kC hC [(0, 0)] Tryz.call74 h (fun _ => Xap) fun q2 h => ?_
 iterate 2 refine kO hT hC ?_
 refine Vc.nil ?_
 refine kL [0,3,4,5,6] [0,48,64] [_,_,_,_,_] [_,_,_] ?_
 refine kA h (fun v3 => ([(5, .sv (.int .i64 v3.1)), (6, .sv (.int .i64 v3.2.1))], [(0, some (.box [.sv (.ints .u8 v3.2.2.1), .sv (.int .i64 v3.2.2.2.1), .sv (.int .i64 v3.2.2.2.2)]))])) (fun v3 h => ?_) fun v3 h => ?_
 refine Xab ?_
 refine kO hT hC ?_
 refine kC hC [(0, 0)] Tryz.call127 h (fun _ => Xdr) fun q4 h => ?_
 refine Vc.nil ?_
 refine kS h ?_ ?_ <;> intro b1 h
 refine kt b1 (Xab ?_)
 refine kO hT hC ?_
 refine Vc.nil (Xac ?_)
 refine kO hT hC ?_
 exact Vc.nil kM
 exact kf b1 (Xag kM)
 refine Xab ?_
 iterate 2 refine kO hT hC ?_
 refine Vc.nil (Xar (Xab ?_))
 refine kO hT hC ?_
 refine Vc.nil ?_
 refine kL [0,3,4,5,6,7,8] [0,48,64,288] [_,_,_,_,_,_,_] [_,_,_,_] ?_
 refine kX h (fun v7 => ([(8, .sv (.int .i64 v7.1))], [(288, some (.ints .u8 v7.2))])) (fun v10 => ([(5, .any), (6, .any), (8, .any)], [(288, some (.ints .u8 v10))])) (kW hC []) (fun v7 s h => ?_) fun v10 h => ?_
 unfold Xiw at h
 refine Xar (Xab ?_)
 iterate 5 refine kO hT hC ?_
 refine Vc.nil ?_
 refine kS h ?_ ?_ <;> intro b4 h
 refine kt b4 (Xag (Xaf (Xar (Xam ?_))))
 refine Xcb hm ?_
 iterate 5 refine kO hT hC ?_
 refine kQ hT hC h fun h => ?_
 iterate 5 refine kO hT hC ?_
 refine kQ hT hC h fun h => ?_
 iterate 2 refine kO hT hC ?_
 refine kC hC [] Tryz.call145 h (fun _ => Xh9) fun q11 h => ?_
 iterate 2 refine kO hT hC ?_
 refine kT hT hC h fun h => ?_
 refine kO hT hC ?_
 refine kD (Xan (Xaf (Xac ?_)))
 iterate 3 refine kO hT hC ?_
 refine Vc.nil ?_
 obtain rfl := kj h
 exact Xvc (kW hC [(288, 688)])
 exact kf b4 (Xao (Xav ku))
 refine Xaf (Xar (Xab ?_))
 refine kO hT hC ?_
 refine Vc.nil ?_
 refine kL [0,3,4,7,9] [0,48,64,288] [_,_,_,_,_] [_,_,_,_] ?_
 refine kX h (fun v17 => ([(9, .sv (.int .i64 v17.1))], [(0, some (.box [.sv (.ints .u8 v17.2.1), .sv (.int .i64 v17.2.2.1), .sv (.int .i64 v17.2.2.2.1)])), (288, some (.ints .u8 v17.2.2.2.2))])) (fun v22 => ([(0, .any), (9, .any)], [(0, some (.box [.sv (.ints .u8 v22.2.1), .sv (.int .i64 v22.2.2.1), .sv (.int .i64 v22.2.2.2)])), (288, some (.ints .u8 v22.1))])) (kW hC []) (fun v17 s h => ?_) fun v22 h => ?_
 unfold Xix at h
 refine Xar (Xab ?_)
 iterate 2 refine kO hT hC ?_
 refine kC hC [(0, 0)] Tryz.call74 h (fun _ => Xap) fun q23 h => ?_
 refine kO hT hC ?_
 refine Vc.nil ?_
 refine kS h ?_ ?_ <;> intro b7 h
 refine kt b7 (Xag (Xaf (Xar (Xam (Xac ?_)))))
 iterate 4 refine kO hT hC ?_
 refine kC hC [(0, 0)] Tryz.call74 h (fun _ => Xap) fun q24 h => ?_
 refine kO hT hC ?_
 refine kC hC [(0, 0)] Tryz.call73 h (fun _ => Xbs) fun q25 h => ?_
 refine kO hT hC ?_
 iterate 2 refine kQ hT hC h fun h => ?_
 refine Vc.nil (Xan (Xaf (Xac ?_)))
 iterate 3 refine kO hT hC ?_
 exact Vc.nil kG
 exact kf b7 (Xao (Xav ku))
 refine Xaf (Xab ?_)
 iterate 8 refine kO hT hC ?_
 refine Vc.nil (Xah ?_)
 obtain rfl := kj h
 exact Xb7 (Xey.refl _) rfl ⟨rfl, trivial⟩
def Xu1 (r : (Xcw × (List ByteArray) × Xau)) : AV := .tup [.agg [.sv (.int .i64 r.1.Seq.Level), .sv (.int .i64 r.1.Seq.Bits), .own 16, .own 17, .sv (.int .i64 r.1.Par.Qp), .sv (.bool r.1.Par.Large), .sv (.bool r.1.Par.Exact), .sv (.bool r.1.Par.Confined), .sv (.int .i64 r.1.Rate.Qp), .sv (.int .i64 r.1.Rate.Target), .sv (.int .i64 r.1.Rate.Debt), .sv (.int .i64 r.1.Frame), .sv (.int .i64 r.1.Since), .sv (.int .i64 r.1.Every), .sv (.int .i64 r.1.Reach), .sv (.bool r.1.Has), .sv (.int .i64 r.1.Ref.Wide), .sv (.int .i64 r.1.Ref.High), .sv (.str r.1.Ref.Dots)], .own 18]
def Xu0 (r : (Xcw × (List ByteArray) × Xau)) : Xa1 := [(16, .ints .i64 r.1.Seq.Cols), (17, .ints .i64 r.1.Seq.Rows), (18, .row Xa2 r.2.1), (0, .box [.sv (.ints .u8 r.2.2.b_), .sv (.int .i64 r.2.2.i_), .sv (.int .i64 r.2.2.h_)])]
theorem Xx3 {p0 r} (h : Xga p0 = some r) : AC Tryz.prog 128 [.ptr 0 0] [(0, .box [.sv (.ints .u8 p0.b_), .sv (.int .i64 p0.i_), .sv (.int .i64 p0.h_)])] (Xu1 r) (Xu0 r) := by
 refine Xae hT Tryz.func128 rfl fun C hC => ?_
 unfold Xga at h
 refine Xab ?_
 iterate 2 refine kO hT hC ?_
 refine kN ?_
 refine kO hT hC ?_
 refine kC hC [(0, 0)] Tryz.call74 h (fun _ => Xap) fun q1 h => ?_
 iterate 2 refine kO hT hC ?_
 refine kC hC [(0, 0)] Tryz.call74 h (fun _ => Xap) fun q2 h => ?_
 iterate 2 refine kO hT hC ?_
 refine kC hC [(0, 0)] Tryz.call74 h (fun _ => Xap) fun q3 h => ?_
 iterate 2 refine kO hT hC ?_
 refine kC hC [(0, 0)] Tryz.call182 h (fun _ => Xq7) fun q4 h => ?_
 refine kO hT hC ?_
 refine kC hC [(0, 0)] Tryz.call183 h (fun _ => Xx1) fun q5 h => ?_
 refine kO hT hC ?_
 refine kC hC [(0, 0)] Tryz.call74 h (fun _ => Xap) fun q6 h => ?_
 iterate 2 refine kO hT hC ?_
 refine kC hC [(0, 0)] Tryz.call74 h (fun _ => Xap) fun q7 h => ?_
 refine kC hC [(16, 528), (17, 529)] Tryz.call181 h (fun _ => Xua) fun q8 h => ?_
 iterate 6 refine kO hT hC ?_
 refine kN ?_
 iterate 2 refine kO hT hC ?_
 refine kN ?_
 iterate 2 refine kO hT hC ?_
 refine kC hC [] Tryz.call184 h (fun _ => Xl5) fun q9 h => ?_
 iterate 5 refine kO hT hC ?_
 refine kN ?_
 iterate 3 refine kO hT hC ?_
 refine kC hC [(0, 0)] Tryz.call185 h (fun _ => Xxp) fun q10 h => ?_
 iterate 2 refine kO hT hC ?_
 refine Vc.nil (Xar (Xab ?_))
 refine kO hT hC ?_
 refine Vc.nil ?_
 refine kL [0,2,4,6,9,10] [0,32,64,144,528,529,576] [_,_,_,_,_,_] [_,_,_,_,_,_,_] ?_
 refine kX h (fun v16 => ([(10, .sv (.int .i64 v16.1))], [(0, some (.box [.sv (.ints .u8 v16.2.1), .sv (.int .i64 v16.2.2.1), .sv (.int .i64 v16.2.2.2.1)])), (64, some (.box [.sv (.int .i64 v16.2.2.2.2.1), .sv (.int .i64 v16.2.2.2.2.2.1), .own 528, .own 529, .sv (.int .i64 v16.2.2.2.2.2.2.1), .sv (.bool v16.2.2.2.2.2.2.2.1), .sv (.bool v16.2.2.2.2.2.2.2.2.1), .sv (.bool v16.2.2.2.2.2.2.2.2.2.1), .sv (.int .i64 v16.2.2.2.2.2.2.2.2.2.2.1), .sv (.int .i64 v16.2.2.2.2.2.2.2.2.2.2.2.1), .sv (.int .i64 v16.2.2.2.2.2.2.2.2.2.2.2.2.1), .sv (.int .i64 v16.2.2.2.2.2.2.2.2.2.2.2.2.2.1), .sv (.int .i64 v16.2.2.2.2.2.2.2.2.2.2.2.2.2.2.1), .sv (.int .i64 v16.2.2.2.2.2.2.2.2.2.2.2.2.2.2.2.1), .sv (.int .i64 v16.2.2.2.2.2.2.2.2.2.2.2.2.2.2.2.2.1), .sv (.bool v16.2.2.2.2.2.2.2.2.2.2.2.2.2.2.2.2.2.1), .sv (.int .i64 v16.2.2.2.2.2.2.2.2.2.2.2.2.2.2.2.2.2.2.1), .sv (.int .i64 v16.2.2.2.2.2.2.2.2.2.2.2.2.2.2.2.2.2.2.2.1), .sv (.str v16.2.2.2.2.2.2.2.2.2.2.2.2.2.2.2.2.2.2.2.2.1)])), (144, some (.box [.sv (.int .i64 v16.2.2.2.2.2.2.2.2.2.2.2.2.2.2.2.2.2.2.2.2.2.2.1), .sv (.int .i64 v16.2.2.2.2.2.2.2.2.2.2.2.2.2.2.2.2.2.2.2.2.2.2.2.1), .sv (.str v16.2.2.2.2.2.2.2.2.2.2.2.2.2.2.2.2.2.2.2.2.2.2.2.2.1)])), (528, some (.ints .i64 v16.2.2.2.2.2.2.2.2.2.2.2.2.2.2.2.2.2.2.2.2.2.2.2.2.2.1)), (529, some (.ints .i64 v16.2.2.2.2.2.2.2.2.2.2.2.2.2.2.2.2.2.2.2.2.2.2.2.2.2.2)), (576, some (.row Xa2 v16.2.2.2.2.2.2.2.2.2.2.2.2.2.2.2.2.2.2.2.2.2.1))])) (fun v22 => ([(0, .any), (9, .any), (10, .any)], [(0, some (.box [.sv (.ints .u8 v22.2.2.2.2.2.2.2.2.2.2.2.2.2.2.2.2.2.2.1), .sv (.int .i64 v22.2.2.2.2.2.2.2.2.2.2.2.2.2.2.2.2.2.2.2.1), .sv (.int .i64 v22.2.2.2.2.2.2.2.2.2.2.2.2.2.2.2.2.2.2.2.2.1)])), (64, some (.box [.sv (.int .i64 v22.1), .sv (.int .i64 v22.2.1), .own 528, .own 529, .sv (.int .i64 v22.2.2.1), .sv (.bool v22.2.2.2.1), .sv (.bool v22.2.2.2.2.1), .sv (.bool v22.2.2.2.2.2.1), .sv (.int .i64 v22.2.2.2.2.2.2.1), .sv (.int .i64 v22.2.2.2.2.2.2.2.1), .sv (.int .i64 v22.2.2.2.2.2.2.2.2.1), .sv (.int .i64 v22.2.2.2.2.2.2.2.2.2.1), .sv (.int .i64 v22.2.2.2.2.2.2.2.2.2.2.1), .sv (.int .i64 v22.2.2.2.2.2.2.2.2.2.2.2.1), .sv (.int .i64 v22.2.2.2.2.2.2.2.2.2.2.2.2.1), .sv (.bool v22.2.2.2.2.2.2.2.2.2.2.2.2.2.1), .sv (.int .i64 v22.2.2.2.2.2.2.2.2.2.2.2.2.2.2.1), .sv (.int .i64 v22.2.2.2.2.2.2.2.2.2.2.2.2.2.2.2.1), .sv (.str v22.2.2.2.2.2.2.2.2.2.2.2.2.2.2.2.2.1)])), (528, some (.ints .i64 v22.2.2.2.2.2.2.2.2.2.2.2.2.2.2.2.2.2.2.2.2.2.1)), (529, some (.ints .i64 v22.2.2.2.2.2.2.2.2.2.2.2.2.2.2.2.2.2.2.2.2.2.2)), (576, some (.row Xa2 v22.2.2.2.2.2.2.2.2.2.2.2.2.2.2.2.2.2.1)), (144, none)])) (kW hC []) (fun v16 s h => ?_) fun v22 h => ?_
 unfold Xhb at h
 refine Xar (Xab ?_)
 iterate 2 refine kO hT hC ?_
 refine kC hC [(0, 0)] Tryz.call74 h (fun _ => Xap) fun q23 h => ?_
 refine kO hT hC ?_
 refine Vc.nil ?_
 refine kS h ?_ ?_ <;> intro b3 h
 refine kt b3 (Xag (Xaf (Xar (Xam ?_))))
 refine Xee hm ?_
 iterate 3 refine kO hT hC ?_
 refine kC hC [(0, 0)] Tryz.call127 h (fun _ => Xdr) fun q24 h => ?_
 obtain ⟨q25, hq, h⟩ := Xbn h
 refine Yj3 hC [(16, 928), (17, 929), (18, 930)] rfl rfl rfl rfl Tryz.call186 (Xsi hq) rfl (by decide) trivial rfl (.inr ⟨rfl, ⟨trivial, trivial, fun _ => rfl, trivial⟩⟩) rfl ?_
 iterate 8 refine kO hT hC ?_
 refine kD (Xab ?_)
 iterate 2 refine kO hT hC ?_
 refine kN ?_
 iterate 2 refine kO hT hC ?_
 obtain ⟨hq, h⟩ := Xbk h
 refine Xyj hT hC rfl rfl rfl rfl ⟨fun _ _ => rfl, by rw [Xfz]; exact hq⟩ ?_
 rw [Xfz]
 refine kO hT hC ?_
 refine Vc.nil (Xac ?_)
 iterate 2 refine kO hT hC ?_
 refine kC hC [(0, 0)] Tryz.call187 h (fun _ => Ybk) fun q26 h => ?_
 refine kO hT hC ?_
 refine Vc.nil (Xan (Xaf (Xac ?_)))
 iterate 3 refine kO hT hC ?_
 refine Vc.nil ?_
 obtain rfl := kj h
 exact Xvc (kW hC [(528, 928), (529, 929), (576, 1040)])
 exact kf b3 (Xao (Xav ku))
 refine Xaf (Xab ?_)
 iterate 4 refine kO hT hC ?_
 refine Vc.nil (Xah ?_)
 obtain rfl := kj h
 exact Xb7 (τ := ⟨[(2, .ptr 2000000 0), (3, .own 18)], [(16, some (.ints .i64 v22.2.2.2.2.2.2.2.2.2.2.2.2.2.2.2.2.2.2.2.2.2.1)), (17, some (.ints .i64 v22.2.2.2.2.2.2.2.2.2.2.2.2.2.2.2.2.2.2.2.2.2.2)), (18, some (.row Xa2 v22.2.2.2.2.2.2.2.2.2.2.2.2.2.2.2.2.2.1)), (0, some (.box [.sv (.ints .u8 v22.2.2.2.2.2.2.2.2.2.2.2.2.2.2.2.2.2.2.1), .sv (.int .i64 v22.2.2.2.2.2.2.2.2.2.2.2.2.2.2.2.2.2.2.2.1), .sv (.int .i64 v22.2.2.2.2.2.2.2.2.2.2.2.2.2.2.2.2.2.2.2.2.1)])), (2000000, some (.box [.sv (.int .i64 v22.1), .sv (.int .i64 v22.2.1), .own 16, .own 17, .sv (.int .i64 v22.2.2.1), .sv (.bool v22.2.2.2.1), .sv (.bool v22.2.2.2.2.1), .sv (.bool v22.2.2.2.2.2.1), .sv (.int .i64 v22.2.2.2.2.2.2.1), .sv (.int .i64 v22.2.2.2.2.2.2.2.1), .sv (.int .i64 v22.2.2.2.2.2.2.2.2.1), .sv (.int .i64 v22.2.2.2.2.2.2.2.2.2.1), .sv (.int .i64 v22.2.2.2.2.2.2.2.2.2.2.1), .sv (.int .i64 v22.2.2.2.2.2.2.2.2.2.2.2.1), .sv (.int .i64 v22.2.2.2.2.2.2.2.2.2.2.2.2.1), .sv (.bool v22.2.2.2.2.2.2.2.2.2.2.2.2.2.1), .sv (.int .i64 v22.2.2.2.2.2.2.2.2.2.2.2.2.2.2.1), .sv (.int .i64 v22.2.2.2.2.2.2.2.2.2.2.2.2.2.2.2.1), .sv (.str v22.2.2.2.2.2.2.2.2.2.2.2.2.2.2.2.2.1)]))]⟩) (kW hC [(16, 528), (17, 529), (18, 576), (2000000, 32)]) rfl ⟨rfl, rfl, rfl, rfl, trivial⟩
def Ybp (r : (Int × Xau)) : AV := .sv (.int .i64 r.1)
def Ybo (r : (Int × Xau)) : Xa1 := [(0, .box [.sv (.ints .u8 r.2.b_), .sv (.int .i64 r.2.i_), .sv (.int .i64 r.2.h_)])]
theorem Ydj {p0 r} (h : Xln p0 = some r) : AC Tryz.prog 130 [.ptr 0 0] [(0, .box [.sv (.ints .u8 p0.b_), .sv (.int .i64 p0.i_), .sv (.int .i64 p0.h_)])] (Ybp r) (Ybo r) := by
 refine Xae hT Tryz.func130 rfl fun C hC => ?_
 unfold Xln at h
 refine Xab ?_
 refine kO hT hC ?_
 refine Vc.nil (Xar (Xab ?_))
 refine kO hT hC ?_
 refine kC hC [(0, 0)] Tryz.call127 h (fun _ => Xdr) fun q1 h => ?_
 refine Vc.nil ?_
 refine kS h ?_ ?_ <;> intro b1 h
 refine kt b1 (Xab ?_)
 refine kO hT hC ?_
 refine Ymr hT hC rfl rfl rfl rfl trivial rfl ?_
 refine kC hC [(0, 0)] Tryz.call131 h (fun _ => Xih) fun q2 h => ?_
 refine kO hT hC ?_
 refine Vc.nil (Xah (Xat ?_))
 obtain rfl := kj h
 exact Xb7 (Xey.refl _) rfl ⟨rfl, trivial⟩
 refine kf b1 (Xag (Xaf (Xab ?_)))
 refine kO hT hC ?_
 refine kC hC [(0, 0)] Tryz.call74 h (fun _ => Xap) fun q3 h => ?_
 refine kO hT hC ?_
 refine Vc.nil (Xah ?_)
 obtain rfl := kj h
 exact Xb7 (Xey.refl _) rfl ⟨rfl, trivial⟩
def Xq6 (r : ByteArray) : AV := .sv (.str r)
def Xq5 (r : ByteArray) : Xa1 := []
theorem Xss {p0 r} (h : Xfm p0 = some r) : AC Tryz.prog 253 [.sv (.str p0)] [] (Xq6 r) (Xq5 r) := by
 refine Xae hT Tryz.func253 rfl fun C hC => ?_
 unfold Xfm at h
 refine Xab ?_
 refine kO hT hC ?_
 refine kN ?_
 iterate 2 refine kO hT hC ?_
 refine Vc.nil (Xar (Xab ?_))
 refine kO hT hC ?_
 refine Vc.nil ?_
 refine kL [0,3,4] [96] [_,_,_] [_] ?_
 refine kX h (fun v4 => ([(4, .sv (.int .i64 v4.1))], [(96, some (.ints .u8 v4.2))])) (fun v8 => ([(0, .any), (4, .any)], [(96, some (.ints .u8 v8))])) (kW hC []) (fun v4 s h => ?_) fun v8 h => ?_
 unfold Xc4 at h
 refine Xar (Xab ?_)
 iterate 4 refine kO hT hC ?_
 refine Vc.nil ?_
 refine kS h ?_ ?_ <;> intro b11 h
 refine kt b11 (Xag (Xaf (Xar (Xam (Xab ?_)))))
 iterate 3 refine kO hT hC ?_
 refine Vc.nil ?_
 refine kL [0,3,4,5] [96] [_,_,_,_] [_] ?_
 refine kA h (fun v9 => ([(5, .any)], [(96, some (.ints .u8 v9))])) (fun v9 h => ?_) fun v9 h => ?_
 refine kL [0,3,4,5] [96] [_,_,_,_] [_] ?_
 refine kA h (fun v10 => ([(38, .sv (.bool v10)), (5, .any)], [])) (fun v10 h => ?_) fun v10 h => ?_
 refine Xac ?_
 iterate 3 refine kO hT hC ?_
 refine kS h ?_ ?_ <;> intro b12 h
 iterate 3 refine kI hT hC b12 ?_
 iterate 2 refine kJ hT hC b12 h fun h => ?_
 refine kI hT hC b12 ?_
 refine kP hC true b12 ?_
 refine kO hT hC ?_
 refine kS h ?_ ?_ <;> intro b13 h
 iterate 3 refine kI hT hC b13 ?_
 iterate 2 refine kJ hT hC b13 h fun h => ?_
 refine kI hT hC b13 ?_
 refine kP hC true b13 ?_
 refine kO hT hC ?_
 refine kS h ?_ ?_ <;> intro b14 h
 iterate 2 refine kI hT hC b14 ?_
 refine kJ hT hC b14 h fun h => ?_
 refine kI hT hC b14 ?_
 refine kP hC true b14 ?_
 exact Vc.nil kM
 iterate 4 refine kF hC b14 ?_
 refine kP hC false b14 ?_
 exact Vc.nil kM
 iterate 6 refine kF hC b13 ?_
 refine kP hC false b13 ?_
 refine kO hT hC ?_
 iterate 4 refine kF hC rfl ?_
 refine kO hT hC ?_
 exact Vc.nil kM
 iterate 6 refine kF hC b12 ?_
 refine kP hC false b12 ?_
 refine kO hT hC ?_
 iterate 6 refine kF hC rfl ?_
 iterate 2 refine kO hT hC ?_
 iterate 4 refine kF hC rfl ?_
 refine kO hT hC ?_
 exact Vc.nil kM
 refine kS h ?_ ?_ <;> intro b15 h
 refine kt b15 (Xac ?_)
 iterate 2 refine kO hT hC ?_
 refine kT hT hC h fun h => ?_
 refine kO hT hC ?_
 refine Vc.nil ?_
 obtain rfl := kj h
 exact Xnh (kW hC [(96, 656)])
 exact kf b15 (Xag kM)
 refine Xac ?_
 iterate 3 refine kO hT hC ?_
 refine kQ hT hC h fun h => ?_
 refine kO hT hC ?_
 refine kT hT hC h fun h => ?_
 refine kO hT hC ?_
 refine Vc.nil (Xan (Xaf (Xac ?_)))
 iterate 3 refine kO hT hC ?_
 refine Vc.nil ?_
 obtain rfl := kj h
 exact Xvc (kW hC [(96, 752)])
 exact kf b11 (Xao (Xav ku))
 refine Xaf (Xab ?_)
 iterate 3 refine kO hT hC ?_
 exact Vc.nil (Xah kR)
def Xv2 (r : (ByteArray × Bool)) : AV := .tup [.sv (.str r.1), .sv (.bool r.2)]
def Xv1 (r : (ByteArray × Bool)) : Xa1 := []
theorem Xzu {p0 r} (h : Xjv p0 = some r) : AC Tryz.prog 233 [.sv (.str p0)] [] (Xv2 r) (Xv1 r) := by
 refine Xae hT Tryz.func233 rfl fun C hC => ?_
 unfold Xjv at h
 refine Xab ?_
 iterate 2 refine kO hT hC ?_
 refine Vc.nil (Xar ?_)
 refine kL [0] [] [_] [] ?_
 refine kA h (fun v1 => ([(19, .sv (.bool v1))], [])) (fun v1 h => ?_) fun v1 h => ?_
 refine Xac ?_
 iterate 4 refine kO hT hC ?_
 refine kS h ?_ ?_ <;> intro b1 h
 iterate 3 refine kF hC b1 ?_
 refine kP hC true b1 ?_
 refine kO hT hC ?_
 iterate 6 refine kF hC rfl ?_
 refine kO hT hC ?_
 exact Vc.nil kM
 iterate 3 refine kI hT hC b1 ?_
 refine kP hC false b1 ?_
 refine kO hT hC ?_
 refine kS h ?_ ?_ <;> intro b2 h
 iterate 6 refine kF hC b2 ?_
 refine kP hC true b2 ?_
 exact Vc.nil kM
 iterate 4 refine kI hT hC b2 ?_
 refine kJ hT hC b2 h fun h => ?_
 refine kI hT hC b2 ?_
 refine kP hC false b2 ?_
 exact Vc.nil kM
 refine kS h ?_ ?_ <;> intro b3 h
 refine kt b3 (Xab ?_)
 iterate 2 refine kO hT hC ?_
 exact Vc.nil (Xah (Xat kR))
 refine kf b3 (Xag (Xaf (Xab ?_)))
 refine kO hT hC ?_
 refine kC hC [] Tryz.call253 h (fun _ => Xss) fun q2 h => ?_
 iterate 2 refine kO hT hC ?_
 exact Vc.nil (Xah kR)
def Xoh (r : (ByteArray × Bool)) : AV := .tup [.sv (.str r.1), .sv (.bool r.2)]
def Xog (r : (ByteArray × Bool)) : Xa1 := []
theorem Yb9 {p0 r} (h : Xk1 p0 = some r) : AC Tryz.prog 188 [.sv (Xa2.sv p0)] [] (Xoh r) (Xog r) := by
 refine Xae hT Tryz.func188 rfl fun C hC => ?_
 unfold Xk1 at h
 refine Xab ?_
 iterate 2 refine kO hT hC ?_
 refine Vc.nil (Xar (Xab ?_))
 iterate 3 refine kO hT hC ?_
 refine Vc.nil ?_
 refine kS h ?_ ?_ <;> intro b1 h
 refine kt b1 (Xab ?_)
 iterate 2 refine kO hT hC ?_
 exact Vc.nil (Xah (Xat kR))
 refine kf b1 (Xag (Xaf (Xab ?_)))
 iterate 2 refine kO hT hC ?_
 refine Vc.nil (Xar (Xab ?_))
 refine kO hT hC ?_
 refine Vc.nil ?_
 refine kL [0,4,5] [176] [_,_,_] [_] ?_
 obtain ⟨o8, hl, h⟩ := Xbn h
 refine Xgd (fun v3 => ([(5, .sv (.int .i64 v3.1))], [(176, some (.ints .u8 v3.2))])) (fun v6 => ([(0, .any), (5, .any)], [(176, some (.ints .u8 v6))])) (fun r => Xmy C T Tryz.f188.results.toList (Xoh r) (Xog r)) hl ?_ ?_ ?_ ?_
 try dsimp only
 apply Xen hC []
 exact co
 rfl
 decide
 rfl
 intro v3 s hs
 have h := hs
 unfold Xep at h
 refine Xar (Xab ?_)
 iterate 4 refine kO hT hC ?_
 refine Vc.nil ?_
 refine kS h ?_ ?_ <;> intro b8 h
 refine kt b8 (Xag (Xaf (Xar (Xam (Xab ?_)))))
 iterate 2 refine kO hT hC ?_
 refine kQ hT hC h fun h => ?_
 refine kO hT hC ?_
 refine kC hC [] Tryz.call233 h (fun _ => Xzu) fun q7 h => ?_
 iterate 5 refine kO hT hC ?_
 refine Vc.nil (Xar (Xab ?_))
 iterate 2 refine kO hT hC ?_
 refine Vc.nil ?_
 refine kS h ?_ ?_ <;> intro b9 h
 refine kt b9 (Xab ?_)
 iterate 2 refine kO hT hC ?_
 refine Vc.nil (Xah (Xat (Xdc (Xat ?_))))
 obtain rfl := kj h
 refine Xn7 (Xn6 ?_)
 exact Xb7 (Xey.refl _) rfl trivial
 refine kf b9 (Xag (Xaf (Xab ?_)))
 iterate 2 refine kO hT hC ?_
 refine kT hT hC h fun h => ?_
 refine kO hT hC ?_
 refine kN ?_
 iterate 2 refine kO hT hC ?_
 refine kT hT hC h fun h => ?_
 refine kO hT hC ?_
 refine kN ?_
 iterate 3 refine kO hT hC ?_
 refine Vc.nil ?_
 refine kS h ?_ ?_ <;> intro b10 h
 refine kt b10 (Xab ?_)
 iterate 2 refine kO hT hC ?_
 refine Vc.nil (Xah (Xdc (Xat ?_)))
 obtain rfl := kj h
 refine Xn7 (Xn6 ?_)
 exact Xb7 (Xey.refl _) rfl trivial
 refine kf b10 (Xag (Xan (Xaf (Xac ?_))))
 iterate 3 refine kO hT hC ?_
 refine Vc.nil ?_
 obtain rfl := kj h
 exact Xvc (kW hC [(176, 528)])
 exact kf b8 (Xao (Xav kb))
 intro v6 e
 subst e
 refine Xaf (Xab ?_)
 iterate 4 refine kO hT hC ?_
 exact Vc.nil (Xah kR)
 intro r' σ' e hE
 subst e
 obtain rfl := kj h
 refine Xat ?_
 exact hE
def Xwi (r : Int) : AV := .sv (.int .i64 r)
def Xwh (r : Int) : Xa1 := []
theorem Yae {p0 p1 r} (h : Xjy p0 p1 = some r) : AC Tryz.prog 189 [.sv (.int .i64 p0), .sv (.int .i64 p1)] [] (Xwi r) (Xwh r) := by
 refine Xae hT Tryz.func189 rfl fun C hC => ?_
 unfold Xjy at h
 refine Xab ?_
 refine kO hT hC ?_
 refine Vc.nil (Xar ?_)
 refine kL [0,1] [] [_,_] [] ?_
 refine kA h (fun v1 => ([(12, .sv (.bool v1))], [])) (fun v1 h => ?_) fun v1 h => ?_
 refine Xac ?_
 refine kO hT hC ?_
 refine kC hC [] Tryz.call53 h (fun _ => Xai) fun q2 h => ?_
 iterate 2 refine kO hT hC ?_
 refine kS h ?_ ?_ <;> intro b1 h
 refine kI hT hC (kn b1) ?_
 refine kE hC (kn b1) [] Tryz.call53 h (fun _ => Xai) fun q3 h => ?_
 refine kI hT hC (kn b1) ?_
 refine kP hC false (kn b1) ?_
 exact Vc.nil kM
 iterate 3 refine kF hC (kn b1) ?_
 refine kP hC true (kn b1) ?_
 exact Vc.nil kM
 refine kS h ?_ ?_ <;> intro b2 h
 refine kt b2 (Xab ?_)
 refine kO hT hC ?_
 exact Vc.nil (Xah (Xat kR))
 refine kf b2 (Xag (Xaf (Xab ?_)))
 iterate 3 refine kO hT hC ?_
 refine kQ hT hC h fun h => ?_
 refine kO hT hC ?_
 exact Vc.nil (Xah kR)
def Xr7 (r : ((List Xal) × Bool)) : AV := .tup [.own 16, .sv (.bool r.2)]
def Xr6 (r : ((List Xal) × Bool)) : Xa1 := [(16, .row Xaz r.1)]
theorem Xt4 {p0 p1 p2 r} (h : Xgo p0 p1 p2 = some r) : AC Tryz.prog 129 [.sv (Xa2.sv p0), .sv (.int .i64 p1), .sv (.int .i64 p2)] [] (Xr7 r) (Xr6 r) := by
 refine Xae hT Tryz.func129 rfl fun C hC => ?_
 unfold Xgo at h
 refine Xab ?_
 iterate 2 refine kO hT hC ?_
 refine kN ?_
 iterate 2 refine kO hT hC ?_
 refine Vc.nil (Xar ?_)
 refine kL [0,1,2,8] [208] [_,_,_,_] [_] ?_
 refine kA h (fun v1 => ([(21, .sv (.bool v1))], [])) (fun v1 h => ?_) fun v1 h => ?_
 refine Xac ?_
 refine kO hT hC ?_
 refine kC hC [] Tryz.call53 h (fun _ => Xai) fun q2 h => ?_
 iterate 2 refine kO hT hC ?_
 refine kS h ?_ ?_ <;> intro b1 h
 refine kI hT hC (kn b1) ?_
 refine kE hC (kn b1) [] Tryz.call53 h (fun _ => Xai) fun q3 h => ?_
 refine kI hT hC (kn b1) ?_
 refine kP hC false (kn b1) ?_
 exact Vc.nil kM
 iterate 3 refine kF hC (kn b1) ?_
 refine kP hC true (kn b1) ?_
 exact Vc.nil kM
 refine kS h ?_ ?_ <;> intro b2 h
 refine kt b2 (Xab ?_)
 iterate 3 refine kO hT hC ?_
 refine Vc.nil (Xah (Xat ?_))
 obtain rfl := kj h
 exact Xb7 (τ := ⟨[(6, .own 16), (7, .sv (.bool false))], [(16, some (.row Xaz ([] : List Xal)))]⟩) (kW hC [(16, 208)]) rfl ⟨rfl, trivial⟩
 refine kf b2 (Xag (Xaf (Xab ?_)))
 refine kO hT hC ?_
 refine kC hC [] Tryz.call188 h (fun _ => Yb9) fun q4 h => ?_
 iterate 5 refine kO hT hC ?_
 refine Vc.nil (Xar ?_)
 refine kL [1,2,8,9,10] [208] [_,_,_,_,_] [_] ?_
 refine kA h (fun v5 => ([(44, .sv (.bool v5)), (10, .any)], [])) (fun v5 h => ?_) fun v5 h => ?_
 refine Xac ?_
 iterate 3 refine kO hT hC ?_
 refine kS h ?_ ?_ <;> intro b3 h
 iterate 3 refine kI hT hC (kn b3) ?_
 refine kP hC false (kn b3) ?_
 refine kO hT hC ?_
 refine kS h ?_ ?_ <;> intro b4 h
 iterate 8 refine kF hC b4 ?_
 refine kP hC true b4 ?_
 exact Vc.nil kM
 iterate 6 refine kI hT hC b4 ?_
 refine kJ hT hC b4 h fun h => ?_
 refine kI hT hC b4 ?_
 refine kP hC false b4 ?_
 exact Vc.nil kM
 iterate 3 refine kF hC (kn b3) ?_
 refine kP hC true (kn b3) ?_
 refine kO hT hC ?_
 iterate 8 refine kF hC rfl ?_
 refine kO hT hC ?_
 exact Vc.nil kM
 refine kS h ?_ ?_ <;> intro b5 h
 refine kt b5 (Xab ?_)
 iterate 3 refine kO hT hC ?_
 refine Vc.nil (Xah (Xat ?_))
 obtain rfl := kj h
 exact Xb7 (τ := ⟨[(6, .own 16), (7, .sv (.bool false))], [(16, some (.row Xaz ([] : List Xal)))]⟩) (kW hC [(16, 208)]) rfl ⟨rfl, trivial⟩
 refine kf b5 (Xag (Xaf (Xar (Xab ?_))))
 refine kO hT hC ?_
 refine Vc.nil ?_
 refine kL [1,2,8,9,11] [208] [_,_,_,_,_] [_] ?_
 refine kX h (fun v9 => ([(11, .sv (.int .i64 v9.1))], [(208, some (.row Xaz v9.2))])) (fun v13 => ([(1, .any), (2, .any), (9, .any), (11, .any)], [(208, some (.row Xaz v13))])) (kW hC []) (fun v9 s h => ?_) fun v13 h => ?_
 unfold Xdn at h
 refine Xar (Xab ?_)
 iterate 4 refine kO hT hC ?_
 refine Vc.nil ?_
 refine kS h ?_ ?_ <;> intro b8 h
 refine kt b8 (Xag (Xaf (Xar (Xam (Xab ?_)))))
 iterate 5 refine kO hT hC ?_
 refine kC hC [] Tryz.call159 h (fun _ => Xbr) fun q14 h => ?_
 refine kO hT hC ?_
 refine Vc.nil ?_
 refine Xcb hm ?_
 iterate 4 refine kO hT hC ?_
 refine kC hC [] Tryz.call189 h (fun _ => Yae) fun q15 h => ?_
 iterate 9 refine kO hT hC ?_
 refine kQ hT hC h fun h => ?_
 iterate 2 refine kO hT hC ?_
 obtain ⟨hq, h⟩ := Xbk h
 refine Xyj hT hC rfl rfl rfl rfl ⟨fun _ _ => rfl, by rw [Xba]; exact hq⟩ ?_
 rw [Xba]
 refine kO hT hC ?_
 refine kD (Xan (Xaf (Xac ?_)))
 iterate 4 refine kO hT hC ?_
 refine Vc.nil ?_
 obtain rfl := kj h
 exact Xvc (kW hC [(208, 1216)])
 exact kf b8 (Xao (Xav ku))
 refine Xaf (Xab ?_)
 iterate 3 refine kO hT hC ?_
 refine Vc.nil (Xah ?_)
 obtain rfl := kj h
 exact Xb7 (τ := ⟨[(6, .own 16), (7, .sv (.bool true))], [(16, some (.row Xaz v13))]⟩) (kW hC [(16, 208)]) rfl ⟨rfl, trivial⟩
def Xx6 (r : ((List Xal) × Xau)) : AV := .own 16
def Xx5 (r : ((List Xal) × Xau)) : Xa1 := [(16, .row Xaz r.1), (0, .box [.sv (.ints .u8 r.2.b_), .sv (.int .i64 r.2.i_), .sv (.int .i64 r.2.h_)])]
theorem Ybm {p0 r} (h : Xj5 p0 = some r) : AC Tryz.prog 71 [.ptr 0 0] [(0, .box [.sv (.ints .u8 p0.b_), .sv (.int .i64 p0.i_), .sv (.int .i64 p0.h_)])] (Xx6 r) (Xx5 r) := by
 refine Xae hT Tryz.func71 rfl fun C hC => ?_
 unfold Xj5 at h
 refine Xab ?_
 refine kO hT hC ?_
 refine kN ?_
 refine kO hT hC ?_
 refine kC hC [(16, 112), (0, 0)] Tryz.call126 h (fun _ => Xw1) fun q1 h => ?_
 refine kO hT hC ?_
 refine Vc.nil ?_
 refine kL [0,3] [0,112] [_,_] [_,_] ?_
 refine kA h (fun v2 => ([], [(0, some (.box [.sv (.ints .u8 v2.1), .sv (.int .i64 v2.2.1), .sv (.int .i64 v2.2.2.1)])), (112, some (.row Xa2 v2.2.2.2))])) (fun v2 h => ?_) fun v2 h => ?_
 refine Xab ?_
 refine kO hT hC ?_
 refine kC hC [(0, 0)] Tryz.call127 h (fun _ => Xdr) fun q3 h => ?_
 refine Vc.nil ?_
 refine kS h ?_ ?_ <;> intro b1 h
 refine kt b1 (Xac ?_)
 refine kO hT hC ?_
 refine kC hC [(16, 192), (17, 193), (18, 194), (0, 0)] Tryz.call128 h (fun _ => Xx3) fun q4 h => ?_
 iterate 4 refine kO hT hC ?_
 refine Vc.nil ?_
 obtain rfl := kj h
 exact Xnh (kW hC [(112, 194)])
 exact kf b1 (Xag kM)
 refine Xab ?_
 iterate 2 refine kO hT hC ?_
 refine kC hC [(0, 0)] Tryz.call130 h (fun _ => Ydj) fun q5 h => ?_
 refine kO hT hC ?_
 refine Ymr hT hC rfl rfl rfl rfl trivial rfl ?_
 refine kC hC [(0, 0)] Tryz.call131 h (fun _ => Xih) fun q6 h => ?_
 refine kC hC [(16, 352)] Tryz.call129 h (fun _ => Xt4) fun q7 h => ?_
 iterate 5 refine kO hT hC ?_
 refine kN ?_
 iterate 2 refine kO hT hC ?_
 refine Vc.nil (Xah ?_)
 obtain rfl := kj h
 exact Xb7 (τ := ⟨[(2, .own 16)], [(16, some (.row Xaz q7.1)), (0, some (.box [.sv (.ints .u8 q6.2.b_), .sv (.int .i64 q6.2.i_), .sv (.int .i64 q6.2.h_)]))]⟩) (kW hC [(16, 352)]) rfl ⟨rfl, rfl, trivial⟩
def Xpn (r : (List Xal)) : AV := .own 16
def Xpm (r : (List Xal)) : Xa1 := [(16, .row Xaz r)]
theorem Xqn {p0 r} (h : Xef p0 = some r) : AC Tryz.prog 27 [.sv (.ints .u8 p0)] [] (Xpn r) (Xpm r) := by
 refine Xae hT Tryz.func27 rfl fun C hC => ?_
 unfold Xef at h
 refine Xab ?_
 refine kO hT hC ?_
 refine kN ?_
 refine kO hT hC ?_
 refine kC hC [(16, 80)] Tryz.call72 h (fun _ => Xp6) fun q1 h => ?_
 refine kC hC [(16, 96), (0, 80)] Tryz.call71 h (fun _ => Ybm) fun q2 h => ?_
 refine kO hT hC ?_
 refine Vc.nil (Xar ?_)
 refine kL [3] [96] [_] [_] ?_
 refine kA h (fun v3 => ([(14, .sv (.bool v3))], [])) (fun v3 h => ?_) fun v3 h => ?_
 refine Xac ?_
 iterate 4 refine kO hT hC ?_
 refine kS h ?_ ?_ <;> intro b1 h
 iterate 3 refine kF hC b1 ?_
 refine kP hC true b1 ?_
 exact Vc.nil kM
 iterate 3 refine kI hT hC b1 ?_
 refine kP hC false b1 ?_
 exact Vc.nil kM
 refine kS h ?_ ?_ <;> intro b2 h
 refine kt b2 (Xab ?_)
 iterate 2 refine kO hT hC ?_
 refine Vc.nil (Xah (Xat ?_))
 obtain rfl := kj h
 exact Xb7 (τ := ⟨[(2, .own 16)], [(16, some (.row Xaz ([] : List Xal)))]⟩) (kW hC [(16, 240)]) rfl ⟨rfl, trivial⟩
 refine kf b2 (Xag (Xaf (Xab ?_)))
 iterate 2 refine kO hT hC ?_
 refine Vc.nil (Xah ?_)
 obtain rfl := kj h
 exact Xb7 (τ := ⟨[(2, .own 16)], [(16, some (.row Xaz q2.1))]⟩) (kW hC [(16, 96)]) rfl ⟨rfl, trivial⟩
def Xqq (r : (List Int)) : AV := .own 16
def Xqp (r : (List Int)) : Xa1 := [(16, .ints .i64 r)]
theorem Xrw {p0 r} (h : Xfb p0 = some r) : AC Tryz.prog 28 [.sv (.ints .u8 p0)] [] (Xqq r) (Xqp r) := by
 refine Xae hT Tryz.func28 rfl fun C hC => ?_
 unfold Xfb at h
 refine Xab ?_
 refine kO hT hC ?_
 refine kN ?_
 refine kO hT hC ?_
 refine kC hC [(16, 112)] Tryz.call72 h (fun _ => Xp6) fun q1 h => ?_
 refine kO hT hC ?_
 refine kN ?_
 refine kO hT hC ?_
 refine kC hC [(0, 112)] Tryz.call73 h (fun _ => Xbs) fun q2 h => ?_
 refine kN ?_
 iterate 2 refine kO hT hC ?_
 refine Vc.nil (Xar (Xab ?_))
 refine kO hT hC ?_
 refine Vc.nil ?_
 refine kL [3,4,5] [112,160] [_,_,_] [_,_] ?_
 refine kX h (fun v5 => ([(5, .sv (.int .i64 v5.1))], [(112, some (.box [.sv (.ints .u8 v5.2.1), .sv (.int .i64 v5.2.2.1), .sv (.int .i64 v5.2.2.2.1)])), (160, some (.ints .i64 v5.2.2.2.2))])) (fun v8 => ([(3, .any), (5, .any)], [(160, some (.ints .i64 v8)), (112, none)])) (kW hC []) (fun v5 s h => ?_) fun v8 h => ?_
 unfold Xex at h
 refine Xar (Xab ?_)
 iterate 2 refine kO hT hC ?_
 refine Vc.nil ?_
 refine kS h ?_ ?_ <;> intro b3 h
 refine kt b3 (Xag (Xaf (Xar (Xam (Xac ?_)))))
 iterate 2 refine kO hT hC ?_
 refine kC hC [(0, 112)] Tryz.call74 h (fun _ => Xap) fun q9 h => ?_
 refine kO hT hC ?_
 refine kT hT hC h fun h => ?_
 refine kO hT hC ?_
 refine Vc.nil (Xan (Xaf (Xac ?_)))
 iterate 3 refine kO hT hC ?_
 refine Vc.nil ?_
 obtain rfl := kj h
 exact Xvc (kW hC [(160, 304)])
 exact kf b3 (Xao (Xav ku))
 refine Xaf (Xab ?_)
 iterate 2 refine kO hT hC ?_
 refine Vc.nil (Xah ?_)
 obtain rfl := kj h
 exact Xb7 (τ := ⟨[(2, .own 16)], [(16, some (.ints .i64 v8))]⟩) (kW hC [(16, 160)]) rfl ⟨rfl, trivial⟩
def Xrg (r : Xa7) : AV := .agg [.sv (.bool r.Begun), .sv (.int .i64 r.Next), .sv (.int .i64 r.Age), .own 16, .sv (.int .i64 r.Late), .sv (.int .i64 r.Far), .sv (.int .i64 r.Twice), .sv (.int .i64 r.Over), .sv (.int .i64 r.Lost)]
def Xrf (r : Xa7) : Xa1 := [(16, .row Xaz r.Held)]
theorem Xmh {p0 r} (h : Xeo p0 = some r) : AC Tryz.prog 75 [.agg [.sv (.bool p0.Begun), .sv (.int .i64 p0.Next), .sv (.int .i64 p0.Age), .sv (Xaz.sv p0.Held), .sv (.int .i64 p0.Late), .sv (.int .i64 p0.Far), .sv (.int .i64 p0.Twice), .sv (.int .i64 p0.Over), .sv (.int .i64 p0.Lost)]] [] (Xrg r) (Xrf r) := by
 refine Xae hT Tryz.func75 rfl fun C hC => ?_
 unfold Xeo at h
 refine Xab ?_
 iterate 2 refine kO hT hC ?_
 refine kN ?_
 iterate 3 refine kO hT hC ?_
 obtain ⟨hq, h⟩ := Xbk h
 refine Xyj hT hC rfl rfl rfl rfl ⟨fun _ _ => rfl, by rw [Xba]; exact hq⟩ ?_
 rw [Xba]
 iterate 2 refine kO hT hC ?_
 refine kN ?_
 iterate 2 refine kO hT hC ?_
 refine Vc.nil (Xah ?_)
 obtain rfl := kj h
 exact Xb7 (τ := ⟨[(2, .ptr 2000000 0)], [(16, some (.row Xaz (([] : List Xal) ++ p0.Held))), (2000000, some (.box [.sv (.bool p0.Begun), .sv (.int .i64 p0.Next), .sv (.int .i64 p0.Age), .own 16, .sv (.int .i64 p0.Late), .sv (.int .i64 p0.Far), .sv (.int .i64 p0.Twice), .sv (.int .i64 p0.Over), .sv (.int .i64 p0.Lost)]))]⟩) (kW hC [(16, 96), (2000000, 32)]) rfl ⟨rfl, trivial⟩
def Xtm (r : Bool) : AV := .sv (.bool r)
def Xtl (r : Bool) : Xa1 := []
theorem Xcy {p0 r} (h : Xb1 p0 = some r) : AC Tryz.prog 79 [.sv (.int .i64 p0)] [] (Xtm r) (Xtl r) := by
 refine Xae hT Tryz.func79 rfl fun C hC => ?_
 unfold Xb1 at h
 refine Xab ?_
 refine kO hT hC ?_
 refine kN ?_
 refine kO hT hC ?_
 refine kC hC [] Tryz.call61 h (fun _ => Xc7) fun q1 h => ?_
 refine kO hT hC ?_
 exact Vc.nil (Xah kR)
def Xy4 (r : Int) : AV := .sv (.int .i64 r)
def Xy3 (r : Int) : Xa1 := []
theorem Xgg {p0 p1 r} (h : Xd4 p0 p1 = some r) : AC Tryz.prog 39 [.sv (.int .i64 p0), .sv (.int .i64 p1)] [] (Xy4 r) (Xy3 r) := by
 refine Xae hT Tryz.func39 rfl fun C hC => ?_
 unfold Xd4 at h
 refine Xab ?_
 refine kO hT hC ?_
 refine Vc.nil (Xar ?_)
 refine kL [0,1] [] [_,_] [] ?_
 refine kA h (fun v1 => ([(13, .sv (.bool v1))], [])) (fun v1 h => ?_) fun v1 h => ?_
 refine Xac ?_
 refine kO hT hC ?_
 refine kC hC [] Tryz.call79 h (fun _ => Xcy) fun q2 h => ?_
 iterate 2 refine kO hT hC ?_
 refine kS h ?_ ?_ <;> intro b1 h
 refine kI hT hC (kn b1) ?_
 refine kE hC (kn b1) [] Tryz.call79 h (fun _ => Xcy) fun q3 h => ?_
 refine kI hT hC (kn b1) ?_
 refine kP hC false (kn b1) ?_
 exact Vc.nil kM
 iterate 3 refine kF hC (kn b1) ?_
 refine kP hC true (kn b1) ?_
 exact Vc.nil kM
 refine kS h ?_ ?_ <;> intro b2 h
 refine kt b2 (Xab ?_)
 refine kO hT hC ?_
 exact Vc.nil (Xah (Xat kR))
 refine kf b2 (Xag (Xaf (Xab ?_)))
 iterate 4 refine kO hT hC ?_
 refine kQ hT hC h fun h => ?_
 refine kO hT hC ?_
 refine Vc.nil ?_
 refine kL [5] [] [_] [] ?_
 refine kA h (fun v4 => ([(5, .sv (.int .i64 v4))], [])) (fun v4 h => ?_) fun v4 h => ?_
 refine Xab ?_
 iterate 2 refine kO hT hC ?_
 refine Vc.nil ?_
 refine kS h ?_ ?_ <;> intro b3 h
 refine kt b3 (Xac ?_)
 iterate 3 refine kO hT hC ?_
 exact Vc.nil kM
 exact kf b3 (Xag kM)
 refine Xab ?_
 iterate 2 refine kO hT hC ?_
 exact Vc.nil (Xah kR)
def Xti (r : Bool) : AV := .sv (.bool r)
def Xth (r : Bool) : Xa1 := []
theorem Xnd {p0 r} (h : Xf0 p0 = some r) : AC Tryz.prog 76 [.agg [.sv (.int .i64 p0.Seq), .sv (.bool p0.First), .sv (.bool p0.Last), .sv (.str p0.Bytes)]] [] (Xti r) (Xth r) := by
 refine Xae hT Tryz.func76 rfl fun C hC => ?_
 unfold Xf0 at h
 refine Xab ?_
 iterate 2 refine kO hT hC ?_
 refine Vc.nil ?_
 refine kL [1,2] [16] [_,_] [_] ?_
 refine kA h (fun v1 => ([(2, .sv (.bool v1)), (1, .any)], [(16, none)])) (fun v1 h => ?_) fun v1 h => ?_
 refine Xac ?_
 iterate 2 refine kO hT hC ?_
 refine kC hC [] Tryz.call79 h (fun _ => Xcy) fun q2 h => ?_
 refine kO hT hC ?_
 refine kS h ?_ ?_ <;> intro b1 h
 iterate 3 refine kI hT hC b1 ?_
 refine kE hC b1 [] Tryz.call61 h (fun _ => Xc7) fun q3 h => ?_
 refine kP hC true b1 ?_
 refine kO hT hC ?_
 exact Vc.nil kM
 iterate 4 refine kF hC b1 ?_
 refine kP hC false b1 ?_
 refine kO hT hC ?_
 exact Vc.nil kM
 exact Xah kR
def Xkd (r : Bool) : AV := .sv (.bool r)
def Xkc (r : Bool) : Xa1 := []
theorem Xh2 {p0 r} (h : Xdz p0 = some r) : AC Tryz.prog 34 [.agg [.sv (.bool p0.Begun), .sv (.int .i64 p0.Next), .sv (.int .i64 p0.Age), .sv (Xaz.sv p0.Held), .sv (.int .i64 p0.Late), .sv (.int .i64 p0.Far), .sv (.int .i64 p0.Twice), .sv (.int .i64 p0.Over), .sv (.int .i64 p0.Lost)]] [] (Xkd r) (Xkc r) := by
 refine Xae hT Tryz.func34 rfl fun C hC => ?_
 unfold Xdz at h
 refine Xab ?_
 iterate 2 refine kO hT hC ?_
 refine Vc.nil (Xar (Xab ?_))
 iterate 3 refine kO hT hC ?_
 refine Vc.nil ?_
 refine kS h ?_ ?_ <;> intro b1 h
 refine kt b1 ?_
 refine kL [1,2] [16] [_,_] [_] ?_
 refine kA h (fun v1 => ([(2, .sv (.bool v1)), (1, .any)], [(16, none)])) (fun v1 h => ?_) fun v1 h => ?_
 refine Xac ?_
 iterate 4 refine kO hT hC ?_
 refine kS h ?_ ?_ <;> intro b2 h
 iterate 3 refine kI hT hC b2 ?_
 refine kP hC true b2 ?_
 refine kO hT hC ?_
 refine kS h ?_ ?_ <;> intro b3 h
 iterate 4 refine kI hT hC b3 ?_
 refine kP hC true b3 ?_
 refine kO hT hC ?_
 refine kS h ?_ ?_ <;> intro b4 h
 iterate 3 refine kI hT hC b4 ?_
 refine kP hC true b4 ?_
 refine kO hT hC ?_
 refine kS h ?_ ?_ <;> intro b5 h
 iterate 3 refine kI hT hC b5 ?_
 refine kP hC true b5 ?_
 refine kO hT hC ?_
 refine kS h ?_ ?_ <;> intro b6 h
 iterate 3 refine kI hT hC b6 ?_
 refine kP hC true b6 ?_
 refine kO hT hC ?_
 refine kS h ?_ ?_ <;> intro b7 h
 iterate 3 refine kI hT hC b7 ?_
 refine kP hC true b7 ?_
 refine kO hT hC ?_
 refine kS h ?_ ?_ <;> intro b8 h
 iterate 3 refine kI hT hC b8 ?_
 refine kP hC true b8 ?_
 refine kO hT hC ?_
 exact Vc.nil kM
 iterate 3 refine kF hC b8 ?_
 refine kP hC false b8 ?_
 refine kO hT hC ?_
 exact Vc.nil kM
 iterate 3 refine kF hC b7 ?_
 refine kP hC false b7 ?_
 refine kO hT hC ?_
 iterate 3 refine kF hC rfl ?_
 iterate 2 refine kO hT hC ?_
 exact Vc.nil kM
 iterate 3 refine kF hC b6 ?_
 refine kP hC false b6 ?_
 refine kO hT hC ?_
 iterate 3 refine kF hC rfl ?_
 iterate 2 refine kO hT hC ?_
 iterate 3 refine kF hC rfl ?_
 iterate 2 refine kO hT hC ?_
 exact Vc.nil kM
 iterate 3 refine kF hC b5 ?_
 refine kP hC false b5 ?_
 refine kO hT hC ?_
 iterate 3 refine kF hC rfl ?_
 iterate 2 refine kO hT hC ?_
 iterate 3 refine kF hC rfl ?_
 iterate 2 refine kO hT hC ?_
 iterate 3 refine kF hC rfl ?_
 iterate 2 refine kO hT hC ?_
 exact Vc.nil kM
 iterate 3 refine kF hC b4 ?_
 refine kP hC false b4 ?_
 refine kO hT hC ?_
 iterate 3 refine kF hC rfl ?_
 iterate 2 refine kO hT hC ?_
 iterate 3 refine kF hC rfl ?_
 iterate 2 refine kO hT hC ?_
 iterate 3 refine kF hC rfl ?_
 iterate 2 refine kO hT hC ?_
 iterate 3 refine kF hC rfl ?_
 iterate 2 refine kO hT hC ?_
 exact Vc.nil kM
 iterate 4 refine kF hC b3 ?_
 refine kP hC false b3 ?_
 refine kO hT hC ?_
 iterate 3 refine kF hC rfl ?_
 iterate 2 refine kO hT hC ?_
 iterate 3 refine kF hC rfl ?_
 iterate 2 refine kO hT hC ?_
 iterate 3 refine kF hC rfl ?_
 iterate 2 refine kO hT hC ?_
 iterate 3 refine kF hC rfl ?_
 iterate 2 refine kO hT hC ?_
 iterate 3 refine kF hC rfl ?_
 iterate 2 refine kO hT hC ?_
 exact Vc.nil kM
 iterate 3 refine kF hC b2 ?_
 refine kP hC false b2 ?_
 refine kO hT hC ?_
 iterate 4 refine kF hC rfl ?_
 iterate 2 refine kO hT hC ?_
 iterate 3 refine kF hC rfl ?_
 iterate 2 refine kO hT hC ?_
 iterate 3 refine kF hC rfl ?_
 iterate 2 refine kO hT hC ?_
 iterate 3 refine kF hC rfl ?_
 iterate 2 refine kO hT hC ?_
 iterate 3 refine kF hC rfl ?_
 iterate 2 refine kO hT hC ?_
 iterate 3 refine kF hC rfl ?_
 iterate 2 refine kO hT hC ?_
 exact Vc.nil kM
 exact Xah (Xat kR)
 refine kf b1 (Xag (Xaf (Xar ?_)))
 refine kL [1] [16] [_] [_] ?_
 refine kA h (fun v2 => ([(66, .sv (.bool v2))], [])) (fun v2 h => ?_) fun v2 h => ?_
 refine Xac ?_
 iterate 2 refine kO hT hC ?_
 refine kC hC [] Tryz.call79 h (fun _ => Xcy) fun q3 h => ?_
 iterate 2 refine kO hT hC ?_
 refine kS h ?_ ?_ <;> intro b9 h
 iterate 2 refine kI hT hC (kn b9) ?_
 refine kE hC (kn b9) [] Tryz.call61 h (fun _ => Xc7) fun q4 h => ?_
 refine kI hT hC (kn b9) ?_
 refine kP hC false (kn b9) ?_
 refine kO hT hC ?_
 refine kS h ?_ ?_ <;> intro b10 h
 iterate 4 refine kI hT hC (kn b10) ?_
 refine kP hC false (kn b10) ?_
 exact Vc.nil kM
 iterate 4 refine kF hC (kn b10) ?_
 refine kP hC true (kn b10) ?_
 exact Vc.nil kM
 iterate 4 refine kF hC (kn b9) ?_
 refine kP hC true (kn b9) ?_
 refine kO hT hC ?_
 iterate 4 refine kF hC rfl ?_
 refine kO hT hC ?_
 exact Vc.nil kM
 refine kS h ?_ ?_ <;> intro b11 h
 refine kt b11 (Xab ?_)
 refine kO hT hC ?_
 exact Vc.nil (Xah (Xat kR))
 refine kf b11 (Xag (Xaf (Xab ?_)))
 refine kO hT hC ?_
 refine Vc.nil (Xar (Xab ?_))
 iterate 4 refine kO hT hC ?_
 refine Vc.nil ?_
 refine kL [1,3,68,69,70] [16] [_,_,_,_,_] [_] ?_
 obtain ⟨o21, hl, h⟩ := Xbn h
 refine Xgd (fun v10 => ([(3, .sv (.int .i64 v10.1)), (70, .sv (.int .i64 v10.2))], [])) (fun v16 => ([(3, .any), (68, .any), (69, .any), (70, .any)], [])) (fun r => Xmy C T Tryz.f34.results.toList (Xkd r) (Xkc r)) hl ?_ ?_ ?_ ?_
 try dsimp only
 apply Xen hC []
 exact co
 rfl
 decide
 rfl
 intro v10 s hs
 have h := hs
 unfold Xdf at h
 refine Xab ?_
 refine kO hT hC ?_
 refine Vc.nil (Xar ?_)
 refine kS h ?_ ?_ <;> intro b18 h
 refine kt b18 (Xag (Xaf (Xar (Xam (Xab ?_)))))
 refine kQ hT hC h fun h => ?_
 iterate 3 refine kO hT hC ?_
 refine kN ?_
 iterate 4 refine kO hT hC ?_
 refine kC hC [] Tryz.call39 h (fun _ => Xgg) fun q17 h => ?_
 refine kO hT hC ?_
 refine Vc.nil (Xar ?_)
 refine kL [1,3,5,6,68,69,70] [16,80] [_,_,_,_,_,_,_] [_,_] ?_
 refine kA h (fun v18 => ([(88, .sv (.bool v18)), (3, .any), (5, .any)], [(80, none)])) (fun v18 h => ?_) fun v18 h => ?_
 refine Xac ?_
 refine kO hT hC ?_
 refine kC hC [] Tryz.call76 h (fun _ => Xnd) fun q19 h => ?_
 iterate 2 refine kO hT hC ?_
 refine kS h ?_ ?_ <;> intro b19 h
 iterate 3 refine kI hT hC (kn b19) ?_
 refine kE hC (kn b19) [] Tryz.call61 h (fun _ => Xc7) fun q20 h => ?_
 refine kI hT hC (kn b19) ?_
 refine kP hC false (kn b19) ?_
 exact Vc.nil kM
 iterate 5 refine kF hC (kn b19) ?_
 refine kP hC true (kn b19) ?_
 exact Vc.nil kM
 refine kS h ?_ ?_ <;> intro b20 h
 refine kt b20 (Xab ?_)
 refine kO hT hC ?_
 refine Vc.nil (Xah (Xat (Xdc (Xat ?_))))
 obtain rfl := kj h
 refine Xn7 (Xn6 ?_)
 exact Xb7 (Xey.refl _) rfl trivial
 refine kf b20 (Xag (Xaf (Xac ?_)))
 iterate 2 refine kO hT hC ?_
 refine Vc.nil (Xan (Xaf (Xac ?_)))
 iterate 2 refine kO hT hC ?_
 exact Vc.nil kG
 exact kf b18 (Xao (Xav kb))
 intro v16 e
 subst e
 refine Xaf (Xar (Xab ?_))
 iterate 13 refine kO hT hC ?_
 refine Vc.nil ?_
 refine kL [101,102,103] [1616] [_,_,_] [_] ?_
 obtain ⟨o29, hl, h⟩ := Xbn h
 refine Xgd (fun v24 => ([(103, .sv (.int .i64 v24))], [])) (fun v27 => ([(101, .any), (102, .any), (103, .any)], [(1616, none)])) (fun r => Xmy C T Tryz.f34.results.toList (Xkd r) (Xkc r)) hl ?_ ?_ ?_ ?_
 apply Xen hC []
 exact co
 rfl
 decide
 rfl
 intro v24 s hs
 have h := hs
 unfold Xb8 at h
 refine Xab ?_
 refine kO hT hC ?_
 refine Vc.nil (Xar ?_)
 refine kS h ?_ ?_ <;> intro b25 h
 refine kt b25 (Xag (Xaf (Xar (Xam (Xab ?_)))))
 iterate 2 refine kQ hT hC h fun h => ?_
 refine kO hT hC ?_
 refine kN ?_
 refine kO hT hC ?_
 refine kC hC [] Tryz.call61 h (fun _ => Xc7) fun q28 h => ?_
 refine kO hT hC ?_
 refine Vc.nil ?_
 refine kS h ?_ ?_ <;> intro b26 h
 refine kt b26 (Xab ?_)
 refine kO hT hC ?_
 refine Vc.nil (Xah (Xdc (Xat ?_)))
 obtain rfl := kj h
 refine Xn7 (Xn6 ?_)
 exact Xb7 (Xey.refl _) rfl trivial
 refine kf b26 (Xag (Xan (Xaf (Xac ?_))))
 iterate 2 refine kO hT hC ?_
 exact Vc.nil kG
 exact kf b25 (Xao (Xav kb))
 intro v27 e
 subst e
 refine Xaf (Xab ?_)
 refine kO hT hC ?_
 exact Vc.nil (Xah kR)
 intro r' σ' e hE
 subst e
 obtain rfl := kj h
 refine Xat ?_
 exact hE
 intro r' σ' e hE
 subst e
 obtain rfl := kj h
 refine Xat ?_
 exact hE
def Xvn (r : Int) : AV := .sv (.int .i64 r)
def Xvm (r : Int) : Xa1 := []
theorem Xe3 {p0 r} (h : Xc0 p0 = some r) : AC Tryz.prog 77 [.sv (.int .i64 p0)] [] (Xvn r) (Xvm r) := by
 refine Xae hT Tryz.func77 rfl fun C hC => ?_
 unfold Xc0 at h
 refine Xab ?_
 refine kO hT hC ?_
 refine kN ?_
 iterate 4 refine kO hT hC ?_
 exact Vc.nil (Xah kR)
def Xmg (r : Bool) : AV := .sv (.bool r)
def Xmf (r : Bool) : Xa1 := []
theorem Xnf {p0 p1 r} (h : Xf1 p0 p1 = some r) : AC Tryz.prog 30 [.agg [.sv (.bool p0.Begun), .sv (.int .i64 p0.Next), .sv (.int .i64 p0.Age), .sv (Xaz.sv p0.Held), .sv (.int .i64 p0.Late), .sv (.int .i64 p0.Far), .sv (.int .i64 p0.Twice), .sv (.int .i64 p0.Over), .sv (.int .i64 p0.Lost)], .sv (.int .i64 p1)] [] (Xmg r) (Xmf r) := by
 refine Xae hT Tryz.func30 rfl fun C hC => ?_
 unfold Xf1 at h
 refine Xab ?_
 iterate 2 refine kO hT hC ?_
 refine Vc.nil (Xar (Xab ?_))
 refine kO hT hC ?_
 refine kC hC [] Tryz.call34 h (fun _ => Xh2) fun q1 h => ?_
 refine kO hT hC ?_
 refine Vc.nil ?_
 refine kS h ?_ ?_ <;> intro b1 h
 refine kt b1 (Xab ?_)
 refine kO hT hC ?_
 exact Vc.nil (Xah (Xat kR))
 refine kf b1 (Xag (Xaf (Xar (Xab ?_))))
 iterate 4 refine kO hT hC ?_
 refine Vc.nil ?_
 refine kL [1,11,12,13] [] [_,_,_,_] [] ?_
 obtain ⟨o6, hl, h⟩ := Xbn h
 refine Xgd (fun v3 => ([(13, .sv (.int .i64 v3))], [])) (fun v5 => ([(1, .any), (11, .any), (12, .any), (13, .any)], [])) (fun r => Xmy C T Tryz.f30.results.toList (Xmg r) (Xmf r)) hl ?_ ?_ ?_ ?_
 apply Xen hC []
 exact co
 rfl
 decide
 rfl
 intro v3 s hs
 have h := hs
 unfold Xec at h
 refine Xab ?_
 refine kO hT hC ?_
 refine Vc.nil (Xar ?_)
 refine kS h ?_ ?_ <;> intro b6 h
 refine kt b6 (Xag (Xaf (Xar (Xam (Xab ?_)))))
 refine kQ hT hC h fun h => ?_
 iterate 3 refine kO hT hC ?_
 refine kN ?_
 iterate 4 refine kO hT hC ?_
 refine Vc.nil ?_
 refine kS h ?_ ?_ <;> intro b7 h
 refine kt b7 (Xab ?_)
 refine kO hT hC ?_
 refine Vc.nil (Xah (Xdc (Xat ?_)))
 obtain rfl := kj h
 refine Xn7 (Xn6 ?_)
 exact Xb7 (Xey.refl _) rfl trivial
 refine kf b7 (Xag (Xan (Xaf (Xac ?_))))
 iterate 2 refine kO hT hC ?_
 exact Vc.nil kG
 exact kf b6 (Xao (Xav kb))
 intro v5 e
 subst e
 refine Xaf (Xab ?_)
 refine kO hT hC ?_
 exact Vc.nil (Xah kR)
 intro r' σ' e hE
 subst e
 obtain rfl := kj h
 refine Xat ?_
 exact hE
def Xvl (r : Int) : AV := .sv (.int .i64 r)
def Xvk (r : Int) : Xa1 := []
theorem Xe1 {p0 p1 r} (h : Xcz p0 p1 = some r) : AC Tryz.prog 33 [.sv (.int .i64 p0), .sv (.int .i64 p1)] [] (Xvl r) (Xvk r) := by
 refine Xae hT Tryz.func33 rfl fun C hC => ?_
 unfold Xcz at h
 refine Xab ?_
 refine kO hT hC ?_
 refine Vc.nil (Xar ?_)
 refine kL [0,1] [] [_,_] [] ?_
 refine kA h (fun v1 => ([(12, .sv (.bool v1))], [])) (fun v1 h => ?_) fun v1 h => ?_
 refine Xac ?_
 refine kO hT hC ?_
 refine kC hC [] Tryz.call79 h (fun _ => Xcy) fun q2 h => ?_
 iterate 2 refine kO hT hC ?_
 refine kS h ?_ ?_ <;> intro b1 h
 refine kI hT hC (kn b1) ?_
 refine kE hC (kn b1) [] Tryz.call79 h (fun _ => Xcy) fun q3 h => ?_
 refine kI hT hC (kn b1) ?_
 refine kP hC false (kn b1) ?_
 exact Vc.nil kM
 iterate 3 refine kF hC (kn b1) ?_
 refine kP hC true (kn b1) ?_
 exact Vc.nil kM
 refine kS h ?_ ?_ <;> intro b2 h
 refine kt b2 (Xab ?_)
 refine kO hT hC ?_
 exact Vc.nil (Xah (Xat kR))
 refine kf b2 (Xag (Xaf (Xab ?_)))
 iterate 3 refine kO hT hC ?_
 refine kQ hT hC h fun h => ?_
 refine kO hT hC ?_
 exact Vc.nil (Xah kR)
def Xn2 (r : Xa7) : AV := .tup []
def Xn1 (r : Xa7) : Xa1 := [(0, .box [.sv (.bool r.Begun), .sv (.int .i64 r.Next), .sv (.int .i64 r.Age), .own 16, .sv (.int .i64 r.Late), .sv (.int .i64 r.Far), .sv (.int .i64 r.Twice), .sv (.int .i64 r.Over), .sv (.int .i64 r.Lost)]), (16, .row Xaz r.Held)]
theorem Xkm {p0 p1 r} (h : Xby p0 p1 = some r) : AC Tryz.prog 78 [.ptr 0 0, .agg [.sv (.int .i64 p1.Seq), .sv (.bool p1.First), .sv (.bool p1.Last), .sv (.str p1.Bytes)]] [(0, .box [.sv (.bool p0.Begun), .sv (.int .i64 p0.Next), .sv (.int .i64 p0.Age), .own 2, .sv (.int .i64 p0.Late), .sv (.int .i64 p0.Far), .sv (.int .i64 p0.Twice), .sv (.int .i64 p0.Over), .sv (.int .i64 p0.Lost)]), (2, .row Xaz p0.Held)] (Xn2 r) (Xn1 r) := by
 refine Xae hT Tryz.func78 rfl fun C hC => ?_
 unfold Xby at h
 refine Xab ?_
 refine kO hT hC ?_
 refine kN ?_
 refine kO hT hC ?_
 refine Vc.nil (Xar ?_)
 refine kL [0,3,4] [0,2,48] [_,_,_] [_,_,_] ?_
 refine kX h (fun v5 => ([(4, .sv (.int .i64 v5))], [])) (fun v10 => ([(4, .sv (.int .i64 v10))], [])) (kW hC []) (fun v5 s h => ?_) fun v10 h => ?_
 unfold Xbt at h
 refine Xar ?_
 refine kL [0,3,4] [0,2,48] [_,_,_] [_,_,_] ?_
 refine kA h (fun v11 => ([(35, .sv (.bool v11))], [])) (fun v11 h => ?_) fun v11 h => ?_
 refine Xcb hm ?_
 iterate 8 refine kO hT hC ?_
 refine kS h ?_ ?_ <;> intro b5 h
 iterate 9 refine kI hT hC b5 ?_
 refine kJ hT hC b5 h fun h => ?_
 refine kI hT hC b5 ?_
 refine kJ hT hC b5 h fun h => ?_
 refine kE hC b5 [] Tryz.call39 h (fun _ => Xgg) fun q12 h => ?_
 iterate 6 refine kI hT hC b5 ?_
 refine kE hC b5 [] Tryz.call39 h (fun _ => Xgg) fun q13 h => ?_
 refine kI hT hC b5 ?_
 refine kP hC true b5 ?_
 exact kD kM
 iterate 21 refine kF hC b5 ?_
 refine kP hC false b5 ?_
 exact kD kM
 refine kS h ?_ ?_ <;> intro b6 h
 refine kt b6 (Xag (Xaf (Xam (Xac ?_))))
 iterate 3 refine kO hT hC ?_
 exact Vc.nil (Xan kG)
 exact kf b6 (Xao (Xav ku))
 refine Xaf (Xab ?_)
 iterate 6 refine kO hT hC ?_
 refine kQ hT hC h fun h => ?_
 obtain ⟨hq, h⟩ := Xbk h
 refine Xyj hT hC rfl rfl rfl rfl ⟨⟨hq.1, fun _ _ => rfl⟩, by rw [Xba]; exact hq.2⟩ ?_
 rw [Xba]
 refine kO hT hC ?_
 refine Vc.nil ?_
 refine Xcb hm ?_
 iterate 4 refine kO hT hC ?_
 obtain ⟨hq, h⟩ := Xbk h
 refine Xyj hT hC rfl rfl rfl rfl ⟨fun _ _ => rfl, by rw [Xba]; exact hq⟩ ?_
 rw [Xba]
 iterate 5 refine kO hT hC ?_
 refine kQ hT hC h fun h => ?_
 obtain ⟨hq, h⟩ := Xbk h
 refine Xyj hT hC rfl rfl rfl rfl ⟨⟨hq.1, fun _ _ => rfl⟩, by rw [Xba]; exact hq.2⟩ ?_
 rw [Xba]
 iterate 3 refine kO hT hC ?_
 refine kD ?_
 obtain rfl := kj h
 refine Yql (τ := ⟨[], [(16, some (.row Xaz (((([] : List Xal) ++ ((p0.Held.drop ((0 : Int).toNat)).take (v10.toNat - (0 : Int).toNat))) ++ ([p1])) ++ ((p0.Held.drop v10.toNat).take ((p0.Held.length : Int).toNat - v10.toNat))))), (0, some (.box [.sv (.bool p0.Begun), .sv (.int .i64 p0.Next), .sv (.int .i64 p0.Age), .own 16, .sv (.int .i64 p0.Late), .sv (.int .i64 p0.Far), .sv (.int .i64 p0.Twice), .sv (.int .i64 p0.Over), .sv (.int .i64 p0.Lost)]))]⟩) ?_ rfl ⟨rfl, rfl, trivial⟩
 apply Xen hC [(16, 912)]
 exact co
 rfl
 decide
 rfl
def Xvj (r : (Xa7 × Int)) : AV := .tup [.agg [.sv (.bool r.1.Begun), .sv (.int .i64 r.1.Next), .sv (.int .i64 r.1.Age), .own 16, .sv (.int .i64 r.1.Late), .sv (.int .i64 r.1.Far), .sv (.int .i64 r.1.Twice), .sv (.int .i64 r.1.Over), .sv (.int .i64 r.1.Lost)], .sv (.int .i64 r.2)]
def Xvi (r : (Xa7 × Int)) : Xa1 := [(16, .row Xaz r.1.Held)]
theorem Xnz {p0 p1 r} (h : Xhi p0 p1 = some r) : AC Tryz.prog 29 [.agg [.sv (.bool p0.Begun), .sv (.int .i64 p0.Next), .sv (.int .i64 p0.Age), .sv (Xaz.sv p0.Held), .sv (.int .i64 p0.Late), .sv (.int .i64 p0.Far), .sv (.int .i64 p0.Twice), .sv (.int .i64 p0.Over), .sv (.int .i64 p0.Lost)], .agg [.sv (.int .i64 p1.Seq), .sv (.bool p1.First), .sv (.bool p1.Last), .sv (.str p1.Bytes)]] [] (Xvj r) (Xvi r) := by
 refine Xae hT Tryz.func29 rfl fun C hC => ?_
 unfold Xhi at h
 refine Xab ?_
 iterate 4 refine kO hT hC ?_
 refine kN ?_
 refine kO hT hC ?_
 refine kC hC [(16, 160)] Tryz.call75 h (fun _ => Xmh) fun q1 h => ?_
 iterate 2 refine kO hT hC ?_
 refine Vc.nil (Xar (Xam (Xab ?_)))
 refine kO hT hC ?_
 refine kC hC [] Tryz.call34 h (fun _ => Xh2) fun q2 h => ?_
 iterate 2 refine kO hT hC ?_
 refine Vc.nil ?_
 refine kS h ?_ ?_ <;> intro b1 h
 refine kt b1 (Xab ?_)
 iterate 3 refine kO hT hC ?_
 refine Vc.nil (Xah (Xdc (Xat ?_)))
 obtain rfl := kj h
 exact Xb7 (τ := ⟨[(4, .ptr 2000000 0), (5, .sv (.int .i64 1))], [(16, some (.row Xaz q1.Held)), (2000000, some (.box [.sv (.bool q1.Begun), .sv (.int .i64 q1.Next), .sv (.int .i64 q1.Age), .own 16, .sv (.int .i64 q1.Late), .sv (.int .i64 q1.Far), .sv (.int .i64 q1.Twice), .sv (.int .i64 q1.Over), .sv (.int .i64 q1.Lost)]))]⟩) (kW hC [(16, 160), (2000000, 64)]) rfl ⟨rfl, trivial⟩
 refine kf b1 (Xab ?_)
 refine kO hT hC ?_
 refine kC hC [] Tryz.call76 h (fun _ => Xnd) fun q3 h => ?_
 iterate 2 refine kO hT hC ?_
 refine Vc.nil ?_
 refine kS h ?_ ?_ <;> intro b2 h
 refine kt b2 (Xab ?_)
 iterate 3 refine kO hT hC ?_
 refine Vc.nil (Xah (Xdc (Xat ?_)))
 obtain rfl := kj h
 exact Xb7 (τ := ⟨[(4, .ptr 2000000 0), (5, .sv (.int .i64 2))], [(16, some (.row Xaz q1.Held)), (2000000, some (.box [.sv (.bool q1.Begun), .sv (.int .i64 q1.Next), .sv (.int .i64 q1.Age), .own 16, .sv (.int .i64 q1.Late), .sv (.int .i64 q1.Far), .sv (.int .i64 q1.Twice), .sv (.int .i64 q1.Over), .sv (.int .i64 q1.Lost)]))]⟩) (kW hC [(16, 160), (2000000, 64)]) rfl ⟨rfl, trivial⟩
 refine kf b2 (Xab ?_)
 iterate 4 refine kO hT hC ?_
 refine Vc.nil ?_
 refine kS h ?_ ?_ <;> intro b3 h
 refine kt b3 (Xab ?_)
 iterate 2 refine kO hT hC ?_
 refine kN ?_
 iterate 4 refine kO hT hC ?_
 refine kN ?_
 iterate 4 refine kO hT hC ?_
 refine kN ?_
 iterate 3 refine kO hT hC ?_
 refine Vc.nil (Xah (Xdc (Xat ?_)))
 obtain rfl := kj h
 exact Xb7 (τ := ⟨[(4, .ptr 2000000 0), (5, .sv (.int .i64 0))], [(16, some (.row Xaz ([p1]))), (2000000, some (.box [.sv (.bool true), .sv (.int .i64 p1.Seq), .sv (.int .i64 q1.Age), .own 16, .sv (.int .i64 q1.Late), .sv (.int .i64 q1.Far), .sv (.int .i64 q1.Twice), .sv (.int .i64 q1.Over), .sv (.int .i64 q1.Lost)]))]⟩) (kW hC [(16, 480), (2000000, 64)]) rfl ⟨rfl, trivial⟩
 refine kf b3 (Xag (Xan (Xaf (Xab ?_))))
 iterate 4 refine kO hT hC ?_
 refine kC hC [] Tryz.call39 h (fun _ => Xgg) fun q4 h => ?_
 refine kO hT hC ?_
 refine Vc.nil (Xar (Xam ?_))
 refine kL [2,3,4,6,7] [32,48,64,96,160] [_,_,_,_,_] [_,_,_,_,_] ?_
 refine kA h (fun v5 => ([(38, .sv (.bool v5))], [])) (fun v5 h => ?_) fun v5 h => ?_
 refine Xac ?_
 iterate 3 refine kO hT hC ?_
 refine kS h ?_ ?_ <;> intro b4 h
 iterate 2 refine kF hC b4 ?_
 refine kP hC true b4 ?_
 refine kO hT hC ?_
 exact Vc.nil kM
 iterate 2 refine kI hT hC b4 ?_
 refine kP hC false b4 ?_
 refine kO hT hC ?_
 exact Vc.nil kM
 refine kS h ?_ ?_ <;> intro b5 h
 refine kt b5 (Xab ?_)
 iterate 2 refine kO hT hC ?_
 refine kC hC [] Tryz.call77 h (fun _ => Xe3) fun q6 h => ?_
 iterate 2 refine kO hT hC ?_
 refine kN ?_
 iterate 4 refine kO hT hC ?_
 refine kN ?_
 iterate 4 refine kO hT hC ?_
 refine kN ?_
 iterate 2 refine kO hT hC ?_
 refine kN ?_
 iterate 3 refine kO hT hC ?_
 refine Vc.nil (Xah (Xdc (Xat ?_)))
 obtain rfl := kj h
 exact Xb7 (τ := ⟨[(4, .ptr 2000000 0), (5, .sv (.int .i64 4))], [(16, some (.row Xaz ([p1]))), (2000000, some (.box [.sv (.bool q1.Begun), .sv (.int .i64 p1.Seq), .sv (.int .i64 0), .own 16, .sv (.int .i64 q1.Late), .sv (.int .i64 q6), .sv (.int .i64 q1.Twice), .sv (.int .i64 q1.Over), .sv (.int .i64 q1.Lost)]))]⟩) (kW hC [(16, 848), (2000000, 64)]) rfl ⟨rfl, trivial⟩
 refine kf b5 (Xab ?_)
 iterate 3 refine kO hT hC ?_
 refine Vc.nil ?_
 refine kS h ?_ ?_ <;> intro b6 h
 refine kt b6 (Xab ?_)
 iterate 2 refine kO hT hC ?_
 refine kC hC [] Tryz.call77 h (fun _ => Xe3) fun q7 h => ?_
 iterate 2 refine kO hT hC ?_
 refine kN ?_
 iterate 3 refine kO hT hC ?_
 refine Vc.nil (Xah (Xdc (Xat ?_)))
 obtain rfl := kj h
 exact Xb7 (τ := ⟨[(4, .ptr 2000000 0), (5, .sv (.int .i64 3))], [(16, some (.row Xaz q1.Held)), (2000000, some (.box [.sv (.bool q1.Begun), .sv (.int .i64 q1.Next), .sv (.int .i64 q1.Age), .own 16, .sv (.int .i64 q7), .sv (.int .i64 q1.Far), .sv (.int .i64 q1.Twice), .sv (.int .i64 q1.Over), .sv (.int .i64 q1.Lost)]))]⟩) (kW hC [(16, 160), (2000000, 64)]) rfl ⟨rfl, trivial⟩
 refine kf b6 (Xab ?_)
 iterate 3 refine kO hT hC ?_
 refine kC hC [] Tryz.call30 h (fun _ => Xnf) fun q8 h => ?_
 refine kO hT hC ?_
 refine Vc.nil ?_
 refine kS h ?_ ?_ <;> intro b7 h
 refine kt b7 (Xab ?_)
 iterate 2 refine kO hT hC ?_
 refine kC hC [] Tryz.call77 h (fun _ => Xe3) fun q9 h => ?_
 iterate 2 refine kO hT hC ?_
 refine kN ?_
 iterate 3 refine kO hT hC ?_
 refine Vc.nil (Xah (Xdc (Xat ?_)))
 obtain rfl := kj h
 exact Xb7 (τ := ⟨[(4, .ptr 2000000 0), (5, .sv (.int .i64 5))], [(16, some (.row Xaz q1.Held)), (2000000, some (.box [.sv (.bool q1.Begun), .sv (.int .i64 q1.Next), .sv (.int .i64 q1.Age), .own 16, .sv (.int .i64 q1.Late), .sv (.int .i64 q1.Far), .sv (.int .i64 q9), .sv (.int .i64 q1.Over), .sv (.int .i64 q1.Lost)]))]⟩) (kW hC [(16, 160), (2000000, 64)]) rfl ⟨rfl, trivial⟩
 refine kf b7 (Xab ?_)
 iterate 5 refine kO hT hC ?_
 refine Vc.nil ?_
 refine kS h ?_ ?_ <;> intro b8 h
 refine kt b8 (Xab ?_)
 iterate 2 refine kO hT hC ?_
 refine kC hC [] Tryz.call77 h (fun _ => Xe3) fun q10 h => ?_
 iterate 2 refine kO hT hC ?_
 refine kN ?_
 refine kO hT hC ?_
 refine Vc.nil (Xar ?_)
 refine kL [2,3,4,6,8] [32,48,64,96,160] [_,_,_,_,_] [_,_,_,_,_] ?_
 refine kX h (fun v13 => ([(8, .sv (.int .i64 v13))], [])) (fun v16 => ([(8, .sv (.int .i64 v16))], [])) (kW hC []) (fun v13 s h => ?_) fun v16 h => ?_
 unfold Xcl at h
 refine Xar ?_
 refine kL [2,3,4,6,8] [32,48,64,96,160] [_,_,_,_,_] [_,_,_,_,_] ?_
 refine kA h (fun v17 => ([(98, .sv (.bool v17))], [])) (fun v17 h => ?_) fun v17 h => ?_
 refine Xac ?_
 iterate 7 refine kO hT hC ?_
 refine kS h ?_ ?_ <;> intro b13 h
 iterate 3 refine kI hT hC b13 ?_
 refine kJ hT hC b13 h fun h => ?_
 iterate 3 refine kI hT hC b13 ?_
 refine kP hC true b13 ?_
 exact Vc.nil kM
 iterate 7 refine kF hC b13 ?_
 refine kP hC false b13 ?_
 exact Vc.nil kM
 refine kS h ?_ ?_ <;> intro b14 h
 refine kt b14 (Xag (Xaf (Xam (Xac ?_))))
 iterate 3 refine kO hT hC ?_
 exact Vc.nil (Xan kG)
 exact kf b14 (Xao (Xav ku))
 refine Xaf (Xab ?_)
 iterate 3 refine kO hT hC ?_
 refine kQ hT hC h fun h => ?_
 iterate 2 refine kO hT hC ?_
 refine kC hC [] Tryz.call33 h (fun _ => Xe1) fun q19 h => ?_
 iterate 2 refine kO hT hC ?_
 refine kN ?_
 iterate 4 refine kO hT hC ?_
 obtain ⟨hq, h⟩ := Xbk h
 refine Xyj hT hC rfl rfl rfl rfl hq ?_
 iterate 2 refine kO hT hC ?_
 refine Vc.nil ?_
 refine Yhj (Yrf hC 96 3 160 2066 rfl rfl rfl rfl Ydr (by omega) rfl rfl (Xey.refl _)) ?_
 refine Xab ?_
 iterate 2 refine kO hT hC ?_
 refine Vc.nil ?_
 refine kL [3,4,6] [48,64,96,2066] [_,_,_] [_,_,_,_] ?_
 refine kA h (fun v20 => ([(3, .any)], [(96, some (.box [.sv (.bool v20.1), .sv (.int .i64 v20.2.1), .sv (.int .i64 v20.2.2.1), .own 2066, .sv (.int .i64 v20.2.2.2.1), .sv (.int .i64 v20.2.2.2.2.1), .sv (.int .i64 v20.2.2.2.2.2.1), .sv (.int .i64 v20.2.2.2.2.2.2.1), .sv (.int .i64 v20.2.2.2.2.2.2.2.1)])), (2066, some (.row Xaz v20.2.2.2.2.2.2.2.2)), (48, none)])) (fun v20 h => ?_) fun v20 h => ?_
 refine Xab ?_
 iterate 4 refine kO hT hC ?_
 refine kC hC [] Tryz.call39 h (fun _ => Xgg) fun q21 h => ?_
 refine kC hC [] Tryz.call61 h (fun _ => Xc7) fun q22 h => ?_
 refine Vc.nil ?_
 refine kS h ?_ ?_ <;> intro b15 h
 refine kt b15 (Xac ?_)
 refine kO hT hC ?_
 refine kC hC [(0, 96), (16, 1969), (2, 2066)] Tryz.call78 h (fun _ => Xkm) fun q23 h => ?_
 refine Vc.nil ?_
 obtain rfl := kj h
 exact Xnh (kW hC [(2066, 1969)])
 exact kf b15 (Xag kM)
 refine Xab ?_
 iterate 3 refine kO hT hC ?_
 refine Vc.nil (Xah (Xdc (Xat ?_)))
 obtain rfl := kj h
 exact Xb7 (τ := ⟨[(4, .ptr 2000000 0), (5, .sv (.int .i64 6))], [(16, some (.row Xaz v20.2.2.2.2.2.2.2.2)), (2000000, some (.box [.sv (.bool v20.1), .sv (.int .i64 v20.2.1), .sv (.int .i64 v20.2.2.1), .own 16, .sv (.int .i64 v20.2.2.2.1), .sv (.int .i64 v20.2.2.2.2.1), .sv (.int .i64 v20.2.2.2.2.2.1), .sv (.int .i64 v20.2.2.2.2.2.2.1), .sv (.int .i64 v20.2.2.2.2.2.2.2.1)]))]⟩) (kW hC [(16, 2066), (2000000, 64)]) rfl ⟨rfl, trivial⟩
 refine kf b8 (Xag (Xan (Xaf (Xab ?_))))
 refine kO hT hC ?_
 refine kC hC [(0, 96), (16, 2017), (2, 160)] Tryz.call78 h (fun _ => Xkm) fun q24 h => ?_
 refine kN ?_
 iterate 3 refine kO hT hC ?_
 refine Vc.nil (Xah ?_)
 obtain rfl := kj h
 exact Xb7 (τ := ⟨[(4, .ptr 2000000 0), (5, .sv (.int .i64 0))], [(16, some (.row Xaz q24.Held)), (2000000, some (.box [.sv (.bool q24.Begun), .sv (.int .i64 q24.Next), .sv (.int .i64 q24.Age), .own 16, .sv (.int .i64 q24.Late), .sv (.int .i64 q24.Far), .sv (.int .i64 q24.Twice), .sv (.int .i64 q24.Over), .sv (.int .i64 q24.Lost)]))]⟩) (kW hC [(16, 2017), (2000000, 64)]) rfl ⟨rfl, trivial⟩
def Xlq (r : (Xa7 × (List Xal) × Int)) : AV := .tup [.agg [.sv (.bool r.1.Begun), .sv (.int .i64 r.1.Next), .sv (.int .i64 r.1.Age), .own 16, .sv (.int .i64 r.1.Late), .sv (.int .i64 r.1.Far), .sv (.int .i64 r.1.Twice), .sv (.int .i64 r.1.Over), .sv (.int .i64 r.1.Lost)], .own 17, .sv (.int .i64 r.2.2)]
def Xlp (r : (Xa7 × (List Xal) × Int)) : Xa1 := [(16, .row Xaz r.1.Held), (17, .row Xaz r.2.1)]
theorem Xtj {p0 p1 r} (h : Xgf p0 p1 = some r) : AC Tryz.prog 31 [.agg [.sv (.bool p0.Begun), .sv (.int .i64 p0.Next), .sv (.int .i64 p0.Age), .sv (Xaz.sv p0.Held), .sv (.int .i64 p0.Late), .sv (.int .i64 p0.Far), .sv (.int .i64 p0.Twice), .sv (.int .i64 p0.Over), .sv (.int .i64 p0.Lost)], .sv (.int .i64 p1)] [] (Xlq r) (Xlp r) := by
 refine Xae hT Tryz.func31 rfl fun C hC => ?_
 unfold Xgf at h
 refine Xab ?_
 iterate 4 refine kO hT hC ?_
 refine kN ?_
 refine kO hT hC ?_
 refine kC hC [(16, 240)] Tryz.call75 h (fun _ => Xmh) fun q1 h => ?_
 iterate 2 refine kO hT hC ?_
 refine kN ?_
 iterate 2 refine kO hT hC ?_
 refine Vc.nil (Xar ?_)
 refine kL [1,2,4,7,8] [32,64,112,240,256] [_,_,_,_,_] [_,_,_,_,_] ?_
 refine kA h (fun v2 => ([(24, .sv (.bool v2))], [])) (fun v2 h => ?_) fun v2 h => ?_
 refine Xac ?_
 refine kO hT hC ?_
 refine kC hC [] Tryz.call34 h (fun _ => Xh2) fun q3 h => ?_
 iterate 2 refine kO hT hC ?_
 refine kS h ?_ ?_ <;> intro b1 h
 refine kI hT hC (kn b1) ?_
 refine kE hC (kn b1) [] Tryz.call61 h (fun _ => Xc7) fun q4 h => ?_
 refine kI hT hC (kn b1) ?_
 refine kP hC false (kn b1) ?_
 exact Vc.nil kM
 iterate 3 refine kF hC (kn b1) ?_
 refine kP hC true (kn b1) ?_
 exact Vc.nil kM
 refine kS h ?_ ?_ <;> intro b2 h
 refine kt b2 (Xab ?_)
 iterate 5 refine kO hT hC ?_
 refine Vc.nil (Xah (Xat ?_))
 obtain rfl := kj h
 exact Xb7 (τ := ⟨[(4, .ptr 2000000 0), (5, .own 17), (6, .sv (.int .i64 0))], [(16, some (.row Xaz q1.Held)), (17, some (.row Xaz ([] : List Xal))), (2000000, some (.box [.sv (.bool q1.Begun), .sv (.int .i64 q1.Next), .sv (.int .i64 q1.Age), .own 16, .sv (.int .i64 q1.Late), .sv (.int .i64 q1.Far), .sv (.int .i64 q1.Twice), .sv (.int .i64 q1.Over), .sv (.int .i64 q1.Lost)]))]⟩) (kW hC [(16, 240), (17, 256), (2000000, 64)]) rfl ⟨rfl, rfl, trivial⟩
 refine kf b2 (Xag (Xaf (Xar (Xab ?_))))
 iterate 4 refine kO hT hC ?_
 refine Vc.nil ?_
 refine kL [1,2,4,7,8,28,29,30] [32,64,112,240,256] [_,_,_,_,_,_,_,_] [_,_,_,_,_] ?_
 obtain ⟨o15, hl, h⟩ := Xbn h
 refine Xgd (fun v8 => ([(30, .sv (.int .i64 v8))], [])) (fun v12 => ([(28, .any), (29, .any), (30, .any)], [])) (fun r => Xmy C T Tryz.f31.results.toList (Xlq r) (Xlp r)) hl ?_ ?_ ?_ ?_
 apply Xen hC []
 exact co
 rfl
 decide
 rfl
 intro v8 s hs
 have h := hs
 unfold Xbw at h
 refine Xab ?_
 refine kO hT hC ?_
 refine Vc.nil (Xar ?_)
 refine kS h ?_ ?_ <;> intro b9 h
 refine kt b9 (Xag (Xaf (Xar (Xam (Xab ?_)))))
 refine kO hT hC ?_
 iterate 2 refine kQ hT hC h fun h => ?_
 iterate 3 refine kO hT hC ?_
 refine Vc.nil (Xar ?_)
 refine Xee hm ?_
 iterate 5 refine kO hT hC ?_
 refine kC hC [] Tryz.call33 h (fun _ => Xe1) fun q13 h => ?_
 refine kO hT hC ?_
 refine kD ?_
 refine kS h ?_ ?_ <;> intro b10 h
 refine kt b10 (Xao (Xav ?_))
 refine Yk5 rfl ?_
 exact Xav kb
 refine kf b10 (Xag (Xaf (Xab ?_)))
 iterate 2 refine kO hT hC ?_
 refine Vc.nil ?_
 refine kS h ?_ ?_ <;> intro b11 h
 refine kt b11 (Xab ?_)
 iterate 5 refine kO hT hC ?_
 refine kQ hT hC h fun h => ?_
 obtain ⟨hq, h⟩ := Xbk h
 refine Xyj hT hC rfl rfl rfl rfl ⟨⟨hq.1, fun _ _ => rfl⟩, by rw [Xba]; exact hq.2⟩ ?_
 rw [Xba]
 refine kO hT hC ?_
 refine kN ?_
 iterate 5 refine kO hT hC ?_
 refine kQ hT hC h fun h => ?_
 obtain ⟨hq, h⟩ := Xbk h
 refine Xyj hT hC rfl rfl rfl rfl ⟨⟨hq.1, fun _ _ => rfl⟩, by rw [Xba]; exact hq.2⟩ ?_
 rw [Xba]
 iterate 2 refine kO hT hC ?_
 refine kN ?_
 iterate 2 refine kO hT hC ?_
 refine kC hC [] Tryz.call33 h (fun _ => Xe1) fun q14 h => ?_
 iterate 2 refine kO hT hC ?_
 refine kN ?_
 iterate 2 refine kO hT hC ?_
 refine kN ?_
 iterate 5 refine kO hT hC ?_
 refine Vc.nil (Xah (Xdc (Xat ?_)))
 obtain rfl := kj h
 refine Xn7 (Xn6 ?_)
 refine Xb7 (τ := ⟨[(4, .ptr 2000000 0), (5, .own 17), (6, .sv (.int .i64 1))], [(16, some (.row Xaz (([] : List Xal) ++ ((q1.Held.drop ((Xaa .i64 (v8 + 1)).toNat)).take ((q1.Held.length : Int).toNat - (Xaa .i64 (v8 + 1)).toNat))))), (17, some (.row Xaz (([] : List Xal) ++ ((q1.Held.drop ((0 : Int).toNat)).take ((Xaa .i64 (v8 + 1)).toNat - (0 : Int).toNat))))), (2000000, some (.box [.sv (.bool q1.Begun), .sv (.int .i64 q14), .sv (.int .i64 0), .own 16, .sv (.int .i64 q1.Late), .sv (.int .i64 q1.Far), .sv (.int .i64 q1.Twice), .sv (.int .i64 q1.Over), .sv (.int .i64 q1.Lost)]))]⟩) ?_ rfl ⟨rfl, rfl, trivial⟩
 apply Xen hC [(16, 912), (17, 800), (2000000, 64)]
 exact co
 rfl
 decide
 rfl
 refine kf b11 (Xag (Xan (Xaf (Xac ?_))))
 iterate 2 refine kO hT hC ?_
 exact Vc.nil kG
 exact kf b9 (Xao (Xav kb))
 intro v12 e
 subst e
 refine Xaf (Xar (Xam (Xab ?_)))
 iterate 5 refine kO hT hC ?_
 refine Vc.nil ?_
 refine kS h ?_ ?_ <;> intro b12 h
 refine kt b12 (Xab ?_)
 iterate 2 refine kO hT hC ?_
 refine kN ?_
 iterate 5 refine kO hT hC ?_
 refine Vc.nil (Xah (Xdc (Xat ?_)))
 obtain rfl := kj h
 exact Xb7 (τ := ⟨[(4, .ptr 2000000 0), (5, .own 17), (6, .sv (.int .i64 0))], [(16, some (.row Xaz q1.Held)), (17, some (.row Xaz ([] : List Xal))), (2000000, some (.box [.sv (.bool q1.Begun), .sv (.int .i64 q1.Next), .sv (.int .i64 0), .own 16, .sv (.int .i64 q1.Late), .sv (.int .i64 q1.Far), .sv (.int .i64 q1.Twice), .sv (.int .i64 q1.Over), .sv (.int .i64 q1.Lost)]))]⟩) (kW hC [(16, 240), (17, 256), (2000000, 64)]) rfl ⟨rfl, rfl, trivial⟩
 refine kf b12 (Xab ?_)
 iterate 5 refine kO hT hC ?_
 refine Vc.nil ?_
 refine kS h ?_ ?_ <;> intro b13 h
 refine kt b13 (Xab ?_)
 iterate 5 refine kO hT hC ?_
 refine kN ?_
 iterate 5 refine kO hT hC ?_
 refine Vc.nil (Xah (Xdc (Xat ?_)))
 obtain rfl := kj h
 exact Xb7 (τ := ⟨[(4, .ptr 2000000 0), (5, .own 17), (6, .sv (.int .i64 0))], [(16, some (.row Xaz q1.Held)), (17, some (.row Xaz ([] : List Xal))), (2000000, some (.box [.sv (.bool q1.Begun), .sv (.int .i64 q1.Next), .sv (.int .i64 (Xaa .i64 (q1.Age + 1))), .own 16, .sv (.int .i64 q1.Late), .sv (.int .i64 q1.Far), .sv (.int .i64 q1.Twice), .sv (.int .i64 q1.Over), .sv (.int .i64 q1.Lost)]))]⟩) (kW hC [(16, 240), (17, 256), (2000000, 64)]) rfl ⟨rfl, rfl, trivial⟩
 refine kf b13 (Xag (Xan (Xaf (Xab ?_))))
 iterate 2 refine kO hT hC ?_
 refine kC hC [] Tryz.call77 h (fun _ => Xe3) fun q16 h => ?_
 iterate 2 refine kO hT hC ?_
 refine kN ?_
 iterate 2 refine kO hT hC ?_
 refine kN ?_
 iterate 6 refine kO hT hC ?_
 refine kQ hT hC h fun h => ?_
 iterate 2 refine kO hT hC ?_
 refine kC hC [] Tryz.call33 h (fun _ => Xe1) fun q17 h => ?_
 iterate 2 refine kO hT hC ?_
 refine kN ?_
 iterate 3 refine kO hT hC ?_
 refine Vc.nil (Xar (Xab ?_))
 iterate 4 refine kO hT hC ?_
 refine Vc.nil ?_
 refine kL [2,4,7,8,105,106,107] [32,64,112,256] [_,_,_,_,_,_,_] [_,_,_,_] ?_
 refine kX h (fun v20 => ([(107, .sv (.int .i64 v20))], [])) (fun v23 => ([(2, .any), (8, .any), (105, .any), (106, .any), (107, .any)], [(112, some (.box [.sv (.bool q1.Begun), .sv (.int .i64 v23.1), .sv (.int .i64 0), .own 256, .sv (.int .i64 q1.Late), .sv (.int .i64 q1.Far), .sv (.int .i64 q1.Twice), .sv (.int .i64 q1.Over), .sv (.int .i64 q16)])), (256, some (.row Xaz v23.2)), (32, none)])) (kW hC []) (fun v20 s h => ?_) fun v23 h => ?_
 unfold Xbx at h
 refine Xab ?_
 refine kO hT hC ?_
 refine Vc.nil (Xar ?_)
 refine kS h ?_ ?_ <;> intro b20 h
 refine kt b20 (Xag (Xaf (Xar (Xam (Xab ?_)))))
 refine kO hT hC ?_
 refine kQ hT hC h fun h => ?_
 iterate 4 refine kO hT hC ?_
 refine Vc.nil ?_
 refine kL [2,4,7,8,12,13,105,106,107] [32,64,112,208,256] [_,_,_,_,_,_,_,_,_] [_,_,_,_,_] ?_
 refine kA h (fun v24 => ([(120, .sv (.bool v24))], [])) (fun v24 h => ?_) fun v24 h => ?_
 refine Xac ?_
 iterate 3 refine kO hT hC ?_
 refine kS h ?_ ?_ <;> intro b21 h
 iterate 5 refine kI hT hC b21 ?_
 refine kP hC true b21 ?_
 exact Vc.nil kM
 iterate 5 refine kF hC b21 ?_
 refine kP hC false b21 ?_
 exact Vc.nil kM
 refine kS h ?_ ?_ <;> intro b22 h
 refine kt b22 (Xab ?_)
 iterate 4 refine kO hT hC ?_
 refine kN ?_
 iterate 4 refine kO hT hC ?_
 refine kQ hT hC h fun h => ?_
 obtain ⟨hq, h⟩ := Xbk h
 refine Xyj hT hC rfl rfl rfl rfl ⟨fun _ _ => rfl, by rw [Xba]; exact hq⟩ ?_
 rw [Xba]
 iterate 2 refine kO hT hC ?_
 refine Vc.nil (Xao ?_)
 refine Yk5 rfl ?_
 refine Xav ?_
 obtain rfl := kj h
 exact Yjn (Ypo (kW hC [(256, 2064)]))
 refine kf b22 (Xag (Xan (Xaf (Xac ?_))))
 iterate 2 refine kO hT hC ?_
 exact Vc.nil kG
 exact kf b20 (Xao (Xav ku))
 refine Xaf (Xab ?_)
 iterate 5 refine kO hT hC ?_
 refine Vc.nil (Xah ?_)
 obtain rfl := kj h
 exact Xb7 (τ := ⟨[(4, .ptr 2000000 0), (5, .own 17), (6, .sv (.int .i64 2))], [(16, some (.row Xaz v23.2)), (17, some (.row Xaz ([] : List Xal))), (2000000, some (.box [.sv (.bool q1.Begun), .sv (.int .i64 v23.1), .sv (.int .i64 0), .own 16, .sv (.int .i64 q1.Late), .sv (.int .i64 q1.Far), .sv (.int .i64 q1.Twice), .sv (.int .i64 q1.Over), .sv (.int .i64 q16)]))]⟩) (kW hC [(16, 256), (17, 2128), (2000000, 64)]) rfl ⟨rfl, rfl, trivial⟩
 intro r' σ' e hE
 subst e
 obtain rfl := kj h
 refine Xat ?_
 exact hE
def Xko (r : Bool) : AV := .sv (.bool r)
def Xkn (r : Bool) : Xa1 := []
theorem Xqj {p0 p1 r} (h : Xed p0 p1 = some r) : AC Tryz.prog 32 [.sv (Xaz.sv p0), .sv (Xaz.sv p1)] [] (Xko r) (Xkn r) := by
 refine Xae hT Tryz.func32 rfl fun C hC => ?_
 unfold Xed at h
 refine Xab ?_
 refine kO hT hC ?_
 refine Vc.nil (Xar (Xab ?_))
 iterate 5 refine kO hT hC ?_
 refine Vc.nil ?_
 refine kS h ?_ ?_ <;> intro b1 h
 refine kt b1 (Xab ?_)
 refine kO hT hC ?_
 exact Vc.nil (Xah (Xat kR))
 refine kf b1 (Xag (Xaf (Xar (Xab ?_))))
 refine kO hT hC ?_
 refine Vc.nil ?_
 refine kL [0,1,5] [] [_,_,_] [] ?_
 obtain ⟨o5, hl, h⟩ := Xbn h
 refine Xgd (fun v2 => ([(5, .sv (.int .i64 v2))], [])) (fun v4 => ([(0, .any), (1, .any), (5, .any)], [])) (fun r => Xmy C T Tryz.f32.results.toList (Xko r) (Xkn r)) hl ?_ ?_ ?_ ?_
 apply Xen hC []
 exact co
 rfl
 decide
 rfl
 intro v2 s hs
 have h := hs
 unfold Xcn at h
 refine Xar (Xab ?_)
 iterate 4 refine kO hT hC ?_
 refine Vc.nil ?_
 refine kS h ?_ ?_ <;> intro b6 h
 refine kt b6 (Xag (Xaf (Xar (Xam ?_))))
 refine Xee hm ?_
 iterate 2 refine kO hT hC ?_
 refine kQ hT hC h fun h => ?_
 iterate 3 refine kO hT hC ?_
 refine kQ hT hC h fun h => ?_
 refine kO hT hC ?_
 refine Yse hC rfl rfl rfl rfl Yqn rfl rfl ?_
 refine kD ?_
 refine kS h ?_ ?_ <;> intro b7 h
 refine kt b7 (Xab ?_)
 refine kO hT hC ?_
 refine Vc.nil (Xah (Xdc (Xat ?_)))
 obtain rfl := kj h
 refine Xn7 (Xn6 ?_)
 exact Xb7 (Xey.refl _) rfl trivial
 refine kf b7 (Xag (Xan (Xaf (Xac ?_))))
 iterate 3 refine kO hT hC ?_
 exact Vc.nil kG
 exact kf b6 (Xao (Xav kb))
 intro v4 e
 subst e
 refine Xaf (Xab ?_)
 refine kO hT hC ?_
 exact Vc.nil (Xah kR)
 intro r' σ' e hE
 subst e
 obtain rfl := kj h
 refine Xat ?_
 exact hE
def Xls (r : Bool) : AV := .sv (.bool r)
def Xlr (r : Bool) : Xa1 := []
theorem Xto {p0 r} (h : Xji p0 = some r) : AC Tryz.prog 5 [.sv (.ints .u8 p0)] [] (Xls r) (Xlr r) := by
 refine Xae hT Tryz.func5 rfl fun C hC => ?_
 unfold Xji at h
 refine Xab ?_
 refine kO hT hC ?_
 refine Vc.nil (Xar (Xab ?_))
 refine kO hT hC ?_
 refine kC hC [] Tryz.call26 h (fun _ => Yht) fun q1 h => ?_
 refine Vc.nil ?_
 refine kS h ?_ ?_ <;> intro b1 h
 refine kt b1 (Xab ?_)
 refine kO hT hC ?_
 exact Vc.nil (Xah (Xat kR))
 refine kf b1 (Xag (Xaf (Xab ?_)))
 refine kO hT hC ?_
 refine kC hC [(16, 288)] Tryz.call27 h (fun _ => Xqn) fun q2 h => ?_
 refine kO hT hC ?_
 refine kN ?_
 refine kO hT hC ?_
 refine kC hC [(16, 320)] Tryz.call28 h (fun _ => Xrw) fun q3 h => ?_
 refine kO hT hC ?_
 refine Vc.nil (Xar (Xab ?_))
 iterate 3 refine kO hT hC ?_
 refine Vc.nil ?_
 refine kS h ?_ ?_ <;> intro b2 h
 refine kt b2 (Xab ?_)
 refine kO hT hC ?_
 exact Vc.nil (Xah (Xat kR))
 refine kf b2 (Xag (Xaf (Xab ?_)))
 iterate 2 refine kO hT hC ?_
 iterate 2 refine kQ hT hC h fun h => ?_
 refine kC hC [(16, 464)] Tryz.call29 h (fun _ => Xnz) fun q4 h => ?_
 iterate 6 refine kO hT hC ?_
 refine Vc.nil (Xar (Xab ?_))
 iterate 2 refine kO hT hC ?_
 refine Vc.nil ?_
 refine kS h ?_ ?_ <;> intro b3 h
 refine kt b3 (Xab ?_)
 refine kO hT hC ?_
 exact Vc.nil (Xah (Xat kR))
 refine kf b3 (Xag (Xaf (Xab ?_)))
 iterate 2 refine kO hT hC ?_
 refine kQ hT hC h fun h => ?_
 obtain ⟨hq, h⟩ := Xbk h
 refine Xyj hT hC rfl rfl rfl rfl ⟨⟨hq.1, fun _ _ => rfl⟩, by rw [Xba]; exact hq.2⟩ ?_
 rw [Xba]
 refine kO hT hC ?_
 refine Vc.nil (Xar (Xab ?_))
 refine kO hT hC ?_
 refine Vc.nil ?_
 refine kL [3,4,5,7,8] [80,288,320,464,592] [_,_,_,_,_] [_,_,_,_,_] ?_
 obtain ⟨o18, hl, h⟩ := Xbn h
 refine Xgd (fun v9 => ([(8, .sv (.int .i64 v9.1))], [(80, some (.box [.sv (.bool v9.2.1), .sv (.int .i64 v9.2.2.1), .sv (.int .i64 v9.2.2.2.1), .own 464, .sv (.int .i64 v9.2.2.2.2.1), .sv (.int .i64 v9.2.2.2.2.2.1), .sv (.int .i64 v9.2.2.2.2.2.2.1), .sv (.int .i64 v9.2.2.2.2.2.2.2.1), .sv (.int .i64 v9.2.2.2.2.2.2.2.2.1)])), (464, some (.row Xaz v9.2.2.2.2.2.2.2.2.2.2)), (592, some (.row Xaz v9.2.2.2.2.2.2.2.2.2.1))])) (fun v14 => ([(4, .any), (7, .any), (8, .any)], [(80, some (.box [.sv (.bool v14.1), .sv (.int .i64 v14.2.1), .sv (.int .i64 v14.2.2.1), .own 464, .sv (.int .i64 v14.2.2.2.1), .sv (.int .i64 v14.2.2.2.2.1), .sv (.int .i64 v14.2.2.2.2.2.1), .sv (.int .i64 v14.2.2.2.2.2.2.1), .sv (.int .i64 v14.2.2.2.2.2.2.2.1)])), (464, some (.row Xaz v14.2.2.2.2.2.2.2.2)), (320, none), (592, none)])) (fun r => Xmy C T Tryz.f5.results.toList (Xls r) (Xlr r)) hl ?_ ?_ ?_ ?_
 try dsimp only
 apply Xen hC []
 exact co
 rfl
 decide
 rfl
 intro v9 s hs
 have h := hs
 unfold Xdg at h
 refine Xar (Xab ?_)
 iterate 3 refine kO hT hC ?_
 refine Vc.nil ?_
 refine kS h ?_ ?_ <;> intro b10 h
 refine kt b10 (Xag (Xaf (Xar (Xam (Xab ?_)))))
 iterate 2 refine kO hT hC ?_
 iterate 3 refine kQ hT hC h fun h => ?_
 iterate 2 refine kO hT hC ?_
 refine kQ hT hC h fun h => ?_
 refine kO hT hC ?_
 refine Vc.nil ?_
 refine Xee hm ?_
 iterate 3 refine kO hT hC ?_
 iterate 2 refine kQ hT hC h fun h => ?_
 refine kC hC [(16, 912)] Tryz.call29 h (fun _ => Xnz) fun q15 h => ?_
 iterate 6 refine kO hT hC ?_
 refine kD (Xar ?_)
 refine kL [3,4,5,7,8,9,10,11] [80,160,288,320,464,592,912] [_,_,_,_,_,_,_,_] [_,_,_,_,_,_,_] ?_
 refine kA h (fun v16 => ([(71, .sv (.bool v16)), (11, .any)], [])) (fun v16 h => ?_) fun v16 h => ?_
 refine Xcb hm ?_
 iterate 3 refine kO hT hC ?_
 refine kS h ?_ ?_ <;> intro b11 h
 iterate 8 refine kF hC b11 ?_
 refine kP hC true b11 ?_
 exact kD kM
 iterate 3 refine kI hT hC b11 ?_
 refine kJ hT hC b11 h fun h => ?_
 refine kI hT hC b11 ?_
 refine kJ hT hC b11 h fun h => ?_
 refine kE hC b11 [] Tryz.call30 h (fun _ => Xnf) fun q17 h => ?_
 refine kI hT hC b11 ?_
 refine kP hC false b11 ?_
 exact kD kM
 refine kS h ?_ ?_ <;> intro b12 h
 refine kt b12 (Xab ?_)
 refine kO hT hC ?_
 refine Vc.nil (Xah (Xat (Xdc (Xat ?_))))
 obtain rfl := kj h
 refine Xn7 (Xn6 ?_)
 exact Xb7 (Xey.refl _) rfl trivial
 refine kf b12 (Xag (Xaf (Xab ?_)))
 iterate 2 refine kO hT hC ?_
 refine Vc.nil ?_
 refine Xcb hm ?_
 iterate 3 refine kO hT hC ?_
 refine kQ hT hC h fun h => ?_
 obtain ⟨hq, h⟩ := Xbk h
 refine Xyj hT hC rfl rfl rfl rfl ⟨⟨hq.1, fun _ _ => rfl⟩, by rw [Xba]; exact hq.2⟩ ?_
 rw [Xba]
 iterate 3 refine kO hT hC ?_
 refine kQ hT hC h fun h => ?_
 obtain ⟨hq, h⟩ := Xbk h
 refine Xyj hT hC rfl rfl rfl rfl ⟨⟨hq.1, fun _ _ => rfl⟩, by rw [Xba]; exact hq.2⟩ ?_
 rw [Xba]
 refine kO hT hC ?_
 refine kD (Xan (Xaf (Xac ?_)))
 iterate 3 refine kO hT hC ?_
 refine Vc.nil ?_
 obtain rfl := kj h
 exact Xvc (kW hC [(464, 912), (592, 1312)])
 exact kf b10 (Xao (Xav kb))
 intro v14 e
 subst e
 refine Xaf (Xab ?_)
 refine kO hT hC ?_
 obtain ⟨q19, hq, h⟩ := Xbn h
 refine Yj3 hC [(16, 1360), (17, 1361)] rfl rfl rfl rfl Tryz.call31 (Xtj hq) rfl (by decide) trivial rfl (.inr ⟨rfl, ⟨fun _ => rfl, fun _ => rfl, trivial⟩⟩) rfl ?_
 iterate 8 refine kO hT hC ?_
 refine Vc.nil ?_
 refine kL [3,12,13,14] [192,288,1360,1361] [_,_,_,_] [_,_,_,_] ?_
 refine kA h (fun v20 => ([(2, .sv (.bool v20)), (3, .any), (12, .any), (13, .any), (14, .any)], [(192, none), (288, none), (1360, none), (1361, none)])) (fun v20 h => ?_) fun v20 h => ?_
 refine Xcb hm ?_
 iterate 3 refine kO hT hC ?_
 refine kS h ?_ ?_ <;> intro b13 h
 iterate 2 refine kI hT hC b13 ?_
 refine kE hC b13 [] Tryz.call32 h (fun _ => Xqj) fun q21 h => ?_
 refine kP hC true b13 ?_
 refine kO hT hC ?_
 refine kS h ?_ ?_ <;> intro b14 h
 iterate 4 refine kI hT hC b14 ?_
 refine kP hC true b14 ?_
 refine kO hT hC ?_
 refine kS h ?_ ?_ <;> intro b15 h
 iterate 6 refine kI hT hC b15 ?_
 refine kJ hT hC b15 h fun h => ?_
 refine kI hT hC b15 ?_
 refine kJ hT hC b15 h fun h => ?_
 refine kE hC b15 [] Tryz.call33 h (fun _ => Xe1) fun q22 h => ?_
 refine kI hT hC b15 ?_
 refine kP hC true b15 ?_
 refine kO hT hC ?_
 refine kS h ?_ ?_ <;> intro b16 h
 refine kI hT hC b16 ?_
 refine kE hC b16 [] Tryz.call34 h (fun _ => Xh2) fun q23 h => ?_
 refine kP hC true b16 ?_
 refine kO hT hC ?_
 exact kD kM
 iterate 2 refine kF hC b16 ?_
 refine kP hC false b16 ?_
 refine kO hT hC ?_
 exact kD kM
 iterate 11 refine kF hC b15 ?_
 refine kP hC false b15 ?_
 refine kO hT hC ?_
 iterate 2 refine kF hC rfl ?_
 iterate 2 refine kO hT hC ?_
 exact kD kM
 iterate 4 refine kF hC b14 ?_
 refine kP hC false b14 ?_
 refine kO hT hC ?_
 iterate 11 refine kF hC rfl ?_
 iterate 2 refine kO hT hC ?_
 iterate 2 refine kF hC rfl ?_
 iterate 2 refine kO hT hC ?_
 exact kD kM
 iterate 3 refine kF hC b13 ?_
 refine kP hC false b13 ?_
 refine kO hT hC ?_
 iterate 4 refine kF hC rfl ?_
 iterate 2 refine kO hT hC ?_
 iterate 11 refine kF hC rfl ?_
 iterate 2 refine kO hT hC ?_
 iterate 2 refine kF hC rfl ?_
 iterate 2 refine kO hT hC ?_
 exact kD kM
 exact Xah kR
 intro r' σ' e hE
 subst e
 obtain rfl := kj h
 refine Xat ?_
 exact hE
end
end Go.Proofs.YtlebkepfhdjnmadGreat.A
