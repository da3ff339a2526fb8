/- Contracts of the functions that the law FnAdmits reaches, part 1: each comes to what its pure function tells. Written by a program of this session. Conditions: as each statement tells. -/
import Derived.Test.YtnhflbeahbcklaaGreatFFnAdmitsx0
namespace Go.Proofs.YtnhflbeahbcklaaGreat.A
open Go Go.Proofs Go.Proofs.YtnhflbeahbcklaaGreatAL Go.RowKit
set_option linter.unusedVariables false
set_option linter.unusedSimpArgs false
set_option maxRecDepth 100000
set_option maxHeartbeats 2000000
noncomputable section
def Xsb (r : Int) : AV := .sv (.int .i64 r)
def Xsa (r : Int) : Xa9 := []
theorem Yf1 {p0 p1 r} (h : Xlw p0 p1 = some r) : AC Tryz.prog 117 [.sv (.ints .i64 p0), .sv (.ints .i64 p1)] [] (Xsb r) (Xsa r) := by
 refine Xae hT Tryz.func117 rfl fun C hC => ?_
 unfold Xlw at h
 refine Xac ?_
 refine kO hT hC ?_
 refine Vc.nil (Xat (Xac ?_))
 refine kO hT hC ?_
 refine Vc.nil ?_
 refine kL [0,1,5] [] [_,_,_] [] ?_
 obtain ⟨o8, hl, h⟩ := Xbd h
 refine Xlr (fun v3 => ([(5, .sv (.int .i64 v3))], [])) (fun v6 => ([(0, .any), (1, .any), (5, .any)], [])) (fun r => Xv6 C T Tryz.f117.results.toList (Xsb r) (Xsa r)) hl ?_ ?_ ?_ ?_
 apply Xe7 hC []
 exact co
 rfl
 decide
 rfl
 intro v3 s hs
 have h := hs
 unfold Xj1 at h
 refine Xat (Xac ?_)
 iterate 2 refine kO hT hC ?_
 refine Vc.nil ?_
 refine kS h ?_ ?_ <;> intro b5 h
 refine kt b5 (Xag (Xaf (Xat (Xap (Xac ?_)))))
 iterate 4 refine kO hT hC ?_
 refine kC hC [] Tryz.call46 h (fun _ => Xta) fun q7 h => ?_
 refine Vc.nil ?_
 refine kS h ?_ ?_ <;> intro b6 h
 refine kt b6 (Xac ?_)
 iterate 2 refine kO hT hC ?_
 refine Vc.nil (Xah (Xho (Xav ?_)))
 obtain rfl := kj h
 refine Xyl (Xyj ?_)
 exact Xc0 (Xkc.refl _) rfl trivial
 refine kf b6 (Xag (Xaq (Xaf (Xad ?_))))
 iterate 3 refine kO hT hC ?_
 exact Vc.nil kG
 exact kf b5 (Xas (Xa0 kb))
 intro v6 e
 subst e
 refine Xaf (Xac ?_)
 refine kO hT hC ?_
 exact Vc.nil (Xah kR)
 intro r' σ' e hE
 subst e
 obtain rfl := kj h
 refine Xav ?_
 exact hE
def Yjy (r : Bool) : AV := .sv (.bool r)
def Yjx (r : Bool) : Xa9 := []
theorem Yl5 {p0 r} (h : Xp3 p0 = some r) : AC Tryz.prog 142 [.agg [.sv (.int .i64 p0.Qp), .sv (.int .i64 p0.Target), .sv (.int .i64 p0.Debt)]] [] (Yjy r) (Yjx r) := by
 refine Xae hT Tryz.func142 rfl fun C hC => ?_
 unfold Xp3 at h
 refine Xac ?_
 iterate 2 refine kO hT hC ?_
 refine Vc.nil ?_
 refine kL [1,2] [16] [_,_] [_] ?_
 refine kA h (fun v1 => ([(2, .sv (.bool v1)), (1, .any)], [(16, none)])) (fun v1 h => ?_) fun v1 h => ?_
 refine Xad ?_
 iterate 2 refine kO hT hC ?_
 refine kC hC [] Tryz.call107 h (fun _ => Xci) fun q2 h => ?_
 refine kO hT hC ?_
 refine kS h ?_ ?_ <;> intro b1 h
 iterate 2 refine kI hT hC b1 ?_
 refine kE hC b1 [] Tryz.call107 h (fun _ => Xci) fun q3 h => ?_
 refine kP hC true b1 ?_
 refine kO hT hC ?_
 refine kS h ?_ ?_ <;> intro b2 h
 iterate 8 refine kI hT hC b2 ?_
 refine kE hC b2 [] Tryz.call107 h (fun _ => Xci) fun q4 h => ?_
 refine kP hC true b2 ?_
 refine kO hT hC ?_
 exact Vc.nil kM
 iterate 9 refine kF hC b2 ?_
 refine kP hC false b2 ?_
 refine kO hT hC ?_
 exact Vc.nil kM
 iterate 3 refine kF hC b1 ?_
 refine kP hC false b1 ?_
 refine kO hT hC ?_
 iterate 9 refine kF hC rfl ?_
 iterate 2 refine kO hT hC ?_
 exact Vc.nil kM
 exact Xah kR
def Yj2 (r : (Int × Int)) : AV := .tup [.sv (.int .i64 r.1), .sv (.int .i64 r.2)]
def Yj1 (r : (Int × Int)) : Xa9 := []
theorem Xxg {p0 r} (h : Xm8 p0 = some r) : AC Tryz.prog 54 [.agg [.sv (.int .i64 p0.Level), .sv (.int .i64 p0.Bits), .sv (.ints .i64 p0.Cols), .sv (.ints .i64 p0.Rows)]] [] (Yj2 r) (Yj1 r) := by
 refine Xae hT Tryz.func54 rfl fun C hC => ?_
 unfold Xm8 at h
 refine Xac ?_
 iterate 3 refine kO hT hC ?_
 refine Vc.nil (Xat (Xac ?_))
 refine kO hT hC ?_
 refine kC hC [] Tryz.call46 h (fun _ => Xta) fun q1 h => ?_
 refine kO hT hC ?_
 refine Vc.nil ?_
 refine kS h ?_ ?_ <;> intro b1 h
 refine kt b1 (Xac ?_)
 iterate 2 refine kO hT hC ?_
 exact Vc.nil (Xah (Xav kR))
 refine kf b1 (Xag (Xaf ?_))
 refine Xb9 hm ?_
 iterate 2 refine kO hT hC ?_
 refine kC hC [] Tryz.call118 h (fun _ => Xnr) fun q2 h => ?_
 iterate 3 refine kO hT hC ?_
 refine kC hC [] Tryz.call118 h (fun _ => Xnr) fun q3 h => ?_
 iterate 3 refine kO hT hC ?_
 exact kD (Xah kR)
def Yl4 (r : Bool) : AV := .sv (.bool r)
def Yl3 (r : Bool) : Xa9 := []
theorem Ybb {p0 r} (h : Xf0 p0 = some r) : AC Tryz.prog 86 [.agg [.sv (.int .i64 p0.Wide), .sv (.int .i64 p0.High), .sv (.str p0.Dots)]] [] (Yl4 r) (Yl3 r) := by
 refine Xae hT Tryz.func86 rfl fun C hC => ?_
 unfold Xf0 at h
 refine Xac ?_
 iterate 2 refine kO hT hC ?_
 refine Vc.nil ?_
 refine kL [1,2] [16] [_,_] [_] ?_
 refine kA h (fun v1 => ([(2, .sv (.bool v1)), (1, .any)], [(16, none)])) (fun v1 h => ?_) fun v1 h => ?_
 refine Xad ?_
 iterate 2 refine kO hT hC ?_
 refine kC hC [] Tryz.call107 h (fun _ => Xci) fun q2 h => ?_
 refine kO hT hC ?_
 refine kS h ?_ ?_ <;> intro b1 h
 iterate 2 refine kI hT hC b1 ?_
 refine kE hC b1 [] Tryz.call107 h (fun _ => Xci) fun q3 h => ?_
 refine kP hC true b1 ?_
 refine kO hT hC ?_
 refine kS h ?_ ?_ <;> intro b2 h
 iterate 9 refine kI hT hC b2 ?_
 refine kP hC true b2 ?_
 refine kO hT hC ?_
 exact Vc.nil kM
 iterate 9 refine kF hC b2 ?_
 refine kP hC false b2 ?_
 refine kO hT hC ?_
 exact Vc.nil kM
 iterate 3 refine kF hC b1 ?_
 refine kP hC false b1 ?_
 refine kO hT hC ?_
 iterate 9 refine kF hC rfl ?_
 iterate 2 refine kO hT hC ?_
 exact Vc.nil kM
 exact Xah kR
def Yc8 (r : Bool) : AV := .sv (.bool r)
def Yc7 (r : Bool) : Xa9 := []
theorem Yf3 {p0 r} (h : Xlx p0 = some r) : AC Tryz.prog 85 [.agg [.sv (.int .i64 p0.Seq.Level), .sv (.int .i64 p0.Seq.Bits), .sv (.ints .i64 p0.Seq.Cols), .sv (.ints .i64 p0.Seq.Rows), .sv (.int .i64 p0.Par.Qp), .sv (.bool p0.Par.Large), .sv (.bool p0.Par.Exact), .sv (.bool p0.Par.Confined), .sv (.int .i64 p0.Rate.Qp), .sv (.int .i64 p0.Rate.Target), .sv (.int .i64 p0.Rate.Debt), .sv (.int .i64 p0.Frame), .sv (.int .i64 p0.Since), .sv (.int .i64 p0.Every), .sv (.int .i64 p0.Reach), .sv (.bool p0.Has), .sv (.int .i64 p0.Ref.Wide), .sv (.int .i64 p0.Ref.High), .sv (.str p0.Ref.Dots)]] [] (Yc8 r) (Yc7 r) := by
 refine Xae hT Tryz.func85 rfl fun C hC => ?_
 unfold Xlx at h
 refine Xac ?_
 iterate 2 refine kO hT hC ?_
 refine Vc.nil (Xat ?_)
 refine kL [1] [16] [_] [_] ?_
 refine kA h (fun v1 => ([(35, .sv (.bool v1))], [])) (fun v1 h => ?_) fun v1 h => ?_
 refine Xad ?_
 iterate 2 refine kO hT hC ?_
 refine kC hC [] Tryz.call106 h (fun _ => Yj3) fun q2 h => ?_
 iterate 2 refine kO hT hC ?_
 refine kS h ?_ ?_ <;> intro b1 h
 iterate 4 refine kF hC b1 ?_
 refine kP hC true b1 ?_
 refine kO hT hC ?_
 iterate 4 refine kF hC rfl ?_
 iterate 2 refine kO hT hC ?_
 iterate 3 refine kF hC rfl ?_
 iterate 2 refine kO hT hC ?_
 iterate 8 refine kF hC rfl ?_
 refine kO hT hC ?_
 exact Vc.nil kM
 iterate 2 refine kI hT hC b1 ?_
 refine kE hC b1 [] Tryz.call141 h (fun _ => Yo7) fun q3 h => ?_
 refine kI hT hC b1 ?_
 refine kP hC false b1 ?_
 refine kO hT hC ?_
 refine kS h ?_ ?_ <;> intro b2 h
 iterate 2 refine kI hT hC (kn b2) ?_
 refine kE hC (kn b2) [] Tryz.call142 h (fun _ => Yl5) fun q4 h => ?_
 refine kI hT hC (kn b2) ?_
 refine kP hC false (kn b2) ?_
 refine kO hT hC ?_
 refine kS h ?_ ?_ <;> intro b3 h
 iterate 3 refine kI hT hC (kn b3) ?_
 refine kP hC false (kn b3) ?_
 refine kO hT hC ?_
 refine kS h ?_ ?_ <;> intro b4 h
 iterate 8 refine kF hC b4 ?_
 refine kP hC true b4 ?_
 exact Vc.nil kM
 iterate 6 refine kI hT hC b4 ?_
 refine kJ hT hC b4 h fun h => ?_
 refine kI hT hC b4 ?_
 refine kP hC false b4 ?_
 exact Vc.nil kM
 iterate 3 refine kF hC (kn b3) ?_
 refine kP hC true (kn b3) ?_
 refine kO hT hC ?_
 iterate 8 refine kF hC rfl ?_
 refine kO hT hC ?_
 exact Vc.nil kM
 iterate 4 refine kF hC (kn b2) ?_
 refine kP hC true (kn b2) ?_
 refine kO hT hC ?_
 iterate 3 refine kF hC rfl ?_
 iterate 2 refine kO hT hC ?_
 iterate 8 refine kF hC rfl ?_
 refine kO hT hC ?_
 exact Vc.nil kM
 refine kS h ?_ ?_ <;> intro b5 h
 refine kt b5 (Xac ?_)
 refine kO hT hC ?_
 exact Vc.nil (Xah (Xav kR))
 refine kf b5 (Xag (Xaf (Xat ?_)))
 refine kL [1] [16] [_] [_] ?_
 refine kA h (fun v5 => ([(51, .sv (.bool v5))], [])) (fun v5 h => ?_) fun v5 h => ?_
 refine Xad ?_
 iterate 2 refine kO hT hC ?_
 refine kC hC [] Tryz.call107 h (fun _ => Xci) fun q6 h => ?_
 iterate 2 refine kO hT hC ?_
 refine kS h ?_ ?_ <;> intro b6 h
 iterate 2 refine kI hT hC (kn b6) ?_
 refine kE hC (kn b6) [] Tryz.call107 h (fun _ => Xci) fun q7 h => ?_
 refine kI hT hC (kn b6) ?_
 refine kP hC false (kn b6) ?_
 refine kO hT hC ?_
 refine kS h ?_ ?_ <;> intro b7 h
 iterate 2 refine kI hT hC (kn b7) ?_
 refine kE hC (kn b7) [] Tryz.call107 h (fun _ => Xci) fun q8 h => ?_
 refine kI hT hC (kn b7) ?_
 refine kP hC false (kn b7) ?_
 exact Vc.nil kM
 iterate 4 refine kF hC (kn b7) ?_
 refine kP hC true (kn b7) ?_
 exact Vc.nil kM
 iterate 4 refine kF hC (kn b6) ?_
 refine kP hC true (kn b6) ?_
 refine kO hT hC ?_
 iterate 4 refine kF hC rfl ?_
 refine kO hT hC ?_
 exact Vc.nil kM
 refine kS h ?_ ?_ <;> intro b8 h
 refine kt b8 (Xac ?_)
 refine kO hT hC ?_
 exact Vc.nil (Xah (Xav kR))
 refine kf b8 (Xag (Xaf (Xac ?_)))
 iterate 2 refine kO hT hC ?_
 refine kC hC [] Tryz.call54 h (fun _ => Xxg) fun q9 h => ?_
 iterate 5 refine kO hT hC ?_
 refine Vc.nil (Xat (Xac ?_))
 iterate 2 refine kO hT hC ?_
 refine Vc.nil ?_
 refine kS h ?_ ?_ <;> intro b9 h
 refine kt b9 ?_
 refine kL [1,3,4] [16] [_,_,_] [_] ?_
 refine kA h (fun v10 => ([(2, .sv (.bool v10)), (1, .any), (3, .any), (4, .any)], [(16, none)])) (fun v10 h => ?_) fun v10 h => ?_
 refine Xad ?_
 iterate 2 refine kO hT hC ?_
 refine kC hC [] Tryz.call86 h (fun _ => Ybb) fun q11 h => ?_
 refine kO hT hC ?_
 refine kS h ?_ ?_ <;> intro b10 h
 iterate 5 refine kI hT hC b10 ?_
 refine kP hC true b10 ?_
 refine kO hT hC ?_
 refine kS h ?_ ?_ <;> intro b11 h
 iterate 5 refine kI hT hC b11 ?_
 refine kP hC true b11 ?_
 refine kO hT hC ?_
 exact Vc.nil kM
 iterate 5 refine kF hC b11 ?_
 refine kP hC false b11 ?_
 refine kO hT hC ?_
 exact Vc.nil kM
 iterate 5 refine kF hC b10 ?_
 refine kP hC false b10 ?_
 refine kO hT hC ?_
 iterate 5 refine kF hC rfl ?_
 iterate 2 refine kO hT hC ?_
 exact Vc.nil kM
 exact Xah (Xav kR)
 refine kf b9 (Xag (Xaf ?_))
 refine kL [1] [16] [_] [_] ?_
 refine kA h (fun v12 => ([(2, .sv (.bool v12)), (1, .any)], [(16, none)])) (fun v12 h => ?_) fun v12 h => ?_
 refine Xad ?_
 iterate 5 refine kO hT hC ?_
 refine kS h ?_ ?_ <;> intro b12 h
 iterate 4 refine kI hT hC b12 ?_
 refine kP hC true b12 ?_
 refine kO hT hC ?_
 refine kS h ?_ ?_ <;> intro b13 h
 iterate 5 refine kI hT hC b13 ?_
 refine kP hC true b13 ?_
 refine kO hT hC ?_
 exact Vc.nil kM
 iterate 5 refine kF hC b13 ?_
 refine kP hC false b13 ?_
 refine kO hT hC ?_
 exact Vc.nil kM
 iterate 4 refine kF hC b12 ?_
 refine kP hC false b12 ?_
 refine kO hT hC ?_
 iterate 5 refine kF hC rfl ?_
 iterate 2 refine kO hT hC ?_
 exact Vc.nil kM
 exact Xah kR
def Ybd (r : (Xa3 × Bool)) : AV := .tup [.agg [.sv (.int .i64 r.1.Seq.Level), .sv (.int .i64 r.1.Seq.Bits), .own 16, .own 17, .sv (.int .i64 r.1.Par.Qp), .sv (.bool r.1.Par.Large), .sv (.bool r.1.Par.Exact), .sv (.bool r.1.Par.Confined), .sv (.int .i64 r.1.Rate.Qp), .sv (.int .i64 r.1.Rate.Target), .sv (.int .i64 r.1.Rate.Debt), .sv (.int .i64 r.1.Frame), .sv (.int .i64 r.1.Since), .sv (.int .i64 r.1.Every), .sv (.int .i64 r.1.Reach), .sv (.bool r.1.Has), .sv (.int .i64 r.1.Ref.Wide), .sv (.int .i64 r.1.Ref.High), .sv (.str r.1.Ref.Dots)], .sv (.bool r.2)]
def Ybc (r : (Xa3 × Bool)) : Xa9 := [(16, .ints .i64 r.1.Seq.Cols), (17, .ints .i64 r.1.Seq.Rows)]
theorem Yc5 {p0 p1 p2 p3 p4 p5 p6 r} (h : Xjp p0 p1 p2 p3 p4 p5 p6 = some r) : AC Tryz.prog 52 [.sv (.int .i64 p0), .sv (.int .i64 p1), .sv (.int .i64 p2), .agg [.sv (.int .i64 p3.Qp), .sv (.bool p3.Large), .sv (.bool p3.Exact), .sv (.bool p3.Confined)], .agg [.sv (.int .i64 p4.Qp), .sv (.int .i64 p4.Target), .sv (.int .i64 p4.Debt)], .sv (.int .i64 p5), .sv (.int .i64 p6)] [] (Ybd r) (Ybc r) := by
 refine Xae hT Tryz.func52 rfl fun C hC => ?_
 unfold Xjp at h
 refine Xac ?_
 iterate 4 refine kO hT hC ?_
 refine kN ?_
 iterate 8 refine kO hT hC ?_
 refine kN ?_
 iterate 4 refine kO hT hC ?_
 refine kC hC [] Tryz.call117 h (fun _ => Yf1) fun q1 h => ?_
 iterate 2 refine kO hT hC ?_
 refine kN ?_
 iterate 8 refine kO hT hC ?_
 refine Vc.nil (Xat (Xac ?_))
 refine kO hT hC ?_
 refine kC hC [] Tryz.call85 h (fun _ => Yf3) fun q2 h => ?_
 refine kO hT hC ?_
 refine Vc.nil ?_
 refine kS h ?_ ?_ <;> intro b1 h
 refine kt b1 (Xac ?_)
 iterate 3 refine kO hT hC ?_
 refine Vc.nil (Xah (Xav ?_))
 obtain rfl := kj h
 refine Xc0 (τ := ⟨[(14, .ptr 2000000 0), (15, .sv (.bool false))], [(16, some (.ints .i64 [])), (17, some (.ints .i64 [])), (2000000, some (.box [.sv (.int .i64 0), .sv (.int .i64 0), .own 16, .own 17, .sv (.int .i64 0), .sv (.bool false), .sv (.bool false), .sv (.bool false), .sv (.int .i64 0), .sv (.int .i64 0), .sv (.int .i64 0), .sv (.int .i64 0), .sv (.int .i64 0), .sv (.int .i64 0), .sv (.int .i64 0), .sv (.bool false), .sv (.int .i64 0), .sv (.int .i64 0), .sv (.str ⟨#[]⟩)]))]⟩) ?_ rfl ⟨rfl, rfl, trivial⟩
 refine Xof hC 224 2 673 (.ints .i64 []) rfl rfl rfl rfl rfl trivial ?_
 refine Xof hC 224 3 674 (.ints .i64 []) rfl rfl rfl rfl rfl trivial ?_
 apply Xe7 hC [(16, 673), (17, 674), (2000000, 224)]
 exact co
 rfl
 decide
 rfl
 refine kf b1 (Xag (Xaf (Xac ?_)))
 iterate 3 refine kO hT hC ?_
 refine Vc.nil (Xah ?_)
 obtain rfl := kj h
 exact Xc0 (τ := ⟨[(14, .ptr 2000000 0), (15, .sv (.bool true))], [(16, some (.ints .i64 ([p0]))), (17, some (.ints .i64 ([p1]))), (2000000, some (.box [.sv (.int .i64 q1), .sv (.int .i64 p2), .own 16, .own 17, .sv (.int .i64 p3.Qp), .sv (.bool p3.Large), .sv (.bool p3.Exact), .sv (.bool p3.Confined), .sv (.int .i64 p4.Qp), .sv (.int .i64 p4.Target), .sv (.int .i64 p4.Debt), .sv (.int .i64 0), .sv (.int .i64 0), .sv (.int .i64 p5), .sv (.int .i64 p6), .sv (.bool false), .sv (.int .i64 0), .sv (.int .i64 0), .sv (.str ⟨#[]⟩)]))]⟩) (kW hC [(16, 320), (17, 352), (2000000, 224)]) rfl ⟨rfl, rfl, trivial⟩
def Ygd (r : (ByteArray × Xbl)) : AV := .sv (.str r.1)
def Ygc (r : (ByteArray × Xbl)) : Xa9 := [(0, .box [.sv (.ints .u8 r.2.b_), .sv (.int .i64 r.2.i_), .sv (.int .i64 r.2.h_)])]
theorem Yj7 {p0 p1 r} (h : Xob p0 p1 = some r) : AC Tryz.prog 119 [.ptr 0 0, .sv (.int .i64 p1)] [(0, .box [.sv (.ints .u8 p0.b_), .sv (.int .i64 p0.i_), .sv (.int .i64 p0.h_)])] (Ygd r) (Ygc r) := by
 refine Xae hT Tryz.func119 rfl fun C hC => ?_
 unfold Xob at h
 refine Xac ?_
 refine kO hT hC ?_
 refine kN ?_
 iterate 2 refine kO hT hC ?_
 refine kN ?_
 refine kO hT hC ?_
 refine kC hC [(0, 0)] Tryz.call39 h (fun _ => Xcw) fun q1 h => ?_
 refine kO hT hC ?_
 refine Vc.nil (Xat (Xac ?_))
 refine kO hT hC ?_
 refine Vc.nil ?_
 refine kL [0,1,5,6,7] [0,128] [_,_,_,_,_] [_,_] ?_
 refine kX h (fun v7 => ([(6, .sv (.int .i64 v7.1)), (7, .sv (.int .i64 v7.2.1))], [(0, some (.box [.sv (.ints .u8 v7.2.2.1), .sv (.int .i64 v7.2.2.2.1), .sv (.int .i64 v7.2.2.2.2.1)])), (128, some (.ints .u8 v7.2.2.2.2.2))])) (fun v13 => ([(0, .any), (1, .any), (6, .any), (7, .any)], [(0, some (.box [.sv (.ints .u8 v13.2.1), .sv (.int .i64 v13.2.2.1), .sv (.int .i64 v13.2.2.2)])), (128, some (.ints .u8 v13.1))])) (kW hC []) (fun v7 s h => ?_) fun v13 h => ?_
 unfold Xl5 at h
 refine Xat (Xac ?_)
 iterate 3 refine kO hT hC ?_
 refine Vc.nil ?_
 refine kS h ?_ ?_ <;> intro b7 h
 refine kt b7 (Xag (Xaf (Xat (Xap ?_))))
 refine kL [0,1,5,6,7] [0,128] [_,_,_,_,_] [_,_] ?_
 refine kA h (fun v14 => ([(6, .sv (.int .i64 v14.1))], [(0, some (.box [.sv (.ints .u8 v14.2.1), .sv (.int .i64 v14.2.2.1), .sv (.int .i64 v14.2.2.2)]))])) (fun v14 h => ?_) fun v14 h => ?_
 refine Xac ?_
 refine kO hT hC ?_
 refine kC hC [(0, 0)] Tryz.call40 h (fun _ => Xax) fun q15 h => ?_
 refine Vc.nil (Xap (Xac ?_))
 iterate 2 refine kO hT hC ?_
 refine Vc.nil ?_
 refine kS h ?_ ?_ <;> intro b8 h
 refine kt b8 (Xad ?_)
 refine kO hT hC ?_
 refine kC hC [(0, 0)] Tryz.call39 h (fun _ => Xcw) fun q16 h => ?_
 refine kO hT hC ?_
 exact Vc.nil (Xaq kM)
 refine kf b8 (Xac ?_)
 iterate 2 refine kO hT hC ?_
 refine Vc.nil ?_
 refine kS h ?_ ?_ <;> intro b9 h
 refine kt b9 (Xad ?_)
 iterate 2 refine kO hT hC ?_
 refine kC hC [(0, 0)] Tryz.call40 h (fun _ => Xax) fun q17 h => ?_
 iterate 4 refine kO hT hC ?_
 exact Vc.nil (Xaq kM)
 exact kf b9 (Xag (Xaq kM))
 refine Xad ?_
 iterate 4 refine kO hT hC ?_
 refine kT hT hC h fun h => ?_
 refine kO hT hC ?_
 refine Vc.nil (Xaq (Xaf (Xad ?_)))
 iterate 3 refine kO hT hC ?_
 refine Vc.nil ?_
 obtain rfl := kj h
 exact Yjg (kW hC [(128, 544)])
 exact kf b7 (Xas (Xa0 ku))
 refine Xaf (Xac ?_)
 iterate 3 refine kO hT hC ?_
 refine Vc.nil (Xah ?_)
 obtain rfl := kj h
 exact Xc0 (Xkc.refl _) rfl ⟨rfl, trivial⟩
def Ydg (r : (Pic × Xbl)) : AV := .agg [.sv (.int .i64 r.1.Wide), .sv (.int .i64 r.1.High), .sv (.str r.1.Dots)]
def Ydf (r : (Pic × Xbl)) : Xa9 := [(0, .box [.sv (.ints .u8 r.2.b_), .sv (.int .i64 r.2.i_), .sv (.int .i64 r.2.h_)])]
theorem Xtx {p0 p1 p2 r} (h : Xi0 p0 p1 p2 = some r) : AC Tryz.prog 55 [.ptr 0 0, .sv (.int .i64 p1), .sv (.int .i64 p2)] [(0, .box [.sv (.ints .u8 p0.b_), .sv (.int .i64 p0.i_), .sv (.int .i64 p0.h_)])] (Ydg r) (Ydf r) := by
 refine Xae hT Tryz.func55 rfl fun C hC => ?_
 unfold Xi0 at h
 refine Xac ?_
 refine kO hT hC ?_
 refine kN ?_
 iterate 6 refine kO hT hC ?_
 refine kC hC [(0, 0)] Tryz.call119 h (fun _ => Yj7) fun q1 h => ?_
 iterate 2 refine kO hT hC ?_
 refine Vc.nil (Xah ?_)
 obtain rfl := kj h
 exact Xc0 (Xkc.refl _) rfl ⟨rfl, trivial⟩
def Yf0 (r : Int) : AV := .sv (.int .i64 r)
def Yfz (r : Int) : Xa9 := []
theorem Xux {p0 p1 p2 r} (h : Xe5 p0 p1 p2 = some r) : AC Tryz.prog 143 [.sv (.int .i64 p0), .sv (.int .i64 p1), .sv (.int .i64 p2)] [] (Yf0 r) (Yfz r) := by
 refine Xae hT Tryz.func143 rfl fun C hC => ?_
 unfold Xe5 at h
 refine Xac ?_
 refine kO hT hC ?_
 refine Vc.nil (Xat ?_)
 refine kL [0,1,2] [] [_,_,_] [] ?_
 refine kA h (fun v1 => ([(14, .sv (.bool v1))], [])) (fun v1 h => ?_) fun v1 h => ?_
 refine Xad ?_
 iterate 4 refine kO hT hC ?_
 refine kS h ?_ ?_ <;> intro b1 h
 iterate 3 refine kF hC b1 ?_
 refine kP hC true b1 ?_
 exact Vc.nil kM
 iterate 3 refine kI hT hC b1 ?_
 refine kP hC false b1 ?_
 exact Vc.nil kM
 refine kS h ?_ ?_ <;> intro b2 h
 refine kt b2 (Xac ?_)
 iterate 2 refine kO hT hC ?_
 exact Vc.nil (Xah (Xav kR))
 refine kf b2 (Xag (Xaf (Xat (Xac ?_))))
 iterate 3 refine kO hT hC ?_
 refine Vc.nil ?_
 refine kS h ?_ ?_ <;> intro b3 h
 refine kt b3 (Xac ?_)
 iterate 2 refine kO hT hC ?_
 exact Vc.nil (Xah (Xav kR))
 refine kf b3 (Xag (Xaf (Xac ?_)))
 iterate 2 refine kO hT hC ?_
 exact Vc.nil (Xah kR)
def Ylz (r : Int) : AV := .sv (.int .i64 r)
def Yly (r : Int) : Xa9 := []
theorem Yo6 {p0 p1 p2 r} (h : Xey p0 p1 p2 = some r) : AC Tryz.prog 120 [.agg [.sv (.int .i64 p0.Wide), .sv (.int .i64 p0.High), .sv (.str p0.Dots)], .sv (.int .i64 p1), .sv (.int .i64 p2)] [] (Ylz r) (Yly r) := by
 refine Xae hT Tryz.func120 rfl fun C hC => ?_
 unfold Xey at h
 refine Xac ?_
 iterate 2 refine kO hT hC ?_
 refine Vc.nil (Xat (Xac ?_))
 refine kO hT hC ?_
 refine kC hC [] Tryz.call86 h (fun _ => Ybb) fun q1 h => ?_
 refine kO hT hC ?_
 refine Vc.nil ?_
 refine kS h ?_ ?_ <;> intro b1 h
 refine kt b1 (Xac ?_)
 refine kO hT hC ?_
 exact Vc.nil (Xah (Xav kR))
 refine kf b1 (Xag (Xaf ?_))
 refine Xb9 hm ?_
 iterate 6 refine kO hT hC ?_
 refine kC hC [] Tryz.call143 h (fun _ => Xux) fun q2 h => ?_
 iterate 7 refine kO hT hC ?_
 refine kC hC [] Tryz.call143 h (fun _ => Xux) fun q3 h => ?_
 refine kO hT hC ?_
 refine kQ hT hC h fun h => ?_
 iterate 2 refine kO hT hC ?_
 exact kD (Xah kR)
def Ygf (r : (Pic × Xbl)) : AV := .agg [.sv (.int .i64 r.1.Wide), .sv (.int .i64 r.1.High), .sv (.str r.1.Dots)]
def Yge (r : (Pic × Xbl)) : Xa9 := [(0, .box [.sv (.ints .u8 r.2.b_), .sv (.int .i64 r.2.i_), .sv (.int .i64 r.2.h_)])]
theorem Ykb {p0 p1 r} (h : Xod p0 p1 = some r) : AC Tryz.prog 57 [.ptr 0 0, .agg [.sv (.int .i64 p1.Wide), .sv (.int .i64 p1.High), .sv (.str p1.Dots)]] [(0, .box [.sv (.ints .u8 p0.b_), .sv (.int .i64 p0.i_), .sv (.int .i64 p0.h_)])] (Ygf r) (Yge r) := by
 refine Xae hT Tryz.func57 rfl fun C hC => ?_
 unfold Xod at h
 refine Xac ?_
 iterate 2 refine kO hT hC ?_
 refine kN ?_
 refine kO hT hC ?_
 refine kC hC [(0, 0)] Tryz.call40 h (fun _ => Xax) fun q1 h => ?_
 iterate 2 refine kO hT hC ?_
 refine kN ?_
 refine kO hT hC ?_
 refine kC hC [(0, 0)] Tryz.call40 h (fun _ => Xax) fun q2 h => ?_
 iterate 2 refine kO hT hC ?_
 refine Vc.nil ?_
 refine kL [0,3,4,5,6] [0,48,64] [_,_,_,_,_] [_,_,_] ?_
 refine kA h (fun v3 => ([(5, .sv (.int .i64 v3.1)), (6, .sv (.int .i64 v3.2.1))], [(0, some (.box [.sv (.ints .u8 v3.2.2.1), .sv (.int .i64 v3.2.2.2.1), .sv (.int .i64 v3.2.2.2.2)]))])) (fun v3 h => ?_) fun v3 h => ?_
 refine Xac ?_
 refine kO hT hC ?_
 refine kC hC [(0, 0)] Tryz.call56 h (fun _ => Xlz) fun q4 h => ?_
 refine Vc.nil ?_
 refine kS h ?_ ?_ <;> intro b1 h
 refine kt b1 (Xac ?_)
 refine kO hT hC ?_
 refine Vc.nil (Xad ?_)
 refine kO hT hC ?_
 exact Vc.nil kM
 exact kf b1 (Xag kM)
 refine Xac ?_
 iterate 2 refine kO hT hC ?_
 refine Vc.nil (Xat (Xac ?_))
 refine kO hT hC ?_
 refine Vc.nil ?_
 refine kL [0,3,4,5,6,7,8] [0,48,64,288] [_,_,_,_,_,_,_] [_,_,_,_] ?_
 refine kX h (fun v7 => ([(8, .sv (.int .i64 v7.1))], [(288, some (.ints .u8 v7.2))])) (fun v10 => ([(5, .any), (6, .any), (8, .any)], [(288, some (.ints .u8 v10))])) (kW hC []) (fun v7 s h => ?_) fun v10 h => ?_
 unfold Xl8 at h
 refine Xat (Xac ?_)
 iterate 5 refine kO hT hC ?_
 refine Vc.nil ?_
 refine kS h ?_ ?_ <;> intro b4 h
 refine kt b4 (Xag (Xaf (Xat (Xap ?_))))
 refine Xeq hm ?_
 iterate 5 refine kO hT hC ?_
 refine kQ hT hC h fun h => ?_
 iterate 5 refine kO hT hC ?_
 refine kQ hT hC h fun h => ?_
 iterate 2 refine kO hT hC ?_
 refine kC hC [] Tryz.call120 h (fun _ => Yo6) fun q11 h => ?_
 iterate 2 refine kO hT hC ?_
 refine kT hT hC h fun h => ?_
 refine kO hT hC ?_
 refine kD (Xaq (Xaf (Xad ?_)))
 iterate 3 refine kO hT hC ?_
 refine Vc.nil ?_
 obtain rfl := kj h
 exact Yjg (kW hC [(288, 688)])
 exact kf b4 (Xas (Xa0 ku))
 refine Xaf (Xat (Xac ?_))
 refine kO hT hC ?_
 refine Vc.nil ?_
 refine kL [0,3,4,7,9] [0,48,64,288] [_,_,_,_,_] [_,_,_,_] ?_
 refine kX h (fun v17 => ([(9, .sv (.int .i64 v17.1))], [(0, some (.box [.sv (.ints .u8 v17.2.1), .sv (.int .i64 v17.2.2.1), .sv (.int .i64 v17.2.2.2.1)])), (288, some (.ints .u8 v17.2.2.2.2))])) (fun v22 => ([(0, .any), (9, .any)], [(0, some (.box [.sv (.ints .u8 v22.2.1), .sv (.int .i64 v22.2.2.1), .sv (.int .i64 v22.2.2.2)])), (288, some (.ints .u8 v22.1))])) (kW hC []) (fun v17 s h => ?_) fun v22 h => ?_
 unfold Xl9 at h
 refine Xat (Xac ?_)
 iterate 2 refine kO hT hC ?_
 refine kC hC [(0, 0)] Tryz.call40 h (fun _ => Xax) fun q23 h => ?_
 refine kO hT hC ?_
 refine Vc.nil ?_
 refine kS h ?_ ?_ <;> intro b7 h
 refine kt b7 (Xag (Xaf (Xat (Xap (Xad ?_)))))
 iterate 4 refine kO hT hC ?_
 refine kC hC [(0, 0)] Tryz.call40 h (fun _ => Xax) fun q24 h => ?_
 refine kO hT hC ?_
 refine kC hC [(0, 0)] Tryz.call39 h (fun _ => Xcw) fun q25 h => ?_
 refine kO hT hC ?_
 iterate 2 refine kQ hT hC h fun h => ?_
 refine Vc.nil (Xaq (Xaf (Xad ?_)))
 iterate 3 refine kO hT hC ?_
 exact Vc.nil kG
 exact kf b7 (Xas (Xa0 ku))
 refine Xaf (Xac ?_)
 iterate 8 refine kO hT hC ?_
 refine Vc.nil (Xah ?_)
 obtain rfl := kj h
 exact Xc0 (Xkc.refl _) rfl ⟨rfl, trivial⟩
def Ya7 (r : (Xa3 × (List Pic) × (List Bool))) : AV := .tup [.agg [.sv (.int .i64 r.1.Seq.Level), .sv (.int .i64 r.1.Seq.Bits), .own 16, .own 17, .sv (.int .i64 r.1.Par.Qp), .sv (.bool r.1.Par.Large), .sv (.bool r.1.Par.Exact), .sv (.bool r.1.Par.Confined), .sv (.int .i64 r.1.Rate.Qp), .sv (.int .i64 r.1.Rate.Target), .sv (.int .i64 r.1.Rate.Debt), .sv (.int .i64 r.1.Frame), .sv (.int .i64 r.1.Since), .sv (.int .i64 r.1.Every), .sv (.int .i64 r.1.Reach), .sv (.bool r.1.Has), .sv (.int .i64 r.1.Ref.Wide), .sv (.int .i64 r.1.Ref.High), .sv (.str r.1.Ref.Dots)], .own 18, .own 19]
def Ya6 (r : (Xa3 × (List Pic) × (List Bool))) : Xa9 := [(16, .ints .i64 r.1.Seq.Cols), (17, .ints .i64 r.1.Seq.Rows), (18, .row Yu0 r.2.1), (19, .row Ybn r.2.2)]
theorem Yc2 {p0 r} (h : Xjl p0 = some r) : AC Tryz.prog 20 [.sv (.ints .u8 p0)] [] (Ya7 r) (Ya6 r) := by
 refine Xae hT Tryz.func20 rfl fun C hC => ?_
 unfold Xjl at h
 refine Xac ?_
 iterate 3 refine kO hT hC ?_
 refine kN ?_
 refine kO hT hC ?_
 refine kC hC [(16, 240)] Tryz.call38 h (fun _ => Xxj) fun q1 h => ?_
 refine kO hT hC ?_
 refine kN ?_
 refine kO hT hC ?_
 refine kC hC [(0, 240)] Tryz.call40 h (fun _ => Xax) fun q2 h => ?_
 iterate 2 refine kO hT hC ?_
 refine kC hC [(0, 240)] Tryz.call40 h (fun _ => Xax) fun q3 h => ?_
 iterate 2 refine kO hT hC ?_
 refine kC hC [(0, 240)] Tryz.call44 h (fun _ => Xyt) fun q4 h => ?_
 refine kO hT hC ?_
 refine kC hC [(0, 240)] Tryz.call53 h (fun _ => Ygg) fun q5 h => ?_
 refine kO hT hC ?_
 refine kC hC [(0, 240)] Tryz.call40 h (fun _ => Xax) fun q6 h => ?_
 iterate 2 refine kO hT hC ?_
 refine kC hC [(0, 240)] Tryz.call40 h (fun _ => Xax) fun q7 h => ?_
 refine kC hC [(16, 512), (17, 513)] Tryz.call52 h (fun _ => Yc5) fun q8 h => ?_
 iterate 6 refine kO hT hC ?_
 refine kN ?_
 iterate 2 refine kO hT hC ?_
 refine kC hC [] Tryz.call54 h (fun _ => Xxg) fun q9 h => ?_
 iterate 5 refine kO hT hC ?_
 refine kN ?_
 iterate 3 refine kO hT hC ?_
 refine kC hC [(0, 240)] Tryz.call55 h (fun _ => Xtx) fun q10 h => ?_
 iterate 2 refine kO hT hC ?_
 refine kN ?_
 iterate 2 refine kO hT hC ?_
 refine kN ?_
 iterate 2 refine kO hT hC ?_
 refine Vc.nil (Xat (Xac ?_))
 refine kO hT hC ?_
 refine Vc.nil ?_
 refine kL [2,5,6,8,9,10,11,12,13] [32,96,160,240,512,513,720,736] [_,_,_,_,_,_,_,_,_] [_,_,_,_,_,_,_,_] ?_
 refine kX h (fun v18 => ([(13, .sv (.int .i64 v18.1))], [(160, some (.box [.sv (.int .i64 v18.2.2.2.2.1), .sv (.int .i64 v18.2.2.2.2.2.1), .sv (.str v18.2.2.2.2.2.2.1)])), (240, some (.box [.sv (.ints .u8 v18.2.1), .sv (.int .i64 v18.2.2.1), .sv (.int .i64 v18.2.2.2.1)])), (720, some (.row Yu0 v18.2.2.2.2.2.2.2.1)), (736, some (.row Ybn v18.2.2.2.2.2.2.2.2))])) (fun v26 => ([(5, .any), (8, .any), (9, .any), (10, .any), (13, .any)], [(720, some (.row Yu0 v26.1)), (736, some (.row Ybn v26.2)), (160, none), (240, none)])) (kW hC []) (fun v18 s h => ?_) fun v26 h => ?_
 unfold Xiw at h
 refine Xat (Xac ?_)
 iterate 2 refine kO hT hC ?_
 refine kC hC [(0, 240)] Tryz.call40 h (fun _ => Xax) fun q27 h => ?_
 iterate 2 refine kO hT hC ?_
 refine Vc.nil ?_
 refine kS h ?_ ?_ <;> intro b5 h
 refine kt b5 (Xag (Xaf ?_))
 refine kL [2,5,6,8,9,10,11,12,13] [32,96,160,240,512,513,720,736] [_,_,_,_,_,_,_,_,_] [_,_,_,_,_,_,_,_] ?_
 refine kA h (fun v28 => ([(11, .own 1227), (12, .own 1228)], [(160, some (.box [.sv (.int .i64 v28.2.2.2.1), .sv (.int .i64 v28.2.2.2.2.1), .sv (.str v28.2.2.2.2.2.1)])), (240, some (.box [.sv (.ints .u8 v28.1), .sv (.int .i64 v28.2.1), .sv (.int .i64 v28.2.2.1)])), (1227, some (.row Yu0 (v18.2.2.2.2.2.2.2.1 ++ ([(⟨v18.2.2.2.2.1, v18.2.2.2.2.2.1, v18.2.2.2.2.2.2.1⟩ : Pic)])))), (1228, some (.row Ybn v28.2.2.2.2.2.2)), (720, none), (736, none)])) (fun v28 h => ?_) fun v28 h => ?_
 refine Xap (Xac ?_)
 iterate 3 refine kO hT hC ?_
 obtain ⟨hq, h⟩ := Xaw h
 refine Ymi hT hC rfl rfl rfl rfl ⟨fun _ _ => rfl, by rw [Ywf]; exact hq⟩ ?_
 rw [Ywf]
 refine kO hT hC ?_
 refine kN ?_
 iterate 2 refine kO hT hC ?_
 refine kC hC [(0, 240)] Tryz.call56 h (fun _ => Xlz) fun q29 h => ?_
 refine kO hT hC ?_
 obtain ⟨hq, h⟩ := Xaw h
 refine Ymi hT hC rfl rfl rfl rfl ⟨fun _ _ => rfl, by rw [Ytb]; exact hq⟩ ?_
 rw [Ytb]
 refine kO hT hC ?_
 refine kN ?_
 iterate 2 refine kO hT hC ?_
 refine kC hC [(0, 240)] Tryz.call57 h (fun _ => Ykb) fun q30 h => ?_
 refine kO hT hC ?_
 refine kN ?_
 refine kO hT hC ?_
 refine kC hC [(0, 240)] Tryz.call56 h (fun _ => Xlz) fun q31 h => ?_
 refine Vc.nil ?_
 refine kS h ?_ ?_ <;> intro b6 h
 refine kt b6 (Xad ?_)
 iterate 3 refine kO hT hC ?_
 refine kC hC [(0, 240)] Tryz.call55 h (fun _ => Xtx) fun q32 h => ?_
 refine kO hT hC ?_
 refine Vc.nil (Xaq ?_)
 obtain rfl := kj h
 exact Xhi (kW hC [(1227, 912), (1228, 992)])
 refine kf b6 (Xag (Xaq ?_))
 obtain rfl := kj h
 exact Xhi (kW hC [(1227, 912), (1228, 992)])
 refine Xad ?_
 iterate 3 refine kO hT hC ?_
 refine Vc.nil ?_
 obtain rfl := kj h
 exact Yjg (kW hC [(720, 1227), (736, 1228)])
 exact kf b5 (Xas (Xa0 ku))
 refine Xaf (Xac ?_)
 iterate 6 refine kO hT hC ?_
 refine Vc.nil (Xah ?_)
 obtain rfl := kj h
 exact Xc0 (τ := ⟨[(2, .ptr 2000000 0), (3, .own 18), (4, .own 19)], [(16, some (.ints .i64 q8.1.Seq.Cols)), (17, some (.ints .i64 q8.1.Seq.Rows)), (18, some (.row Yu0 v26.1)), (19, some (.row Ybn v26.2)), (2000000, some (.box [.sv (.int .i64 q8.1.Seq.Level), .sv (.int .i64 q8.1.Seq.Bits), .own 16, .own 17, .sv (.int .i64 q8.1.Par.Qp), .sv (.bool q8.1.Par.Large), .sv (.bool q8.1.Par.Exact), .sv (.bool q8.1.Par.Confined), .sv (.int .i64 q8.1.Rate.Qp), .sv (.int .i64 q8.1.Rate.Target), .sv (.int .i64 q8.1.Rate.Debt), .sv (.int .i64 q8.1.Frame), .sv (.int .i64 q8.1.Since), .sv (.int .i64 q8.1.Every), .sv (.int .i64 q8.1.Reach), .sv (.bool q8.1.Has), .sv (.int .i64 q8.1.Ref.Wide), .sv (.int .i64 q8.1.Ref.High), .sv (.str q8.1.Ref.Dots)]))]⟩) (kW hC [(16, 512), (17, 513), (18, 720), (19, 736), (2000000, 32)]) rfl ⟨rfl, rfl, rfl, rfl, trivial⟩
def Yh5 (r : Bool) : AV := .sv (.bool r)
def Yh4 (r : Bool) : Xa9 := []
theorem Xqx {p0 r} (h : Xj6 p0 = some r) : AC Tryz.prog 68 [.agg [.sv (.int .i64 p0.Qp), .sv (.int .i64 p0.Target), .sv (.int .i64 p0.Debt)]] [] (Yh5 r) (Yh4 r) := by
 refine Xae hT Tryz.func68 rfl fun C hC => ?_
 unfold Xj6 at h
 refine Xac ?_
 iterate 2 refine kO hT hC ?_
 refine Vc.nil ?_
 refine kL [1,2] [16] [_,_] [_] ?_
 refine kA h (fun v1 => ([(2, .sv (.bool v1)), (1, .any)], [(16, none)])) (fun v1 h => ?_) fun v1 h => ?_
 refine Xad ?_
 iterate 2 refine kO hT hC ?_
 refine kC hC [] Tryz.call69 h (fun _ => Xai) fun q2 h => ?_
 refine kO hT hC ?_
 refine kS h ?_ ?_ <;> intro b1 h
 iterate 2 refine kI hT hC b1 ?_
 refine kE hC b1 [] Tryz.call69 h (fun _ => Xai) fun q3 h => ?_
 refine kP hC true b1 ?_
 refine kO hT hC ?_
 refine kS h ?_ ?_ <;> intro b2 h
 iterate 8 refine kI hT hC b2 ?_
 refine kE hC b2 [] Tryz.call69 h (fun _ => Xai) fun q4 h => ?_
 refine kP hC true b2 ?_
 refine kO hT hC ?_
 exact Vc.nil kM
 iterate 9 refine kF hC b2 ?_
 refine kP hC false b2 ?_
 refine kO hT hC ?_
 exact Vc.nil kM
 iterate 3 refine kF hC b1 ?_
 refine kP hC false b1 ?_
 refine kO hT hC ?_
 iterate 9 refine kF hC rfl ?_
 iterate 2 refine kO hT hC ?_
 exact Vc.nil kM
 exact Xah kR
def Ych (r : Bool) : AV := .sv (.bool r)
def Ycg (r : Bool) : Xa9 := []
theorem Xok {p0 r} (h : Xgg p0 = some r) : AC Tryz.prog 23 [.agg [.sv (.int .i64 p0.Seq.Level), .sv (.int .i64 p0.Seq.Bits), .sv (.ints .i64 p0.Seq.Cols), .sv (.ints .i64 p0.Seq.Rows), .sv (.int .i64 p0.Par.Qp), .sv (.bool p0.Par.Large), .sv (.bool p0.Par.Exact), .sv (.bool p0.Par.Confined), .sv (.int .i64 p0.Rate.Qp), .sv (.int .i64 p0.Rate.Target), .sv (.int .i64 p0.Rate.Debt), .sv (.int .i64 p0.Frame), .sv (.int .i64 p0.Since), .sv (.int .i64 p0.Every), .sv (.int .i64 p0.Reach), .sv (.bool p0.Has), .sv (.int .i64 p0.Ref.Wide), .sv (.int .i64 p0.Ref.High), .sv (.str p0.Ref.Dots)]] [] (Ych r) (Ycg r) := by
 refine Xae hT Tryz.func23 rfl fun C hC => ?_
 unfold Xgg at h
 refine Xac ?_
 iterate 2 refine kO hT hC ?_
 refine Vc.nil (Xat ?_)
 refine kL [1] [16] [_] [_] ?_
 refine kA h (fun v1 => ([(47, .sv (.bool v1))], [])) (fun v1 h => ?_) fun v1 h => ?_
 refine Xeq hm ?_
 iterate 2 refine kO hT hC ?_
 refine kC hC [] Tryz.call66 h (fun _ => Xh1) fun q2 h => ?_
 iterate 2 refine kO hT hC ?_
 refine kS h ?_ ?_ <;> intro b1 h
 iterate 4 refine kF hC b1 ?_
 refine kP hC true b1 ?_
 refine kO hT hC ?_
 iterate 4 refine kF hC rfl ?_
 iterate 2 refine kO hT hC ?_
 iterate 9 refine kF hC rfl ?_
 iterate 2 refine kO hT hC ?_
 iterate 4 refine kF hC rfl ?_
 iterate 2 refine kO hT hC ?_
 iterate 4 refine kF hC rfl ?_
 iterate 2 refine kO hT hC ?_
 iterate 4 refine kF hC rfl ?_
 refine kO hT hC ?_
 exact kD kM
 iterate 2 refine kI hT hC b1 ?_
 refine kE hC b1 [] Tryz.call67 h (fun _ => Xdt) fun q3 h => ?_
 refine kI hT hC b1 ?_
 refine kP hC false b1 ?_
 refine kO hT hC ?_
 refine kS h ?_ ?_ <;> intro b2 h
 iterate 2 refine kI hT hC (kn b2) ?_
 refine kE hC (kn b2) [] Tryz.call68 h (fun _ => Xqx) fun q4 h => ?_
 refine kI hT hC (kn b2) ?_
 refine kP hC false (kn b2) ?_
 refine kO hT hC ?_
 refine kS h ?_ ?_ <;> intro b3 h
 iterate 5 refine kI hT hC (kn b3) ?_
 refine kJ hT hC (kn b3) h fun h => ?_
 refine kI hT hC (kn b3) ?_
 refine kE hC (kn b3) [] Tryz.call69 h (fun _ => Xai) fun q5 h => ?_
 refine kI hT hC (kn b3) ?_
 refine kP hC false (kn b3) ?_
 refine kO hT hC ?_
 refine kS h ?_ ?_ <;> intro b4 h
 iterate 2 refine kI hT hC (kn b4) ?_
 refine kE hC (kn b4) [] Tryz.call69 h (fun _ => Xai) fun q6 h => ?_
 refine kI hT hC (kn b4) ?_
 refine kP hC false (kn b4) ?_
 refine kO hT hC ?_
 refine kS h ?_ ?_ <;> intro b5 h
 iterate 2 refine kI hT hC (kn b5) ?_
 refine kE hC (kn b5) [] Tryz.call69 h (fun _ => Xai) fun q7 h => ?_
 refine kI hT hC (kn b5) ?_
 refine kP hC false (kn b5) ?_
 refine kO hT hC ?_
 refine kS h ?_ ?_ <;> intro b6 h
 iterate 2 refine kI hT hC (kn b6) ?_
 refine kE hC (kn b6) [] Tryz.call69 h (fun _ => Xai) fun q8 h => ?_
 refine kI hT hC (kn b6) ?_
 refine kP hC false (kn b6) ?_
 exact kD kM
 iterate 4 refine kF hC (kn b6) ?_
 refine kP hC true (kn b6) ?_
 exact kD kM
 iterate 4 refine kF hC (kn b5) ?_
 refine kP hC true (kn b5) ?_
 refine kO hT hC ?_
 iterate 4 refine kF hC rfl ?_
 refine kO hT hC ?_
 exact kD kM
 iterate 4 refine kF hC (kn b4) ?_
 refine kP hC true (kn b4) ?_
 refine kO hT hC ?_
 iterate 4 refine kF hC rfl ?_
 iterate 2 refine kO hT hC ?_
 iterate 4 refine kF hC rfl ?_
 refine kO hT hC ?_
 exact kD kM
 iterate 9 refine kF hC (kn b3) ?_
 refine kP hC true (kn b3) ?_
 refine kO hT hC ?_
 iterate 4 refine kF hC rfl ?_
 iterate 2 refine kO hT hC ?_
 iterate 4 refine kF hC rfl ?_
 iterate 2 refine kO hT hC ?_
 iterate 4 refine kF hC rfl ?_
 refine kO hT hC ?_
 exact kD kM
 iterate 4 refine kF hC (kn b2) ?_
 refine kP hC true (kn b2) ?_
 refine kO hT hC ?_
 iterate 9 refine kF hC rfl ?_
 iterate 2 refine kO hT hC ?_
 iterate 4 refine kF hC rfl ?_
 iterate 2 refine kO hT hC ?_
 iterate 4 refine kF hC rfl ?_
 iterate 2 refine kO hT hC ?_
 iterate 4 refine kF hC rfl ?_
 refine kO hT hC ?_
 exact kD kM
 refine kS h ?_ ?_ <;> intro b7 h
 refine kt b7 (Xac ?_)
 refine kO hT hC ?_
 exact Vc.nil (Xah (Xav kR))
 refine kf b7 (Xag (Xaf (Xat (Xac ?_))))
 iterate 2 refine kO hT hC ?_
 refine Vc.nil ?_
 refine kS h ?_ ?_ <;> intro b8 h
 refine kt b8 (Xac ?_)
 iterate 4 refine kO hT hC ?_
 refine kC hC [] Tryz.call58 h (fun _ => Ydt) fun q9 h => ?_
 refine kO hT hC ?_
 exact Vc.nil (Xah (Xav kR))
 refine kf b8 (Xag (Xaf (Xac ?_)))
 iterate 3 refine kO hT hC ?_
 refine Zeo hC rfl rfl rfl rfl Zaf rfl rfl ?_
 refine kO hT hC ?_
 exact Vc.nil (Xah kR)
def Yhv (r : Bool) : AV := .sv (.bool r)
def Yhu (r : Bool) : Xa9 := []
theorem Yky {p0 p1 r} (h : Xpo p0 p1 = some r) : AC Tryz.prog 21 [.agg [.sv (.int .i64 p0.Seq.Level), .sv (.int .i64 p0.Seq.Bits), .sv (.ints .i64 p0.Seq.Cols), .sv (.ints .i64 p0.Seq.Rows), .sv (.int .i64 p0.Par.Qp), .sv (.bool p0.Par.Large), .sv (.bool p0.Par.Exact), .sv (.bool p0.Par.Confined), .sv (.int .i64 p0.Rate.Qp), .sv (.int .i64 p0.Rate.Target), .sv (.int .i64 p0.Rate.Debt), .sv (.int .i64 p0.Frame), .sv (.int .i64 p0.Since), .sv (.int .i64 p0.Every), .sv (.int .i64 p0.Reach), .sv (.bool p0.Has), .sv (.int .i64 p0.Ref.Wide), .sv (.int .i64 p0.Ref.High), .sv (.str p0.Ref.Dots)], .sv (.bool p1)] [] (Yhv r) (Yhu r) := by
 refine Xae hT Tryz.func21 rfl fun C hC => ?_
 unfold Xpo at h
 refine Xac ?_
 iterate 2 refine kO hT hC ?_
 refine Vc.nil ?_
 refine kL [1,2,4] [32] [_,_,_] [_] ?_
 refine kA h (fun v1 => ([(4, .sv (.bool v1)), (1, .any), (2, .any)], [(32, none)])) (fun v1 h => ?_) fun v1 h => ?_
 refine Xad ?_
 refine kO hT hC ?_
 refine kC hC [] Tryz.call23 h (fun _ => Xok) fun q2 h => ?_
 refine kO hT hC ?_
 refine kS h ?_ ?_ <;> intro b1 h
 iterate 2 refine kI hT hC b1 ?_
 refine kS h ?_ ?_ <;> intro b2 h
 iterate 3 refine kF hC b2 ?_
 refine Xa8 hC rfl rfl rfl rfl b1 rfl rfl (b := true) b2 rfl rfl rfl trivial ?_
 refine kI hT hC b1 ?_
 iterate 5 refine kF hC rfl ?_
 refine Xa8 hC rfl rfl rfl rfl b1 rfl rfl (b := true) rfl rfl rfl rfl trivial ?_
 refine kP hC true b1 ?_
 refine kO hT hC ?_
 exact Vc.nil kM
 iterate 3 refine kI hT hC b2 ?_
 refine Xa8 hC rfl rfl rfl rfl b1 rfl rfl (b := false) b2 rfl rfl rfl trivial ?_
 refine kI hT hC b1 ?_
 refine kS h ?_ ?_ <;> intro b3 h
 iterate 5 refine kI hT hC (kn b3) ?_
 refine Xa8 hC rfl rfl rfl rfl b1 rfl rfl (b := false) (kn b3) rfl rfl rfl trivial ?_
 refine kP hC true b1 ?_
 refine kO hT hC ?_
 exact Vc.nil kM
 iterate 5 refine kF hC (kn b3) ?_
 refine Xa8 hC rfl rfl rfl rfl b1 rfl rfl (b := true) (kn b3) rfl rfl rfl trivial ?_
 refine kP hC true b1 ?_
 refine kO hT hC ?_
 exact Vc.nil kM
 iterate 2 refine kF hC b1 ?_
 iterate 3 refine Xil hC rfl rfl rfl rfl rfl rfl ?_
 iterate 2 refine kF hC b1 ?_
 iterate 5 refine Xil hC rfl rfl rfl rfl rfl rfl ?_
 refine kF hC b1 ?_
 refine kP hC false b1 ?_
 refine kO hT hC ?_
 exact Vc.nil kM
 exact Xah kR
def Xyd (r : Xa3) : AV := .agg [.sv (.int .i64 r.Seq.Level), .sv (.int .i64 r.Seq.Bits), .own 16, .own 17, .sv (.int .i64 r.Par.Qp), .sv (.bool r.Par.Large), .sv (.bool r.Par.Exact), .sv (.bool r.Par.Confined), .sv (.int .i64 r.Rate.Qp), .sv (.int .i64 r.Rate.Target), .sv (.int .i64 r.Rate.Debt), .sv (.int .i64 r.Frame), .sv (.int .i64 r.Since), .sv (.int .i64 r.Every), .sv (.int .i64 r.Reach), .sv (.bool r.Has), .sv (.int .i64 r.Ref.Wide), .sv (.int .i64 r.Ref.High), .sv (.str r.Ref.Dots)]
def Xyc (r : Xa3) : Xa9 := [(16, .ints .i64 r.Seq.Cols), (17, .ints .i64 r.Seq.Rows)]
theorem Xli {p0 r} (h : Xeg p0 = some r) : AC Tryz.prog 59 [.agg [.sv (.int .i64 p0.Seq.Level), .sv (.int .i64 p0.Seq.Bits), .sv (.ints .i64 p0.Seq.Cols), .sv (.ints .i64 p0.Seq.Rows), .sv (.int .i64 p0.Par.Qp), .sv (.bool p0.Par.Large), .sv (.bool p0.Par.Exact), .sv (.bool p0.Par.Confined), .sv (.int .i64 p0.Rate.Qp), .sv (.int .i64 p0.Rate.Target), .sv (.int .i64 p0.Rate.Debt), .sv (.int .i64 p0.Frame), .sv (.int .i64 p0.Since), .sv (.int .i64 p0.Every), .sv (.int .i64 p0.Reach), .sv (.bool p0.Has), .sv (.int .i64 p0.Ref.Wide), .sv (.int .i64 p0.Ref.High), .sv (.str p0.Ref.Dots)]] [] (Xyd r) (Xyc r) := by
 refine Xae hT Tryz.func59 rfl fun C hC => ?_
 unfold Xeg at h
 refine Xac ?_
 iterate 2 refine kO hT hC ?_
 refine kN ?_
 iterate 2 refine kO hT hC ?_
 refine kC hC [(16, 80), (17, 81)] Tryz.call75 h (fun _ => Xpt) fun q1 h => ?_
 iterate 2 refine kO hT hC ?_
 refine kN ?_
 iterate 2 refine kO hT hC ?_
 refine Vc.nil (Xah ?_)
 obtain rfl := kj h
 exact Xc0 (τ := ⟨[(2, .ptr 2000000 0)], [(16, some (.ints .i64 q1.Cols)), (17, some (.ints .i64 q1.Rows)), (2000000, some (.box [.sv (.int .i64 q1.Level), .sv (.int .i64 q1.Bits), .own 16, .own 17, .sv (.int .i64 p0.Par.Qp), .sv (.bool p0.Par.Large), .sv (.bool p0.Par.Exact), .sv (.bool p0.Par.Confined), .sv (.int .i64 p0.Rate.Qp), .sv (.int .i64 p0.Rate.Target), .sv (.int .i64 p0.Rate.Debt), .sv (.int .i64 p0.Frame), .sv (.int .i64 p0.Since), .sv (.int .i64 p0.Every), .sv (.int .i64 p0.Reach), .sv (.bool p0.Has), .sv (.int .i64 p0.Ref.Wide), .sv (.int .i64 p0.Ref.High), .sv (.str p0.Ref.Dots)]))]⟩) (kW hC [(16, 80), (17, 81), (2000000, 32)]) rfl ⟨rfl, rfl, trivial⟩
def Yk9 (r : Int) : AV := .sv (.int .i64 r)
def Yk8 (r : Int) : Xa9 := []
theorem Yny {p0 p1 r} (h : Xrj p0 p1 = some r) : AC Tryz.prog 60 [.agg [.sv (.int .i64 p0.Qp), .sv (.int .i64 p0.Target), .sv (.int .i64 p0.Debt)], .sv (.bool p1)] [] (Yk9 r) (Yk8 r) := by
 refine Xae hT Tryz.func60 rfl fun C hC => ?_
 unfold Xrj at h
 refine Xac ?_
 iterate 2 refine kO hT hC ?_
 refine Vc.nil (Xat (Xap (Xac ?_)))
 refine kO hT hC ?_
 refine kC hC [] Tryz.call68 h (fun _ => Xqx) fun q1 h => ?_
 iterate 2 refine kO hT hC ?_
 refine Vc.nil ?_
 refine kS h ?_ ?_ <;> intro b1 h
 refine kt b1 (Xac ?_)
 refine kO hT hC ?_
 exact Vc.nil (Xah (Xho (Xav kR)))
 refine kf b1 (Xac ?_)
 iterate 2 refine kO hT hC ?_
 refine Vc.nil ?_
 refine kS h ?_ ?_ <;> intro b2 h
 refine kt b2 (Xac ?_)
 iterate 5 refine kO hT hC ?_
 exact Vc.nil (Xah (Xho (Xav kR)))
 refine kf b2 (Xag (Xaq (Xaf (Xac ?_))))
 iterate 3 refine kO hT hC ?_
 exact Vc.nil (Xah kR)
def Yob (r : Int) : AV := .sv (.int .i64 r)
def Yoa (r : Int) : Xa9 := []
theorem Xus {p0 r} (h : Xn3 p0 = some r) : AC Tryz.prog 199 [.sv (.int .i64 p0)] [] (Yob r) (Yoa r) := by
 refine Xae hT Tryz.func199 rfl fun C hC => ?_
 unfold Xn3 at h
 refine Xac ?_
 refine kO hT hC ?_
 refine kN ?_
 iterate 5 refine kO hT hC ?_
 exact Vc.nil (Xah kR)
def Yqo (r : Int) : AV := .sv (.int .i64 r)
def Yqn (r : Int) : Xa9 := []
theorem Xye {p0 p1 r} (h : Xqj p0 p1 = some r) : AC Tryz.prog 169 [.sv (.ints .i64 p0), .sv (.ints .i64 p1)] [] (Yqo r) (Yqn r) := by
 refine Xae hT Tryz.func169 rfl fun C hC => ?_
 unfold Xqj at h
 refine Xac ?_
 refine kO hT hC ?_
 refine kN ?_
 refine kO hT hC ?_
 refine Vc.nil (Xat (Xac ?_))
 iterate 3 refine kO hT hC ?_
 refine Vc.nil ?_
 refine kL [1,5,8,9,10] [] [_,_,_,_,_] [] ?_
 refine kX h (fun v3 => ([(5, .sv (.int .i64 v3.1)), (10, .sv (.int .i64 v3.2))], [])) (fun v6 => ([(5, .sv (.int .i64 v6)), (1, .any), (8, .any), (9, .any), (10, .any)], [])) (kW hC []) (fun v3 s h => ?_) fun v6 h => ?_
 unfold Xpu at h
 refine Xac ?_
 refine kO hT hC ?_
 refine Vc.nil (Xat ?_)
 refine kS h ?_ ?_ <;> intro b3 h
 refine kt b3 (Xag (Xaf (Xat (Xap (Xac ?_)))))
 refine kO hT hC ?_
 refine kQ hT hC h fun h => ?_
 iterate 3 refine kO hT hC ?_
 refine Vc.nil (Xad ?_)
 iterate 4 refine kO hT hC ?_
 refine kQ hT hC h fun h => ?_
 iterate 2 refine kO hT hC ?_
 refine kC hC [] Tryz.call199 h (fun _ => Xus) fun q7 h => ?_
 iterate 2 refine kO hT hC ?_
 refine Vc.nil (Xaq (Xaf (Xad ?_)))
 iterate 2 refine kO hT hC ?_
 exact Vc.nil kG
 exact kf b3 (Xas (Xa0 ku))
 refine Xaf (Xac ?_)
 iterate 2 refine kO hT hC ?_
 exact Vc.nil (Xah kR)
def Yai (r : Int) : AV := .sv (.int .i64 r)
def Yah (r : Int) : Xa9 := []
theorem Ycr {p0 r} (h : Xnh p0 = some r) : AC Tryz.prog 174 [.sv (.int .i64 p0)] [] (Yai r) (Yah r) := by
 refine Xae hT Tryz.func174 rfl fun C hC => ?_
 unfold Xnh at h
 refine Xac ?_
 refine kO hT hC ?_
 refine kN ?_
 refine kO hT hC ?_
 refine Vc.nil (Xat ?_)
 refine kL [0,3] [] [_,_] [] ?_
 refine kX h (fun v2 => ([(0, .sv (.int .i64 v2.1)), (3, .sv (.int .i64 v2.2))], [])) (fun v4 => ([(3, .sv (.int .i64 v4)), (0, .any)], [])) (kW hC []) (fun v2 s h => ?_) fun v4 h => ?_
 unfold Xc5 at h
 refine Xat (Xac ?_)
 iterate 2 refine kO hT hC ?_
 refine Vc.nil ?_
 refine kS h ?_ ?_ <;> intro b3 h
 refine kt b3 (Xag (Xaf (Xat (Xap (Xad ?_)))))
 iterate 3 refine kO hT hC ?_
 refine Vc.nil (Xaq (Xaf (Xad ?_)))
 refine kO hT hC ?_
 refine kQ hT hC h fun h => ?_
 refine kO hT hC ?_
 exact Vc.nil kG
 exact kf b3 (Xas (Xa0 ku))
 refine Xaf (Xac ?_)
 iterate 2 refine kO hT hC ?_
 exact Vc.nil (Xah kR)
def Ylq (r : ByteArray) : AV := .sv (.str r)
def Ylp (r : ByteArray) : Xa9 := []
theorem Xo2 {p0 p1 r} (h : Xks p0 p1 = some r) : AC Tryz.prog 128 [.sv (.int .i64 p0), .sv (.int .i64 p1)] [] (Ylq r) (Ylp r) := by
 refine Xae hT Tryz.func128 rfl fun C hC => ?_
 unfold Xks at h
 refine Xac ?_
 refine kO hT hC ?_
 refine kN ?_
 refine kO hT hC ?_
 obtain ⟨hq, h⟩ := Xaw h
 refine Ymi hT hC rfl rfl rfl rfl ⟨hq.1, hq.2.1, hq.2.2, by decide⟩ ?_
 refine kO hT hC ?_
 refine Vc.nil (Xat (Xac ?_))
 iterate 3 refine kO hT hC ?_
 refine Vc.nil ?_
 refine kL [0,5,6] [128] [_,_,_] [_] ?_
 refine kX h (fun v2 => ([(0, .sv (.int .i64 v2.1)), (6, .sv (.int .i64 v2.2.1))], [(128, some (.ints .u8 v2.2.2))])) (fun v4 => ([(0, .any), (6, .any)], [(128, some (.ints .u8 v4))])) (kW hC []) (fun v2 s h => ?_) fun v4 h => ?_
 unfold Xll at h
 refine Xat (Xac ?_)
 iterate 2 refine kO hT hC ?_
 refine Vc.nil ?_
 refine kS h ?_ ?_ <;> intro b3 h
 refine kt b3 (Xag (Xaf (Xat (Xap (Xac ?_)))))
 iterate 6 refine kO hT hC ?_
 iterate 2 refine kQ hT hC h fun h => ?_
 refine Vc.nil (Xad ?_)
 refine kO hT hC ?_
 refine kQ hT hC h fun h => ?_
 refine kO hT hC ?_
 refine Vc.nil (Xaq (Xaf (Xad ?_)))
 iterate 3 refine kO hT hC ?_
 exact Vc.nil kG
 exact kf b3 (Xas (Xa0 ku))
 refine Xaf (Xac ?_)
 iterate 3 refine kO hT hC ?_
 exact Vc.nil (Xah kR)
def Yse (r : ByteArray) : AV := .sv (.str r)
def Ysd (r : ByteArray) : Xa9 := []
theorem Xg9 {p0 r} (h : Xi3 p0 = some r) : AC Tryz.prog 127 [.sv (.int .i64 p0)] [] (Yse r) (Ysd r) := by
 refine Xae hT Tryz.func127 rfl fun C hC => ?_
 unfold Xi3 at h
 refine Xac ?_
 refine kO hT hC ?_
 refine kN ?_
 iterate 4 refine kO hT hC ?_
 refine kC hC [] Tryz.call174 h (fun _ => Ycr) fun q1 h => ?_
 iterate 2 refine kO hT hC ?_
 refine kC hC [] Tryz.call128 h (fun _ => Xo2) fun q2 h => ?_
 refine kO hT hC ?_
 exact Vc.nil (Xah kR)
def Yli (r : (ByteArray × Bool)) : AV := .tup [.sv (.str r.1), .sv (.bool r.2)]
def Ylh (r : (ByteArray × Bool)) : Xa9 := []
theorem Xz9 {p0 r} (h : Xpe p0 = some r) : AC Tryz.prog 173 [.sv (.int .i64 p0)] [] (Yli r) (Ylh r) := by
 refine Xae hT Tryz.func173 rfl fun C hC => ?_
 unfold Xpe at h
 refine Xac ?_
 iterate 2 refine kO hT hC ?_
 refine Vc.nil (Xat (Xac ?_))
 refine kO hT hC ?_
 refine kC hC [] Tryz.call69 h (fun _ => Xai) fun q1 h => ?_
 refine kO hT hC ?_
 refine Vc.nil ?_
 refine kS h ?_ ?_ <;> intro b1 h
 refine kt b1 (Xac ?_)
 iterate 2 refine kO hT hC ?_
 exact Vc.nil (Xah (Xav kR))
 refine kf b1 (Xag (Xaf (Xac ?_)))
 refine kO hT hC ?_
 refine kC hC [] Tryz.call127 h (fun _ => Xg9) fun q2 h => ?_
 iterate 2 refine kO hT hC ?_
 exact Vc.nil (Xah kR)
def Yio (r : Int) : AV := .sv (.int .i64 r)
def Yin (r : Int) : Xa9 := []
theorem Ylj {p0 r} (h : Xmp p0 = some r) : AC Tryz.prog 191 [.sv (.int .i64 p0)] [] (Yio r) (Yin r) := by
 refine Xae hT Tryz.func191 rfl fun C hC => ?_
 unfold Xmp at h
 refine Xac ?_
 refine kO hT hC ?_
 refine kN ?_
 refine kO hT hC ?_
 refine kC hC [] Tryz.call173 h (fun _ => Xz9) fun q1 h => ?_
 iterate 5 refine kO hT hC ?_
 refine kN ?_
 iterate 3 refine kO hT hC ?_
 exact Vc.nil (Xah kR)
def Xzj (r : (Int × Int)) : AV := .tup [.sv (.int .i64 r.1), .sv (.int .i64 r.2)]
def Xzi (r : (Int × Int)) : Xa9 := []
theorem Ybx {p0 p1 r} (h : Xjc p0 p1 = some r) : AC Tryz.prog 165 [.sv (.ints .i64 p0), .agg [.sv (.ints .i64 p1.Above), .sv (.ints .i64 p1.Left), .sv (.int .i64 p1.Corner)]] [] (Xzj r) (Xzi r) := by
 refine Xae hT Tryz.func165 rfl fun C hC => ?_
 unfold Xjc at h
 refine Xac ?_
 iterate 3 refine kO hT hC ?_
 refine Vc.nil (Xat ?_)
 refine kL [0,3] [48] [_,_] [_] ?_
 refine kA h (fun v1 => ([(17, .sv (.bool v1))], [])) (fun v1 h => ?_) fun v1 h => ?_
 refine Xad ?_
 refine kO hT hC ?_
 refine kC hC [] Tryz.call190 h (fun _ => Xuf) fun q2 h => ?_
 iterate 2 refine kO hT hC ?_
 refine kS h ?_ ?_ <;> intro b1 h
 refine kI hT hC (kn b1) ?_
 refine kE hC (kn b1) [] Tryz.call163 h (fun _ => Xb5) fun q3 h => ?_
 refine kI hT hC (kn b1) ?_
 refine kP hC false (kn b1) ?_
 exact Vc.nil kM
 iterate 3 refine kF hC (kn b1) ?_
 refine kP hC true (kn b1) ?_
 exact Vc.nil kM
 refine kS h ?_ ?_ <;> intro b2 h
 refine kt b2 (Xac ?_)
 iterate 2 refine kO hT hC ?_
 exact Vc.nil (Xah (Xav kR))
 refine kf b2 (Xag (Xaf (Xac ?_)))
 iterate 2 refine kO hT hC ?_
 refine Vc.nil (Xat (Xac ?_))
 refine kO hT hC ?_
 refine Vc.nil ?_
 refine kL [0,3,6,7,8] [48] [_,_,_,_,_] [_] ?_
 refine kX h (fun v16 => ([(6, .sv (.int .i64 v16.1)), (7, .sv (.int .i64 v16.2.1)), (8, .sv (.int .i64 v16.2.2))], [])) (fun v23 => ([(6, .sv (.int .i64 v23.1)), (7, .sv (.int .i64 v23.2)), (0, .any), (3, .any), (8, .any)], [(48, none)])) (kW hC []) (fun v16 s h => ?_) fun v23 h => ?_
 unfold Xin at h
 refine Xat (Xac ?_)
 iterate 2 refine kO hT hC ?_
 refine Vc.nil ?_
 refine kS h ?_ ?_ <;> intro b12 h
 refine kt b12 (Xag (Xaf ?_))
 refine kL [0,3,6,7,8] [48] [_,_,_,_,_] [_] ?_
 refine kA h (fun v24 => ([(6, .sv (.int .i64 v24.1)), (7, .sv (.int .i64 v24.2))], [])) (fun v24 h => ?_) fun v24 h => ?_
 refine Xap (Xac ?_)
 iterate 3 refine kO hT hC ?_
 refine kC hC [(16, 400)] Tryz.call168 h (fun _ => Xpn) fun q25 h => ?_
 refine kC hC [] Tryz.call169 h (fun _ => Xye) fun q26 h => ?_
 refine kO hT hC ?_
 refine kC hC [] Tryz.call191 h (fun _ => Ylj) fun q27 h => ?_
 iterate 2 refine kO hT hC ?_
 refine Vc.nil ?_
 refine kL [0,3,6,7,8,9] [48] [_,_,_,_,_,_] [_] ?_
 refine kA h (fun v28 => ([(36, .sv (.bool v28))], [])) (fun v28 h => ?_) fun v28 h => ?_
 refine Xad ?_
 iterate 3 refine kO hT hC ?_
 refine kS h ?_ ?_ <;> intro b13 h
 iterate 3 refine kF hC b13 ?_
 refine kP hC true b13 ?_
 exact Vc.nil kM
 iterate 3 refine kI hT hC b13 ?_
 refine kP hC false b13 ?_
 exact Vc.nil kM
 refine kS h ?_ ?_ <;> intro b14 h
 refine kt b14 (Xad ?_)
 iterate 4 refine kO hT hC ?_
 exact Vc.nil (Xaq kM)
 exact kf b14 (Xag (Xaq kM))
 refine Xad ?_
 iterate 3 refine kO hT hC ?_
 exact Vc.nil kG
 exact kf b12 (Xas (Xa0 ku))
 refine Xaf (Xac ?_)
 iterate 4 refine kO hT hC ?_
 exact Vc.nil (Xah kR)
def Yct (r : (List Int)) : AV := .own 16
def Ycs (r : (List Int)) : Xa9 := [(16, .ints .i64 r)]
theorem Xtr {p0 p1 r} (h : Xgk p0 p1 = some r) : AC Tryz.prog 167 [.sv (.ints .i64 p0), .sv (.ints .i64 p1)] [] (Yct r) (Ycs r) := by
 refine Xae hT Tryz.func167 rfl fun C hC => ?_
 unfold Xgk at h
 refine Xac ?_
 refine kO hT hC ?_
 refine kN ?_
 iterate 2 refine kO hT hC ?_
 refine Vc.nil (Xat (Xac ?_))
 iterate 3 refine kO hT hC ?_
 refine Vc.nil ?_
 refine kL [1,5,9,10,11] [128] [_,_,_,_,_] [_] ?_
 refine kX h (fun v2 => ([(11, .sv (.int .i64 v2.1))], [(128, some (.ints .i64 v2.2))])) (fun v4 => ([(1, .any), (9, .any), (10, .any), (11, .any)], [(128, some (.ints .i64 v4))])) (kW hC []) (fun v2 s h => ?_) fun v4 h => ?_
 unfold Xjw at h
 refine Xac ?_
 refine kO hT hC ?_
 refine Vc.nil (Xat ?_)
 refine kS h ?_ ?_ <;> intro b3 h
 refine kt b3 (Xag (Xaf (Xat (Xap (Xac ?_)))))
 refine kO hT hC ?_
 refine kQ hT hC h fun h => ?_
 iterate 3 refine kO hT hC ?_
 refine Vc.nil (Xad ?_)
 iterate 4 refine kO hT hC ?_
 refine kQ hT hC h fun h => ?_
 iterate 3 refine kO hT hC ?_
 refine kT hT hC h fun h => ?_
 refine kO hT hC ?_
 refine Vc.nil (Xaq (Xaf (Xad ?_)))
 iterate 2 refine kO hT hC ?_
 refine Vc.nil ?_
 obtain rfl := kj h
 exact Yjg (kW hC [(128, 384)])
 exact kf b3 (Xas (Xa0 ku))
 refine Xaf (Xac ?_)
 iterate 2 refine kO hT hC ?_
 refine Vc.nil (Xah ?_)
 obtain rfl := kj h
 exact Xc0 (τ := ⟨[(4, .own 16)], [(16, some (.ints .i64 v4))]⟩) (kW hC [(16, 128)]) rfl ⟨rfl, trivial⟩
def Ye9 (r : ((List Int) × Bool)) : AV := .tup [.own 16, .sv (.bool r.2)]
def Ye8 (r : ((List Int) × Bool)) : Xa9 := [(16, .ints .i64 r.1)]
theorem Xpr {p0 p1 r} (h : Xhw p0 p1 = some r) : AC Tryz.prog 192 [.sv (.int .i64 p0), .sv (.ints .i64 p1)] [] (Ye9 r) (Ye8 r) := by
 refine Xae hT Tryz.func192 rfl fun C hC => ?_
 unfold Xhw at h
 refine Xac ?_
 iterate 2 refine kO hT hC ?_
 refine kN ?_
 iterate 2 refine kO hT hC ?_
 refine Vc.nil (Xat ?_)
 refine kL [0,1,6] [144] [_,_,_] [_] ?_
 refine kA h (fun v1 => ([(23, .sv (.bool v1))], [])) (fun v1 h => ?_) fun v1 h => ?_
 refine Xad ?_
 iterate 3 refine kO hT hC ?_
 refine kS h ?_ ?_ <;> intro b1 h
 iterate 2 refine kI hT hC b1 ?_
 refine kP hC true b1 ?_
 refine kO hT hC ?_
 refine kS h ?_ ?_ <;> intro b2 h
 iterate 6 refine kF hC b2 ?_
 refine kP hC true b2 ?_
 exact Vc.nil kM
 iterate 6 refine kI hT hC b2 ?_
 refine kP hC false b2 ?_
 exact Vc.nil kM
 iterate 2 refine kF hC b1 ?_
 refine kP hC false b1 ?_
 refine kO hT hC ?_
 iterate 6 refine kI hT hC rfl ?_
 refine kO hT hC ?_
 exact Vc.nil kM
 refine kS h ?_ ?_ <;> intro b3 h
 refine kt b3 (Xac ?_)
 iterate 3 refine kO hT hC ?_
 refine Vc.nil (Xah (Xav ?_))
 obtain rfl := kj h
 exact Xc0 (τ := ⟨[(4, .own 16), (5, .sv (.bool false))], [(16, some (.ints .i64 ([] : List Int)))]⟩) (kW hC [(16, 144)]) rfl ⟨rfl, trivial⟩
 refine kf b3 (Xag (Xaf (Xat (Xac ?_))))
 refine kO hT hC ?_
 refine kC hC [(16, 416)] Tryz.call223 h (fun _ => Xrw) fun q2 h => ?_
 iterate 2 refine kO hT hC ?_
 refine Vc.nil ?_
 refine kL [1,6,26,27,28] [144,416] [_,_,_,_,_] [_,_] ?_
 refine kX h (fun v4 => ([(28, .sv (.int .i64 v4.1))], [(144, some (.ints .i64 v4.2))])) (fun v6 => ([(1, .any), (26, .any), (27, .any), (28, .any)], [(144, some (.ints .i64 v6)), (416, none)])) (kW hC []) (fun v4 s h => ?_) fun v6 h => ?_
 unfold Xlc at h
 refine Xac ?_
 refine kO hT hC ?_
 refine Vc.nil (Xat ?_)
 refine kS h ?_ ?_ <;> intro b6 h
 refine kt b6 (Xag (Xaf (Xat (Xap (Xac ?_)))))
 iterate 2 refine kQ hT hC h fun h => ?_
 refine kO hT hC ?_
 refine Vc.nil (Xad ?_)
 iterate 3 refine kO hT hC ?_
 refine kQ hT hC h fun h => ?_
 iterate 2 refine kO hT hC ?_
 refine kT hT hC h fun h => ?_
 refine kO hT hC ?_
 refine Vc.nil (Xaq (Xaf (Xad ?_)))
 iterate 2 refine kO hT hC ?_
 refine Vc.nil ?_
 obtain rfl := kj h
 exact Yjg (kW hC [(144, 608)])
 exact kf b6 (Xas (Xa0 ku))
 refine Xaf (Xac ?_)
 iterate 3 refine kO hT hC ?_
 refine Vc.nil (Xah ?_)
 obtain rfl := kj h
 exact Xc0 (τ := ⟨[(4, .own 16), (5, .sv (.bool true))], [(16, some (.ints .i64 v6))]⟩) (kW hC [(16, 144)]) rfl ⟨rfl, trivial⟩
def Ykw (r : (List Int)) : AV := .own 16
def Ykv (r : (List Int)) : Xa9 := [(16, .ints .i64 r)]
theorem Ynt {p0 r} (h : Xrh p0 = some r) : AC Tryz.prog 193 [.sv (.ints .i64 p0)] [] (Ykw r) (Ykv r) := by
 refine Xae hT Tryz.func193 rfl fun C hC => ?_
 unfold Xrh at h
 refine Xac ?_
 refine kO hT hC ?_
 refine Vc.nil (Xat (Xac ?_))
 refine kO hT hC ?_
 refine kC hC [] Tryz.call163 h (fun _ => Xb5) fun q1 h => ?_
 refine kO hT hC ?_
 refine Vc.nil ?_
 refine kS h ?_ ?_ <;> intro b1 h
 refine kt b1 (Xac ?_)
 iterate 2 refine kO hT hC ?_
 refine Vc.nil (Xah (Xav ?_))
 obtain rfl := kj h
 exact Xc0 (τ := ⟨[(2, .own 16)], [(16, some (.ints .i64 ([] : List Int)))]⟩) (kW hC [(16, 96)]) rfl ⟨rfl, trivial⟩
 refine kf b1 (Xag (Xaf (Xac ?_)))
 refine kO hT hC ?_
 refine kC hC [(16, 128)] Tryz.call224 h (fun _ => Ydy) fun q2 h => ?_
 refine kO hT hC ?_
 refine Vc.nil (Xah ?_)
 obtain rfl := kj h
 exact Xc0 (τ := ⟨[(2, .own 16)], [(16, some (.ints .i64 q2))]⟩) (kW hC [(16, 128)]) rfl ⟨rfl, trivial⟩
def Yi6 (r : Int) : AV := .sv (.int .i64 r)
def Yi5 (r : Int) : Xa9 := []
theorem Xw7 {p0 p1 r} (h : Xpy p0 p1 = some r) : AC Tryz.prog 226 [.sv (.int .i64 p0), .sv (.int .i64 p1)] [] (Yi6 r) (Yi5 r) := by
 refine Xae hT Tryz.func226 rfl fun C hC => ?_
 unfold Xpy at h
 refine Xac ?_
 refine kO hT hC ?_
 refine Vc.nil (Xat (Xac ?_))
 iterate 2 refine kO hT hC ?_
 refine Vc.nil ?_
 refine kS h ?_ ?_ <;> intro b1 h
 refine kt b1 (Xac ?_)
 iterate 3 refine kO hT hC ?_
 exact Vc.nil (Xah (Xav kR))
 refine kf b1 (Xag (Xaf (Xac ?_)))
 iterate 2 refine kO hT hC ?_
 exact Vc.nil (Xah kR)
def Xxz (r : Int) : AV := .sv (.int .i64 r)
def Xxy (r : Int) : Xa9 := []
theorem Xzp {p0 p1 r} (h : Xhu p0 p1 = some r) : AC Tryz.prog 194 [.sv (.int .i64 p0), .sv (.int .i64 p1)] [] (Xxz r) (Xxy r) := by
 refine Xae hT Tryz.func194 rfl fun C hC => ?_
 unfold Xhu at h
 refine Xac ?_
 refine kO hT hC ?_
 refine Vc.nil (Xat ?_)
 refine kL [0,1] [] [_,_] [] ?_
 refine kA h (fun v1 => ([(13, .sv (.bool v1))], [])) (fun v1 h => ?_) fun v1 h => ?_
 refine Xad ?_
 refine kO hT hC ?_
 refine kC hC [] Tryz.call69 h (fun _ => Xai) fun q2 h => ?_
 iterate 2 refine kO hT hC ?_
 refine kS h ?_ ?_ <;> intro b1 h
 refine kI hT hC (kn b1) ?_
 refine kE hC (kn b1) [] Tryz.call69 h (fun _ => Xai) fun q3 h => ?_
 refine kI hT hC (kn b1) ?_
 refine kP hC false (kn b1) ?_
 exact Vc.nil kM
 iterate 3 refine kF hC (kn b1) ?_
 refine kP hC true (kn b1) ?_
 exact Vc.nil kM
 refine kS h ?_ ?_ <;> intro b2 h
 refine kt b2 (Xac ?_)
 refine kO hT hC ?_
 exact Vc.nil (Xah (Xav kR))
 refine kf b2 (Xag (Xaf (Xac ?_)))
 refine kO hT hC ?_
 refine kC hC [] Tryz.call225 h (fun _ => Xw1) fun q4 h => ?_
 refine kO hT hC ?_
 refine kN ?_
 refine kO hT hC ?_
 refine kC hC [] Tryz.call199 h (fun _ => Xus) fun q5 h => ?_
 refine kO hT hC ?_
 refine kQ hT hC h fun h => ?_
 iterate 2 refine kO hT hC ?_
 refine kQ hT hC h fun h => ?_
 refine kO hT hC ?_
 refine kC hC [] Tryz.call226 h (fun _ => Xw7) fun q6 h => ?_
 refine kO hT hC ?_
 exact Vc.nil (Xah kR)
def Yhn (r : (Int × Int × Int × Int)) : AV := .agg [.sv (.int .i64 r.1), .sv (.int .i64 r.2.1), .sv (.int .i64 r.2.2.1), .sv (.int .i64 r.2.2.2)]
def Yhm (r : (Int × Int × Int × Int)) : Xa9 := []
theorem Xwq {p0 p1 p2 p3 r} (h : Xmg p0 p1 p2 p3 = some r) : AC Tryz.prog 228 [.sv (.int .i64 p0), .sv (.int .i64 p1), .sv (.int .i64 p2), .sv (.int .i64 p3)] [] (Yhn r) (Yhm r) := by
 refine Xae hT Tryz.func228 rfl fun C hC => ?_
 unfold Xmg at h
 refine Xac ?_
 refine kO hT hC ?_
 refine kN ?_
 iterate 34 refine kO hT hC ?_
 exact Vc.nil (Xah kR)
def Xp0 (r : (List Int)) : AV := .own 16
def Xpz (r : (List Int)) : Xa9 := [(16, .ints .i64 r)]
theorem Xqc {p0 r} (h : Xdw p0 = some r) : AC Tryz.prog 227 [.sv (.ints .i64 p0), .fn 228 []] [] (Xp0 r) (Xpz r) := by
 refine Xae hT Tryz.func227 rfl fun C hC => ?_
 unfold Xdw at h
 refine Xac ?_
 refine kO hT hC ?_
 refine kN ?_
 refine kO hT hC ?_
 refine kC hC [(16, 208)] Tryz.call135 h (fun _ => Xjv) fun q1 h => ?_
 refine kO hT hC ?_
 refine Vc.nil (Xat (Xac ?_))
 refine kO hT hC ?_
 refine Vc.nil ?_
 refine kL [1,5,6] [208] [_,_,_] [_] ?_
 refine kX h (fun v4 => ([(6, .sv (.int .i64 v4.1))], [(208, some (.ints .i64 v4.2))])) (fun v7 => ([(6, .any)], [(208, some (.ints .i64 v7))])) (kW hC []) (fun v4 s h => ?_) fun v7 h => ?_
 unfold Xi2 at h
 refine Xat (Xac ?_)
 iterate 2 refine kO hT hC ?_
 refine Vc.nil ?_
 refine kS h ?_ ?_ <;> intro b3 h
 refine kt b3 (Xag (Xaf (Xat (Xap ?_))))
 refine Xb9 hm ?_
 iterate 3 refine kO hT hC ?_
 iterate 2 refine kQ hT hC h fun h => ?_
 iterate 3 refine kO hT hC ?_
 iterate 2 refine kQ hT hC h fun h => ?_
 iterate 3 refine kO hT hC ?_
 iterate 2 refine kQ hT hC h fun h => ?_
 iterate 3 refine kO hT hC ?_
 iterate 2 refine kQ hT hC h fun h => ?_
 refine kC hC [] Tryz.call228 h (fun _ => Xwq) fun q8 h => ?_
 iterate 2 refine kO hT hC ?_
 refine kD ?_
 refine Xeq hm ?_
 iterate 4 refine kO hT hC ?_
 refine kQ hT hC h fun h => ?_
 refine Zdh hT hC rfl rfl rfl rfl rfl rfl rfl rfl rfl ?_
 obtain ⟨hq, h⟩ := Xaw h
 refine Zar hT hC rfl rfl rfl rfl rfl rfl rfl rfl rfl ⟨⟨trivial, hq.1⟩, hq.2⟩ ?_
 refine kD (Xaq (Xaf (Xad ?_)))
 iterate 3 refine kO hT hC ?_
 exact Vc.nil kG
 exact kf b3 (Xas (Xa0 ku))
 refine Xaf (Xat (Xac ?_))
 refine kO hT hC ?_
 refine Vc.nil ?_
 refine kL [1,5,46] [208] [_,_,_] [_] ?_
 refine kX h (fun v17 => ([(46, .sv (.int .i64 v17.1))], [(208, some (.ints .i64 v17.2))])) (fun v25 => ([(1, .any), (46, .any)], [(208, some (.ints .i64 v25))])) (kW hC []) (fun v17 s h => ?_) fun v25 h => ?_
 unfold Xh7 at h
 refine Xac ?_
 refine kO hT hC ?_
 refine Vc.nil (Xat ?_)
 refine kS h ?_ ?_ <;> intro b12 h
 refine kt b12 (Xag (Xaf (Xat (Xap (Xac ?_)))))
 iterate 2 refine kO hT hC ?_
 refine Vc.nil ?_
 refine Xb9 hm ?_
 iterate 3 refine kO hT hC ?_
 iterate 2 refine kQ hT hC h fun h => ?_
 iterate 3 refine kO hT hC ?_
 iterate 2 refine kQ hT hC h fun h => ?_
 iterate 3 refine kO hT hC ?_
 iterate 2 refine kQ hT hC h fun h => ?_
 iterate 3 refine kO hT hC ?_
 iterate 2 refine kQ hT hC h fun h => ?_
 refine kC hC [] Tryz.call228 h (fun _ => Xwq) fun q26 h => ?_
 iterate 2 refine kO hT hC ?_
 refine kD (Xac ?_)
 iterate 2 refine kO hT hC ?_
 refine Vc.nil ?_
 refine kL [1,5,8,46,70,71] [208] [_,_,_,_,_,_] [_] ?_
 refine kX h (fun v28 => ([(71, .sv (.int .i64 v28.1))], [(208, some (.ints .i64 v28.2))])) (fun v30 => ([(8, .any), (70, .any), (71, .any)], [(208, some (.ints .i64 v30))])) (kW hC []) (fun v28 s h => ?_) fun v30 h => ?_
 unfold Xh8 at h
 refine Xac ?_
 refine kO hT hC ?_
 refine Vc.nil (Xat ?_)
 refine kS h ?_ ?_ <;> intro b15 h
 refine kt b15 (Xag (Xaf (Xat (Xap (Xac ?_)))))
 refine kO hT hC ?_
 obtain ⟨hq, h⟩ := Xaw h
 refine Zdi hT hC rfl rfl rfl rfl rfl rfl rfl hq ?_
 iterate 2 refine kO hT hC ?_
 refine Vc.nil (Xad ?_)
 iterate 6 refine kO hT hC ?_
 iterate 2 refine kQ hT hC h fun h => ?_
 refine Vc.nil (Xaq (Xaf (Xad ?_)))
 iterate 2 refine kO hT hC ?_
 exact Vc.nil kG
 exact kf b15 (Xas (Xa0 ku))
 refine Xaq (Xaf (Xad ?_))
 iterate 2 refine kO hT hC ?_
 exact Vc.nil kG
 exact kf b12 (Xas (Xa0 ku))
 refine Xaf (Xac ?_)
 iterate 2 refine kO hT hC ?_
 refine Vc.nil (Xah ?_)
 obtain rfl := kj h
 exact Xc0 (τ := ⟨[(4, .own 16)], [(16, some (.ints .i64 v25))]⟩) (kW hC [(16, 208)]) rfl ⟨rfl, trivial⟩
def Ynv (r : (List Int)) : AV := .own 16
def Ynu (r : (List Int)) : Xa9 := [(16, .ints .i64 r)]
theorem Yql {p0 r} (h : Xug p0 = some r) : AC Tryz.prog 196 [.sv (.ints .i64 p0)] [] (Ynv r) (Ynu r) := by
 refine Xae hT Tryz.func196 rfl fun C hC => ?_
 unfold Xug at h
 refine Xac ?_
 refine kO hT hC ?_
 refine Vc.nil (Xat (Xac ?_))
 refine kO hT hC ?_
 refine kC hC [] Tryz.call163 h (fun _ => Xb5) fun q1 h => ?_
 refine kO hT hC ?_
 refine Vc.nil ?_
 refine kS h ?_ ?_ <;> intro b1 h
 refine kt b1 (Xac ?_)
 iterate 2 refine kO hT hC ?_
 refine Vc.nil (Xah (Xav ?_))
 obtain rfl := kj h
 exact Xc0 (τ := ⟨[(2, .own 16)], [(16, some (.ints .i64 ([] : List Int)))]⟩) (kW hC [(16, 96)]) rfl ⟨rfl, trivial⟩
 refine kf b1 (Xag (Xaf (Xac ?_)))
 refine kO hT hC ?_
 refine kC hC [(16, 128)] Tryz.call227 h (fun _ => Xqc) fun q2 h => ?_
 refine kO hT hC ?_
 refine Vc.nil (Xah ?_)
 obtain rfl := kj h
 exact Xc0 (τ := ⟨[(2, .own 16)], [(16, some (.ints .i64 q2))]⟩) (kW hC [(16, 128)]) rfl ⟨rfl, trivial⟩
def Yfb (r : Int) : AV := .sv (.int .i64 r)
def Yfa (r : Int) : Xa9 := []
theorem Yid {p0 p1 r} (h : Xn1 p0 p1 = some r) : AC Tryz.prog 229 [.sv (.int .i64 p0), .sv (.int .i64 p1)] [] (Yfb r) (Yfa r) := by
 refine Xae hT Tryz.func229 rfl fun C hC => ?_
 unfold Xn1 at h
 refine Xac ?_
 refine kO hT hC ?_
 refine Vc.nil (Xat ?_)
 refine kL [0,1] [] [_,_] [] ?_
 refine kA h (fun v1 => ([(13, .sv (.bool v1))], [])) (fun v1 h => ?_) fun v1 h => ?_
 refine Xad ?_
 refine kO hT hC ?_
 refine kC hC [] Tryz.call69 h (fun _ => Xai) fun q2 h => ?_
 iterate 2 refine kO hT hC ?_
 refine kS h ?_ ?_ <;> intro b1 h
 refine kI hT hC (kn b1) ?_
 refine kE hC (kn b1) [] Tryz.call69 h (fun _ => Xai) fun q3 h => ?_
 refine kI hT hC (kn b1) ?_
 refine kP hC false (kn b1) ?_
 exact Vc.nil kM
 iterate 3 refine kF hC (kn b1) ?_
 refine kP hC true (kn b1) ?_
 exact Vc.nil kM
 refine kS h ?_ ?_ <;> intro b2 h
 refine kt b2 (Xac ?_)
 refine kO hT hC ?_
 exact Vc.nil (Xah (Xav kR))
 refine kf b2 (Xag (Xaf (Xac ?_)))
 iterate 9 refine kO hT hC ?_
 refine Vc.nil ?_
 refine Xb9 hm ?_
 refine kO hT hC ?_
 refine kQ hT hC h fun h => ?_
 refine kO hT hC ?_
 refine kC hC [] Tryz.call253 h (fun _ => Xwu) fun q4 h => ?_
 iterate 2 refine kQ hT hC h fun h => ?_
 obtain ⟨hq, h⟩ := Xaw h
 refine Zdk hT hC rfl rfl rfl rfl rfl rfl hq ?_
 refine kO hT hC ?_
 exact kD (Xah kR)
def Xx3 (r : Int) : AV := .sv (.int .i64 r)
def Xx2 (r : Int) : Xa9 := []
theorem Xz1 {p0 p1 p2 r} (h : Xhy p0 p1 p2 = some r) : AC Tryz.prog 197 [.sv (.int .i64 p0), .sv (.int .i64 p1), .sv (.int .i64 p2)] [] (Xx3 r) (Xx2 r) := by
 refine Xae hT Tryz.func197 rfl fun C hC => ?_
 unfold Xhy at h
 refine Xac ?_
 refine kO hT hC ?_
 refine Vc.nil (Xat ?_)
 refine kL [0,1,2] [] [_,_,_] [] ?_
 refine kA h (fun v1 => ([(20, .sv (.bool v1))], [])) (fun v1 h => ?_) fun v1 h => ?_
 refine Xad ?_
 refine kO hT hC ?_
 refine kC hC [] Tryz.call69 h (fun _ => Xai) fun q2 h => ?_
 iterate 2 refine kO hT hC ?_
 refine kS h ?_ ?_ <;> intro b1 h
 refine kI hT hC (kn b1) ?_
 refine kE hC (kn b1) [] Tryz.call69 h (fun _ => Xai) fun q3 h => ?_
 refine kI hT hC (kn b1) ?_
 refine kP hC false (kn b1) ?_
 refine kO hT hC ?_
 refine kS h ?_ ?_ <;> intro b2 h
 refine kI hT hC (kn b2) ?_
 refine kE hC (kn b2) [] Tryz.call69 h (fun _ => Xai) fun q4 h => ?_
 refine kI hT hC (kn b2) ?_
 refine kP hC false (kn b2) ?_
 exact Vc.nil kM
 iterate 3 refine kF hC (kn b2) ?_
 refine kP hC true (kn b2) ?_
 exact Vc.nil kM
 iterate 3 refine kF hC (kn b1) ?_
 refine kP hC true (kn b1) ?_
 refine kO hT hC ?_
 iterate 3 refine kF hC rfl ?_
 refine kO hT hC ?_
 exact Vc.nil kM
 refine kS h ?_ ?_ <;> intro b3 h
 refine kt b3 (Xac ?_)
 refine kO hT hC ?_
 exact Vc.nil (Xah (Xav kR))
 refine kf b3 (Xag (Xaf (Xac ?_)))
 refine kO hT hC ?_
 refine kQ hT hC h fun h => ?_
 refine kO hT hC ?_
 refine kQ hT hC h fun h => ?_
 refine kO hT hC ?_
 refine kN ?_
 refine kO hT hC ?_
 refine kC hC [] Tryz.call199 h (fun _ => Xus) fun q5 h => ?_
 iterate 2 refine kO hT hC ?_
 refine kC hC [] Tryz.call229 h (fun _ => Yid) fun q6 h => ?_
 iterate 2 refine kO hT hC ?_
 refine kQ hT hC h fun h => ?_
 iterate 2 refine kO hT hC ?_
 refine kQ hT hC h fun h => ?_
 refine kO hT hC ?_
 refine kC hC [] Tryz.call226 h (fun _ => Xw7) fun q7 h => ?_
 refine kO hT hC ?_
 exact Vc.nil (Xah kR)
def Yb7 (r : ((List Int) × Bool)) : AV := .tup [.own 16, .sv (.bool r.2)]
def Yb6 (r : ((List Int) × Bool)) : Xa9 := [(16, .ints .i64 r.1)]
theorem Xtn {p0 p1 r} (h : Xge p0 p1 = some r) : AC Tryz.prog 166 [.sv (.ints .i64 p0), .agg [.sv (.bool p1.Key), .sv (.int .i64 p1.Qp), .sv (.bool p1.Large), .sv (.bool p1.Exact)]] [] (Yb7 r) (Yb6 r) := by
 refine Xae hT Tryz.func166 rfl fun C hC => ?_
 unfold Xge at h
 refine Xac ?_
 iterate 3 refine kO hT hC ?_
 refine Vc.nil (Xat ?_)
 refine kL [0,3] [48] [_,_] [_] ?_
 refine kA h (fun v1 => ([(26, .sv (.bool v1))], [])) (fun v1 h => ?_) fun v1 h => ?_
 refine Xad ?_
 refine kO hT hC ?_
 refine kC hC [] Tryz.call163 h (fun _ => Xb5) fun q2 h => ?_
 iterate 2 refine kO hT hC ?_
 refine kS h ?_ ?_ <;> intro b1 h
 refine kI hT hC (kn b1) ?_
 refine kE hC (kn b1) [] Tryz.call121 h (fun _ => Xd0) fun q3 h => ?_
 refine kI hT hC (kn b1) ?_
 refine kP hC false (kn b1) ?_
 exact Vc.nil kM
 iterate 3 refine kF hC (kn b1) ?_
 refine kP hC true (kn b1) ?_
 exact Vc.nil kM
 refine kS h ?_ ?_ <;> intro b2 h
 refine kt b2 (Xac ?_)
 iterate 3 refine kO hT hC ?_
 refine Vc.nil (Xah (Xav ?_))
 obtain rfl := kj h
 exact Xc0 (τ := ⟨[(4, .own 16), (5, .sv (.bool false))], [(16, some (.ints .i64 ([] : List Int)))]⟩) (kW hC [(16, 432)]) rfl ⟨rfl, trivial⟩
 refine kf b2 (Xag (Xaf (Xat (Xac ?_))))
 iterate 2 refine kO hT hC ?_
 refine Vc.nil ?_
 refine kS h ?_ ?_ <;> intro b3 h
 refine kt b3 (Xac ?_)
 refine kO hT hC ?_
 refine kC hC [(16, 496)] Tryz.call192 h (fun _ => Xpr) fun q4 h => ?_
 iterate 4 refine kO hT hC ?_
 refine Vc.nil (Xah (Xav ?_))
 obtain rfl := kj h
 exact Xc0 (τ := ⟨[(4, .own 16), (5, .sv (.bool q4.2))], [(16, some (.ints .i64 q4.1))]⟩) (kW hC [(16, 496)]) rfl ⟨rfl, trivial⟩
 refine kf b3 (Xag (Xaf (Xat (Xac ?_))))
 iterate 2 refine kO hT hC ?_
 refine Vc.nil ?_
 refine kS h ?_ ?_ <;> intro b4 h
 refine kt b4 (Xac ?_)
 refine kO hT hC ?_
 refine kC hC [(16, 592)] Tryz.call193 h (fun _ => Ynt) fun q5 h => ?_
 refine kO hT hC ?_
 refine Vc.nil (Xat (Xac ?_))
 iterate 3 refine kO hT hC ?_
 refine Vc.nil ?_
 refine kL [3,6,38,39,40] [48,592] [_,_,_,_,_] [_,_] ?_
 refine kX h (fun v8 => ([(40, .sv (.int .i64 v8.1))], [(592, some (.ints .i64 v8.2))])) (fun v11 => ([(3, .any), (38, .any), (39, .any), (40, .any)], [(592, some (.ints .i64 v11)), (48, none)])) (kW hC []) (fun v8 s h => ?_) fun v11 h => ?_
 unfold Xju at h
 refine Xac ?_
 refine kO hT hC ?_
 refine Vc.nil (Xat ?_)
 refine kS h ?_ ?_ <;> intro b7 h
 refine kt b7 (Xag (Xaf (Xat (Xap (Xac ?_)))))
 refine kO hT hC ?_
 iterate 2 refine kQ hT hC h fun h => ?_
 iterate 2 refine kO hT hC ?_
 refine Vc.nil (Xad ?_)
 iterate 5 refine kO hT hC ?_
 refine kC hC [] Tryz.call194 h (fun _ => Xzp) fun q12 h => ?_
 iterate 2 refine kQ hT hC h fun h => ?_
 refine Vc.nil (Xaq (Xaf (Xad ?_)))
 iterate 2 refine kO hT hC ?_
 exact Vc.nil kG
 exact kf b7 (Xas (Xa0 ku))
 refine Xaf (Xac ?_)
 refine kO hT hC ?_
 refine kC hC [(16, 864)] Tryz.call192 h (fun _ => Xpr) fun q14 h => ?_
 iterate 4 refine kO hT hC ?_
 refine Vc.nil (Xah (Xav ?_))
 obtain rfl := kj h
 exact Xc0 (τ := ⟨[(4, .own 16), (5, .sv (.bool q14.2))], [(16, some (.ints .i64 q14.1))]⟩) (kW hC [(16, 864)]) rfl ⟨rfl, trivial⟩
 refine kf b4 (Xag (Xaf (Xac ?_)))
 iterate 2 refine kO hT hC ?_
 refine Vc.nil (Xat (Xac ?_))
 refine kO hT hC ?_
 refine Vc.nil ?_
 refine kL [0,3,9,58] [48,912] [_,_,_,_] [_,_] ?_
 refine kX h (fun v32 => ([(58, .sv (.int .i64 v32.1))], [(912, some (.ints .i64 v32.2))])) (fun v50 => ([(0, .any), (3, .any), (58, .any)], [(912, some (.ints .i64 v50)), (48, none)])) (kW hC []) (fun v32 s h => ?_) fun v50 h => ?_
 unfold Xmj at h
 refine Xac ?_
 refine kO hT hC ?_
 refine Vc.nil (Xat ?_)
 refine kS h ?_ ?_ <;> intro b22 h
 refine kt b22 (Xag (Xaf (Xat (Xap (Xac ?_)))))
 iterate 2 refine kO hT hC ?_
 refine kN ?_
 iterate 2 refine kO hT hC ?_
 refine Vc.nil (Xat (Xac ?_))
 refine kO hT hC ?_
 refine kC hC [(16, 1008)] Tryz.call195 h (fun _ => Xuo) fun q51 h => ?_
 iterate 2 refine kO hT hC ?_
 refine Vc.nil ?_
 refine kL [0,3,9,11,58,63,64,65] [48,912,976,1008] [_,_,_,_,_,_,_,_] [_,_,_,_] ?_
 refine kX h (fun v53 => ([(65, .sv (.int .i64 v53.1))], [(976, some (.ints .i64 v53.2))])) (fun v55 => ([(63, .any), (64, .any), (65, .any)], [(976, some (.ints .i64 v55)), (1008, none)])) (kW hC []) (fun v53 s h => ?_) fun v55 h => ?_
 unfold Xfo at h
 refine Xac ?_
 refine kO hT hC ?_
 refine Vc.nil (Xat ?_)
 refine kS h ?_ ?_ <;> intro b25 h
 refine kt b25 (Xag (Xaf (Xat (Xap (Xac ?_)))))
 iterate 2 refine kQ hT hC h fun h => ?_
 refine kO hT hC ?_
 refine Vc.nil (Xad ?_)
 iterate 3 refine kO hT hC ?_
 refine kQ hT hC h fun h => ?_
 iterate 2 refine kO hT hC ?_
 refine kT hT hC h fun h => ?_
 refine kO hT hC ?_
 refine Vc.nil (Xaq (Xaf (Xad ?_)))
 iterate 2 refine kO hT hC ?_
 refine Vc.nil ?_
 obtain rfl := kj h
 exact Yjg (kW hC [(976, 1200)])
 exact kf b25 (Xas (Xa0 ku))
 refine Xaf (Xac ?_)
 refine kO hT hC ?_
 refine kC hC [(16, 1248)] Tryz.call196 h (fun _ => Yql) fun q57 h => ?_
 refine kO hT hC ?_
 refine Vc.nil (Xat (Xac ?_))
 iterate 3 refine kO hT hC ?_
 refine Vc.nil ?_
 refine kL [0,3,9,14,58,79,80,81] [48,912,1248] [_,_,_,_,_,_,_,_] [_,_,_] ?_
 refine kX h (fun v60 => ([(81, .sv (.int .i64 v60.1))], [(1248, some (.ints .i64 v60.2))])) (fun v63 => ([(79, .any), (80, .any), (81, .any)], [(1248, some (.ints .i64 v63))])) (kW hC []) (fun v60 s h => ?_) fun v63 h => ?_
 unfold Xio at h
 refine Xac ?_
 refine kO hT hC ?_
 refine Vc.nil (Xat ?_)
 refine kS h ?_ ?_ <;> intro b28 h
 refine kt b28 (Xag (Xaf (Xat (Xap (Xac ?_)))))
 refine kO hT hC ?_
 iterate 2 refine kQ hT hC h fun h => ?_
 iterate 2 refine kO hT hC ?_
 refine Vc.nil (Xad ?_)
 iterate 6 refine kO hT hC ?_
 refine kC hC [] Tryz.call197 h (fun _ => Xz1) fun q64 h => ?_
 iterate 2 refine kQ hT hC h fun h => ?_
 refine Vc.nil (Xaq (Xaf (Xad ?_)))
 iterate 2 refine kO hT hC ?_
 exact Vc.nil kG
 exact kf b28 (Xas (Xa0 ku))
 refine Xaf (Xac ?_)
 refine kO hT hC ?_
 refine kC hC [(16, 1552)] Tryz.call192 h (fun _ => Xpr) fun q66 h => ?_
 iterate 5 refine kO hT hC ?_
 refine Vc.nil (Xad ?_)
 iterate 2 refine kO hT hC ?_
 refine kT hT hC h fun h => ?_
 refine kO hT hC ?_
 refine Vc.nil (Xaq (Xaf (Xad ?_)))
 iterate 2 refine kO hT hC ?_
 refine Vc.nil ?_
 obtain rfl := kj h
 exact Yjg (kW hC [(912, 1632)])
 exact kf b22 (Xas (Xa0 ku))
 refine Xaf (Xac ?_)
 iterate 3 refine kO hT hC ?_
 refine Vc.nil (Xah ?_)
 obtain rfl := kj h
 exact Xc0 (τ := ⟨[(4, .own 16), (5, .sv (.bool true))], [(16, some (.ints .i64 v50))]⟩) (kW hC [(16, 912)]) rfl ⟨rfl, trivial⟩
def Yhl (r : (Int × Bool)) : AV := .tup [.sv (.int .i64 r.1), .sv (.bool r.2)]
def Yhk (r : (Int × Bool)) : Xa9 := []
theorem Xwo {p0 r} (h : Xmf p0 = some r) : AC Tryz.prog 172 [.sv (.int .i64 p0)] [] (Yhl r) (Yhk r) := by
 refine Xae hT Tryz.func172 rfl fun C hC => ?_
 unfold Xmf at h
 refine Xac ?_
 iterate 2 refine kO hT hC ?_
 refine Vc.nil (Xat (Xap (Xac ?_)))
 refine kO hT hC ?_
 refine kC hC [] Tryz.call69 h (fun _ => Xai) fun q1 h => ?_
 iterate 2 refine kO hT hC ?_
 refine Vc.nil ?_
 refine kS h ?_ ?_ <;> intro b1 h
 refine kt b1 (Xac ?_)
 iterate 2 refine kO hT hC ?_
 exact Vc.nil (Xah (Xho (Xav kR)))
 refine kf b1 (Xac ?_)
 iterate 3 refine kO hT hC ?_
 refine Vc.nil ?_
 refine kS h ?_ ?_ <;> intro b2 h
 refine kt b2 (Xac ?_)
 iterate 5 refine kO hT hC ?_
 exact Vc.nil (Xah (Xho (Xav kR)))
 refine kf b2 (Xag (Xaq (Xaf (Xac ?_))))
 iterate 4 refine kO hT hC ?_
 exact Vc.nil (Xah kR)
def Ylb (r : (ByteArray × Bool)) : AV := .tup [.sv (.str r.1), .sv (.bool r.2)]
def Yla (r : (ByteArray × Bool)) : Xa9 := []
theorem Xo0 {p0 r} (h : Xkk p0 = some r) : AC Tryz.prog 126 [.sv (.int .i64 p0)] [] (Ylb r) (Yla r) := by
 refine Xae hT Tryz.func126 rfl fun C hC => ?_
 unfold Xkk at h
 refine Xac ?_
 iterate 2 refine kO hT hC ?_
 refine kN ?_
 refine kO hT hC ?_
 refine kC hC [] Tryz.call172 h (fun _ => Xwo) fun q1 h => ?_
 iterate 5 refine kO hT hC ?_
 refine Vc.nil (Xat (Xac ?_))
 iterate 2 refine kO hT hC ?_
 refine Vc.nil ?_
 refine kS h ?_ ?_ <;> intro b1 h
 refine kt b1 (Xac ?_)
 iterate 2 refine kO hT hC ?_
 exact Vc.nil (Xah (Xav kR))
 refine kf b1 (Xag (Xaf (Xac ?_)))
 refine kO hT hC ?_
 refine kC hC [] Tryz.call173 h (fun _ => Xz9) fun q2 h => ?_
 iterate 4 refine kO hT hC ?_
 exact Vc.nil (Xah kR)
def Yia (r : Int) : AV := .sv (.int .i64 r)
def Yh9 (r : Int) : Xa9 := []
theorem Xwx {p0 r} (h : Xmm p0 = some r) : AC Tryz.prog 200 [.sv (.int .i64 p0)] [] (Yia r) (Yh9 r) := by
 refine Xae hT Tryz.func200 rfl fun C hC => ?_
 unfold Xmm at h
 refine Xac ?_
 refine kO hT hC ?_
 refine kN ?_
 refine kO hT hC ?_
 refine kC hC [] Tryz.call126 h (fun _ => Xo0) fun q1 h => ?_
 iterate 5 refine kO hT hC ?_
 refine kN ?_
 iterate 3 refine kO hT hC ?_
 exact Vc.nil (Xah kR)
def Ybz (r : (Int × Int × Int)) : AV := .tup [.sv (.int .i64 r.1), .sv (.int .i64 r.2.1), .sv (.int .i64 r.2.2)]
def Yby (r : (Int × Int × Int)) : Xa9 := []
theorem Yeh {p0 p1 p2 p3 p4 r} (h : Xds p0 p1 p2 p3 p4 = some r) : AC Tryz.prog 170 [.agg [.sv (.int .i64 p0.Wide), .sv (.int .i64 p0.High), .sv (.str p0.Dots)], .sv (.ints .i64 p1), .sv (.int .i64 p2), .sv (.int .i64 p3), .sv (.int .i64 p4)] [] (Ybz r) (Yby r) := by
 refine Xae hT Tryz.func170 rfl fun C hC => ?_
 unfold Xds at h
 refine Xac ?_
 iterate 4 refine kO hT hC ?_
 refine Vc.nil (Xat ?_)
 refine kL [1,2,3,4,5] [80] [_,_,_,_,_] [_] ?_
 refine kA h (fun v1 => ([(38, .sv (.bool v1))], [])) (fun v1 h => ?_) fun v1 h => ?_
 refine Xad ?_
 refine kO hT hC ?_
 refine kC hC [] Tryz.call42 h (fun _ => Xcn) fun q2 h => ?_
 iterate 2 refine kO hT hC ?_
 refine kS h ?_ ?_ <;> intro b1 h
 refine kI hT hC (kn b1) ?_
 refine kE hC (kn b1) [] Tryz.call163 h (fun _ => Xb5) fun q3 h => ?_
 refine kI hT hC (kn b1) ?_
 refine kP hC false (kn b1) ?_
 refine kO hT hC ?_
 refine kS h ?_ ?_ <;> intro b2 h
 refine kI hT hC (kn b2) ?_
 refine kE hC (kn b2) [] Tryz.call69 h (fun _ => Xai) fun q4 h => ?_
 refine kI hT hC (kn b2) ?_
 refine kP hC false (kn b2) ?_
 refine kO hT hC ?_
 refine kS h ?_ ?_ <;> intro b3 h
 iterate 3 refine kI hT hC (kn b3) ?_
 refine kE hC (kn b3) [] Tryz.call162 h (fun _ => Xfi) fun q5 h => ?_
 refine kI hT hC (kn b3) ?_
 refine kP hC false (kn b3) ?_
 exact Vc.nil kM
 iterate 5 refine kF hC (kn b3) ?_
 refine kP hC true (kn b3) ?_
 exact Vc.nil kM
 iterate 3 refine kF hC (kn b2) ?_
 refine kP hC true (kn b2) ?_
 refine kO hT hC ?_
 iterate 5 refine kF hC rfl ?_
 refine kO hT hC ?_
 exact Vc.nil kM
 iterate 3 refine kF hC (kn b1) ?_
 refine kP hC true (kn b1) ?_
 refine kO hT hC ?_
 iterate 3 refine kF hC rfl ?_
 iterate 2 refine kO hT hC ?_
 iterate 5 refine kF hC rfl ?_
 refine kO hT hC ?_
 exact Vc.nil kM
 refine kS h ?_ ?_ <;> intro b4 h
 refine kt b4 (Xac ?_)
 iterate 3 refine kO hT hC ?_
 exact Vc.nil (Xah (Xav kR))
 refine kf b4 (Xag (Xaf (Xac ?_)))
 iterate 3 refine kO hT hC ?_
 refine Vc.nil (Xat (Xac ?_))
 iterate 3 refine kO hT hC ?_
 refine Vc.nil ?_
 refine kL [1,2,3,4,5,13,14,15,16] [80] [_,_,_,_,_,_,_,_,_] [_] ?_
 refine kX h (fun v33 => ([(13, .sv (.int .i64 v33.1)), (14, .sv (.int .i64 v33.2.1)), (15, .sv (.int .i64 v33.2.2.1)), (16, .sv (.int .i64 v33.2.2.2))], [])) (fun v61 => ([(13, .sv (.int .i64 v61.1)), (14, .sv (.int .i64 v61.2.1)), (15, .sv (.int .i64 v61.2.2)), (1, .any), (2, .any), (3, .any), (4, .any), (5, .any), (16, .any)], [(80, none)])) (kW hC []) (fun v33 s h => ?_) fun v61 h => ?_
 unfold Xfl at h
 refine Xat (Xac ?_)
 iterate 3 refine kO hT hC ?_
 refine Vc.nil ?_
 refine kS h ?_ ?_ <;> intro b31 h
 refine kt b31 (Xag (Xaf (Xat (Xap (Xac ?_)))))
 iterate 3 refine kO hT hC ?_
 refine Vc.nil ?_
 refine kL [1,2,3,4,5,13,14,15,16,17] [80] [_,_,_,_,_,_,_,_,_,_] [_] ?_
 refine kX h (fun v70 => ([(13, .sv (.int .i64 v70.1)), (14, .sv (.int .i64 v70.2.1)), (15, .sv (.int .i64 v70.2.2.1)), (17, .sv (.int .i64 v70.2.2.2))], [])) (fun v79 => ([(13, .sv (.int .i64 v79.1)), (14, .sv (.int .i64 v79.2.1)), (15, .sv (.int .i64 v79.2.2)), (17, .any)], [])) (kW hC []) (fun v70 s h => ?_) fun v79 h => ?_
 unfold Xc4 at h
 refine Xat (Xac ?_)
 iterate 3 refine kO hT hC ?_
 refine Vc.nil ?_
 refine kS h ?_ ?_ <;> intro b40 h
 refine kt b40 (Xag (Xaf ?_))
 refine kL [1,2,3,4,5,13,14,15,16,17] [80] [_,_,_,_,_,_,_,_,_,_] [_] ?_
 refine kA h (fun v80 => ([(13, .sv (.int .i64 v80.1)), (14, .sv (.int .i64 v80.2.1)), (15, .sv (.int .i64 v80.2.2))], [])) (fun v80 h => ?_) fun v80 h => ?_
 refine Xap (Xat (Xac ?_))
 iterate 8 refine kO hT hC ?_
 refine kC hC [] Tryz.call137 h (fun _ => Xml) fun q81 h => ?_
 refine kO hT hC ?_
 refine Vc.nil ?_
 refine kS h ?_ ?_ <;> intro b41 h
 exact kt b41 (Xas (Xa0 (Ys9 kM)))
 refine kf b41 (Xag (Xaf (Xac ?_)))
 iterate 8 refine kO hT hC ?_
 refine kC hC [(16, 1136)] Tryz.call123 h (fun _ => Xd7) fun q82 h => ?_
 refine kC hC [] Tryz.call169 h (fun _ => Xye) fun q83 h => ?_
 refine kO hT hC ?_
 refine kC hC [] Tryz.call200 h (fun _ => Xwx) fun q84 h => ?_
 iterate 2 refine kO hT hC ?_
 refine kC hC [] Tryz.call200 h (fun _ => Xwx) fun q85 h => ?_
 iterate 2 refine kO hT hC ?_
 refine Vc.nil ?_
 refine kL [1,2,3,4,5,13,14,15,16,17,18] [80] [_,_,_,_,_,_,_,_,_,_,_] [_] ?_
 refine kA h (fun v86 => ([(85, .sv (.bool v86))], [])) (fun v86 h => ?_) fun v86 h => ?_
 refine Xad ?_
 iterate 3 refine kO hT hC ?_
 refine kS h ?_ ?_ <;> intro b42 h
 iterate 3 refine kF hC b42 ?_
 refine kP hC true b42 ?_
 exact Vc.nil kM
 iterate 3 refine kI hT hC b42 ?_
 refine kP hC false b42 ?_
 exact Vc.nil kM
 refine kS h ?_ ?_ <;> intro b43 h
 refine kt b43 (Xad ?_)
 iterate 6 refine kO hT hC ?_
 exact Vc.nil (Xaq kM)
 exact kf b43 (Xag (Xaq kM))
 refine Xad ?_
 iterate 3 refine kO hT hC ?_
 exact Vc.nil kG
 exact kf b40 (Xas (Xa0 ku))
 refine Xaq (Xaf (Xad ?_))
 iterate 3 refine kO hT hC ?_
 exact Vc.nil kG
 exact kf b31 (Xas (Xa0 ku))
 refine Xaf (Xac ?_)
 iterate 6 refine kO hT hC ?_
 exact Vc.nil (Xah kR)
def Xz6 (r : (Xam × (List Int) × Bool)) : AV := .tup [.agg [.sv (.int .i64 r.1.Kind), .sv (.int .i64 r.1.Mode), .sv (.int .i64 r.1.Dx), .sv (.int .i64 r.1.Dy), .own 16], .own 17, .sv (.bool r.2.2)]
def Xz5 (r : (Xam × (List Int) × Bool)) : Xa9 := [(16, .ints .i64 r.1.Levels), (17, .ints .i64 r.2.1)]
theorem Yci {p0 p1 p2 p3 p4 p5 p6 r} (h : Xe9 p0 p1 p2 p3 p4 p5 p6 = some r) : AC Tryz.prog 122 [.agg [.sv (.int .i64 p0.Wide), .sv (.int .i64 p0.High), .sv (.str p0.Dots)], .agg [.sv (.int .i64 p1.Wide), .sv (.int .i64 p1.High), .sv (.str p1.Dots)], .sv (.ints .i64 p2), .sv (.int .i64 p3), .sv (.int .i64 p4), .agg [.sv (.bool p5.Key), .sv (.int .i64 p5.Qp), .sv (.bool p5.Large), .sv (.bool p5.Exact)], .sv (.int .i64 p6)] [] (Xz6 r) (Xz5 r) := by
 refine Xae hT Tryz.func122 rfl fun C hC => ?_
 unfold Xe9 at h
 refine Xac ?_
 iterate 6 refine kO hT hC ?_
 refine Vc.nil (Xat ?_)
 refine kL [2,3,4,6,7,8,12,14] [112,128,192,224] [_,_,_,_,_,_,_,_] [_,_,_,_] ?_
 refine kA h (fun v1 => ([(51, .sv (.bool v1))], [])) (fun v1 h => ?_) fun v1 h => ?_
 refine Xad ?_
 refine kO hT hC ?_
 refine kC hC [] Tryz.call42 h (fun _ => Xcn) fun q2 h => ?_
 iterate 2 refine kO hT hC ?_
 refine kS h ?_ ?_ <;> intro b1 h
 iterate 3 refine kI hT hC (kn b1) ?_
 refine kE hC (kn b1) [] Tryz.call162 h (fun _ => Xfi) fun q3 h => ?_
 refine kI hT hC (kn b1) ?_
 refine kP hC false (kn b1) ?_
 refine kO hT hC ?_
 refine kS h ?_ ?_ <;> intro b2 h
 refine kI hT hC (kn b2) ?_
 refine kE hC (kn b2) [] Tryz.call163 h (fun _ => Xb5) fun q4 h => ?_
 refine kI hT hC (kn b2) ?_
 refine kP hC false (kn b2) ?_
 refine kO hT hC ?_
 refine kS h ?_ ?_ <;> intro b3 h
 refine kI hT hC (kn b3) ?_
 refine kE hC (kn b3) [] Tryz.call121 h (fun _ => Xd0) fun q5 h => ?_
 refine kI hT hC (kn b3) ?_
 refine kP hC false (kn b3) ?_
 refine kO hT hC ?_
 refine kS h ?_ ?_ <;> intro b4 h
 refine kI hT hC (kn b4) ?_
 refine kE hC (kn b4) [] Tryz.call69 h (fun _ => Xai) fun q6 h => ?_
 refine kI hT hC (kn b4) ?_
 refine kP hC false (kn b4) ?_
 exact Vc.nil kM
 iterate 3 refine kF hC (kn b4) ?_
 refine kP hC true (kn b4) ?_
 exact Vc.nil kM
 iterate 3 refine kF hC (kn b3) ?_
 refine kP hC true (kn b3) ?_
 refine kO hT hC ?_
 iterate 3 refine kF hC rfl ?_
 refine kO hT hC ?_
 exact Vc.nil kM
 iterate 3 refine kF hC (kn b2) ?_
 refine kP hC true (kn b2) ?_
 refine kO hT hC ?_
 iterate 3 refine kF hC rfl ?_
 iterate 2 refine kO hT hC ?_
 iterate 3 refine kF hC rfl ?_
 refine kO hT hC ?_
 exact Vc.nil kM
 iterate 5 refine kF hC (kn b1) ?_
 refine kP hC true (kn b1) ?_
 refine kO hT hC ?_
 iterate 3 refine kF hC rfl ?_
 iterate 2 refine kO hT hC ?_
 iterate 3 refine kF hC rfl ?_
 iterate 2 refine kO hT hC ?_
 iterate 3 refine kF hC rfl ?_
 refine kO hT hC ?_
 exact Vc.nil kM
 refine kS h ?_ ?_ <;> intro b5 h
 refine kt b5 (Xac ?_)
 iterate 5 refine kO hT hC ?_
 refine Vc.nil (Xah (Xav ?_))
 obtain rfl := kj h
 refine Xc0 (τ := ⟨[(14, .ptr 2000000 0), (15, .own 17), (16, .sv (.bool false))], [(16, some (.ints .i64 [])), (17, some (.ints .i64 ([] : List Int))), (2000000, some (.box [.sv (.int .i64 0), .sv (.int .i64 0), .sv (.int .i64 0), .sv (.int .i64 0), .own 16]))]⟩) ?_ rfl ⟨rfl, rfl, trivial⟩
 refine Xof hC 224 4 2817 (.ints .i64 []) rfl rfl rfl rfl rfl trivial ?_
 apply Xe7 hC [(16, 2817), (17, 848), (2000000, 224)]
 exact co
 rfl
 decide
 rfl
 refine kf b5 (Xag (Xaf (Xat ?_)))
 refine kL [2,3,4,6,7,8,12,14] [112,128,192,224] [_,_,_,_,_,_,_,_] [_,_,_,_] ?_
 refine kA h (fun v7 => ([(75, .sv (.bool v7))], [])) (fun v7 h => ?_) fun v7 h => ?_
 refine Xad ?_
 iterate 4 refine kO hT hC ?_
 refine kS h ?_ ?_ <;> intro b6 h
 iterate 4 refine kF hC (kn b6) ?_
 iterate 5 refine Xil hC rfl rfl rfl rfl rfl rfl ?_
 iterate 2 refine kF hC (kn b6) ?_
 iterate 5 refine Xil hC rfl rfl rfl rfl rfl rfl ?_
 refine kF hC (kn b6) ?_
 refine kP hC false (kn b6) ?_
 exact Vc.nil kM
 refine kI hT hC (kn b6) ?_
 refine kE hC (kn b6) [] Tryz.call42 h (fun _ => Xcn) fun q8 h => ?_
 iterate 2 refine kI hT hC (kn b6) ?_
 refine kS h ?_ ?_ <;> intro b7 h
 iterate 5 refine kI hT hC (kn b7) ?_
 refine Xa8 hC rfl rfl rfl rfl (kn b6) rfl rfl (b := false) (kn b7) rfl rfl rfl trivial ?_
 refine kI hT hC (kn b6) ?_
 refine kS h ?_ ?_ <;> intro b8 h
 iterate 5 refine kF hC b8 ?_
 refine Xa8 hC rfl rfl rfl rfl (kn b6) rfl rfl (b := true) b8 rfl rfl rfl trivial ?_
 refine kP hC true (kn b6) ?_
 exact Vc.nil kM
 iterate 5 refine kI hT hC b8 ?_
 refine Xa8 hC rfl rfl rfl rfl (kn b6) rfl rfl (b := false) b8 rfl rfl rfl trivial ?_
 refine kP hC true (kn b6) ?_
 exact Vc.nil kM
 iterate 5 refine kF hC (kn b7) ?_
 refine Xa8 hC rfl rfl rfl rfl (kn b6) rfl rfl (b := true) (kn b7) rfl rfl rfl trivial ?_
 refine kI hT hC (kn b6) ?_
 iterate 5 refine kF hC rfl ?_
 refine Xa8 hC rfl rfl rfl rfl (kn b6) rfl rfl (b := true) rfl rfl rfl rfl trivial ?_
 refine kP hC true (kn b6) ?_
 exact Vc.nil kM
 refine kS h ?_ ?_ <;> intro b9 h
 refine kt b9 (Xac ?_)
 iterate 5 refine kO hT hC ?_
 refine Vc.nil (Xah (Xav ?_))
 obtain rfl := kj h
 refine Xc0 (τ := ⟨[(14, .ptr 2000000 0), (15, .own 17), (16, .sv (.bool false))], [(16, some (.ints .i64 [])), (17, some (.ints .i64 ([] : List Int))), (2000000, some (.box [.sv (.int .i64 0), .sv (.int .i64 0), .sv (.int .i64 0), .sv (.int .i64 0), .own 16]))]⟩) ?_ rfl ⟨rfl, rfl, trivial⟩
 refine Xof hC 224 4 2818 (.ints .i64 []) rfl rfl rfl rfl rfl trivial ?_
 apply Xe7 hC [(16, 2818), (17, 1232), (2000000, 224)]
 exact co
 rfl
 decide
 rfl
 refine kf b9 (Xag (Xaf (Xac ?_)))
 iterate 3 refine kO hT hC ?_
 refine kC hC [(16, 1312), (17, 1313)] Tryz.call164 h (fun _ => Xue) fun q9 h => ?_
 iterate 6 refine kO hT hC ?_
 refine kN ?_
 iterate 2 refine kO hT hC ?_
 refine kC hC [] Tryz.call165 h (fun _ => Ybx) fun q10 h => ?_
 iterate 5 refine kO hT hC ?_
 refine kN ?_
 iterate 4 refine kO hT hC ?_
 refine Vc.nil ?_
 refine Xb9 hm ?_
 iterate 3 refine kO hT hC ?_
 refine kC hC [(16, 1552)] Tryz.call168 h (fun _ => Xpn) fun q11 h => ?_
 refine kC hC [(16, 1568)] Tryz.call167 h (fun _ => Xtr) fun q12 h => ?_
 refine kO hT hC ?_
 refine kC hC [(16, 1600)] Tryz.call166 h (fun _ => Xtn) fun q13 h => ?_
 iterate 5 refine kO hT hC ?_
 refine kD ?_
 refine kL [2,3,4,6,7,8,12,14,20,21] [112,128,192,224,336,1600] [_,_,_,_,_,_,_,_,_,_] [_,_,_,_,_,_] ?_
 refine kA h (fun v14 => ([(2, .any), (6, .any), (20, .any)], [(336, some (.box [.sv (.int .i64 v14.1), .sv (.int .i64 v14.2.1), .sv (.int .i64 v14.2.2.1), .sv (.int .i64 v14.2.2.2.1), .own 1600])), (1600, some (.ints .i64 v14.2.2.2.2))])) (fun v14 h => ?_) fun v14 h => ?_
 refine Xac ?_
 iterate 3 refine kO hT hC ?_
 refine Vc.nil ?_
 refine kS h ?_ ?_ <;> intro b10 h
 refine kt b10 (Xac ?_)
 iterate 4 refine kO hT hC ?_
 refine kC hC [(16, 1776)] Tryz.call123 h (fun _ => Xd7) fun q15 h => ?_
 refine kC hC [] Tryz.call169 h (fun _ => Xye) fun q16 h => ?_
 refine kO hT hC ?_
 refine Vc.nil ?_
 refine kS h ?_ ?_ <;> intro b11 h
 refine kt b11 (Xad ?_)
 iterate 2 refine kO hT hC ?_
 refine Vc.nil ?_
 obtain rfl := kj h
 refine Xhi ?_
 refine Xof hC 336 4 2819 (.ints .i64 []) rfl rfl rfl rfl rfl trivial ?_
 try dsimp only
 apply Xe7 hC [(1600, 2819)]
 exact co
 rfl
 decide
 rfl
 refine kf b11 (Xac ?_)
 iterate 5 refine kO hT hC ?_
 refine kC hC [] Tryz.call170 h (fun _ => Yeh) fun q17 h => ?_
 iterate 7 refine kO hT hC ?_
 refine kN ?_
 iterate 3 refine kO hT hC ?_
 refine Vc.nil ?_
 refine kS h ?_ ?_ <;> intro b12 h
 refine kt b12 (Xac ?_)
 iterate 4 refine kO hT hC ?_
 refine Vc.nil ?_
 refine Xb9 hm ?_
 iterate 8 refine kO hT hC ?_
 refine kC hC [(16, 2240)] Tryz.call123 h (fun _ => Xd7) fun q18 h => ?_
 refine kC hC [(16, 2256)] Tryz.call167 h (fun _ => Xtr) fun q19 h => ?_
 refine kO hT hC ?_
 refine kC hC [(16, 2288)] Tryz.call166 h (fun _ => Xtn) fun q20 h => ?_
 iterate 5 refine kO hT hC ?_
 refine kD ?_
 refine kL [3,4,7,8,12,14,21,22,23] [112,128,192,224,336,2288] [_,_,_,_,_,_,_,_,_] [_,_,_,_,_,_] ?_
 refine kA h (fun v21 => ([(157, .sv (.bool v21)), (22, .any), (23, .any)], [])) (fun v21 h => ?_) fun v21 h => ?_
 refine Xad ?_
 iterate 3 refine kO hT hC ?_
 refine kS h ?_ ?_ <;> intro b13 h
 iterate 2 refine kI hT hC b13 ?_
 refine kP hC true b13 ?_
 refine kO hT hC ?_
 refine kS h ?_ ?_ <;> intro b14 h
 iterate 2 refine kI hT hC b14 ?_
 refine kE hC b14 [] Tryz.call163 h (fun _ => Xb5) fun q22 h => ?_
 refine kP hC true b14 ?_
 exact Vc.nil kM
 iterate 3 refine kF hC b14 ?_
 refine kP hC false b14 ?_
 exact Vc.nil kM
 iterate 2 refine kF hC b13 ?_
 refine kP hC false b13 ?_
 refine kO hT hC ?_
 iterate 3 refine kF hC rfl ?_
 refine kO hT hC ?_
 exact Vc.nil kM
 refine kS h ?_ ?_ <;> intro b15 h
 refine kt b15 (Xad ?_)
 iterate 2 refine kO hT hC ?_
 refine Vc.nil ?_
 obtain rfl := kj h
 refine Xhi ?_
 refine Xof hC 336 4 2820 (.ints .i64 []) rfl rfl rfl rfl rfl trivial ?_
 try dsimp only
 apply Xe7 hC [(1600, 2820)]
 exact co
 rfl
 decide
 rfl
 refine kf b15 (Xag ?_)
 obtain rfl := kj h
 exact Xhi (kW hC [(1600, 2288)])
 exact kf b12 (Xag kM)
 exact kf b10 (Xag kM)
 refine Xac ?_
 iterate 6 refine kO hT hC ?_
 refine kC hC [(16, 2656)] Tryz.call139 h (fun _ => Xqh) fun q23 h => ?_
 iterate 5 refine kO hT hC ?_
 refine Vc.nil (Xat (Xac ?_))
 iterate 2 refine kO hT hC ?_
 refine Vc.nil ?_
 refine kS h ?_ ?_ <;> intro b16 h
 refine kt b16 (Xac ?_)
 iterate 5 refine kO hT hC ?_
 refine Vc.nil (Xah (Xav ?_))
 obtain rfl := kj h
 refine Xc0 (τ := ⟨[(14, .ptr 2000000 0), (15, .own 17), (16, .sv (.bool false))], [(16, some (.ints .i64 [])), (17, some (.ints .i64 ([] : List Int))), (2000000, some (.box [.sv (.int .i64 0), .sv (.int .i64 0), .sv (.int .i64 0), .sv (.int .i64 0), .own 16]))]⟩) ?_ rfl ⟨rfl, rfl, trivial⟩
 refine Xof hC 224 4 2821 (.ints .i64 []) rfl rfl rfl rfl rfl trivial ?_
 apply Xe7 hC [(16, 2821), (17, 2752), (2000000, 224)]
 exact co
 rfl
 decide
 rfl
 refine kf b16 (Xag (Xaf (Xac ?_)))
 iterate 5 refine kO hT hC ?_
 refine Vc.nil (Xah ?_)
 obtain rfl := kj h
 exact Xc0 (τ := ⟨[(14, .ptr 2000000 0), (15, .own 17), (16, .sv (.bool true))], [(16, some (.ints .i64 v14.2.2.2.2)), (17, some (.ints .i64 q23.1)), (2000000, some (.box [.sv (.int .i64 v14.1), .sv (.int .i64 v14.2.1), .sv (.int .i64 v14.2.2.1), .sv (.int .i64 v14.2.2.2.1), .own 16]))]⟩) (kW hC [(16, 1600), (17, 2656), (2000000, 224)]) rfl ⟨rfl, rfl, trivial⟩
def Xop (r : ((List Xam) × Pic × Bool)) : AV := .tup [.own 16, .agg [.sv (.int .i64 r.2.1.Wide), .sv (.int .i64 r.2.1.High), .sv (.str r.2.1.Dots)], .sv (.bool r.2.2)]
def Xoo (r : ((List Xam) × Pic × Bool)) : Xa9 := [(16, .row Xdh r.1)]
theorem Yik {p0 p1 p2 p3 r} (h : Xkl p0 p1 p2 p3 = some r) : AC Tryz.prog 61 [.agg [.sv (.int .i64 p0.Wide), .sv (.int .i64 p0.High), .sv (.str p0.Dots)], .agg [.sv (.int .i64 p1.Wide), .sv (.int .i64 p1.High), .sv (.str p1.Dots)], .agg [.sv (.bool p2.Key), .sv (.int .i64 p2.Qp), .sv (.bool p2.Large), .sv (.bool p2.Exact)], .sv (.int .i64 p3)] [] (Xop r) (Xoo r) := by
 refine Xae hT Tryz.func61 rfl fun C hC => ?_
 unfold Xkl at h
 refine Xac ?_
 iterate 6 refine kO hT hC ?_
 refine kN ?_
 iterate 2 refine kO hT hC ?_
 refine Vc.nil (Xat ?_)
 refine kL [3,4,5,6,9,11] [64,80,96,144,288] [_,_,_,_,_,_] [_,_,_,_,_] ?_
 refine kA h (fun v1 => ([(43, .sv (.bool v1))], [])) (fun v1 h => ?_) fun v1 h => ?_
 refine Xad ?_
 refine kO hT hC ?_
 refine kC hC [] Tryz.call42 h (fun _ => Xcn) fun q2 h => ?_
 iterate 2 refine kO hT hC ?_
 refine kS h ?_ ?_ <;> intro b1 h
 iterate 2 refine kI hT hC (kn b1) ?_
 refine kE hC (kn b1) [] Tryz.call78 h (fun _ => Xg4) fun q3 h => ?_
 refine kI hT hC (kn b1) ?_
 refine kP hC false (kn b1) ?_
 refine kO hT hC ?_
 refine kS h ?_ ?_ <;> intro b2 h
 iterate 2 refine kI hT hC (kn b2) ?_
 refine kE hC (kn b2) [] Tryz.call78 h (fun _ => Xg4) fun q4 h => ?_
 refine kI hT hC (kn b2) ?_
 refine kP hC false (kn b2) ?_
 refine kO hT hC ?_
 refine kS h ?_ ?_ <;> intro b3 h
 refine kI hT hC (kn b3) ?_
 refine kE hC (kn b3) [] Tryz.call121 h (fun _ => Xd0) fun q5 h => ?_
 refine kI hT hC (kn b3) ?_
 refine kP hC false (kn b3) ?_
 refine kO hT hC ?_
 refine kS h ?_ ?_ <;> intro b4 h
 refine kI hT hC (kn b4) ?_
 refine kE hC (kn b4) [] Tryz.call69 h (fun _ => Xai) fun q6 h => ?_
 refine kI hT hC (kn b4) ?_
 refine kP hC false (kn b4) ?_
 exact Vc.nil kM
 iterate 3 refine kF hC (kn b4) ?_
 refine kP hC true (kn b4) ?_
 exact Vc.nil kM
 iterate 3 refine kF hC (kn b3) ?_
 refine kP hC true (kn b3) ?_
 refine kO hT hC ?_
 iterate 3 refine kF hC rfl ?_
 refine kO hT hC ?_
 exact Vc.nil kM
 iterate 4 refine kF hC (kn b2) ?_
 refine kP hC true (kn b2) ?_
 refine kO hT hC ?_
 iterate 3 refine kF hC rfl ?_
 iterate 2 refine kO hT hC ?_
 iterate 3 refine kF hC rfl ?_
 refine kO hT hC ?_
 exact Vc.nil kM
 iterate 4 refine kF hC (kn b1) ?_
 refine kP hC true (kn b1) ?_
 refine kO hT hC ?_
 iterate 4 refine kF hC rfl ?_
 iterate 2 refine kO hT hC ?_
 iterate 3 refine kF hC rfl ?_
 iterate 2 refine kO hT hC ?_
 iterate 3 refine kF hC rfl ?_
 refine kO hT hC ?_
 exact Vc.nil kM
 refine kS h ?_ ?_ <;> intro b5 h
 refine kt b5 (Xac ?_)
 iterate 5 refine kO hT hC ?_
 refine Vc.nil (Xah (Xav ?_))
 obtain rfl := kj h
 exact Xc0 (τ := ⟨[(8, .own 16), (9, .ptr 2000001 0), (10, .sv (.bool false))], [(16, some (.row Xdh ([] : List Xam))), (2000001, some (.box [.sv (.int .i64 0), .sv (.int .i64 0), .sv (.str ⟨#[]⟩)]))]⟩) (kW hC [(16, 288), (2000001, 144)]) rfl ⟨rfl, trivial⟩
 refine kf b5 (Xag (Xaf (Xat ?_)))
 refine kL [3,4,5,6,9,11] [64,80,96,144,288] [_,_,_,_,_,_] [_,_,_,_,_] ?_
 refine kA h (fun v7 => ([(67, .sv (.bool v7))], [])) (fun v7 h => ?_) fun v7 h => ?_
 refine Xad ?_
 iterate 4 refine kO hT hC ?_
 refine kS h ?_ ?_ <;> intro b6 h
 iterate 4 refine kF hC (kn b6) ?_
 iterate 5 refine Xil hC rfl rfl rfl rfl rfl rfl ?_
 iterate 2 refine kF hC (kn b6) ?_
 iterate 5 refine Xil hC rfl rfl rfl rfl rfl rfl ?_
 refine kF hC (kn b6) ?_
 refine kP hC false (kn b6) ?_
 exact Vc.nil kM
 refine kI hT hC (kn b6) ?_
 refine kE hC (kn b6) [] Tryz.call42 h (fun _ => Xcn) fun q8 h => ?_
 iterate 2 refine kI hT hC (kn b6) ?_
 refine kS h ?_ ?_ <;> intro b7 h
 iterate 5 refine kI hT hC (kn b7) ?_
 refine Xa8 hC rfl rfl rfl rfl (kn b6) rfl rfl (b := false) (kn b7) rfl rfl rfl trivial ?_
 refine kI hT hC (kn b6) ?_
 refine kS h ?_ ?_ <;> intro b8 h
 iterate 5 refine kF hC b8 ?_
 refine Xa8 hC rfl rfl rfl rfl (kn b6) rfl rfl (b := true) b8 rfl rfl rfl trivial ?_
 refine kP hC true (kn b6) ?_
 exact Vc.nil kM
 iterate 5 refine kI hT hC b8 ?_
 refine Xa8 hC rfl rfl rfl rfl (kn b6) rfl rfl (b := false) b8 rfl rfl rfl trivial ?_
 refine kP hC true (kn b6) ?_
 exact Vc.nil kM
 iterate 5 refine kF hC (kn b7) ?_
 refine Xa8 hC rfl rfl rfl rfl (kn b6) rfl rfl (b := true) (kn b7) rfl rfl rfl trivial ?_
 refine kI hT hC (kn b6) ?_
 iterate 5 refine kF hC rfl ?_
 refine Xa8 hC rfl rfl rfl rfl (kn b6) rfl rfl (b := true) rfl rfl rfl rfl trivial ?_
 refine kP hC true (kn b6) ?_
 exact Vc.nil kM
 refine kS h ?_ ?_ <;> intro b9 h
 refine kt b9 (Xac ?_)
 iterate 5 refine kO hT hC ?_
 refine Vc.nil (Xah (Xav ?_))
 obtain rfl := kj h
 exact Xc0 (τ := ⟨[(8, .own 16), (9, .ptr 2000001 0), (10, .sv (.bool false))], [(16, some (.row Xdh ([] : List Xam))), (2000001, some (.box [.sv (.int .i64 0), .sv (.int .i64 0), .sv (.str ⟨#[]⟩)]))]⟩) (kW hC [(16, 288), (2000001, 144)]) rfl ⟨rfl, trivial⟩
 refine kf b9 (Xag (Xaf (Xac ?_)))
 iterate 4 refine kO hT hC ?_
 refine kC hC [] Tryz.call115 h (fun _ => Yds) fun q9 h => ?_
 iterate 2 refine kO hT hC ?_
 refine Vc.nil (Xat (Xac ?_))
 refine kO hT hC ?_
 refine Vc.nil ?_
 refine kL [3,4,5,6,9,11,12,13] [64,80,96,144,192,288] [_,_,_,_,_,_,_,_] [_,_,_,_,_,_] ?_
 obtain ⟨o56, hl, h⟩ := Xbd h
 refine Xlr (fun v25 => ([(13, .sv (.int .i64 v25.1))], [(192, some (.box [.sv (.int .i64 v25.2.2.1), .sv (.int .i64 v25.2.2.2.1), .sv (.str v25.2.2.2.2)])), (288, some (.row Xdh v25.2.1))])) (fun v41 => ([(3, .any), (4, .any), (5, .any), (6, .any), (13, .any)], [(192, some (.box [.sv (.int .i64 v41.2.1), .sv (.int .i64 v41.2.2.1), .sv (.str v41.2.2.2)])), (288, some (.row Xdh v41.1)), (64, none), (80, none), (96, none)])) (fun r => Xv6 C T Tryz.f61.results.toList (Xop r) (Xoo r)) hl ?_ ?_ ?_ ?_
 try dsimp only
 apply Xe7 hC []
 exact co
 rfl
 decide
 rfl
 intro v25 s hs
 have h := hs
 unfold Xev at h
 refine Xat (Xac ?_)
 iterate 4 refine kO hT hC ?_
 refine Vc.nil ?_
 refine kS h ?_ ?_ <;> intro b24 h
 refine kt b24 (Xag (Xaf (Xat (Xap (Xac ?_)))))
 refine kO hT hC ?_
 refine Vc.nil ?_
 refine kL [3,4,5,6,9,11,12,13,14] [64,80,96,144,192,288] [_,_,_,_,_,_,_,_,_] [_,_,_,_,_,_] ?_
 obtain ⟨o55, hl, h⟩ := Xbd h
 refine Xlr (fun v46 => ([(14, .sv (.int .i64 v46.1))], [(192, some (.box [.sv (.int .i64 v46.2.2.1), .sv (.int .i64 v46.2.2.2.1), .sv (.str v46.2.2.2.2)])), (288, some (.row Xdh v46.2.1))])) (fun v51 => ([(14, .any)], [(192, some (.box [.sv (.int .i64 v51.2.1), .sv (.int .i64 v51.2.2.1), .sv (.str v51.2.2.2)])), (288, some (.row Xdh v51.1))])) (fun r => Xv6 C T Tryz.f61.results.toList (Xop r) (Xoo r)) hl ?_ ?_ ?_ ?_
 try dsimp only
 apply Xe7 hC []
 exact co
 rfl
 decide
 rfl
 intro v46 s hs
 have h := hs
 unfold Xew at h
 refine Xat (Xac ?_)
 iterate 4 refine kO hT hC ?_
 refine Vc.nil ?_
 refine kS h ?_ ?_ <;> intro b29 h
 refine kt b29 (Xag (Xaf (Xat (Xap ?_))))
 refine Xb9 hm ?_
 iterate 5 refine kO hT hC ?_
 refine kC hC [(16, 1488)] Tryz.call123 h (fun _ => Xd7) fun q52 h => ?_
 iterate 4 refine kO hT hC ?_
 obtain ⟨q53, hq, h⟩ := Xbd h
 refine Yuo hC [(16, 1568), (17, 1569)] rfl rfl rfl rfl Tryz.call122 (Yci hq) rfl (by decide) trivial rfl (.inr ⟨rfl, ⟨trivial, trivial, trivial⟩⟩) rfl ?_
 iterate 8 refine kO hT hC ?_
 refine kD (Xat (Xac ?_))
 iterate 2 refine kO hT hC ?_
 refine Vc.nil ?_
 refine kS h ?_ ?_ <;> intro b30 h
 refine kt b30 (Xac ?_)
 iterate 5 refine kO hT hC ?_
 refine Vc.nil (Xah (Xav (Xho (Xav ?_))))
 obtain rfl := kj h
 refine Xyl (Xyj ?_)
 refine Xc0 (τ := ⟨[(8, .own 16), (9, .ptr 2000001 0), (10, .sv (.bool false))], [(16, some (.row Xdh ([] : List Xam))), (2000001, some (.box [.sv (.int .i64 0), .sv (.int .i64 0), .sv (.str ⟨#[]⟩)]))]⟩) ?_ rfl ⟨rfl, trivial⟩
 apply Xe7 hC [(16, 1664), (2000001, 144)]
 exact co
 rfl
 decide
 rfl
 refine kf b30 (Xag (Xaf (Xac ?_)))
 iterate 3 refine kO hT hC ?_
 obtain ⟨hq, h⟩ := Xaw h
 refine Ymi hT hC rfl rfl rfl rfl ⟨fun _ _ => rfl, by rw [Xvi]; exact hq⟩ ?_
 rw [Xvi]
 refine kO hT hC ?_
 refine Vc.nil (Xad ?_)
 iterate 4 refine kO hT hC ?_
 refine kC hC [] Tryz.call124 h (fun _ => Yi4) fun q54 h => ?_
 refine kO hT hC ?_
 refine Vc.nil (Xaq (Xaf (Xad ?_)))
 iterate 3 refine kO hT hC ?_
 refine Vc.nil ?_
 obtain rfl := kj h
 exact Yjg (kW hC [(288, 1744)])
 exact kf b29 (Xas (Xa0 kb))
 intro v51 e
 subst e
 refine Xaq (Xaf (Xad ?_))
 iterate 3 refine kO hT hC ?_
 exact Vc.nil kG
 intro r' σ' e hE
 subst e
 obtain rfl := kj h
 refine Xho (Xav (Xyl (Xyj ?_)))
 exact hE
 exact kf b24 (Xas (Xa0 kb))
 intro v41 e
 subst e
 refine Xaf ?_
 refine Xb9 hm ?_
 iterate 5 refine kO hT hC ?_
 refine kD (Xah ?_)
 obtain rfl := kj h
 exact Xc0 (τ := ⟨[(8, .own 16), (9, .ptr 2000001 0), (10, .sv (.bool true))], [(16, some (.row Xdh v41.1)), (2000001, some (.box [.sv (.int .i64 v41.2.1), .sv (.int .i64 v41.2.2.1), .sv (.str v41.2.2.2)]))]⟩) (kW hC [(16, 288), (2000001, 144)]) rfl ⟨rfl, trivial⟩
 intro r' σ' e hE
 subst e
 obtain rfl := kj h
 refine Xav ?_
 exact hE
def Yeu (r : (ByteArray × Bool)) : AV := .tup [.sv (.str r.1), .sv (.bool r.2)]
def Yet (r : (ByteArray × Bool)) : Xa9 := []
theorem Yhq {p0 p1 p2 r} (h : Xnz p0 p1 p2 = some r) : AC Tryz.prog 62 [.agg [.sv (.int .i64 p0.Level), .sv (.int .i64 p0.Bits), .sv (.ints .i64 p0.Cols), .sv (.ints .i64 p0.Rows)], .agg [.sv (.int .i64 p1.Qp), .sv (.bool p1.Large), .sv (.bool p1.Exact), .sv (.bool p1.Confined)], .agg [.sv (.int .i64 p2.Tile), .sv (.int .i64 p2.Frame), .sv (.int .i64 p2.Qp)]] [] (Yeu r) (Yet r) := by
 refine Xae hT Tryz.func62 rfl fun C hC => ?_
 unfold Xnz at h
 refine Xac ?_
 iterate 5 refine kO hT hC ?_
 refine Vc.nil (Xat (Xac ?_))
 iterate 3 refine kO hT hC ?_
 refine kC hC [] Tryz.call125 h (fun _ => Xwr) fun q1 h => ?_
 refine kO hT hC ?_
 refine Vc.nil ?_
 refine kS h ?_ ?_ <;> intro b1 h
 refine kt b1 (Xac ?_)
 iterate 2 refine kO hT hC ?_
 exact Vc.nil (Xah (Xav kR))
 refine kf b1 (Xag (Xaf (Xac ?_)))
 iterate 5 refine kO hT hC ?_
 refine kC hC [] Tryz.call126 h (fun _ => Xo0) fun q2 h => ?_
 iterate 5 refine kO hT hC ?_
 refine Vc.nil ?_
 refine Xb9 hm ?_
 iterate 2 refine kO hT hC ?_
 refine kC hC [] Tryz.call127 h (fun _ => Xg9) fun q3 h => ?_
 iterate 4 refine kO hT hC ?_
 refine kC hC [] Tryz.call128 h (fun _ => Xo2) fun q4 h => ?_
 refine kQ hT hC h fun h => ?_
 refine kO hT hC ?_
 refine kQ hT hC h fun h => ?_
 iterate 2 refine kO hT hC ?_
 exact kD (Xah kR)
def Yn6 (r : (List Int)) : AV := .own 16
def Yn5 (r : (List Int)) : Xa9 := [(16, .ints .u8 r)]
theorem Ydw {p0 r} (h : Xrv p0 = some r) : AC Tryz.prog 202 [.sv (.ints .i64 p0)] [] (Yn6 r) (Yn5 r) := by
 refine Xae hT Tryz.func202 rfl fun C hC => ?_
 unfold Xrv at h
 refine Xac ?_
 refine kO hT hC ?_
 refine kN ?_
 iterate 2 refine kO hT hC ?_
 refine kN ?_
 refine kO hT hC ?_
 refine Vc.nil (Xat (Xac ?_))
 iterate 3 refine kO hT hC ?_
 refine Vc.nil ?_
 refine kL [0,3,4,13,14,15] [192] [_,_,_,_,_,_] [_] ?_
 refine kX h (fun v3 => ([(4, .sv (.int .i64 v3.1)), (15, .sv (.int .i64 v3.2))], [])) (fun v6 => ([(4, .sv (.int .i64 v6)), (13, .any), (14, .any), (15, .any)], [])) (kW hC []) (fun v3 s h => ?_) fun v6 h => ?_
 unfold Xkp at h
 refine Xac ?_
 refine kO hT hC ?_
 refine Vc.nil (Xat ?_)
 refine kS h ?_ ?_ <;> intro b5 h
 refine kt b5 (Xag (Xaf ?_))
 refine kL [0,3,4,13,14,15] [192] [_,_,_,_,_,_] [_] ?_
 refine kA h (fun v7 => ([(4, .sv (.int .i64 v7))], [])) (fun v7 h => ?_) fun v7 h => ?_
 refine Xap (Xac ?_)
 refine kQ hT hC h fun h => ?_
 iterate 2 refine kO hT hC ?_
 refine kN ?_
 iterate 2 refine kO hT hC ?_
 refine Vc.nil ?_
 refine kS h ?_ ?_ <;> intro b6 h
 refine kt b6 (Xad ?_)
 iterate 3 refine kO hT hC ?_
 exact Vc.nil (Xaq kM)
 exact kf b6 (Xag (Xaq kM))
 refine Xad ?_
 iterate 2 refine kO hT hC ?_
 exact Vc.nil kG
 exact kf b5 (Xas (Xa0 ku))
 refine Xaf (Xac ?_)
 iterate 2 refine kO hT hC ?_
 refine kC hC [] Tryz.call127 h (fun _ => Xg9) fun q9 h => ?_
 refine kT hT hC h fun h => ?_
 refine kO hT hC ?_
 refine kN ?_
 refine kO hT hC ?_
 refine Vc.nil (Xat (Xac ?_))
 iterate 3 refine kO hT hC ?_
 refine Vc.nil ?_
 refine kL [3,7,28,29,30] [432] [_,_,_,_,_] [_] ?_
 refine kX h (fun v15 => ([(7, .sv (.int .i64 v15.1)), (30, .sv (.int .i64 v15.2.1))], [(432, some (.ints .u8 v15.2.2))])) (fun v21 => ([(7, .any), (28, .any), (29, .any), (30, .any)], [(432, some (.ints .u8 v21))])) (kW hC []) (fun v15 s h => ?_) fun v21 h => ?_
 unfold Xkq at h
 refine Xac ?_
 refine kO hT hC ?_
 refine Vc.nil (Xat ?_)
 refine kS h ?_ ?_ <;> intro b11 h
 refine kt b11 (Xag (Xaf ?_))
 refine kL [3,7,28,29,30] [432] [_,_,_,_,_] [_] ?_
 refine kA h (fun v22 => ([(7, .sv (.int .i64 v22.1))], [(432, some (.ints .u8 v22.2))])) (fun v22 h => ?_) fun v22 h => ?_
 refine Xap (Xac ?_)
 refine kQ hT hC h fun h => ?_
 iterate 2 refine kO hT hC ?_
 refine Vc.nil (Xat (Xac ?_))
 iterate 2 refine kO hT hC ?_
 refine Vc.nil ?_
 refine kS h ?_ ?_ <;> intro b12 h
 refine kt b12 (Xac ?_)
 iterate 3 refine kO hT hC ?_
 exact Vc.nil (Xas (Xa0 (Ys9 kM)))
 refine kf b12 (Xag (Xaf (Xac ?_)))
 refine kO hT hC ?_
 refine kC hC [] Tryz.call172 h (fun _ => Xwo) fun q23 h => ?_
 iterate 5 refine kO hT hC ?_
 refine kN ?_
 iterate 2 refine kO hT hC ?_
 refine kC hC [] Tryz.call127 h (fun _ => Xg9) fun q24 h => ?_
 refine kT hT hC h fun h => ?_
 refine kO hT hC ?_
 refine kC hC [] Tryz.call127 h (fun _ => Xg9) fun q25 h => ?_
 refine kT hT hC h fun h => ?_
 refine kO hT hC ?_
 refine Vc.nil (Xad ?_)
 refine kO hT hC ?_
 refine Vc.nil (Xaq ?_)
 obtain rfl := kj h
 exact Xhi (kW hC [(432, 784)])
 refine Xad ?_
 iterate 2 refine kO hT hC ?_
 exact Vc.nil kG
 exact kf b11 (Xas (Xa0 ku))
 refine Xaf (Xac ?_)
 iterate 2 refine kO hT hC ?_
 refine Vc.nil (Xah ?_)
 obtain rfl := kj h
 exact Xc0 (τ := ⟨[(2, .own 16)], [(16, some (.ints .u8 v21))]⟩) (kW hC [(16, 432)]) rfl ⟨rfl, trivial⟩
def Yak (r : (List Int)) : AV := .own 16
def Yaj (r : (List Int)) : Xa9 := [(16, .ints .u8 r)]
theorem Xrt {p0 p1 r} (h : Xg5 p0 p1 = some r) : AC Tryz.prog 177 [.sv (.ints .i64 p0), .agg [.sv (.bool p1.Key), .sv (.int .i64 p1.Qp), .sv (.bool p1.Large), .sv (.bool p1.Exact)]] [] (Yak r) (Yaj r) := by
 refine Xae hT Tryz.func177 rfl fun C hC => ?_
 unfold Xg5 at h
 refine Xac ?_
 iterate 2 refine kO hT hC ?_
 refine Vc.nil (Xat ?_)
 refine kL [0,3] [48] [_,_] [_] ?_
 refine kA h (fun v1 => ([(12, .sv (.bool v1)), (3, .any)], [(48, none)])) (fun v1 h => ?_) fun v1 h => ?_
 refine Xad ?_
 iterate 3 refine kO hT hC ?_
 refine kS h ?_ ?_ <;> intro b1 h
 iterate 2 refine kF hC b1 ?_
 refine kP hC true b1 ?_
 exact Vc.nil kM
 iterate 2 refine kI hT hC b1 ?_
 refine kP hC false b1 ?_
 exact Vc.nil kM
 refine kS h ?_ ?_ <;> intro b2 h
 refine kt b2 (Xac ?_)
 refine kO hT hC ?_
 refine kC hC [(16, 224)] Tryz.call202 h (fun _ => Ydw) fun q2 h => ?_
 refine kO hT hC ?_
 refine Vc.nil (Xah (Xav ?_))
 obtain rfl := kj h
 exact Xc0 (τ := ⟨[(4, .own 16)], [(16, some (.ints .u8 q2))]⟩) (kW hC [(16, 224)]) rfl ⟨rfl, trivial⟩
 refine kf b2 (Xag (Xaf (Xac ?_)))
 iterate 2 refine kO hT hC ?_
 refine Vc.nil (Xat (Xac ?_))
 refine kO hT hC ?_
 refine Vc.nil ?_
 refine kL [0,5,16] [240] [_,_,_] [_] ?_
 refine kX h (fun v5 => ([(16, .sv (.int .i64 v5.1))], [(240, some (.ints .u8 v5.2))])) (fun v8 => ([(0, .any), (16, .any)], [(240, some (.ints .u8 v8))])) (kW hC []) (fun v5 s h => ?_) fun v8 h => ?_
 unfold Xc6 at h
 refine Xac ?_
 refine kO hT hC ?_
 refine Vc.nil (Xat ?_)
 refine kS h ?_ ?_ <;> intro b5 h
 refine kt b5 (Xag (Xaf (Xat (Xap (Xac ?_)))))
 iterate 2 refine kO hT hC ?_
 refine Vc.nil (Xad ?_)
 iterate 7 refine kO hT hC ?_
 refine kQ hT hC h fun h => ?_
 refine kC hC [(16, 432)] Tryz.call202 h (fun _ => Ydw) fun q9 h => ?_
 refine kT hT hC h fun h => ?_
 refine kO hT hC ?_
 refine Vc.nil (Xaq (Xaf (Xad ?_)))
 iterate 2 refine kO hT hC ?_
 refine Vc.nil ?_
 obtain rfl := kj h
 exact Yjg (kW hC [(240, 448)])
 exact kf b5 (Xas (Xa0 ku))
 refine Xaf (Xac ?_)
 iterate 2 refine kO hT hC ?_
 refine Vc.nil (Xah ?_)
 obtain rfl := kj h
 exact Xc0 (τ := ⟨[(4, .own 16)], [(16, some (.ints .u8 v8))]⟩) (kW hC [(16, 240)]) rfl ⟨rfl, trivial⟩
def Xz8 (r : (ByteArray × Bool)) : AV := .tup [.sv (.str r.1), .sv (.bool r.2)]
def Xz7 (r : (ByteArray × Bool)) : Xa9 := []
theorem Ycl {p0 p1 r} (h : Xjh p0 p1 = some r) : AC Tryz.prog 129 [.agg [.sv (.int .i64 p0.Kind), .sv (.int .i64 p0.Mode), .sv (.int .i64 p0.Dx), .sv (.int .i64 p0.Dy), .sv (.ints .i64 p0.Levels)], .agg [.sv (.bool p1.Key), .sv (.int .i64 p1.Qp), .sv (.bool p1.Large), .sv (.bool p1.Exact)]] [] (Xz8 r) (Xz7 r) := by
 refine Xae hT Tryz.func129 rfl fun C hC => ?_
 unfold Xjh at h
 refine Xac ?_
 iterate 4 refine kO hT hC ?_
 refine Vc.nil (Xat ?_)
 refine kL [2,3] [32,48] [_,_] [_,_] ?_
 refine kA h (fun v1 => ([(24, .sv (.bool v1))], [])) (fun v1 h => ?_) fun v1 h => ?_
 refine Xad ?_
 refine kO hT hC ?_
 refine kC hC [] Tryz.call175 h (fun _ => Xom) fun q2 h => ?_
 iterate 2 refine kO hT hC ?_
 refine kS h ?_ ?_ <;> intro b1 h
 refine kI hT hC (kn b1) ?_
 refine kE hC (kn b1) [] Tryz.call121 h (fun _ => Xd0) fun q3 h => ?_
 refine kI hT hC (kn b1) ?_
 refine kP hC false (kn b1) ?_
 refine kO hT hC ?_
 refine kS h ?_ ?_ <;> intro b2 h
 iterate 2 refine kI hT hC (kn b2) ?_
 refine kE hC (kn b2) [] Tryz.call176 h (fun _ => Xqi) fun q4 h => ?_
 refine kI hT hC (kn b2) ?_
 refine kP hC false (kn b2) ?_
 exact Vc.nil kM
 iterate 4 refine kF hC (kn b2) ?_
 refine kP hC true (kn b2) ?_
 exact Vc.nil kM
 iterate 3 refine kF hC (kn b1) ?_
 refine kP hC true (kn b1) ?_
 refine kO hT hC ?_
 iterate 4 refine kF hC rfl ?_
 refine kO hT hC ?_
 exact Vc.nil kM
 refine kS h ?_ ?_ <;> intro b3 h
 refine kt b3 (Xac ?_)
 iterate 2 refine kO hT hC ?_
 exact Vc.nil (Xah (Xav kR))
 refine kf b3 (Xag (Xaf (Xac ?_)))
 iterate 2 refine kO hT hC ?_
 refine Vc.nil ?_
 refine kL [2,3,6] [32,48,400] [_,_,_] [_,_,_] ?_
 refine kA h (fun v5 => ([], [(400, some (.ints .u8 v5))])) (fun v5 h => ?_) fun v5 h => ?_
 refine Xac ?_
 iterate 3 refine kO hT hC ?_
 refine Vc.nil ?_
 refine kS h ?_ ?_ <;> intro b4 h
 refine kt b4 (Xad ?_)
 iterate 3 refine kO hT hC ?_
 refine kC hC [] Tryz.call127 h (fun _ => Xg9) fun q6 h => ?_
 refine kT hT hC h fun h => ?_
 refine kO hT hC ?_
 refine Vc.nil ?_
 obtain rfl := kj h
 exact Xhi (kW hC [(400, 528)])
 exact kf b4 (Xag kM)
 refine kL [2,3,6] [32,48,400] [_,_,_] [_,_,_] ?_
 refine kA h (fun v7 => ([(2, .any), (3, .any)], [(400, some (.ints .u8 v7)), (32, none), (48, none)])) (fun v7 h => ?_) fun v7 h => ?_
 refine Xac ?_
 iterate 2 refine kO hT hC ?_
 refine Vc.nil (Xap (Xac ?_))
 iterate 2 refine kO hT hC ?_
 refine Vc.nil ?_
 refine kS h ?_ ?_ <;> intro b5 h
 refine kt b5 (Xac ?_)
 iterate 2 refine kO hT hC ?_
 refine kC hC [] Tryz.call126 h (fun _ => Xo0) fun q8 h => ?_
 iterate 5 refine kO hT hC ?_
 refine kN ?_
 iterate 2 refine kO hT hC ?_
 refine kC hC [] Tryz.call126 h (fun _ => Xo0) fun q9 h => ?_
 iterate 5 refine kO hT hC ?_
 refine Vc.nil ?_
 refine Xeq hm ?_
 iterate 2 refine kO hT hC ?_
 refine kT hT hC h fun h => ?_
 refine kO hT hC ?_
 refine kT hT hC h fun h => ?_
 iterate 3 refine kO hT hC ?_
 refine kC hC [(16, 928)] Tryz.call177 h (fun _ => Xrt) fun q10 h => ?_
 refine kT hT hC h fun h => ?_
 refine kO hT hC ?_
 refine kD (Xaq ?_)
 obtain rfl := kj h
 exact Xhi (kW hC [(400, 944)])
 refine kf b5 (Xac ?_)
 iterate 2 refine kO hT hC ?_
 refine Vc.nil ?_
 refine kS h ?_ ?_ <;> intro b6 h
 refine kt b6 ?_
 refine Xeq hm ?_
 iterate 3 refine kO hT hC ?_
 refine kC hC [] Tryz.call127 h (fun _ => Xg9) fun q11 h => ?_
 refine kT hT hC h fun h => ?_
 iterate 3 refine kO hT hC ?_
 refine kC hC [(16, 1120)] Tryz.call177 h (fun _ => Xrt) fun q12 h => ?_
 refine kT hT hC h fun h => ?_
 refine kO hT hC ?_
 refine kD (Xaq ?_)
 obtain rfl := kj h
 exact Xhi (kW hC [(400, 1136)])
 exact kf b6 (Xag (Xaq kM))
 refine Xac ?_
 iterate 4 refine kO hT hC ?_
 exact Vc.nil (Xah kR)
def Xtq (r : (ByteArray × Bool)) : AV := .tup [.sv (.str r.1), .sv (.bool r.2)]
def Xtp (r : (ByteArray × Bool)) : Xa9 := []
theorem Yil {p0 p1 r} (h : Xkm p0 p1 = some r) : AC Tryz.prog 63 [.sv (Xdh.sv p0), .agg [.sv (.bool p1.Key), .sv (.int .i64 p1.Qp), .sv (.bool p1.Large), .sv (.bool p1.Exact)]] [] (Xtq r) (Xtp r) := by
 refine Xae hT Tryz.func63 rfl fun C hC => ?_
 unfold Xkm at h
 refine Xac ?_
 iterate 3 refine kO hT hC ?_
 refine Vc.nil (Xat (Xac ?_))
 iterate 2 refine kO hT hC ?_
 refine kC hC [] Tryz.call69 h (fun _ => Xai) fun q1 h => ?_
 refine kO hT hC ?_
 refine Vc.nil ?_
 refine kS h ?_ ?_ <;> intro b1 h
 refine kt b1 (Xac ?_)
 iterate 2 refine kO hT hC ?_
 exact Vc.nil (Xah (Xav kR))
 refine kf b1 (Xag (Xaf (Xac ?_)))
 iterate 2 refine kO hT hC ?_
 refine Vc.nil (Xat (Xac ?_))
 iterate 3 refine kO hT hC ?_
 refine Vc.nil ?_
 refine kL [3,6,16,17,18] [48,240] [_,_,_,_,_] [_,_] ?_
 obtain ⟨o9, hl, h⟩ := Xbd h
 refine Xlr (fun v4 => ([(18, .sv (.int .i64 v4.1))], [(240, some (.ints .u8 v4.2))])) (fun v7 => ([(3, .any), (16, .any), (17, .any), (18, .any)], [(240, some (.ints .u8 v7)), (48, none)])) (fun r => Xv6 C T Tryz.f63.results.toList (Xtq r) (Xtp r)) hl ?_ ?_ ?_ ?_
 try dsimp only
 apply Xe7 hC []
 exact co
 rfl
 decide
 rfl
 intro v4 s hs
 have h := hs
 unfold Xfp at h
 refine Xac ?_
 refine kO hT hC ?_
 refine Vc.nil (Xat ?_)
 refine kS h ?_ ?_ <;> intro b6 h
 refine kt b6 (Xag (Xaf (Xat (Xap (Xac ?_)))))
 refine kQ hT hC h fun h => ?_
 iterate 3 refine kO hT hC ?_
 refine kN ?_
 iterate 2 refine kO hT hC ?_
 refine kC hC [] Tryz.call129 h (fun _ => Ycl) fun q8 h => ?_
 iterate 5 refine kO hT hC ?_
 refine Vc.nil (Xat (Xac ?_))
 iterate 2 refine kO hT hC ?_
 refine Vc.nil ?_
 refine kS h ?_ ?_ <;> intro b7 h
 refine kt b7 (Xac ?_)
 iterate 2 refine kO hT hC ?_
 refine Vc.nil (Xah (Xav (Xho (Xav ?_))))
 obtain rfl := kj h
 refine Xyl (Xyj ?_)
 exact Xc0 (Xkc.refl _) rfl trivial
 refine kf b7 (Xag (Xaf (Xad ?_)))
 iterate 2 refine kO hT hC ?_
 refine kT hT hC h fun h => ?_
 refine kO hT hC ?_
 refine Vc.nil (Xaq (Xaf (Xad ?_)))
 iterate 2 refine kO hT hC ?_
 refine Vc.nil ?_
 obtain rfl := kj h
 exact Yjg (kW hC [(240, 512)])
 exact kf b6 (Xas (Xa0 kb))
 intro v7 e
 subst e
 refine Xaf (Xac ?_)
 iterate 4 refine kO hT hC ?_
 exact Vc.nil (Xah kR)
 intro r' σ' e hE
 subst e
 obtain rfl := kj h
 refine Xav ?_
 exact hE
def Yic (r : (ByteArray × Bool)) : AV := .tup [.sv (.str r.1), .sv (.bool r.2)]
def Yib (r : (ByteArray × Bool)) : Xa9 := []
theorem Yle {p0 r} (h : Xps p0 = some r) : AC Tryz.prog 94 [.agg [.sv (.int .i64 p0.Level), .sv (.int .i64 p0.Bits), .sv (.ints .i64 p0.Cols), .sv (.ints .i64 p0.Rows)]] [] (Yic r) (Yib r) := by
 refine Xae hT Tryz.func94 rfl fun C hC => ?_
 unfold Xps at h
 refine Xac ?_
 iterate 3 refine kO hT hC ?_
 refine Vc.nil (Xat (Xac ?_))
 refine kO hT hC ?_
 refine kC hC [] Tryz.call71 h (fun _ => Xip) fun q1 h => ?_
 refine kO hT hC ?_
 refine Vc.nil ?_
 refine kS h ?_ ?_ <;> intro b1 h
 refine kt b1 (Xac ?_)
 iterate 2 refine kO hT hC ?_
 exact Vc.nil (Xah (Xav kR))
 refine kf b1 (Xag (Xaf ?_))
 refine Xb9 hm ?_
 iterate 2 refine kO hT hC ?_
 refine kC hC [] Tryz.call127 h (fun _ => Xg9) fun q2 h => ?_
 iterate 2 refine kO hT hC ?_
 refine kC hC [] Tryz.call128 h (fun _ => Xo2) fun q3 h => ?_
 refine kQ hT hC h fun h => ?_
 refine kO hT hC ?_
 refine kD (Xat (Xac ?_))
 iterate 7 refine kO hT hC ?_
 refine Vc.nil ?_
 refine kL [4,23,24,25] [368] [_,_,_,_] [_] ?_
 refine kX h (fun v14 => ([(4, .sv (.str v14.1)), (25, .sv (.int .i64 v14.2))], [])) (fun v25 => ([(4, .sv (.str v25)), (23, .any), (24, .any), (25, .any)], [(368, none)])) (kW hC []) (fun v14 s h => ?_) fun v25 h => ?_
 unfold Xee at h
 refine Xac ?_
 refine kO hT hC ?_
 refine Vc.nil (Xat ?_)
 refine kS h ?_ ?_ <;> intro b10 h
 refine kt b10 (Xag (Xaf (Xat (Xap (Xac ?_)))))
 iterate 2 refine kQ hT hC h fun h => ?_
 refine kO hT hC ?_
 refine kN ?_
 iterate 3 refine kO hT hC ?_
 refine kC hC [] Tryz.call127 h (fun _ => Xg9) fun q26 h => ?_
 refine kQ hT hC h fun h => ?_
 refine kO hT hC ?_
 refine kN ?_
 iterate 3 refine kO hT hC ?_
 refine Vc.nil ?_
 refine kL [4,23,24,25,34,35,36] [368] [_,_,_,_,_,_,_] [_] ?_
 refine kX h (fun v29 => ([(4, .sv (.str v29.1)), (36, .sv (.int .i64 v29.2))], [])) (fun v32 => ([(4, .sv (.str v32)), (34, .any), (35, .any), (36, .any)], [])) (kW hC []) (fun v29 s h => ?_) fun v32 h => ?_
 unfold Xhx at h
 refine Xac ?_
 refine kO hT hC ?_
 refine Vc.nil (Xat ?_)
 refine kS h ?_ ?_ <;> intro b13 h
 refine kt b13 (Xag (Xaf (Xat (Xap (Xac ?_)))))
 refine kQ hT hC h fun h => ?_
 iterate 2 refine kO hT hC ?_
 refine Vc.nil (Xad ?_)
 iterate 2 refine kO hT hC ?_
 refine kC hC [] Tryz.call127 h (fun _ => Xg9) fun q33 h => ?_
 refine kQ hT hC h fun h => ?_
 refine kO hT hC ?_
 refine Vc.nil (Xaq (Xaf (Xad ?_)))
 iterate 2 refine kO hT hC ?_
 exact Vc.nil kG
 exact kf b13 (Xas (Xa0 ku))
 refine Xaq (Xaf (Xad ?_))
 iterate 2 refine kO hT hC ?_
 exact Vc.nil kG
 exact kf b10 (Xas (Xa0 ku))
 refine Xaf (Xac ?_)
 iterate 3 refine kO hT hC ?_
 exact Vc.nil (Xah kR)
def Yn9 (r : ByteArray) : AV := .sv (.str r)
def Yn8 (r : ByteArray) : Xa9 := []
theorem Xuq {p0 r} (h : Xr0 p0 = some r) : AC Tryz.prog 154 [.sv (.bool p0)] [] (Yn9 r) (Yn8 r) := by
 refine Xae hT Tryz.func154 rfl fun C hC => ?_
 unfold Xr0 at h
 refine Xac ?_
 refine kO hT hC ?_
 refine Vc.nil (Xat (Xac ?_))
 refine kO hT hC ?_
 refine Vc.nil ?_
 refine kS h ?_ ?_ <;> intro b1 h
 refine kt b1 (Xac ?_)
 refine kO hT hC ?_
 exact Vc.nil (Xah (Xav kR))
 refine kf b1 (Xag (Xaf (Xac ?_)))
 refine kO hT hC ?_
 exact Vc.nil (Xah kR)
def Yh1 (r : (ByteArray × Bool)) : AV := .tup [.sv (.str r.1), .sv (.bool r.2)]
def Yh0 (r : (ByteArray × Bool)) : Xa9 := []
theorem Yk3 {p0 r} (h : Xpq p0 = some r) : AC Tryz.prog 95 [.agg [.sv (.int .i64 p0.Qp), .sv (.bool p0.Large), .sv (.bool p0.Exact), .sv (.bool p0.Confined)]] [] (Yh1 r) (Yh0 r) := by
 refine Xae hT Tryz.func95 rfl fun C hC => ?_
 unfold Xpq at h
 refine Xac ?_
 iterate 3 refine kO hT hC ?_
 refine Vc.nil (Xat (Xac ?_))
 refine kO hT hC ?_
 refine kC hC [] Tryz.call67 h (fun _ => Xdt) fun q1 h => ?_
 refine kO hT hC ?_
 refine Vc.nil ?_
 refine kS h ?_ ?_ <;> intro b1 h
 refine kt b1 (Xac ?_)
 iterate 2 refine kO hT hC ?_
 exact Vc.nil (Xah (Xav kR))
 refine kf b1 (Xag (Xaf ?_))
 refine Xb9 hm ?_
 iterate 2 refine kO hT hC ?_
 refine kC hC [] Tryz.call128 h (fun _ => Xo2) fun q2 h => ?_
 iterate 2 refine kO hT hC ?_
 refine kC hC [] Tryz.call154 h (fun _ => Xuq) fun q3 h => ?_
 refine kQ hT hC h fun h => ?_
 iterate 2 refine kO hT hC ?_
 refine kC hC [] Tryz.call154 h (fun _ => Xuq) fun q4 h => ?_
 refine kQ hT hC h fun h => ?_
 iterate 2 refine kO hT hC ?_
 refine kC hC [] Tryz.call154 h (fun _ => Xuq) fun q5 h => ?_
 refine kQ hT hC h fun h => ?_
 iterate 2 refine kO hT hC ?_
 exact kD (Xah kR)
def Yce (r : (ByteArray × Bool)) : AV := .tup [.sv (.str r.1), .sv (.bool r.2)]
def Ycd (r : (ByteArray × Bool)) : Xa9 := []
theorem Ye4 {p0 r} (h : Xla p0 = some r) : AC Tryz.prog 130 [.sv (.str p0)] [] (Yce r) (Ycd r) := by
 refine Xae hT Tryz.func130 rfl fun C hC => ?_
 unfold Xla at h
 refine Xac ?_
 iterate 2 refine kO hT hC ?_
 refine Vc.nil (Xat (Xac ?_))
 refine kO hT hC ?_
 refine kC hC [] Tryz.call155 h (fun _ => Xzx) fun q1 h => ?_
 refine kO hT hC ?_
 refine Vc.nil ?_
 refine kS h ?_ ?_ <;> intro b1 h
 refine kt b1 (Xac ?_)
 iterate 2 refine kO hT hC ?_
 exact Vc.nil (Xah (Xav kR))
 refine kf b1 (Xag (Xaf (Xac ?_)))
 iterate 2 refine kO hT hC ?_
 refine kQ hT hC h fun h => ?_
 refine kO hT hC ?_
 obtain ⟨hq, h⟩ := Xaw h
 refine Ymi hT hC rfl rfl rfl rfl ⟨hq.1, hq.2.1, hq.2.2, by decide⟩ ?_
 refine kO hT hC ?_
 refine Vc.nil (Xat (Xac ?_))
 refine kO hT hC ?_
 refine Vc.nil ?_
 refine kL [0,4,5] [208] [_,_,_] [_] ?_
 refine kX h (fun v4 => ([(5, .sv (.int .i64 v4.1))], [(208, some (.ints .u8 v4.2))])) (fun v7 => ([(5, .any)], [(208, some (.ints .u8 v7))])) (kW hC []) (fun v4 s h => ?_) fun v7 h => ?_
 unfold Xgt at h
 refine Xat (Xac ?_)
 iterate 4 refine kO hT hC ?_
 refine Vc.nil ?_
 refine kS h ?_ ?_ <;> intro b6 h
 refine kt b6 (Xag (Xaf ?_))
 refine kL [0,4,5] [208] [_,_,_] [_] ?_
 refine kA h (fun v8 => ([], [(208, some (.ints .u8 v8))])) (fun v8 h => ?_) fun v8 h => ?_
 refine Xap (Xac ?_)
 iterate 2 refine kO hT hC ?_
 refine kQ hT hC h fun h => ?_
 refine kO hT hC ?_
 refine Vc.nil ?_
 refine kS h ?_ ?_ <;> intro b7 h
 refine kt b7 ?_
 refine Xeq hm ?_
 iterate 2 refine kO hT hC ?_
 iterate 3 refine kQ hT hC h fun h => ?_
 refine kO hT hC ?_
 iterate 2 refine kQ hT hC h fun h => ?_
 refine kO hT hC ?_
 iterate 2 refine kQ hT hC h fun h => ?_
 exact kD (Xaq kM)
 exact kf b7 (Xag (Xaq kM))
 refine Xad ?_
 iterate 3 refine kO hT hC ?_
 exact Vc.nil kG
 exact kf b6 (Xas (Xa0 ku))
 refine Xaf ?_
 refine Xb9 hm ?_
 iterate 3 refine kO hT hC ?_
 iterate 3 refine kQ hT hC h fun h => ?_
 iterate 2 refine kO hT hC ?_
 iterate 2 refine kQ hT hC h fun h => ?_
 refine kO hT hC ?_
 iterate 2 refine kQ hT hC h fun h => ?_
 refine kD (Xac ?_)
 iterate 4 refine kO hT hC ?_
 exact Vc.nil (Xah kR)
def Yis (r : (ByteArray × Bool)) : AV := .tup [.sv (.str r.1), .sv (.bool r.2)]
def Yir (r : (ByteArray × Bool)) : Xa9 := []
theorem Xqz {p0 p1 r} (h : Xj8 p0 p1 = some r) : AC Tryz.prog 64 [.sv (.int .i64 p0), .sv (.str p1)] [] (Yis r) (Yir r) := by
 refine Xae hT Tryz.func64 rfl fun C hC => ?_
 unfold Xj8 at h
 refine Xac ?_
 iterate 2 refine kO hT hC ?_
 refine kN ?_
 refine kO hT hC ?_
 refine kC hC [] Tryz.call130 h (fun _ => Ye4) fun q1 h => ?_
 iterate 5 refine kO hT hC ?_
 refine Vc.nil (Xat ?_)
 refine kL [0,6,7] [] [_,_,_] [] ?_
 refine kA h (fun v2 => ([(19, .sv (.bool v2)), (7, .any)], [])) (fun v2 h => ?_) fun v2 h => ?_
 refine Xad ?_
 iterate 3 refine kO hT hC ?_
 refine kS h ?_ ?_ <;> intro b1 h
 refine kI hT hC (kn b1) ?_
 refine kE hC (kn b1) [] Tryz.call96 h (fun _ => Xw4) fun q3 h => ?_
 refine kI hT hC (kn b1) ?_
 refine kP hC false (kn b1) ?_
 exact Vc.nil kM
 iterate 3 refine kF hC (kn b1) ?_
 refine kP hC true (kn b1) ?_
 exact Vc.nil kM
 refine kS h ?_ ?_ <;> intro b2 h
 refine kt b2 (Xac ?_)
 iterate 2 refine kO hT hC ?_
 exact Vc.nil (Xah (Xav kR))
 refine kf b2 (Xag (Xaf (Xac ?_)))
 iterate 5 refine kO hT hC ?_
 refine kQ hT hC h fun h => ?_
 iterate 2 refine kO hT hC ?_
 exact Vc.nil (Xah kR)
def Xx5 (r : (List ByteArray)) : AV := .own 16
def Xx4 (r : (List ByteArray)) : Xa9 := [(16, .row Xbs r)]
theorem Xz2 {p0 r} (h : Xhz p0 = some r) : AC Tryz.prog 32 [.agg [.sv (.int .i64 p0.Seq.Level), .sv (.int .i64 p0.Seq.Bits), .sv (.ints .i64 p0.Seq.Cols), .sv (.ints .i64 p0.Seq.Rows), .sv (.int .i64 p0.Par.Qp), .sv (.bool p0.Par.Large), .sv (.bool p0.Par.Exact), .sv (.bool p0.Par.Confined), .sv (.int .i64 p0.Rate.Qp), .sv (.int .i64 p0.Rate.Target), .sv (.int .i64 p0.Rate.Debt), .sv (.int .i64 p0.Frame), .sv (.int .i64 p0.Since), .sv (.int .i64 p0.Every), .sv (.int .i64 p0.Reach), .sv (.bool p0.Has), .sv (.int .i64 p0.Ref.Wide), .sv (.int .i64 p0.Ref.High), .sv (.str p0.Ref.Dots)]] [] (Xx5 r) (Xx4 r) := by
 refine Xae hT Tryz.func32 rfl fun C hC => ?_
 unfold Xhz at h
 refine Xac ?_
 iterate 2 refine kO hT hC ?_
 refine Vc.nil (Xat (Xac ?_))
 refine kO hT hC ?_
 refine kC hC [] Tryz.call23 h (fun _ => Xok) fun q1 h => ?_
 refine kO hT hC ?_
 refine Vc.nil ?_
 refine kS h ?_ ?_ <;> intro b1 h
 refine kt b1 (Xac ?_)
 iterate 2 refine kO hT hC ?_
 refine Vc.nil (Xah (Xav ?_))
 obtain rfl := kj h
 exact Xc0 (τ := ⟨[(2, .own 16)], [(16, some (.row Xbs ([] : List ByteArray)))]⟩) (kW hC [(16, 224)]) rfl ⟨rfl, trivial⟩
 refine kf b1 (Xag (Xaf (Xac ?_)))
 iterate 2 refine kO hT hC ?_
 refine kC hC [] Tryz.call94 h (fun _ => Yle) fun q2 h => ?_
 iterate 5 refine kO hT hC ?_
 refine kN ?_
 iterate 2 refine kO hT hC ?_
 refine kC hC [] Tryz.call95 h (fun _ => Yk3) fun q3 h => ?_
 iterate 5 refine kO hT hC ?_
 refine kN ?_
 refine kO hT hC ?_
 refine kC hC [] Tryz.call64 h (fun _ => Xqz) fun q4 h => ?_
 iterate 5 refine kO hT hC ?_
 refine kN ?_
 refine kO hT hC ?_
 refine kC hC [] Tryz.call64 h (fun _ => Xqz) fun q5 h => ?_
 iterate 5 refine kO hT hC ?_
 refine kN ?_
 iterate 4 refine kO hT hC ?_
 refine Vc.nil (Xah ?_)
 obtain rfl := kj h
 exact Xc0 (τ := ⟨[(2, .own 16)], [(16, some (.row Xbs ([q4.1, q5.1])))]⟩) (kW hC [(16, 624)]) rfl ⟨rfl, trivial⟩
def Yca (r : Rate) : AV := .agg [.sv (.int .i64 r.Qp), .sv (.int .i64 r.Target), .sv (.int .i64 r.Debt)]
def Yb9 (r : Rate) : Xa9 := []
theorem Yex {p0 p1 r} (h : Xk9 p0 p1 = some r) : AC Tryz.prog 65 [.agg [.sv (.int .i64 p0.Qp), .sv (.int .i64 p0.Target), .sv (.int .i64 p0.Debt)], .sv (.int .i64 p1)] [] (Yca r) (Yb9 r) := by
 refine Xae hT Tryz.func65 rfl fun C hC => ?_
 unfold Xk9 at h
 refine Xac ?_
 iterate 2 refine kO hT hC ?_
 refine Vc.nil (Xat (Xac ?_))
 refine kO hT hC ?_
 refine kC hC [] Tryz.call68 h (fun _ => Xqx) fun q1 h => ?_
 refine kO hT hC ?_
 refine Vc.nil ?_
 refine kS h ?_ ?_ <;> intro b1 h
 refine kt b1 (Xac ?_)
 iterate 2 refine kO hT hC ?_
 exact Vc.nil (Xah (Xav kR))
 refine kf b1 (Xag (Xaf ?_))
 refine Xb9 hm ?_
 iterate 3 refine kO hT hC ?_
 refine kC hC [] Tryz.call131 h (fun _ => Xeb) fun q2 h => ?_
 iterate 10 refine kO hT hC ?_
 refine kC hC [] Tryz.call131 h (fun _ => Xeb) fun q3 h => ?_
 iterate 2 refine kO hT hC ?_
 refine kD ?_
 refine kL [2,4] [32,64] [_,_] [_,_] ?_
 refine kA h (fun v4 => ([], [(32, some (.box [.sv (.int .i64 v4), .sv (.int .i64 p0.Target), .sv (.int .i64 q3)]))])) (fun v4 h => ?_) fun v4 h => ?_
 refine Xap (Xac ?_)
 iterate 6 refine kO hT hC ?_
 refine Vc.nil ?_
 refine kS h ?_ ?_ <;> intro b2 h
 refine kt b2 (Xad ?_)
 iterate 5 refine kO hT hC ?_
 exact Vc.nil (Xaq kM)
 refine kf b2 (Xac ?_)
 iterate 7 refine kO hT hC ?_
 refine Vc.nil ?_
 refine kS h ?_ ?_ <;> intro b3 h
 refine kt b3 (Xad ?_)
 iterate 5 refine kO hT hC ?_
 exact Vc.nil (Xaq kM)
 exact kf b3 (Xag (Xaq kM))
 refine Xac ?_
 iterate 2 refine kO hT hC ?_
 refine kC hC [] Tryz.call131 h (fun _ => Xeb) fun q5 h => ?_
 iterate 2 refine kO hT hC ?_
 refine kN ?_
 iterate 2 refine kO hT hC ?_
 exact Vc.nil (Xah kR)
def Xx7 (r : (Xa3 × (List ByteArray) × Bool)) : AV := .tup [.agg [.sv (.int .i64 r.1.Seq.Level), .sv (.int .i64 r.1.Seq.Bits), .own 16, .own 17, .sv (.int .i64 r.1.Par.Qp), .sv (.bool r.1.Par.Large), .sv (.bool r.1.Par.Exact), .sv (.bool r.1.Par.Confined), .sv (.int .i64 r.1.Rate.Qp), .sv (.int .i64 r.1.Rate.Target), .sv (.int .i64 r.1.Rate.Debt), .sv (.int .i64 r.1.Frame), .sv (.int .i64 r.1.Since), .sv (.int .i64 r.1.Every), .sv (.int .i64 r.1.Reach), .sv (.bool r.1.Has), .sv (.int .i64 r.1.Ref.Wide), .sv (.int .i64 r.1.Ref.High), .sv (.str r.1.Ref.Dots)], .own 18, .sv (.bool r.2.2)]
def Xx6 (r : (Xa3 × (List ByteArray) × Bool)) : Xa9 := [(16, .ints .i64 r.1.Seq.Cols), (17, .ints .i64 r.1.Seq.Rows), (18, .row Xbs r.2.1)]
theorem Xz4 {p0 p1 p2 r} (h : Xh0 p0 p1 p2 = some r) : AC Tryz.prog 22 [.agg [.sv (.int .i64 p0.Seq.Level), .sv (.int .i64 p0.Seq.Bits), .sv (.ints .i64 p0.Seq.Cols), .sv (.ints .i64 p0.Seq.Rows), .sv (.int .i64 p0.Par.Qp), .sv (.bool p0.Par.Large), .sv (.bool p0.Par.Exact), .sv (.bool p0.Par.Confined), .sv (.int .i64 p0.Rate.Qp), .sv (.int .i64 p0.Rate.Target), .sv (.int .i64 p0.Rate.Debt), .sv (.int .i64 p0.Frame), .sv (.int .i64 p0.Since), .sv (.int .i64 p0.Every), .sv (.int .i64 p0.Reach), .sv (.bool p0.Has), .sv (.int .i64 p0.Ref.Wide), .sv (.int .i64 p0.Ref.High), .sv (.str p0.Ref.Dots)], .agg [.sv (.int .i64 p1.Wide), .sv (.int .i64 p1.High), .sv (.str p1.Dots)], .sv (.bool p2)] [] (Xx7 r) (Xx6 r) := by
 refine Xae hT Tryz.func22 rfl fun C hC => ?_
 unfold Xh0 at h
 refine Xac ?_
 iterate 5 refine kO hT hC ?_
 refine Vc.nil (Xat ?_)
 refine kL [2,3,4,6] [48,64,96] [_,_,_,_] [_,_,_] ?_
 refine kA h (fun v1 => ([(32, .sv (.bool v1))], [])) (fun v1 h => ?_) fun v1 h => ?_
 refine Xad ?_
 refine kO hT hC ?_
 refine kC hC [] Tryz.call23 h (fun _ => Xok) fun q2 h => ?_
 iterate 2 refine kO hT hC ?_
 refine kS h ?_ ?_ <;> intro b1 h
 iterate 3 refine kI hT hC (kn b1) ?_
 refine kE hC (kn b1) [] Tryz.call58 h (fun _ => Ydt) fun q3 h => ?_
 refine kI hT hC (kn b1) ?_
 refine kP hC false (kn b1) ?_
 exact Vc.nil kM
 iterate 5 refine kF hC (kn b1) ?_
 refine kP hC true (kn b1) ?_
 exact Vc.nil kM
 refine kS h ?_ ?_ <;> intro b2 h
 refine kt b2 (Xac ?_)
 refine kO hT hC ?_
 refine kC hC [(16, 544), (17, 545)] Tryz.call59 h (fun _ => Xli) fun q4 h => ?_
 iterate 4 refine kO hT hC ?_
 refine Vc.nil (Xah (Xav ?_))
 obtain rfl := kj h
 exact Xc0 (τ := ⟨[(6, .ptr 2000000 0), (7, .own 18), (8, .sv (.bool false))], [(16, some (.ints .i64 q4.Seq.Cols)), (17, some (.ints .i64 q4.Seq.Rows)), (18, some (.row Xbs ([] : List ByteArray))), (2000000, some (.box [.sv (.int .i64 q4.Seq.Level), .sv (.int .i64 q4.Seq.Bits), .own 16, .own 17, .sv (.int .i64 q4.Par.Qp), .sv (.bool q4.Par.Large), .sv (.bool q4.Par.Exact), .sv (.bool q4.Par.Confined), .sv (.int .i64 q4.Rate.Qp), .sv (.int .i64 q4.Rate.Target), .sv (.int .i64 q4.Rate.Debt), .sv (.int .i64 q4.Frame), .sv (.int .i64 q4.Since), .sv (.int .i64 q4.Every), .sv (.int .i64 q4.Reach), .sv (.bool q4.Has), .sv (.int .i64 q4.Ref.Wide), .sv (.int .i64 q4.Ref.High), .sv (.str q4.Ref.Dots)]))]⟩) (kW hC [(16, 544), (17, 545), (18, 560), (2000000, 96)]) rfl ⟨rfl, rfl, rfl, trivial⟩
 refine kf b2 (Xag (Xaf (Xac ?_)))
 iterate 2 refine kO hT hC ?_
 refine kC hC [] Tryz.call21 h (fun _ => Yky) fun q5 h => ?_
 refine kO hT hC ?_
 refine Vc.nil (Xat ?_)
 refine kL [3,4,6,9] [48,64,96] [_,_,_,_] [_,_,_] ?_
 refine kA h (fun v6 => ([(45, .sv (.bool v6))], [])) (fun v6 h => ?_) fun v6 h => ?_
 refine Xad ?_
 iterate 3 refine kO hT hC ?_
 refine kS h ?_ ?_ <;> intro b3 h
 iterate 3 refine kF hC (kn b3) ?_
 refine kP hC false (kn b3) ?_
 exact Vc.nil kM
 iterate 3 refine kI hT hC (kn b3) ?_
 refine kP hC true (kn b3) ?_
 exact Vc.nil kM
 refine kS h ?_ ?_ <;> intro b4 h
 refine kt b4 (Xac ?_)
 refine kO hT hC ?_
 refine kC hC [(16, 752), (17, 753)] Tryz.call59 h (fun _ => Xli) fun q7 h => ?_
 iterate 4 refine kO hT hC ?_
 refine Vc.nil (Xah (Xav ?_))
 obtain rfl := kj h
 exact Xc0 (τ := ⟨[(6, .ptr 2000000 0), (7, .own 18), (8, .sv (.bool false))], [(16, some (.ints .i64 q7.Seq.Cols)), (17, some (.ints .i64 q7.Seq.Rows)), (18, some (.row Xbs ([] : List ByteArray))), (2000000, some (.box [.sv (.int .i64 q7.Seq.Level), .sv (.int .i64 q7.Seq.Bits), .own 16, .own 17, .sv (.int .i64 q7.Par.Qp), .sv (.bool q7.Par.Large), .sv (.bool q7.Par.Exact), .sv (.bool q7.Par.Confined), .sv (.int .i64 q7.Rate.Qp), .sv (.int .i64 q7.Rate.Target), .sv (.int .i64 q7.Rate.Debt), .sv (.int .i64 q7.Frame), .sv (.int .i64 q7.Since), .sv (.int .i64 q7.Every), .sv (.int .i64 q7.Reach), .sv (.bool q7.Has), .sv (.int .i64 q7.Ref.Wide), .sv (.int .i64 q7.Ref.High), .sv (.str q7.Ref.Dots)]))]⟩) (kW hC [(16, 752), (17, 753), (18, 768), (2000000, 96)]) rfl ⟨rfl, rfl, rfl, trivial⟩
 refine kf b4 (Xag (Xaf ?_))
 refine Xb9 hm ?_
 iterate 4 refine kO hT hC ?_
 refine kC hC [] Tryz.call60 h (fun _ => Yny) fun q8 h => ?_
 iterate 9 refine kO hT hC ?_
 refine kD (Xac ?_)
 iterate 6 refine kO hT hC ?_
 refine kC hC [(16, 1088)] Tryz.call61 h (fun _ => Yik) fun q9 h => ?_
 iterate 8 refine kO hT hC ?_
 refine kN ?_
 iterate 9 refine kO hT hC ?_
 refine kC hC [] Tryz.call62 h (fun _ => Yhq) fun q10 h => ?_
 iterate 5 refine kO hT hC ?_
 refine kN ?_
 iterate 2 refine kO hT hC ?_
 refine kC hC [] Tryz.call63 h (fun _ => Yil) fun q11 h => ?_
 iterate 5 refine kO hT hC ?_
 refine kN ?_
 refine kO hT hC ?_
 refine kN ?_
 refine kO hT hC ?_
 refine kC hC [(16, 1472), (17, 1473)] Tryz.call59 h (fun _ => Xli) fun q12 h => ?_
 iterate 2 refine kO hT hC ?_
 refine kN ?_
 iterate 2 refine kO hT hC ?_
 refine kN ?_
 iterate 5 refine kO hT hC ?_
 refine Vc.nil ?_
 refine kL [3,6,9,12,14,16,18,19,20] [48,96,192,304,1472,1473,1488] [_,_,_,_,_,_,_,_,_] [_,_,_,_,_,_,_] ?_
 refine kA h (fun v13 => ([(18, .sv (.int .i64 v13.1)), (9, .any)], [(304, some (.box [.sv (.int .i64 q12.Seq.Level), .sv (.int .i64 q12.Seq.Bits), .own 1472, .own 1473, .sv (.int .i64 q12.Par.Qp), .sv (.bool q12.Par.Large), .sv (.bool q12.Par.Exact), .sv (.bool q12.Par.Confined), .sv (.int .i64 q12.Rate.Qp), .sv (.int .i64 q12.Rate.Target), .sv (.int .i64 q12.Rate.Debt), .sv (.int .i64 q12.Frame), .sv (.int .i64 v13.2.1), .sv (.int .i64 q12.Every), .sv (.int .i64 q12.Reach), .sv (.bool q12.Has), .sv (.int .i64 q12.Ref.Wide), .sv (.int .i64 q12.Ref.High), .sv (.str q12.Ref.Dots)])), (1488, some (.row Xbs v13.2.2))])) (fun v13 h => ?_) fun v13 h => ?_
 refine Xac ?_
 refine kO hT hC ?_
 refine Vc.nil ?_
 refine kS h ?_ ?_ <;> intro b5 h
 refine kt b5 (Xac ?_)
 refine kO hT hC ?_
 refine kN ?_
 refine kO hT hC ?_
 refine kC hC [(16, 1600)] Tryz.call32 h (fun _ => Xz2) fun q14 h => ?_
 refine kO hT hC ?_
 refine Vc.nil (Xad ?_)
 iterate 2 refine kO hT hC ?_
 refine Vc.nil ?_
 obtain rfl := kj h
 exact Xhi (kW hC [(1488, 1600)])
 exact kf b5 (Xag kM)
 refine Xac ?_
 iterate 3 refine kO hT hC ?_
 refine kQ hT hC h fun h => ?_
 refine kC hC [] Tryz.call64 h (fun _ => Xqz) fun q15 h => ?_
 iterate 5 refine kO hT hC ?_
 refine kN ?_
 iterate 7 refine kO hT hC ?_
 refine kC hC [] Tryz.call65 h (fun _ => Yex) fun q16 h => ?_
 iterate 2 refine kO hT hC ?_
 refine Vc.nil ?_
 refine Xb9 hm ?_
 iterate 6 refine kO hT hC ?_
 iterate 2 refine kQ hT hC h fun h => ?_
 iterate 2 refine kO hT hC ?_
 refine kD (Xac ?_)
 iterate 2 refine kO hT hC ?_
 refine kN ?_
 iterate 3 refine kO hT hC ?_
 refine Vc.nil ?_
 refine Xb9 hm ?_
 iterate 4 refine kO hT hC ?_
 obtain ⟨hq, h⟩ := Xaw h
 refine Ymi hT hC rfl rfl rfl rfl ⟨fun _ _ => rfl, by rw [Xim]; exact hq⟩ ?_
 rw [Xim]
 iterate 3 refine kO hT hC ?_
 refine kD (Xah ?_)
 obtain rfl := kj h
 exact Xc0 (τ := ⟨[(6, .ptr 2000000 0), (7, .own 18), (8, .sv (.bool true))], [(16, some (.ints .i64 q12.Seq.Cols)), (17, some (.ints .i64 q12.Seq.Rows)), (18, some (.row Xbs (v13.2.2 ++ ([q15.1])))), (2000000, some (.box [.sv (.int .i64 q12.Seq.Level), .sv (.int .i64 q12.Seq.Bits), .own 16, .own 17, .sv (.int .i64 q12.Par.Qp), .sv (.bool q12.Par.Large), .sv (.bool q12.Par.Exact), .sv (.bool q12.Par.Confined), .sv (.int .i64 q16.Qp), .sv (.int .i64 q16.Target), .sv (.int .i64 q16.Debt), .sv (.int .i64 ((Xaa .i64 (p0.Frame + 1)).tmod (Xaa .i64 (1 * 2 ^ min p0.Seq.Bits.toNat (IntKind.bits .i64))))), .sv (.int .i64 v13.2.1), .sv (.int .i64 q12.Every), .sv (.int .i64 q12.Reach), .sv (.bool true), .sv (.int .i64 q9.2.1.Wide), .sv (.int .i64 q9.2.1.High), .sv (.str q9.2.1.Dots)]))]⟩) (kW hC [(16, 1472), (17, 1473), (18, 2160), (2000000, 96)]) rfl ⟨rfl, rfl, rfl, trivial⟩
def Yaf (r : Xea) : AV := .agg [.sv (.bool r.Has), .sv (.bool r.Live), .sv (.int .i64 r.Seq.Level), .sv (.int .i64 r.Seq.Bits), .own 16, .own 17, .sv (.int .i64 r.Par.Qp), .sv (.bool r.Par.Large), .sv (.bool r.Par.Exact), .sv (.bool r.Par.Confined), .sv (.int .i64 r.Frame), .sv (.int .i64 r.Count), .sv (.int .i64 r.Gone)]
def Yae (r : Xea) : Xa9 := [(16, .ints .i64 r.Seq.Cols), (17, .ints .i64 r.Seq.Rows)]
theorem Xrr {p0 r} (h : Xg3 p0 = some r) : AC Tryz.prog 72 [.agg [.sv (.bool p0.Has), .sv (.bool p0.Live), .sv (.int .i64 p0.Seq.Level), .sv (.int .i64 p0.Seq.Bits), .sv (.ints .i64 p0.Seq.Cols), .sv (.ints .i64 p0.Seq.Rows), .sv (.int .i64 p0.Par.Qp), .sv (.bool p0.Par.Large), .sv (.bool p0.Par.Exact), .sv (.bool p0.Par.Confined), .sv (.int .i64 p0.Frame), .sv (.int .i64 p0.Count), .sv (.int .i64 p0.Gone)]] [] (Yaf r) (Yae r) := by
 refine Xae hT Tryz.func72 rfl fun C hC => ?_
 unfold Xg3 at h
 refine Xac ?_
 iterate 2 refine kO hT hC ?_
 refine kN ?_
 iterate 2 refine kO hT hC ?_
 refine kC hC [(16, 80), (17, 81)] Tryz.call75 h (fun _ => Xpt) fun q1 h => ?_
 iterate 2 refine kO hT hC ?_
 refine kN ?_
 iterate 2 refine kO hT hC ?_
 refine Vc.nil (Xah ?_)
 obtain rfl := kj h
 exact Xc0 (τ := ⟨[(2, .ptr 2000000 0)], [(16, some (.ints .i64 q1.Cols)), (17, some (.ints .i64 q1.Rows)), (2000000, some (.box [.sv (.bool p0.Has), .sv (.bool p0.Live), .sv (.int .i64 q1.Level), .sv (.int .i64 q1.Bits), .own 16, .own 17, .sv (.int .i64 p0.Par.Qp), .sv (.bool p0.Par.Large), .sv (.bool p0.Par.Exact), .sv (.bool p0.Par.Confined), .sv (.int .i64 p0.Frame), .sv (.int .i64 p0.Count), .sv (.int .i64 p0.Gone)]))]⟩) (kW hC [(16, 80), (17, 81), (2000000, 32)]) rfl ⟨rfl, rfl, trivial⟩
def Yeg (r : Bool) : AV := .sv (.bool r)
def Yef (r : Bool) : Xa9 := []
theorem Xk4 {p0 r} (h : Xf5 p0 = some r) : AC Tryz.prog 28 [.agg [.sv (.bool p0.Has), .sv (.bool p0.Live), .sv (.int .i64 p0.Seq.Level), .sv (.int .i64 p0.Seq.Bits), .sv (.ints .i64 p0.Seq.Cols), .sv (.ints .i64 p0.Seq.Rows), .sv (.int .i64 p0.Par.Qp), .sv (.bool p0.Par.Large), .sv (.bool p0.Par.Exact), .sv (.bool p0.Par.Confined), .sv (.int .i64 p0.Frame), .sv (.int .i64 p0.Count), .sv (.int .i64 p0.Gone)]] [] (Yeg r) (Yef r) := by
 refine Xae hT Tryz.func28 rfl fun C hC => ?_
 unfold Xf5 at h
 refine Xac ?_
 iterate 2 refine kO hT hC ?_
 refine Vc.nil (Xat ?_)
 refine kL [1] [16] [_] [_] ?_
 refine kA h (fun v1 => ([(12, .sv (.bool v1))], [])) (fun v1 h => ?_) fun v1 h => ?_
 refine Xad ?_
 iterate 2 refine kO hT hC ?_
 refine kC hC [] Tryz.call69 h (fun _ => Xai) fun q2 h => ?_
 iterate 2 refine kO hT hC ?_
 refine kS h ?_ ?_ <;> intro b1 h
 iterate 2 refine kI hT hC (kn b1) ?_
 refine kE hC (kn b1) [] Tryz.call69 h (fun _ => Xai) fun q3 h => ?_
 refine kI hT hC (kn b1) ?_
 refine kP hC false (kn b1) ?_
 exact Vc.nil kM
 iterate 4 refine kF hC (kn b1) ?_
 refine kP hC true (kn b1) ?_
 exact Vc.nil kM
 refine kS h ?_ ?_ <;> intro b2 h
 refine kt b2 (Xac ?_)
 refine kO hT hC ?_
 exact Vc.nil (Xah (Xav kR))
 refine kf b2 (Xag (Xaf (Xat (Xac ?_))))
 iterate 3 refine kO hT hC ?_
 refine Vc.nil ?_
 refine kS h ?_ ?_ <;> intro b3 h
 refine kt b3 ?_
 refine kL [1] [16] [_] [_] ?_
 refine kA h (fun v4 => ([(2, .sv (.bool v4)), (1, .any)], [(16, none)])) (fun v4 h => ?_) fun v4 h => ?_
 refine Xad ?_
 iterate 4 refine kO hT hC ?_
 refine kS h ?_ ?_ <;> intro b4 h
 iterate 3 refine kF hC (kn b4) ?_
 refine kP hC false (kn b4) ?_
 refine kO hT hC ?_
 iterate 4 refine kF hC rfl ?_
 iterate 2 refine kO hT hC ?_
 iterate 3 refine kF hC rfl ?_
 iterate 2 refine kO hT hC ?_
 exact Vc.nil kM
 iterate 2 refine kI hT hC (kn b4) ?_
 refine kE hC (kn b4) [] Tryz.call70 h (fun _ => Yiw) fun q5 h => ?_
 refine kP hC true (kn b4) ?_
 refine kO hT hC ?_
 refine kS h ?_ ?_ <;> intro b5 h
 iterate 3 refine kI hT hC b5 ?_
 refine Yx8 hC rfl rfl rfl rfl b5 rfl rfl rfl Zco rfl rfl ?_
 refine kP hC true b5 ?_
 refine kO hT hC ?_
 refine kS h ?_ ?_ <;> intro b6 h
 iterate 3 refine kI hT hC b6 ?_
 refine kP hC true b6 ?_
 refine kO hT hC ?_
 exact Vc.nil kM
 iterate 3 refine kF hC b6 ?_
 refine kP hC false b6 ?_
 refine kO hT hC ?_
 exact Vc.nil kM
 iterate 4 refine kF hC b5 ?_
 refine kP hC false b5 ?_
 refine kO hT hC ?_
 iterate 3 refine kF hC rfl ?_
 iterate 2 refine kO hT hC ?_
 exact Vc.nil kM
 exact Xah (Xav kR)
 refine kf b3 (Xag (Xaf ?_))
 refine kL [1] [16] [_] [_] ?_
 refine kA h (fun v6 => ([(2, .sv (.bool v6)), (1, .any)], [(16, none)])) (fun v6 h => ?_) fun v6 h => ?_
 refine Xeq hm ?_
 iterate 2 refine kO hT hC ?_
 refine kC hC [] Tryz.call66 h (fun _ => Xh1) fun q7 h => ?_
 iterate 2 refine kO hT hC ?_
 refine kS h ?_ ?_ <;> intro b7 h
 iterate 2 refine kI hT hC b7 ?_
 refine kE hC b7 [] Tryz.call67 h (fun _ => Xdt) fun q8 h => ?_
 refine kP hC true b7 ?_
 refine kO hT hC ?_
 refine kS h ?_ ?_ <;> intro b8 h
 iterate 5 refine kI hT hC b8 ?_
 refine kJ hT hC b8 h fun h => ?_
 refine kI hT hC b8 ?_
 refine kE hC b8 [] Tryz.call69 h (fun _ => Xai) fun q9 h => ?_
 refine kP hC true b8 ?_
 refine kO hT hC ?_
 exact kD kM
 iterate 8 refine kF hC b8 ?_
 refine kP hC false b8 ?_
 refine kO hT hC ?_
 exact kD kM
 iterate 3 refine kF hC b7 ?_
 refine kP hC false b7 ?_
 refine kO hT hC ?_
 iterate 8 refine kF hC rfl ?_
 iterate 2 refine kO hT hC ?_
 exact kD kM
 exact Xah kR
def Yen (r : Xer) : AV := .agg [.sv (.bool r.Key), .sv (.int .i64 r.Qp), .sv (.bool r.Large), .sv (.bool r.Exact)]
def Yem (r : Xer) : Xa9 := []
theorem Xud {p0 p1 r} (h : Xht p0 p1 = some r) : AC Tryz.prog 79 [.agg [.sv (.int .i64 p0.Qp), .sv (.bool p0.Large), .sv (.bool p0.Exact), .sv (.bool p0.Confined)], .agg [.sv (.bool p1.Key), .sv (.int .i64 p1.Qp), .sv (.str p1.Row)]] [] (Yen r) (Yem r) := by
 refine Xae hT Tryz.func79 rfl fun C hC => ?_
 unfold Xht at h
 refine Xac ?_
 iterate 3 refine kO hT hC ?_
 refine kN ?_
 iterate 10 refine kO hT hC ?_
 exact Vc.nil (Xah kR)
def Yh3 (r : Bool) : AV := .sv (.bool r)
def Yh2 (r : Bool) : Xa9 := []
theorem Yk5 {p0 p1 p2 r} (h : Xmk p0 p1 p2 = some r) : AC Tryz.prog 134 [.agg [.sv (.int .i64 p0.Qp), .sv (.bool p0.Large), .sv (.bool p0.Exact), .sv (.bool p0.Confined)], .agg [.sv (.bool p1.Key), .sv (.int .i64 p1.Qp), .sv (.str p1.Row)], .sv (.int .i64 p2)] [] (Yh3 r) (Yh2 r) := by
 refine Xae hT Tryz.func134 rfl fun C hC => ?_
 unfold Xmk at h
 refine Xac ?_
 iterate 3 refine kO hT hC ?_
 refine Vc.nil ?_
 refine Xb9 hm ?_
 iterate 5 refine kO hT hC ?_
 refine kC hC [] Tryz.call79 h (fun _ => Xud) fun q1 h => ?_
 refine kC hC [(16, 256)] Tryz.call80 h (fun _ => Xto) fun q2 h => ?_
 iterate 5 refine kO hT hC ?_
 refine kD ?_
 refine kL [3,6,8] [48] [_,_,_] [_] ?_
 refine kA h (fun v3 => ([(6, .sv (.bool v3)), (3, .any), (8, .any)], [(48, none)])) (fun v3 h => ?_) fun v3 h => ?_
 refine Xad ?_
 iterate 2 refine kO hT hC ?_
 refine kS h ?_ ?_ <;> intro b1 h
 refine kI hT hC b1 ?_
 refine kE hC b1 [] Tryz.call67 h (fun _ => Xdt) fun q4 h => ?_
 refine kP hC true b1 ?_
 refine kO hT hC ?_
 exact Vc.nil kM
 iterate 2 refine kF hC b1 ?_
 refine kP hC false b1 ?_
 refine kO hT hC ?_
 exact Vc.nil kM
 exact Xah kR
def Xnx (r : (Int × Seq × Par × Xve × Ybk)) : AV := .tup [.sv (.int .i64 r.1), .agg [.sv (.int .i64 r.2.1.Level), .sv (.int .i64 r.2.1.Bits), .sv (.ints .i64 r.2.1.Cols), .sv (.ints .i64 r.2.1.Rows)], .agg [.sv (.int .i64 r.2.2.1.Qp), .sv (.bool r.2.2.1.Large), .sv (.bool r.2.2.1.Exact), .sv (.bool r.2.2.1.Confined)], .agg [.sv (.int .i64 r.2.2.2.1.Tile), .sv (.int .i64 r.2.2.2.1.Frame), .sv (.int .i64 r.2.2.2.1.Qp)], .agg [.sv (.bool r.2.2.2.2.Key), .sv (.int .i64 r.2.2.2.2.Qp), .sv (.str r.2.2.2.2.Row)]]
def Xnw (r : (Int × Seq × Par × Xve × Ybk)) : Xa9 := []
theorem Xv8 {p0 p1 p2 r} (h : Xb1 p0 p1 p2 = some r) : AC Tryz.prog 73 [.agg [.sv (.bool p0.Has), .sv (.bool p0.Live), .sv (.int .i64 p0.Seq.Level), .sv (.int .i64 p0.Seq.Bits), .sv (.ints .i64 p0.Seq.Cols), .sv (.ints .i64 p0.Seq.Rows), .sv (.int .i64 p0.Par.Qp), .sv (.bool p0.Par.Large), .sv (.bool p0.Par.Exact), .sv (.bool p0.Par.Confined), .sv (.int .i64 p0.Frame), .sv (.int .i64 p0.Count), .sv (.int .i64 p0.Gone)], .sv (Xbs.sv p1), .agg [.sv (.int .i64 p2.Qp), .sv (.bool p2.Large), .sv (.bool p2.Exact), .sv (.bool p2.Confined)]] [] (Xnx r) (Xnw r) := by
 refine Xae hT Tryz.func73 rfl fun C hC => ?_
 unfold Xb1 at h
 refine Xac ?_
 iterate 7 refine kO hT hC ?_
 refine kN ?_
 iterate 4 refine kO hT hC ?_
 refine Vc.nil (Xat (Xac ?_))
 iterate 3 refine kO hT hC ?_
 refine Vc.nil ?_
 refine kL [3,5,7,8,9,10,11,12,34,35,36] [48,80,112,128,144,160,512,528] [_,_,_,_,_,_,_,_,_,_,_] [_,_,_,_,_,_,_,_] ?_
 obtain ⟨o11, hl, h⟩ := Xbd h
 refine Xlr (fun v4 => ([(36, .sv (.int .i64 v4.1))], [(512, some (.ints .i64 v4.2.1)), (528, some (.row Xbs v4.2.2))])) (fun v8 => ([(34, .any), (35, .any), (36, .any)], [(512, some (.ints .i64 v8.1)), (528, some (.row Xbs v8.2))])) (fun r => Xv6 C T Tryz.f73.results.toList (Xnx r) (Xnw r)) hl ?_ ?_ ?_ ?_
 try dsimp only
 apply Xe7 hC []
 exact co
 rfl
 decide
 rfl
 intro v4 s hs
 have h := hs
 unfold Xbf at h
 refine Xac ?_
 refine kO hT hC ?_
 refine Vc.nil (Xat ?_)
 refine kS h ?_ ?_ <;> intro b7 h
 refine kt b7 (Xag (Xaf (Xat (Xap (Xac ?_)))))
 refine kQ hT hC h fun h => ?_
 iterate 2 refine kO hT hC ?_
 refine kN ?_
 refine kO hT hC ?_
 refine kC hC [] Tryz.call33 h (fun _ => Ylk) fun q9 h => ?_
 iterate 7 refine kO hT hC ?_
 refine Vc.nil (Xat ?_)
 refine kL [3,5,7,8,9,10,11,12,15,16,17,34,35,36] [48,80,112,128,144,160,512,528] [_,_,_,_,_,_,_,_,_,_,_,_,_,_] [_,_,_,_,_,_,_,_] ?_
 refine kA h (fun v10 => ([(52, .sv (.bool v10)), (17, .any)], [])) (fun v10 h => ?_) fun v10 h => ?_
 refine Xad ?_
 iterate 3 refine kO hT hC ?_
 refine kS h ?_ ?_ <;> intro b8 h
 iterate 3 refine kI hT hC (kn b8) ?_
 refine kP hC false (kn b8) ?_
 exact Vc.nil kM
 iterate 3 refine kF hC (kn b8) ?_
 refine kP hC true (kn b8) ?_
 exact Vc.nil kM
 refine kS h ?_ ?_ <;> intro b9 h
 refine kt b9 (Xac ?_)
 iterate 9 refine kO hT hC ?_
 refine Vc.nil (Xah (Xav (Xho (Xav ?_))))
 obtain rfl := kj h
 refine Xyl (Xyj ?_)
 refine Xc0 (τ := ⟨[(6, .sv (.int .i64 2)), (7, .ptr 2000001 0), (8, .ptr 2000002 0), (9, .ptr 2000003 0), (10, .ptr 2000004 0)], [(2000001, some (.box [.sv (.int .i64 0), .sv (.int .i64 0), .sv (.ints .i64 []), .sv (.ints .i64 [])])), (2000002, some (.box [.sv (.int .i64 0), .sv (.bool false), .sv (.bool false), .sv (.bool false)])), (2000003, some (.box [.sv (.int .i64 0), .sv (.int .i64 0), .sv (.int .i64 0)])), (2000004, some (.box [.sv (.bool false), .sv (.int .i64 0), .sv (.str ⟨#[]⟩)]))]⟩) ?_ rfl trivial
 apply Xe7 hC [(2000001, 112), (2000002, 128), (2000003, 144), (2000004, 160)]
 exact co
 rfl
 decide
 rfl
 refine kf b9 (Xag (Xaf (Xac ?_)))
 iterate 3 refine kO hT hC ?_
 refine kT hT hC h fun h => ?_
 refine kO hT hC ?_
 refine Vc.nil (Xad ?_)
 iterate 3 refine kO hT hC ?_
 obtain ⟨hq, h⟩ := Xaw h
 refine Ymi hT hC rfl rfl rfl rfl ⟨fun _ _ => rfl, by rw [Xim]; exact hq⟩ ?_
 rw [Xim]
 refine kO hT hC ?_
 refine Vc.nil (Xaq (Xaf (Xad ?_)))
 iterate 2 refine kO hT hC ?_
 refine Vc.nil ?_
 obtain rfl := kj h
 exact Yjg (kW hC [(512, 960), (528, 1024)])
 exact kf b7 (Xas (Xa0 kb))
 intro v8 e
 subst e
 refine Xaf ?_
 refine Xb9 hm ?_
 iterate 8 refine kO hT hC ?_
 refine kD (Xac ?_)
 iterate 4 refine kO hT hC ?_
 refine Vc.nil ?_
 refine kL [3,5,7,8,9,10,11,12,18,19,20] [48,80,112,128,144,160,288,304,512,528] [_,_,_,_,_,_,_,_,_,_,_] [_,_,_,_,_,_,_,_,_,_] ?_
 refine Yyl h (fun (v12 : (Int × Int × (List Int) × (List Int) × Int × Bool × Bool × Bool)) => ([(5, .any), (11, .any)], [(288, some (.box [.sv (.int .i64 v12.1), .sv (.int .i64 v12.2.1), .sv (.ints .i64 v12.2.2.1), .sv (.ints .i64 v12.2.2.2.1)])), (304, some (.box [.sv (.int .i64 v12.2.2.2.2.1), .sv (.bool v12.2.2.2.2.2.1), .sv (.bool v12.2.2.2.2.2.2.1), .sv (.bool v12.2.2.2.2.2.2.2)])), (80, none), (512, none)])) (fun v12 h => ?_) (fun h => ?_)
 refine Xac ?_
 iterate 4 refine kO hT hC ?_
 iterate 2 refine kQ hT hC h fun h => ?_
 refine kO hT hC ?_
 refine kN ?_
 iterate 3 refine kO hT hC ?_
 refine kC hC [] Tryz.call113 h (fun _ => Yez) fun q18 h => ?_
 iterate 8 refine kO hT hC ?_
 refine Vc.nil (Xat (Xap (Xac ?_)))
 iterate 3 refine kO hT hC ?_
 refine Vc.nil ?_
 refine kS h ?_ ?_ <;> intro b26 h
 refine kt b26 (Xac ?_)
 iterate 9 refine kO hT hC ?_
 refine Vc.nil (Xah (Xho (Xav ?_)))
 obtain rfl := kj h
 exact Xc0 (τ := ⟨[(6, .sv (.int .i64 5)), (7, .ptr 2000001 0), (8, .ptr 2000002 0), (9, .ptr 2000003 0), (10, .ptr 2000004 0)], [(2000001, some (.box [.sv (.int .i64 0), .sv (.int .i64 0), .sv (.ints .i64 []), .sv (.ints .i64 [])])), (2000002, some (.box [.sv (.int .i64 0), .sv (.bool false), .sv (.bool false), .sv (.bool false)])), (2000003, some (.box [.sv (.int .i64 0), .sv (.int .i64 0), .sv (.int .i64 0)])), (2000004, some (.box [.sv (.bool false), .sv (.int .i64 0), .sv (.str ⟨#[]⟩)]))]⟩) (kW hC [(2000001, 112), (2000002, 128), (2000003, 144), (2000004, 160)]) rfl trivial
 refine kf b26 ?_
 refine kL [3,7,8,9,10,18,19,20,27,28,29] [48,112,128,144,160,288,304,448] [_,_,_,_,_,_,_,_,_,_,_] [_,_,_,_,_,_,_,_] ?_
 refine kA h (fun v19 => ([(211, .sv (.bool v19))], [])) (fun v19 h => ?_) fun v19 h => ?_
 refine Xad ?_
 iterate 3 refine kO hT hC ?_
 refine kS h ?_ ?_ <;> intro b27 h
 iterate 3 refine kF hC (kn b27) ?_
 refine kP hC false (kn b27) ?_
 refine kO hT hC ?_
 exact Vc.nil kM
 iterate 3 refine kI hT hC (kn b27) ?_
 refine kP hC true (kn b27) ?_
 refine kO hT hC ?_
 exact Vc.nil kM
 refine kS h ?_ ?_ <;> intro b28 h
 refine kt b28 (Xac ?_)
 iterate 9 refine kO hT hC ?_
 refine Vc.nil (Xah (Xho (Xav ?_)))
 obtain rfl := kj h
 exact Xc0 (τ := ⟨[(6, .sv (.int .i64 6)), (7, .ptr 2000001 0), (8, .ptr 2000002 0), (9, .ptr 2000003 0), (10, .ptr 2000004 0)], [(2000001, some (.box [.sv (.int .i64 0), .sv (.int .i64 0), .sv (.ints .i64 []), .sv (.ints .i64 [])])), (2000002, some (.box [.sv (.int .i64 0), .sv (.bool false), .sv (.bool false), .sv (.bool false)])), (2000003, some (.box [.sv (.int .i64 0), .sv (.int .i64 0), .sv (.int .i64 0)])), (2000004, some (.box [.sv (.bool false), .sv (.int .i64 0), .sv (.str ⟨#[]⟩)]))]⟩) (kW hC [(2000001, 112), (2000002, 128), (2000003, 144), (2000004, 160)]) rfl trivial
 refine kf b28 ?_
 refine kL [3,7,8,9,10,18,19,20,27,28,29] [48,112,128,144,160,288,304,448] [_,_,_,_,_,_,_,_,_,_,_] [_,_,_,_,_,_,_,_] ?_
 refine kA h (fun v20 => ([(223, .sv (.bool v20)), (3, .any)], [(48, none)])) (fun v20 h => ?_) fun v20 h => ?_
 refine Xad ?_
 iterate 3 refine kO hT hC ?_
 refine kS h ?_ ?_ <;> intro b29 h
 iterate 5 refine kF hC (kn b29) ?_
 refine kP hC false (kn b29) ?_
 refine kO hT hC ?_
 exact Vc.nil kM
 iterate 5 refine kI hT hC (kn b29) ?_
 refine kP hC true (kn b29) ?_
 refine kO hT hC ?_
 exact Vc.nil kM
 refine kS h ?_ ?_ <;> intro b30 h
 refine kt b30 (Xac ?_)
 iterate 9 refine kO hT hC ?_
 refine Vc.nil (Xah (Xho (Xav ?_)))
 obtain rfl := kj h
 exact Xc0 (τ := ⟨[(6, .sv (.int .i64 7)), (7, .ptr 2000001 0), (8, .ptr 2000002 0), (9, .ptr 2000003 0), (10, .ptr 2000004 0)], [(2000001, some (.box [.sv (.int .i64 0), .sv (.int .i64 0), .sv (.ints .i64 []), .sv (.ints .i64 [])])), (2000002, some (.box [.sv (.int .i64 0), .sv (.bool false), .sv (.bool false), .sv (.bool false)])), (2000003, some (.box [.sv (.int .i64 0), .sv (.int .i64 0), .sv (.int .i64 0)])), (2000004, some (.box [.sv (.bool false), .sv (.int .i64 0), .sv (.str ⟨#[]⟩)]))]⟩) (kW hC [(2000001, 112), (2000002, 128), (2000003, 144), (2000004, 160)]) rfl trivial
 refine kf b30 (Xag (Xaq (Xaf ?_)))
 refine Xb9 hm ?_
 iterate 5 refine kO hT hC ?_
 refine kQ hT hC h fun h => ?_
 iterate 3 refine kO hT hC ?_
 refine kD (Xat ?_)
 refine Xb9 hm ?_
 iterate 3 refine kO hT hC ?_
 refine kC hC [] Tryz.call132 h (fun _ => Xrm) fun q21 h => ?_
 refine kC hC [] Tryz.call134 h (fun _ => Yk5) fun q22 h => ?_
 refine kO hT hC ?_
 refine kD ?_
 refine kS h ?_ ?_ <;> intro b31 h
 refine kt b31 (Xac ?_)
 iterate 9 refine kO hT hC ?_
 refine Vc.nil (Xah (Xav ?_))
 obtain rfl := kj h
 exact Xc0 (τ := ⟨[(6, .sv (.int .i64 8)), (7, .ptr 2000001 0), (8, .ptr 2000002 0), (9, .ptr 2000003 0), (10, .ptr 2000004 0)], [(2000001, some (.box [.sv (.int .i64 0), .sv (.int .i64 0), .sv (.ints .i64 []), .sv (.ints .i64 [])])), (2000002, some (.box [.sv (.int .i64 0), .sv (.bool false), .sv (.bool false), .sv (.bool false)])), (2000003, some (.box [.sv (.int .i64 0), .sv (.int .i64 0), .sv (.int .i64 0)])), (2000004, some (.box [.sv (.bool false), .sv (.int .i64 0), .sv (.str ⟨#[]⟩)]))]⟩) (kW hC [(2000001, 112), (2000002, 128), (2000003, 144), (2000004, 160)]) rfl trivial
 refine kf b31 (Xag (Xaf ?_))
 refine Xb9 hm ?_
 iterate 9 refine kO hT hC ?_
 exact kD (Xah kR)
 refine Xap ?_
 refine kL [3,5,7,8,9,10,11,12,18,19,20] [48,80,112,128,144,160,288,304,512,528] [_,_,_,_,_,_,_,_,_,_,_] [_,_,_,_,_,_,_,_,_,_] ?_
 refine kA h (fun v13 => ([(73, .sv (.bool v13)), (11, .any)], [(512, none)])) (fun v13 h => ?_) fun v13 h => ?_
 refine Xad ?_
 iterate 2 refine kO hT hC ?_
 refine kS h ?_ ?_ <;> intro b10 h
 refine kI hT hC b10 ?_
 iterate 2 refine kJ hT hC b10 h fun h => ?_
 iterate 2 refine kI hT hC b10 ?_
 refine kS h ?_ ?_ <;> intro b11 h
 iterate 4 refine kF hC b11 ?_
 refine Xa8 hC rfl rfl rfl rfl b10 rfl rfl (b := true) b11 rfl rfl rfl trivial ?_
 refine kI hT hC b10 ?_
 iterate 4 refine kF hC rfl ?_
 refine Xa8 hC rfl rfl rfl rfl b10 rfl rfl (b := true) rfl rfl rfl rfl trivial ?_
 refine kP hC true b10 ?_
 refine kO hT hC ?_
 iterate 3 refine kF hC rfl ?_
 iterate 9 refine Xil hC rfl rfl rfl rfl rfl rfl ?_
 refine kF hC rfl ?_
 iterate 2 refine kO hT hC ?_
 exact Vc.nil kM
 refine kI hT hC b11 ?_
 iterate 2 refine kJ hT hC b11 h fun h => ?_
 refine kI hT hC b11 ?_
 refine Xa8 hC rfl rfl rfl rfl b10 rfl rfl (b := false) b11 rfl rfl rfl trivial ?_
 refine kI hT hC b10 ?_
 refine kS h ?_ ?_ <;> intro b12 h
 iterate 4 refine kF hC b12 ?_
 refine Xa8 hC rfl rfl rfl rfl b10 rfl rfl (b := true) b12 rfl rfl rfl trivial ?_
 refine kP hC true b10 ?_
 refine kO hT hC ?_
 iterate 3 refine kF hC rfl ?_
 iterate 9 refine Xil hC rfl rfl rfl rfl rfl rfl ?_
 refine kF hC rfl ?_
 iterate 2 refine kO hT hC ?_
 exact Vc.nil kM
 refine kI hT hC b12 ?_
 iterate 2 refine kJ hT hC b12 h fun h => ?_
 refine kI hT hC b12 ?_
 refine Xa8 hC rfl rfl rfl rfl b10 rfl rfl (b := false) b12 rfl rfl rfl trivial ?_
 refine kP hC true b10 ?_
 refine kO hT hC ?_
 refine kS h ?_ ?_ <;> intro b13 h
 iterate 3 refine kF hC b13 ?_
 iterate 9 refine Xil hC rfl rfl rfl rfl rfl rfl ?_
 refine kF hC b13 ?_
 refine kP hC true b13 ?_
 refine kO hT hC ?_
 exact Vc.nil kM
 iterate 3 refine kI hT hC b13 ?_
 iterate 4 refine kF hC (kn b10) ?_
 iterate 4 refine Xil hC rfl rfl rfl rfl rfl rfl ?_
 refine kF hC (kn b10) ?_
 refine Xa8 hC rfl rfl rfl rfl b13 rfl rfl (b := false) (kn b10) rfl rfl rfl trivial ?_
 refine kP hC false b13 ?_
 refine kO hT hC ?_
 exact Vc.nil kM
 iterate 5 refine kF hC b10 ?_
 iterate 4 refine Xil hC rfl rfl rfl rfl rfl rfl ?_
 iterate 2 refine kF hC b10 ?_
 iterate 4 refine Xil hC rfl rfl rfl rfl rfl rfl ?_
 refine kF hC b10 ?_
 refine kP hC false b10 ?_
 refine kO hT hC ?_
 iterate 3 refine kI hT hC rfl ?_
 iterate 4 refine kI hT hC (kn b10) ?_
 refine kS h ?_ ?_ <;> intro b14 h
 iterate 4 refine kF hC b14 ?_
 refine Xa8 hC rfl rfl rfl rfl (kn b10) rfl rfl (b := true) b14 rfl rfl rfl trivial ?_
 refine Xa8 hC rfl rfl rfl rfl rfl rfl rfl (b := true) (kn b10) rfl rfl rfl trivial ?_
 iterate 2 refine kO hT hC ?_
 exact Vc.nil kM
 refine kI hT hC b14 ?_
 iterate 2 refine kJ hT hC b14 h fun h => ?_
 refine kI hT hC b14 ?_
 refine Xa8 hC rfl rfl rfl rfl (kn b10) rfl rfl (b := false) b14 rfl rfl rfl trivial ?_
 refine Xa8 hC rfl rfl rfl rfl rfl rfl rfl (b := true) (kn b10) rfl rfl rfl trivial ?_
 iterate 2 refine kO hT hC ?_
 exact Vc.nil kM
 refine kS h ?_ ?_ <;> intro b15 h
 refine kt b15 (Xac ?_)
 iterate 9 refine kO hT hC ?_
 refine Vc.nil (Xah (Xho (Zbc ?_)))
 obtain rfl := kj h
 exact Xc0 (τ := ⟨[(6, .sv (.int .i64 2)), (7, .ptr 2000001 0), (8, .ptr 2000002 0), (9, .ptr 2000003 0), (10, .ptr 2000004 0)], [(2000001, some (.box [.sv (.int .i64 0), .sv (.int .i64 0), .sv (.ints .i64 []), .sv (.ints .i64 [])])), (2000002, some (.box [.sv (.int .i64 0), .sv (.bool false), .sv (.bool false), .sv (.bool false)])), (2000003, some (.box [.sv (.int .i64 0), .sv (.int .i64 0), .sv (.int .i64 0)])), (2000004, some (.box [.sv (.bool false), .sv (.int .i64 0), .sv (.str ⟨#[]⟩)]))]⟩) (kW hC [(2000001, 112), (2000002, 128), (2000003, 144), (2000004, 160)]) rfl trivial
 refine kf b15 (Xac ?_)
 iterate 2 refine kO hT hC ?_
 refine Vc.nil ?_
 refine kS h ?_ ?_ <;> intro b16 h
 refine kt b16 (Xac ?_)
 refine kO hT hC ?_
 iterate 2 refine kQ hT hC h fun h => ?_
 refine kC hC [(16, 1888), (17, 1889)] Tryz.call34 h (fun _ => Yh7) fun q14 h => ?_
 iterate 8 refine kO hT hC ?_
 refine kN ?_
 refine kO hT hC ?_
 iterate 2 refine kQ hT hC h fun h => ?_
 refine kC hC [] Tryz.call35 h (fun _ => Yh6) fun q15 h => ?_
 iterate 8 refine kO hT hC ?_
 refine Vc.nil (Xat ?_)
 refine kL [3,5,7,8,9,10,12,18,19,20,21,22,23,24,25,26] [48,80,112,128,144,160,288,304,336,384,528,1888,1889] [_,_,_,_,_,_,_,_,_,_,_,_,_,_,_,_] [_,_,_,_,_,_,_,_,_,_,_,_,_] ?_
 refine kA h (fun v16 => ([(175, .sv (.bool v16)), (5, .any), (22, .any), (23, .any), (25, .any), (26, .any)], [(80, none)])) (fun v16 h => ?_) fun v16 h => ?_
 refine Xad ?_
 iterate 3 refine kO hT hC ?_
 refine kS h ?_ ?_ <;> intro b17 h
 iterate 2 refine kI hT hC (kn b17) ?_
 iterate 2 refine kJ hT hC (kn b17) h fun h => ?_
 iterate 2 refine kI hT hC (kn b17) ?_
 refine kP hC false (kn b17) ?_
 refine kO hT hC ?_
 refine kS h ?_ ?_ <;> intro b18 h
 iterate 2 refine kF hC b18 ?_
 refine kP hC true b18 ?_
 refine kO hT hC ?_
 iterate 6 refine kF hC rfl ?_
 iterate 2 refine kO hT hC ?_
 iterate 3 refine kF hC rfl ?_
 iterate 2 refine kO hT hC ?_
 iterate 3 refine kF hC rfl ?_
 iterate 2 refine kO hT hC ?_
 iterate 5 refine kF hC rfl ?_
 iterate 2 refine kO hT hC ?_
 iterate 5 refine kF hC rfl ?_
 refine kO hT hC ?_
 exact Vc.nil kM
 iterate 2 refine kI hT hC b18 ?_
 refine kP hC false b18 ?_
 refine kO hT hC ?_
 refine kS h ?_ ?_ <;> intro b19 h
 iterate 2 refine kI hT hC (kn b19) ?_
 iterate 2 refine kJ hT hC (kn b19) h fun h => ?_
 iterate 2 refine kI hT hC (kn b19) ?_
 refine kP hC false (kn b19) ?_
 refine kO hT hC ?_
 refine kS h ?_ ?_ <;> intro b20 h
 iterate 3 refine kF hC b20 ?_
 refine kP hC true b20 ?_
 refine kO hT hC ?_
 iterate 3 refine kF hC rfl ?_
 iterate 2 refine kO hT hC ?_
 iterate 5 refine kF hC rfl ?_
 iterate 2 refine kO hT hC ?_
 iterate 5 refine kF hC rfl ?_
 refine kO hT hC ?_
 exact Vc.nil kM
 refine kI hT hC b20 ?_
 refine kE hC b20 [] Tryz.call66 h (fun _ => Xh1) fun q17 h => ?_
 refine kI hT hC b20 ?_
 refine kP hC false b20 ?_
 refine kO hT hC ?_
 refine kS h ?_ ?_ <;> intro b21 h
 iterate 3 refine kF hC b21 ?_
 refine kP hC true b21 ?_
 refine kO hT hC ?_
 iterate 5 refine kF hC rfl ?_
 iterate 2 refine kO hT hC ?_
 iterate 5 refine kF hC rfl ?_
 refine kO hT hC ?_
 exact Vc.nil kM
 iterate 3 refine kI hT hC b21 ?_
 refine kP hC false b21 ?_
 refine kO hT hC ?_
 refine kS h ?_ ?_ <;> intro b22 h
 iterate 5 refine kI hT hC (kn b22) ?_
 refine kP hC false (kn b22) ?_
 refine kO hT hC ?_
 refine kS h ?_ ?_ <;> intro b23 h
 iterate 5 refine kI hT hC (kn b23) ?_
 refine kP hC false (kn b23) ?_
 exact Vc.nil kM
 iterate 5 refine kF hC (kn b23) ?_
 refine kP hC true (kn b23) ?_
 exact Vc.nil kM
 iterate 5 refine kF hC (kn b22) ?_
 refine kP hC true (kn b22) ?_
 refine kO hT hC ?_
 iterate 5 refine kF hC rfl ?_
 refine kO hT hC ?_
 exact Vc.nil kM
 iterate 6 refine kF hC (kn b19) ?_
 refine kP hC true (kn b19) ?_
 refine kO hT hC ?_
 iterate 3 refine kF hC rfl ?_
 iterate 2 refine kO hT hC ?_
 iterate 3 refine kF hC rfl ?_
 iterate 2 refine kO hT hC ?_
 iterate 5 refine kF hC rfl ?_
 iterate 2 refine kO hT hC ?_
 iterate 5 refine kF hC rfl ?_
 refine kO hT hC ?_
 exact Vc.nil kM
 iterate 6 refine kF hC (kn b17) ?_
 refine kP hC true (kn b17) ?_
 refine kO hT hC ?_
 iterate 2 refine kF hC rfl ?_
 iterate 2 refine kO hT hC ?_
 iterate 6 refine kF hC rfl ?_
 iterate 2 refine kO hT hC ?_
 iterate 3 refine kF hC rfl ?_
 iterate 2 refine kO hT hC ?_
 iterate 3 refine kF hC rfl ?_
 iterate 2 refine kO hT hC ?_
 iterate 5 refine kF hC rfl ?_
 iterate 2 refine kO hT hC ?_
 iterate 5 refine kF hC rfl ?_
 refine kO hT hC ?_
 exact Vc.nil kM
 refine kS h ?_ ?_ <;> intro b24 h
 refine kt b24 (Xac ?_)
 iterate 9 refine kO hT hC ?_
 refine Vc.nil (Xah (Xav (Xho (Zbc ?_))))
 obtain rfl := kj h
 exact Xc0 (τ := ⟨[(6, .sv (.int .i64 3)), (7, .ptr 2000001 0), (8, .ptr 2000002 0), (9, .ptr 2000003 0), (10, .ptr 2000004 0)], [(2000001, some (.box [.sv (.int .i64 0), .sv (.int .i64 0), .sv (.ints .i64 []), .sv (.ints .i64 [])])), (2000002, some (.box [.sv (.int .i64 0), .sv (.bool false), .sv (.bool false), .sv (.bool false)])), (2000003, some (.box [.sv (.int .i64 0), .sv (.int .i64 0), .sv (.int .i64 0)])), (2000004, some (.box [.sv (.bool false), .sv (.int .i64 0), .sv (.str ⟨#[]⟩)]))]⟩) (kW hC [(2000001, 112), (2000002, 128), (2000003, 144), (2000004, 160)]) rfl trivial
 refine kf b24 (Xag (Xaf ?_))
 refine Xeq hm ?_
 iterate 4 refine kO hT hC ?_
 refine kD (Xaq ?_)
 exact Zah (q14.1.Level, q14.1.Bits, q14.1.Cols, q14.1.Rows, q15.1.Qp, q15.1.Large, q15.1.Exact, q15.1.Confined) h (kW hC [])
 refine kf b16 (Xac ?_)
 iterate 4 refine kO hT hC ?_
 refine Vc.nil ?_
 refine kS h ?_ ?_ <;> intro b25 h
 refine kt b25 (Xac ?_)
 iterate 9 refine kO hT hC ?_
 refine Vc.nil (Xah (Xho (Zbc ?_)))
 obtain rfl := kj h
 exact Xc0 (τ := ⟨[(6, .sv (.int .i64 4)), (7, .ptr 2000001 0), (8, .ptr 2000002 0), (9, .ptr 2000003 0), (10, .ptr 2000004 0)], [(2000001, some (.box [.sv (.int .i64 0), .sv (.int .i64 0), .sv (.ints .i64 []), .sv (.ints .i64 [])])), (2000002, some (.box [.sv (.int .i64 0), .sv (.bool false), .sv (.bool false), .sv (.bool false)])), (2000003, some (.box [.sv (.int .i64 0), .sv (.int .i64 0), .sv (.int .i64 0)])), (2000004, some (.box [.sv (.bool false), .sv (.int .i64 0), .sv (.str ⟨#[]⟩)]))]⟩) (kW hC [(2000001, 112), (2000002, 128), (2000003, 144), (2000004, 160)]) rfl trivial
 refine kf b25 (Xag (Xaq ?_))
 exact Zah (p0.Seq.Level, p0.Seq.Bits, p0.Seq.Cols, p0.Seq.Rows, p0.Par.Qp, p0.Par.Large, p0.Par.Exact, p0.Par.Confined) h (kW hC [])
 intro r' σ' e hE
 subst e
 obtain rfl := kj h
 refine Xav ?_
 exact hE
def Yfl (r : Int) : AV := .sv (.int .i64 r)
def Yfk (r : Int) : Xa9 := []
theorem Xum {p0 r} (h : Xkn p0 = some r) : AC Tryz.prog 77 [.sv (.int .i64 p0)] [] (Yfl r) (Yfk r) := by
 refine Xae hT Tryz.func77 rfl fun C hC => ?_
 unfold Xkn at h
 refine Xac ?_
 refine kO hT hC ?_
 refine kN ?_
 iterate 4 refine kO hT hC ?_
 exact Vc.nil (Xah kR)
def Xzf (r : Xea) : AV := .agg [.sv (.bool r.Has), .sv (.bool r.Live), .sv (.int .i64 r.Seq.Level), .sv (.int .i64 r.Seq.Bits), .own 16, .own 17, .sv (.int .i64 r.Par.Qp), .sv (.bool r.Par.Large), .sv (.bool r.Par.Exact), .sv (.bool r.Par.Confined), .sv (.int .i64 r.Frame), .sv (.int .i64 r.Count), .sv (.int .i64 r.Gone)]
def Xze (r : Xea) : Xa9 := [(16, .ints .i64 r.Seq.Cols), (17, .ints .i64 r.Seq.Rows)]
theorem Ybu {p0 r} (h : Xjb p0 = some r) : AC Tryz.prog 74 [.agg [.sv (.bool p0.Has), .sv (.bool p0.Live), .sv (.int .i64 p0.Seq.Level), .sv (.int .i64 p0.Seq.Bits), .sv (.ints .i64 p0.Seq.Cols), .sv (.ints .i64 p0.Seq.Rows), .sv (.int .i64 p0.Par.Qp), .sv (.bool p0.Par.Large), .sv (.bool p0.Par.Exact), .sv (.bool p0.Par.Confined), .sv (.int .i64 p0.Frame), .sv (.int .i64 p0.Count), .sv (.int .i64 p0.Gone)]] [] (Xzf r) (Xze r) := by
 refine Xae hT Tryz.func74 rfl fun C hC => ?_
 unfold Xjb at h
 refine Xac ?_
 iterate 2 refine kO hT hC ?_
 refine kN ?_
 refine kO hT hC ?_
 refine kC hC [(16, 80), (17, 81)] Tryz.call72 h (fun _ => Xrr) fun q1 h => ?_
 iterate 2 refine kO hT hC ?_
 refine Vc.nil ?_
 refine kL [1,2,3] [16,32,48,80,81] [_,_,_] [_,_,_,_,_] ?_
 refine kA h (fun v2 => ([(1, .any)], [(48, some (.box [.sv (.bool q1.Has), .sv (.bool v2.1), .sv (.int .i64 q1.Seq.Level), .sv (.int .i64 q1.Seq.Bits), .own 80, .own 81, .sv (.int .i64 q1.Par.Qp), .sv (.bool q1.Par.Large), .sv (.bool q1.Par.Exact), .sv (.bool q1.Par.Confined), .sv (.int .i64 q1.Frame), .sv (.int .i64 q1.Count), .sv (.int .i64 v2.2)])), (16, none)])) (fun v2 h => ?_) fun v2 h => ?_
 refine Xac ?_
 refine kO hT hC ?_
 refine kC hC [] Tryz.call28 h (fun _ => Xk4) fun q3 h => ?_
 refine Vc.nil ?_
 refine kS h ?_ ?_ <;> intro b1 h
 refine kt b1 (Xac ?_)
 iterate 2 refine kO hT hC ?_
 refine Vc.nil (Xad ?_)
 iterate 2 refine kO hT hC ?_
 refine kC hC [] Tryz.call77 h (fun _ => Xum) fun q4 h => ?_
 iterate 2 refine kO hT hC ?_
 exact Vc.nil kM
 exact kf b1 (Xag kM)
 refine Xac ?_
 iterate 2 refine kO hT hC ?_
 refine Vc.nil (Xah ?_)
 obtain rfl := kj h
 exact Xc0 (τ := ⟨[(2, .ptr 2000000 0)], [(16, some (.ints .i64 q1.Seq.Cols)), (17, some (.ints .i64 q1.Seq.Rows)), (2000000, some (.box [.sv (.bool q1.Has), .sv (.bool v2.1), .sv (.int .i64 q1.Seq.Level), .sv (.int .i64 q1.Seq.Bits), .own 16, .own 17, .sv (.int .i64 q1.Par.Qp), .sv (.bool q1.Par.Large), .sv (.bool q1.Par.Exact), .sv (.bool q1.Par.Confined), .sv (.int .i64 q1.Frame), .sv (.int .i64 q1.Count), .sv (.int .i64 v2.2)]))]⟩) (kW hC [(16, 80), (17, 81), (2000000, 32)]) rfl ⟨rfl, rfl, trivial⟩
def Xzh (r : (Xea × Int × Ybk)) : AV := .tup [.agg [.sv (.bool r.1.Has), .sv (.bool r.1.Live), .sv (.int .i64 r.1.Seq.Level), .sv (.int .i64 r.1.Seq.Bits), .own 16, .own 17, .sv (.int .i64 r.1.Par.Qp), .sv (.bool r.1.Par.Large), .sv (.bool r.1.Par.Exact), .sv (.bool r.1.Par.Confined), .sv (.int .i64 r.1.Frame), .sv (.int .i64 r.1.Count), .sv (.int .i64 r.1.Gone)], .sv (.int .i64 r.2.1), .agg [.sv (.bool r.2.2.Key), .sv (.int .i64 r.2.2.Qp), .sv (.str r.2.2.Row)]]
def Xzg (r : (Xea × Int × Ybk)) : Xa9 := [(16, .ints .i64 r.1.Seq.Cols), (17, .ints .i64 r.1.Seq.Rows)]
theorem Ybw {p0 p1 p2 r} (h : Xby p0 p1 p2 = some r) : AC Tryz.prog 25 [.agg [.sv (.bool p0.Has), .sv (.bool p0.Live), .sv (.int .i64 p0.Seq.Level), .sv (.int .i64 p0.Seq.Bits), .sv (.ints .i64 p0.Seq.Cols), .sv (.ints .i64 p0.Seq.Rows), .sv (.int .i64 p0.Par.Qp), .sv (.bool p0.Par.Large), .sv (.bool p0.Par.Exact), .sv (.bool p0.Par.Confined), .sv (.int .i64 p0.Frame), .sv (.int .i64 p0.Count), .sv (.int .i64 p0.Gone)], .sv (Xbs.sv p1), .agg [.sv (.int .i64 p2.Qp), .sv (.bool p2.Large), .sv (.bool p2.Exact), .sv (.bool p2.Confined)]] [] (Xzh r) (Xzg r) := by
 refine Xae hT Tryz.func25 rfl fun C hC => ?_
 unfold Xby at h
 refine Xac ?_
 iterate 5 refine kO hT hC ?_
 refine kN ?_
 refine kO hT hC ?_
 refine kC hC [(16, 256), (17, 257)] Tryz.call72 h (fun _ => Xrr) fun q1 h => ?_
 iterate 2 refine kO hT hC ?_
 refine Vc.nil (Xat ?_)
 refine kL [1,3,5,6,8,9] [48,80,96,128,144,256,257] [_,_,_,_,_,_] [_,_,_,_,_,_,_] ?_
 refine kA h (fun v2 => ([(24, .sv (.bool v2))], [])) (fun v2 h => ?_) fun v2 h => ?_
 refine Xad ?_
 refine kO hT hC ?_
 refine kC hC [] Tryz.call28 h (fun _ => Xk4) fun q3 h => ?_
 iterate 2 refine kO hT hC ?_
 refine kS h ?_ ?_ <;> intro b1 h
 refine kI hT hC (kn b1) ?_
 refine kE hC (kn b1) [] Tryz.call67 h (fun _ => Xdt) fun q4 h => ?_
 refine kI hT hC (kn b1) ?_
 refine kP hC false (kn b1) ?_
 exact Vc.nil kM
 iterate 3 refine kF hC (kn b1) ?_
 refine kP hC true (kn b1) ?_
 exact Vc.nil kM
 refine kS h ?_ ?_ <;> intro b2 h
 refine kt b2 (Xac ?_)
 iterate 5 refine kO hT hC ?_
 refine Vc.nil (Xah (Xav ?_))
 obtain rfl := kj h
 exact Xc0 (τ := ⟨[(6, .ptr 2000000 0), (7, .sv (.int .i64 1)), (8, .ptr 2000002 0)], [(16, some (.ints .i64 q1.Seq.Cols)), (17, some (.ints .i64 q1.Seq.Rows)), (2000000, some (.box [.sv (.bool q1.Has), .sv (.bool q1.Live), .sv (.int .i64 q1.Seq.Level), .sv (.int .i64 q1.Seq.Bits), .own 16, .own 17, .sv (.int .i64 q1.Par.Qp), .sv (.bool q1.Par.Large), .sv (.bool q1.Par.Exact), .sv (.bool q1.Par.Confined), .sv (.int .i64 q1.Frame), .sv (.int .i64 q1.Count), .sv (.int .i64 q1.Gone)])), (2000002, some (.box [.sv (.bool false), .sv (.int .i64 0), .sv (.str ⟨#[]⟩)]))]⟩) (kW hC [(16, 256), (17, 257), (2000000, 96), (2000002, 128)]) rfl ⟨rfl, rfl, trivial⟩
 refine kf b2 (Xag (Xaf (Xac ?_)))
 iterate 3 refine kO hT hC ?_
 refine kC hC [] Tryz.call73 h (fun _ => Xv8) fun q5 h => ?_
 iterate 15 refine kO hT hC ?_
 refine Vc.nil (Xat (Xac ?_))
 iterate 2 refine kO hT hC ?_
 refine Vc.nil ?_
 refine kS h ?_ ?_ <;> intro b3 h
 refine kt b3 (Xac ?_)
 refine kO hT hC ?_
 refine kC hC [(16, 640), (17, 641)] Tryz.call74 h (fun _ => Ybu) fun q6 h => ?_
 iterate 5 refine kO hT hC ?_
 refine Vc.nil (Xah (Xav ?_))
 obtain rfl := kj h
 exact Xc0 (τ := ⟨[(6, .ptr 2000000 0), (7, .sv (.int .i64 q5.1)), (8, .ptr 2000002 0)], [(16, some (.ints .i64 q6.Seq.Cols)), (17, some (.ints .i64 q6.Seq.Rows)), (2000000, some (.box [.sv (.bool q6.Has), .sv (.bool q6.Live), .sv (.int .i64 q6.Seq.Level), .sv (.int .i64 q6.Seq.Bits), .own 16, .own 17, .sv (.int .i64 q6.Par.Qp), .sv (.bool q6.Par.Large), .sv (.bool q6.Par.Exact), .sv (.bool q6.Par.Confined), .sv (.int .i64 q6.Frame), .sv (.int .i64 q6.Count), .sv (.int .i64 q6.Gone)])), (2000002, some (.box [.sv (.bool false), .sv (.int .i64 0), .sv (.str ⟨#[]⟩)]))]⟩) (kW hC [(16, 640), (17, 641), (2000000, 96), (2000002, 128)]) rfl ⟨rfl, rfl, trivial⟩
 refine kf b3 (Xag (Xaf (Xac ?_)))
 iterate 2 refine kO hT hC ?_
 refine kN ?_
 iterate 2 refine kO hT hC ?_
 refine kN ?_
 refine kO hT hC ?_
 refine kC hC [(16, 736), (17, 737)] Tryz.call75 h (fun _ => Xpt) fun q7 h => ?_
 iterate 2 refine kO hT hC ?_
 refine kN ?_
 iterate 3 refine kO hT hC ?_
 refine kN ?_
 iterate 4 refine kO hT hC ?_
 refine kC hC [] Tryz.call76 h (fun _ => Yn0) fun q8 h => ?_
 iterate 2 refine kO hT hC ?_
 refine kN ?_
 iterate 2 refine kO hT hC ?_
 refine kC hC [] Tryz.call77 h (fun _ => Xum) fun q9 h => ?_
 iterate 2 refine kO hT hC ?_
 refine Vc.nil ?_
 refine Xb9 hm ?_
 iterate 5 refine kO hT hC ?_
 refine kD (Xah ?_)
 obtain rfl := kj h
 exact Xc0 (τ := ⟨[(6, .ptr 2000000 0), (7, .sv (.int .i64 0)), (8, .ptr 2000002 0)], [(16, some (.ints .i64 q7.Cols)), (17, some (.ints .i64 q7.Rows)), (2000000, some (.box [.sv (.bool true), .sv (.bool true), .sv (.int .i64 q7.Level), .sv (.int .i64 q7.Bits), .own 16, .own 17, .sv (.int .i64 q5.2.2.1.Qp), .sv (.bool q5.2.2.1.Large), .sv (.bool q5.2.2.1.Exact), .sv (.bool q5.2.2.1.Confined), .sv (.int .i64 q8), .sv (.int .i64 q9), .sv (.int .i64 q1.Gone)])), (2000002, some (.box [.sv (.bool q5.2.2.2.2.Key), .sv (.int .i64 q5.2.2.2.2.Qp), .sv (.str q5.2.2.2.2.Row)]))]⟩) (kW hC [(16, 736), (17, 737), (2000000, 96), (2000002, 128)]) rfl ⟨rfl, rfl, trivial⟩
def Xzs (r : (Pic × Bool)) : AV := .tup [.agg [.sv (.int .i64 r.1.Wide), .sv (.int .i64 r.1.High), .sv (.str r.1.Dots)], .sv (.bool r.2)]
def Xzr (r : (Pic × Bool)) : Xa9 := []
theorem Yb8 {p0 p1 p2 p3 r} (h : Xjf p0 p1 p2 p3 = some r) : AC Tryz.prog 26 [.agg [.sv (.int .i64 p0.Wide), .sv (.int .i64 p0.High), .sv (.str p0.Dots)], .agg [.sv (.int .i64 p1.Left), .sv (.int .i64 p1.Top), .sv (.int .i64 p1.Wide), .sv (.int .i64 p1.High)], .agg [.sv (.int .i64 p2.Qp), .sv (.bool p2.Large), .sv (.bool p2.Exact), .sv (.bool p2.Confined)], .agg [.sv (.bool p3.Key), .sv (.int .i64 p3.Qp), .sv (.str p3.Row)]] [] (Xzs r) (Xzr r) := by
 refine Xae hT Tryz.func26 rfl fun C hC => ?_
 unfold Xjf at h
 refine Xac ?_
 iterate 6 refine kO hT hC ?_
 refine Vc.nil (Xat ?_)
 refine kL [4,5,6,7,8] [64,80,96,112,128] [_,_,_,_,_] [_,_,_,_,_] ?_
 refine kA h (fun v1 => ([(27, .sv (.bool v1))], [])) (fun v1 h => ?_) fun v1 h => ?_
 refine Xad ?_
 iterate 2 refine kO hT hC ?_
 refine kC hC [] Tryz.call78 h (fun _ => Xg4) fun q2 h => ?_
 iterate 2 refine kO hT hC ?_
 refine kS h ?_ ?_ <;> intro b1 h
 iterate 2 refine kI hT hC (kn b1) ?_
 refine kE hC (kn b1) [] Tryz.call78 h (fun _ => Xg4) fun q3 h => ?_
 refine kI hT hC (kn b1) ?_
 refine kP hC false (kn b1) ?_
 refine kO hT hC ?_
 refine kS h ?_ ?_ <;> intro b2 h
 refine kI hT hC (kn b2) ?_
 refine kE hC (kn b2) [] Tryz.call67 h (fun _ => Xdt) fun q4 h => ?_
 refine kI hT hC (kn b2) ?_
 refine kP hC false (kn b2) ?_
 exact Vc.nil kM
 iterate 3 refine kF hC (kn b2) ?_
 refine kP hC true (kn b2) ?_
 exact Vc.nil kM
 iterate 4 refine kF hC (kn b1) ?_
 refine kP hC true (kn b1) ?_
 refine kO hT hC ?_
 iterate 3 refine kF hC rfl ?_
 refine kO hT hC ?_
 exact Vc.nil kM
 refine kS h ?_ ?_ <;> intro b3 h
 refine kt b3 (Xac ?_)
 iterate 3 refine kO hT hC ?_
 exact Vc.nil (Xah (Xav kR))
 refine kf b3 (Xag (Xaf (Xac ?_)))
 iterate 2 refine kO hT hC ?_
 refine kC hC [] Tryz.call79 h (fun _ => Xud) fun q5 h => ?_
 iterate 2 refine kO hT hC ?_
 refine kN ?_
 iterate 4 refine kO hT hC ?_
 refine kQ hT hC h fun h => ?_
 iterate 2 refine kO hT hC ?_
 refine kQ hT hC h fun h => ?_
 iterate 2 refine kO hT hC ?_
 refine kC hC [(16, 688)] Tryz.call80 h (fun _ => Xto) fun q6 h => ?_
 iterate 5 refine kO hT hC ?_
 refine Vc.nil (Xat (Xac ?_))
 iterate 2 refine kO hT hC ?_
 refine Vc.nil ?_
 refine kS h ?_ ?_ <;> intro b4 h
 refine kt b4 (Xac ?_)
 iterate 3 refine kO hT hC ?_
 exact Vc.nil (Xah (Xav kR))
 refine kf b4 (Xag (Xaf (Xac ?_)))
 iterate 6 refine kO hT hC ?_
 refine kC hC [] Tryz.call81 h (fun _ => Yfc) fun q7 h => ?_
 iterate 4 refine kO hT hC ?_
 exact Vc.nil (Xah kR)
def Xzd (r : Bool) : AV := .sv (.bool r)
def Xzc (r : Bool) : Xa9 := []
theorem Ybt {p0 p1 p2 r} (h : Xja p0 p1 p2 = some r) : AC Tryz.prog 27 [.agg [.sv (.bool p0.Has), .sv (.bool p0.Live), .sv (.int .i64 p0.Seq.Level), .sv (.int .i64 p0.Seq.Bits), .sv (.ints .i64 p0.Seq.Cols), .sv (.ints .i64 p0.Seq.Rows), .sv (.int .i64 p0.Par.Qp), .sv (.bool p0.Par.Large), .sv (.bool p0.Par.Exact), .sv (.bool p0.Par.Confined), .sv (.int .i64 p0.Frame), .sv (.int .i64 p0.Count), .sv (.int .i64 p0.Gone)], .agg [.sv (.int .i64 p1.Level), .sv (.int .i64 p1.Bits), .sv (.ints .i64 p1.Cols), .sv (.ints .i64 p1.Rows)], .sv (.int .i64 p2)] [] (Xzd r) (Xzc r) := by
 refine Xae hT Tryz.func27 rfl fun C hC => ?_
 unfold Xja at h
 refine Xac ?_
 iterate 3 refine kO hT hC ?_
 refine kN ?_
 iterate 2 refine kO hT hC ?_
 refine kC hC [] Tryz.call82 h (fun _ => Yff) fun q1 h => ?_
 iterate 6 refine kO hT hC ?_
 refine kN ?_
 iterate 2 refine kO hT hC ?_
 refine kC hC [] Tryz.call83 h (fun _ => Xwz) fun q2 h => ?_
 iterate 5 refine kO hT hC ?_
 refine Vc.nil ?_
 refine kL [3,6,7,8,9,10] [48,112] [_,_,_,_,_,_] [_,_] ?_
 refine kA h (fun v3 => ([(6, .sv (.bool v3)), (3, .any), (7, .any), (8, .any), (9, .any), (10, .any)], [(48, none), (112, none)])) (fun v3 h => ?_) fun v3 h => ?_
 refine Xad ?_
 iterate 2 refine kO hT hC ?_
 refine kS h ?_ ?_ <;> intro b1 h
 refine kI hT hC b1 ?_
 refine kE hC b1 [] Tryz.call28 h (fun _ => Xk4) fun q4 h => ?_
 refine kP hC true b1 ?_
 refine kO hT hC ?_
 refine kS h ?_ ?_ <;> intro b2 h
 iterate 2 refine kI hT hC b2 ?_
 refine kP hC true b2 ?_
 refine kO hT hC ?_
 refine kS h ?_ ?_ <;> intro b3 h
 iterate 4 refine kI hT hC b3 ?_
 refine kP hC true b3 ?_
 refine kO hT hC ?_
 refine kS h ?_ ?_ <;> intro b4 h
 iterate 4 refine kI hT hC b4 ?_
 refine kP hC true b4 ?_
 refine kO hT hC ?_
 exact Vc.nil kM
 iterate 4 refine kF hC b4 ?_
 refine kP hC false b4 ?_
 refine kO hT hC ?_
 exact Vc.nil kM
 iterate 4 refine kF hC b3 ?_
 refine kP hC false b3 ?_
 refine kO hT hC ?_
 iterate 4 refine kF hC rfl ?_
 iterate 2 refine kO hT hC ?_
 exact Vc.nil kM
 iterate 2 refine kF hC b2 ?_
 refine kP hC false b2 ?_
 refine kO hT hC ?_
 iterate 4 refine kF hC rfl ?_
 iterate 2 refine kO hT hC ?_
 iterate 4 refine kF hC rfl ?_
 iterate 2 refine kO hT hC ?_
 exact Vc.nil kM
 iterate 2 refine kF hC b1 ?_
 refine kP hC false b1 ?_
 refine kO hT hC ?_
 iterate 2 refine kF hC rfl ?_
 iterate 2 refine kO hT hC ?_
 iterate 4 refine kF hC rfl ?_
 iterate 2 refine kO hT hC ?_
 iterate 4 refine kF hC rfl ?_
 iterate 2 refine kO hT hC ?_
 exact Vc.nil kM
 exact Xah kR
end
end Go.Proofs.YtnhflbeahbcklaaGreat.A
