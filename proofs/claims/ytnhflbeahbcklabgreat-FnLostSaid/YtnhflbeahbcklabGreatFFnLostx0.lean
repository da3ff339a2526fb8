/- Contracts of the functions that the law FnLost reaches, part 0: each comes to what its pure function tells. Written by a program of this session. Conditions: as each statement tells. -/
import Derived.Test.YtnhflbeahbcklabGreatBFnLost
namespace Go.Proofs.YtnhflbeahbcklabGreat.A
open Go Go.Proofs Go.Proofs.YtnhflbeahbcklabGreatAL Go.RowKit
set_option linter.unusedVariables false
set_option linter.unusedSimpArgs false
set_option maxRecDepth 100000
set_option maxHeartbeats 8000000
noncomputable section
def Yp4 (r : Bool) : AV := .sv (.bool r)
def Yp3 (r : Bool) : Xa6 := []
theorem Yrm {p0 r} (h : Yfq p0 = some r) : AC Tryz.prog 7 [.sv (.ints .u8 p0)] [] (Yp4 r) (Yp3 r) := by
 refine Xae hT Tryz.func7 rfl fun C hC => ?_
 unfold Yfq at h
 refine Xac ?_
 refine kO hT hC ?_
 refine kN ?_
 iterate 4 refine kO hT hC ?_
 exact Vc.nil (Xah kR)
def Yi6 (r : Xbm) : AV := .ptr 16 0
def Yi5 (r : Xbm) : Xa6 := [(16, .box [.sv (.ints .u8 r.b_), .sv (.int .i64 r.i_), .sv (.int .i64 r.h_)])]
theorem Yld {p0 r} (h : Xpm p0 = some r) : AC Tryz.prog 42 [.sv (.ints .u8 p0)] [] (Yi6 r) (Yi5 r) := by
 refine Xae hT Tryz.func42 rfl fun C hC => ?_
 unfold Xpm at h
 refine Xac ?_
 refine kO hT hC ?_
 refine kN ?_
 iterate 4 refine kO hT hC ?_
 refine Vc.nil (Xat (Xac ?_))
 refine kO hT hC ?_
 refine Vc.nil ?_
 refine kL [0,3,4] [] [_,_,_] [] ?_
 refine kX h (fun v3 => ([(3, .sv (.int .i64 v3.1)), (4, .sv (.int .i64 v3.2))], [])) (fun v6 => ([(3, .sv (.int .i64 v6)), (4, .any)], [])) (kW hC []) (fun v3 s h => ?_) fun v6 h => ?_
 unfold Xna at h
 refine Xat ?_
 refine kL [0,3,4] [] [_,_,_] [] ?_
 refine kA h (fun v7 => ([(15, .sv (.bool v7))], [])) (fun v7 h => ?_) fun v7 h => ?_
 refine Xad ?_
 iterate 5 refine kO hT hC ?_
 refine kS h ?_ ?_ <;> intro b5 h
 iterate 2 refine kI hT hC b5 ?_
 refine kP hC true b5 ?_
 exact Vc.nil kM
 iterate 2 refine kF hC b5 ?_
 refine kP hC false b5 ?_
 exact Vc.nil kM
 refine kS h ?_ ?_ <;> intro b6 h
 refine kt b6 (Xag (Xaf (Xat (Xao (Xad ?_)))))
 iterate 4 refine kO hT hC ?_
 refine kQ hT hC h fun h => ?_
 iterate 6 refine kO hT hC ?_
 refine Vc.nil (Xaq (Xaf (Xad ?_)))
 iterate 3 refine kO hT hC ?_
 exact Vc.nil kG
 exact kf b6 (Xas (Xaz ku))
 refine Xaf (Xac ?_)
 iterate 5 refine kO hT hC ?_
 refine Vc.nil (Xah ?_)
 obtain rfl := kj h
 exact Xct (τ := ⟨[(2, .ptr 16 0)], [(16, some (.box [.sv (.ints .u8 p0), .sv (.int .i64 0), .sv (.int .i64 v6)]))]⟩) (kW hC [(16, 496)]) rfl ⟨rfl, trivial⟩
def Yfa (r : (Int × Xbm)) : AV := .sv (.int .i64 r.1)
def Ye9 (r : (Int × Xbm)) : Xa6 := [(0, .box [.sv (.ints .u8 r.2.b_), .sv (.int .i64 r.2.i_), .sv (.int .i64 r.2.h_)])]
theorem Xda {p0 r} (h : Xcc p0 = some r) : AC Tryz.prog 118 [.ptr 0 0] [(0, .box [.sv (.ints .u8 p0.b_), .sv (.int .i64 p0.i_), .sv (.int .i64 p0.h_)])] (Yfa r) (Ye9 r) := by
 refine Xae hT Tryz.func118 rfl fun C hC => ?_
 unfold Xcc at h
 refine Xac ?_
 refine kO hT hC ?_
 refine kN ?_
 iterate 10 refine kO hT hC ?_
 refine Vc.nil ?_
 refine Xb8 hm ?_
 iterate 4 refine kO hT hC ?_
 refine kQ hT hC h fun h => ?_
 iterate 4 refine kO hT hC ?_
 refine kQ hT hC h fun h => ?_
 iterate 3 refine kO hT hC ?_
 refine kD ?_
 refine kL [0,3] [0] [_,_] [_] ?_
 refine kA h (fun v1 => ([(3, .sv (.int .i64 v1.1)), (0, .any)], [(0, some (.box [.sv (.ints .u8 p0.b_), .sv (.int .i64 v1.2), .sv (.int .i64 (Xaa .i64 ((Xaa .i64 (p0.h_ * 6364136223846793005)) + 1442695040888963407)))]))])) (fun v1 h => ?_) fun v1 h => ?_
 refine Xb8 hm ?_
 iterate 10 refine kO hT hC ?_
 refine kD ?_
 refine kS h ?_ ?_ <;> intro b1 h
 refine kt b1 ?_
 refine Xb8 hm ?_
 iterate 9 refine kO hT hC ?_
 refine kQ hT hC h fun h => ?_
 iterate 5 refine kO hT hC ?_
 refine kD (Xad ?_)
 iterate 9 refine kO hT hC ?_
 exact Vc.nil kM
 exact kf b1 (Xag kM)
 refine Xac ?_
 iterate 2 refine kO hT hC ?_
 refine Vc.nil (Xah ?_)
 obtain rfl := kj h
 exact Xct (Xkp.refl _) rfl ⟨rfl, trivial⟩
def Ycg (r : (Int × Xbm)) : AV := .sv (.int .i64 r.1)
def Ycf (r : (Int × Xbm)) : Xa6 := [(0, .box [.sv (.ints .u8 r.2.b_), .sv (.int .i64 r.2.i_), .sv (.int .i64 r.2.h_)])]
theorem Xa1 {p0 p1 r} (h : Xa3 p0 p1 = some r) : AC Tryz.prog 49 [.ptr 0 0, .sv (.int .i64 p1)] [(0, .box [.sv (.ints .u8 p0.b_), .sv (.int .i64 p0.i_), .sv (.int .i64 p0.h_)])] (Ycg r) (Ycf r) := by
 refine Xae hT Tryz.func49 rfl fun C hC => ?_
 unfold Xa3 at h
 refine Xac ?_
 refine kO hT hC ?_
 refine Vc.nil (Xat (Xac ?_))
 iterate 2 refine kO hT hC ?_
 refine Vc.nil ?_
 refine kS h ?_ ?_ <;> intro b1 h
 refine kt b1 (Xac ?_)
 refine kO hT hC ?_
 refine Vc.nil (Xah (Xav ?_))
 obtain rfl := kj h
 exact Xct (Xkp.refl _) rfl ⟨rfl, trivial⟩
 refine kf b1 (Xag (Xaf (Xat (Xac ?_))))
 iterate 2 refine kO hT hC ?_
 refine Vc.nil ?_
 refine kS h ?_ ?_ <;> intro b2 h
 refine kt b2 (Xac ?_)
 refine kO hT hC ?_
 refine kC hC [(0, 0)] Tryz.call118 h (fun _ => Xda) fun q1 h => ?_
 refine kO hT hC ?_
 refine kQ hT hC h fun h => ?_
 refine kO hT hC ?_
 refine Vc.nil (Xah (Xav ?_))
 obtain rfl := kj h
 exact Xct (Xkp.refl _) rfl ⟨rfl, trivial⟩
 refine kf b2 (Xag (Xaf (Xac ?_)))
 refine kO hT hC ?_
 refine kC hC [(0, 0)] Tryz.call118 h (fun _ => Xda) fun q2 h => ?_
 refine kO hT hC ?_
 refine kN ?_
 refine kO hT hC ?_
 refine kC hC [(0, 0)] Tryz.call118 h (fun _ => Xda) fun q3 h => ?_
 refine kO hT hC ?_
 refine kN ?_
 refine kO hT hC ?_
 refine kC hC [(0, 0)] Tryz.call118 h (fun _ => Xda) fun q4 h => ?_
 refine kO hT hC ?_
 refine kN ?_
 refine kO hT hC ?_
 refine kC hC [(0, 0)] Tryz.call118 h (fun _ => Xda) fun q5 h => ?_
 refine kO hT hC ?_
 refine kN ?_
 iterate 11 refine kO hT hC ?_
 refine kQ hT hC h fun h => ?_
 refine kO hT hC ?_
 refine Vc.nil (Xah ?_)
 obtain rfl := kj h
 exact Xct (Xkp.refl _) rfl ⟨rfl, trivial⟩
def Yfc (r : (Bool × Xbm)) : AV := .sv (.bool r.1)
def Yfb (r : (Bool × Xbm)) : Xa6 := [(0, .box [.sv (.ints .u8 r.2.b_), .sv (.int .i64 r.2.i_), .sv (.int .i64 r.2.h_)])]
theorem Xln {p0 p1 r} (h : Xf2 p0 p1 = some r) : AC Tryz.prog 54 [.ptr 0 0, .sv (.int .i64 p1)] [(0, .box [.sv (.ints .u8 p0.b_), .sv (.int .i64 p0.i_), .sv (.int .i64 p0.h_)])] (Yfc r) (Yfb r) := by
 refine Xae hT Tryz.func54 rfl fun C hC => ?_
 unfold Xf2 at h
 refine Xac ?_
 refine kO hT hC ?_
 refine kN ?_
 iterate 2 refine kO hT hC ?_
 refine kC hC [(0, 0)] Tryz.call49 h (fun _ => Xa1) fun q1 h => ?_
 iterate 2 refine kO hT hC ?_
 refine Vc.nil (Xah ?_)
 obtain rfl := kj h
 exact Xct (Xkp.refl _) rfl ⟨rfl, trivial⟩
def Xvz (r : (Par × Xbm)) : AV := .agg [.sv (.int .i64 r.1.Qp), .sv (.bool r.1.Large), .sv (.bool r.1.Exact), .sv (.bool r.1.Confined)]
def Xvy (r : (Par × Xbm)) : Xa6 := [(0, .box [.sv (.ints .u8 r.2.b_), .sv (.int .i64 r.2.i_), .sv (.int .i64 r.2.h_)])]
theorem Xx3 {p0 r} (h : Xgs p0 = some r) : AC Tryz.prog 50 [.ptr 0 0] [(0, .box [.sv (.ints .u8 p0.b_), .sv (.int .i64 p0.i_), .sv (.int .i64 p0.h_)])] (Xvz r) (Xvy r) := by
 refine Xae hT Tryz.func50 rfl fun C hC => ?_
 unfold Xgs at h
 refine Xac ?_
 refine kO hT hC ?_
 refine kN ?_
 refine kO hT hC ?_
 refine kC hC [(0, 0)] Tryz.call49 h (fun _ => Xa1) fun q1 h => ?_
 refine kO hT hC ?_
 refine kC hC [(0, 0)] Tryz.call54 h (fun _ => Xln) fun q2 h => ?_
 iterate 4 refine kO hT hC ?_
 refine Vc.nil ?_
 refine kL [0,2,3] [0,32,48] [_,_,_] [_,_,_] ?_
 refine kA h (fun v3 => ([(0, .any)], [(0, some (.box [.sv (.ints .u8 v3.2.2.1), .sv (.int .i64 v3.2.2.2.1), .sv (.int .i64 v3.2.2.2.2)])), (48, some (.box [.sv (.int .i64 q1.1), .sv (.bool v3.1), .sv (.bool v3.2.1), .sv (.bool (!q2.1))]))])) (fun v3 h => ?_) fun v3 h => ?_
 refine Xac ?_
 refine kO hT hC ?_
 refine kC hC [(0, 0)] Tryz.call49 h (fun _ => Xa1) fun q4 h => ?_
 refine Vc.nil (Xao (Xac ?_))
 iterate 2 refine kO hT hC ?_
 refine Vc.nil ?_
 refine kS h ?_ ?_ <;> intro b1 h
 refine kt b1 (Xad ?_)
 iterate 2 refine kO hT hC ?_
 exact Vc.nil (Xaq kM)
 refine kf b1 (Xac ?_)
 iterate 2 refine kO hT hC ?_
 refine Vc.nil ?_
 refine kS h ?_ ?_ <;> intro b2 h
 refine kt b2 (Xad ?_)
 iterate 2 refine kO hT hC ?_
 exact Vc.nil (Xaq kM)
 exact kf b2 (Xag (Xaq kM))
 refine Xac ?_
 iterate 2 refine kO hT hC ?_
 refine Vc.nil (Xah ?_)
 obtain rfl := kj h
 exact Xct (Xkp.refl _) rfl ⟨rfl, trivial⟩
def Ylc (r : Bool) : AV := .sv (.bool r)
def Ylb (r : Bool) : Xa6 := []
theorem Xb7 {p0 p1 p2 r} (h : Xan p0 p1 p2 = some r) : AC Tryz.prog 149 [.sv (.int .i64 p0), .sv (.int .i64 p1), .sv (.int .i64 p2)] [] (Ylc r) (Ylb r) := by
 refine Xae hT Tryz.func149 rfl fun C hC => ?_
 unfold Xan at h
 refine Xac ?_
 refine kO hT hC ?_
 refine Vc.nil ?_
 refine kL [0,1,2,6] [] [_,_,_,_] [] ?_
 refine kA h (fun v1 => ([(6, .sv (.bool v1)), (0, .any), (1, .any), (2, .any)], [])) (fun v1 h => ?_) fun v1 h => ?_
 refine Xad ?_
 iterate 4 refine kO hT hC ?_
 refine kS h ?_ ?_ <;> intro b1 h
 iterate 3 refine kI hT hC b1 ?_
 refine kP hC true b1 ?_
 refine kO hT hC ?_
 exact Vc.nil kM
 iterate 3 refine kF hC b1 ?_
 refine kP hC false b1 ?_
 refine kO hT hC ?_
 exact Vc.nil kM
 exact Xah kR
def Xut (r : Int) : AV := .sv (.int .i64 r)
def Xus (r : Int) : Xa6 := []
theorem Xnb {p0 r} (h : Xh4 p0 = some r) : AC Tryz.prog 120 [.sv (.ints .i64 p0)] [] (Xut r) (Xus r) := by
 refine Xae hT Tryz.func120 rfl fun C hC => ?_
 unfold Xh4 at h
 refine Xac ?_
 refine kO hT hC ?_
 refine Vc.nil (Xat ?_)
 refine kL [0] [] [_] [] ?_
 refine kA h (fun v1 => ([(12, .sv (.bool v1))], [])) (fun v1 h => ?_) fun v1 h => ?_
 refine Xad ?_
 iterate 4 refine kO hT hC ?_
 refine kS h ?_ ?_ <;> intro b1 h
 iterate 3 refine kF hC b1 ?_
 refine kP hC true b1 ?_
 exact Vc.nil kM
 iterate 3 refine kI hT hC b1 ?_
 refine kP hC false b1 ?_
 exact Vc.nil kM
 refine kS h ?_ ?_ <;> intro b2 h
 refine kt b2 (Xac ?_)
 refine kO hT hC ?_
 exact Vc.nil (Xah (Xav kR))
 refine kf b2 (Xag (Xaf (Xac ?_)))
 refine kO hT hC ?_
 refine Vc.nil (Xat (Xac ?_))
 refine kO hT hC ?_
 refine Vc.nil ?_
 refine kL [0,3,4] [] [_,_,_] [] ?_
 obtain ⟨o9, hl, h⟩ := Xa8 h
 refine Xmo (fun v4 => ([(3, .sv (.int .i64 v4.1)), (4, .sv (.int .i64 v4.2))], [])) (fun v7 => ([(3, .sv (.int .i64 v7)), (0, .any), (4, .any)], [])) (fun r => Xw1 C T Tryz.f120.results.toList (Xut r) (Xus r)) hl ?_ ?_ ?_ ?_
 try dsimp only
 apply Xe8 hC []
 exact co
 rfl
 decide
 rfl
 intro v4 s hs
 have h := hs
 unfold Xg7 at h
 refine Xat (Xac ?_)
 iterate 4 refine kO hT hC ?_
 refine Vc.nil ?_
 refine kS h ?_ ?_ <;> intro b7 h
 refine kt b7 (Xag (Xaf (Xat (Xao (Xat (Xac ?_))))))
 iterate 2 refine kO hT hC ?_
 refine kQ hT hC h fun h => ?_
 refine kO hT hC ?_
 refine kC hC [] Tryz.call149 h (fun _ => Xb7) fun q8 h => ?_
 refine kO hT hC ?_
 refine Vc.nil ?_
 refine kS h ?_ ?_ <;> intro b8 h
 refine kt b8 (Xac ?_)
 refine kO hT hC ?_
 refine Vc.nil (Xah (Xav (Xh8 (Xav ?_))))
 obtain rfl := kj h
 refine Yaa (Xz3 ?_)
 exact Xct (Xkp.refl _) rfl trivial
 refine kf b8 (Xag (Xaf (Xad ?_)))
 iterate 3 refine kO hT hC ?_
 refine kQ hT hC h fun h => ?_
 iterate 3 refine kO hT hC ?_
 refine Vc.nil (Xaq (Xaf (Xad ?_)))
 iterate 3 refine kO hT hC ?_
 exact Vc.nil kG
 exact kf b7 (Xas (Xaz kb))
 intro v7 e
 subst e
 refine Xaf (Xac ?_)
 iterate 2 refine kO hT hC ?_
 exact Vc.nil (Xah kR)
 intro r' σ' e hE
 subst e
 obtain rfl := kj h
 refine Xav ?_
 exact hE
def Yan (r : Int) : AV := .sv (.int .i64 r)
def Yam (r : Int) : Xa6 := []
theorem Ycc {p0 r} (h : Xjf p0 = some r) : AC Tryz.prog 193 [.agg [.sv (.int .i64 p0.Level), .sv (.int .i64 p0.Bits), .sv (.ints .i64 p0.Cols), .sv (.ints .i64 p0.Rows)]] [] (Yan r) (Yam r) := by
 refine Xae hT Tryz.func193 rfl fun C hC => ?_
 unfold Xjf at h
 refine Xac ?_
 iterate 2 refine kO hT hC ?_
 refine Vc.nil ?_
 refine Xb8 hm ?_
 iterate 2 refine kO hT hC ?_
 refine kC hC [] Tryz.call120 h (fun _ => Xnb) fun q1 h => ?_
 iterate 2 refine kO hT hC ?_
 refine kC hC [] Tryz.call120 h (fun _ => Xnb) fun q2 h => ?_
 iterate 2 refine kO hT hC ?_
 exact kD (Xah kR)
def Xuo (r : Int) : AV := .sv (.int .i64 r)
def Xun (r : Int) : Xa6 := []
theorem Xvw {p0 r} (h : Xfs p0 = some r) : AC Tryz.prog 194 [.sv (.int .i64 p0)] [] (Xuo r) (Xun r) := by
 refine Xae hT Tryz.func194 rfl fun C hC => ?_
 unfold Xfs at h
 refine Xac ?_
 refine kO hT hC ?_
 refine Vc.nil (Xat (Xac ?_))
 refine kO hT hC ?_
 refine Vc.nil (Xao (Xac ?_))
 iterate 2 refine kO hT hC ?_
 refine Vc.nil ?_
 refine kS h ?_ ?_ <;> intro b1 h
 refine kt b1 (Xac ?_)
 refine kO hT hC ?_
 exact Vc.nil (Xah (Xh8 (Xav kR)))
 refine kf b1 (Xac ?_)
 iterate 2 refine kO hT hC ?_
 refine Vc.nil ?_
 refine kS h ?_ ?_ <;> intro b2 h
 refine kt b2 (Xac ?_)
 refine kO hT hC ?_
 exact Vc.nil (Xah (Xh8 (Xav kR)))
 refine kf b2 (Xac ?_)
 iterate 2 refine kO hT hC ?_
 refine Vc.nil ?_
 refine kS h ?_ ?_ <;> intro b3 h
 refine kt b3 (Xac ?_)
 refine kO hT hC ?_
 exact Vc.nil (Xah (Xh8 (Xav kR)))
 refine kf b3 (Xag (Xaq (Xaf (Xac ?_))))
 refine kO hT hC ?_
 exact Vc.nil (Xah kR)
def Yk8 (r : Bool) : AV := .sv (.bool r)
def Yk7 (r : Bool) : Xa6 := []
theorem Xsu {p0 r} (h : Xmt p0 = some r) : AC Tryz.prog 119 [.agg [.sv (.int .i64 p0.Level), .sv (.int .i64 p0.Bits), .sv (.ints .i64 p0.Cols), .sv (.ints .i64 p0.Rows)]] [] (Yk8 r) (Yk7 r) := by
 refine Xae hT Tryz.func119 rfl fun C hC => ?_
 unfold Xmt at h
 refine Xac ?_
 iterate 2 refine kO hT hC ?_
 refine Vc.nil ?_
 refine kL [1,2] [16] [_,_] [_] ?_
 refine kA h (fun v1 => ([(2, .sv (.bool v1)), (1, .any)], [(16, none)])) (fun v1 h => ?_) fun v1 h => ?_
 refine Xei hm ?_
 refine kO hT hC ?_
 refine kC hC [] Tryz.call193 h (fun _ => Ycc) fun q2 h => ?_
 iterate 2 refine kO hT hC ?_
 refine kC hC [] Tryz.call194 h (fun _ => Xvw) fun q3 h => ?_
 refine kC hC [] Tryz.call149 h (fun _ => Xb7) fun q4 h => ?_
 refine kO hT hC ?_
 refine kS h ?_ ?_ <;> intro b1 h
 iterate 2 refine kI hT hC b1 ?_
 refine kE hC b1 [] Tryz.call149 h (fun _ => Xb7) fun q5 h => ?_
 refine kP hC true b1 ?_
 refine kO hT hC ?_
 exact kD kM
 iterate 3 refine kF hC b1 ?_
 refine kP hC false b1 ?_
 refine kO hT hC ?_
 exact kD kM
 exact Xah kR
def Ye8 (r : Int) : AV := .sv (.int .i64 r)
def Ye7 (r : Int) : Xa6 := []
theorem Yi3 {p0 r} (h : Xkl p0 = some r) : AC Tryz.prog 101 [.agg [.sv (.int .i64 p0.Level), .sv (.int .i64 p0.Bits), .sv (.ints .i64 p0.Cols), .sv (.ints .i64 p0.Rows)]] [] (Ye8 r) (Ye7 r) := by
 refine Xae hT Tryz.func101 rfl fun C hC => ?_
 unfold Xkl at h
 refine Xac ?_
 iterate 2 refine kO hT hC ?_
 refine Vc.nil (Xat (Xac ?_))
 refine kO hT hC ?_
 refine kC hC [] Tryz.call119 h (fun _ => Xsu) fun q1 h => ?_
 refine kO hT hC ?_
 refine Vc.nil ?_
 refine kS h ?_ ?_ <;> intro b1 h
 refine kt b1 (Xac ?_)
 refine kO hT hC ?_
 exact Vc.nil (Xah (Xav kR))
 refine kf b1 (Xag (Xaf (Xac ?_)))
 iterate 8 refine kO hT hC ?_
 exact Vc.nil (Xah kR)
def Yk2 (r : Bool) : AV := .sv (.bool r)
def Yk1 (r : Bool) : Xa6 := []
theorem Yn6 {p0 r} (h : Xrv p0 = some r) : AC Tryz.prog 96 [.agg [.sv (.int .i64 p0.Qp), .sv (.bool p0.Large), .sv (.bool p0.Exact), .sv (.bool p0.Confined)]] [] (Yk2 r) (Yk1 r) := by
 refine Xae hT Tryz.func96 rfl fun C hC => ?_
 unfold Xrv at h
 refine Xac ?_
 iterate 2 refine kO hT hC ?_
 refine Vc.nil ?_
 refine kL [1,2] [16] [_,_] [_] ?_
 refine kA h (fun v1 => ([(2, .sv (.bool v1)), (1, .any)], [(16, none)])) (fun v1 h => ?_) fun v1 h => ?_
 refine Xad ?_
 iterate 2 refine kO hT hC ?_
 refine kC hC [] Tryz.call149 h (fun _ => Xb7) fun q2 h => ?_
 refine kO hT hC ?_
 refine kS h ?_ ?_ <;> intro b1 h
 iterate 3 refine kI hT hC b1 ?_
 refine kS h ?_ ?_ <;> intro b2 h
 iterate 2 refine kI hT hC b2 ?_
 refine Xax hC rfl rfl rfl rfl b1 rfl rfl (b := true) b2 rfl rfl rfl trivial ?_
 refine kI hT hC b1 ?_
 refine kP hC true b1 ?_
 refine kO hT hC ?_
 exact Vc.nil kM
 iterate 2 refine kF hC b2 ?_
 refine Xax hC rfl rfl rfl rfl b1 rfl rfl (b := false) b2 rfl rfl rfl trivial ?_
 refine kI hT hC b1 ?_
 refine kP hC true b1 ?_
 refine kO hT hC ?_
 exact Vc.nil kM
 iterate 3 refine kF hC b1 ?_
 iterate 2 refine Xde hC rfl rfl rfl rfl rfl rfl ?_
 iterate 2 refine kF hC b1 ?_
 refine kP hC false b1 ?_
 refine kO hT hC ?_
 exact Vc.nil kM
 exact Xah kR
def Ybs (r : (List Int)) : AV := .own 16
def Ybr (r : (List Int)) : Xa6 := [(16, .ints .i64 r)]
theorem Xjk {p0 r} (h : Xdo p0 = some r) : AC Tryz.prog 146 [.sv (.ints .i64 p0)] [] (Ybs r) (Ybr r) := by
 refine Xae hT Tryz.func146 rfl fun C hC => ?_
 unfold Xdo at h
 refine Xac ?_
 refine kO hT hC ?_
 refine kN ?_
 iterate 2 refine kO hT hC ?_
 refine kT hT hC h fun h => ?_
 refine kO hT hC ?_
 refine Vc.nil (Xah ?_)
 obtain rfl := kj h
 exact Xct (τ := ⟨[(2, .own 16)], [(16, some (.ints .i64 (([] : List Int) ++ p0)))]⟩) (kW hC [(16, 80)]) rfl ⟨rfl, trivial⟩
def Yej (r : Seq) : AV := .agg [.sv (.int .i64 r.Level), .sv (.int .i64 r.Bits), .own 16, .own 17]
def Yei (r : Seq) : Xa6 := [(16, .ints .i64 r.Cols), (17, .ints .i64 r.Rows)]
theorem Xo9 {p0 r} (h : Xhr p0 = some r) : AC Tryz.prog 71 [.agg [.sv (.int .i64 p0.Level), .sv (.int .i64 p0.Bits), .sv (.ints .i64 p0.Cols), .sv (.ints .i64 p0.Rows)]] [] (Yej r) (Yei r) := by
 refine Xae hT Tryz.func71 rfl fun C hC => ?_
 unfold Xhr at h
 refine Xac ?_
 iterate 2 refine kO hT hC ?_
 refine kN ?_
 iterate 2 refine kO hT hC ?_
 refine kC hC [(16, 80)] Tryz.call146 h (fun _ => Xjk) fun q1 h => ?_
 iterate 2 refine kO hT hC ?_
 refine kN ?_
 iterate 2 refine kO hT hC ?_
 refine kC hC [(16, 144)] Tryz.call146 h (fun _ => Xjk) fun q2 h => ?_
 iterate 2 refine kO hT hC ?_
 refine kN ?_
 iterate 2 refine kO hT hC ?_
 refine Vc.nil (Xah ?_)
 obtain rfl := kj h
 exact Xct (τ := ⟨[(2, .ptr 2000000 0)], [(16, some (.ints .i64 q1)), (17, some (.ints .i64 q2)), (2000000, some (.box [.sv (.int .i64 p0.Level), .sv (.int .i64 p0.Bits), .own 16, .own 17]))]⟩) (kW hC [(16, 80), (17, 144), (2000000, 32)]) rfl ⟨rfl, rfl, trivial⟩
def Yen (r : Bool) : AV := .sv (.bool r)
def Yem (r : Bool) : Xa6 := []
theorem Yhw {p0 r} (h : Xnm p0 = some r) : AC Tryz.prog 142 [.agg [.sv (.int .i64 p0.Level), .sv (.int .i64 p0.Bits), .sv (.ints .i64 p0.Cols), .sv (.ints .i64 p0.Rows)]] [] (Yen r) (Yem r) := by
 refine Xae hT Tryz.func142 rfl fun C hC => ?_
 unfold Xnm at h
 refine Xac ?_
 iterate 2 refine kO hT hC ?_
 refine Vc.nil ?_
 refine kL [1,2] [16] [_,_] [_] ?_
 refine kA h (fun v1 => ([(2, .sv (.bool v1)), (1, .any)], [(16, none)])) (fun v1 h => ?_) fun v1 h => ?_
 refine Xad ?_
 iterate 4 refine kO hT hC ?_
 refine kS h ?_ ?_ <;> intro b1 h
 iterate 3 refine kI hT hC b1 ?_
 refine kP hC true b1 ?_
 refine kO hT hC ?_
 refine kS h ?_ ?_ <;> intro b2 h
 iterate 4 refine kI hT hC b2 ?_
 refine kP hC true b2 ?_
 refine kO hT hC ?_
 refine kS h ?_ ?_ <;> intro b3 h
 iterate 4 refine kI hT hC b3 ?_
 refine kP hC true b3 ?_
 refine kO hT hC ?_
 exact Vc.nil kM
 iterate 4 refine kF hC b3 ?_
 refine kP hC false b3 ?_
 refine kO hT hC ?_
 exact Vc.nil kM
 iterate 4 refine kF hC b2 ?_
 refine kP hC false b2 ?_
 refine kO hT hC ?_
 iterate 4 refine kF hC rfl ?_
 iterate 2 refine kO hT hC ?_
 exact Vc.nil kM
 iterate 3 refine kF hC b1 ?_
 refine kP hC false b1 ?_
 refine kO hT hC ?_
 iterate 4 refine kF hC rfl ?_
 iterate 2 refine kO hT hC ?_
 iterate 4 refine kF hC rfl ?_
 iterate 2 refine kO hT hC ?_
 exact Vc.nil kM
 exact Xah kR
def Yh7 (r : Bool) : AV := .sv (.bool r)
def Yh6 (r : Bool) : Xa6 := []
theorem Xai {p0 p1 p2 r} (h : Xaj p0 p1 p2 = some r) : AC Tryz.prog 116 [.sv (.int .i64 p0), .sv (.int .i64 p1), .sv (.int .i64 p2)] [] (Yh7 r) (Yh6 r) := by
 refine Xae hT Tryz.func116 rfl fun C hC => ?_
 unfold Xaj at h
 refine Xac ?_
 refine kO hT hC ?_
 refine Vc.nil ?_
 refine kL [0,1,2,6] [] [_,_,_,_] [] ?_
 refine kA h (fun v1 => ([(6, .sv (.bool v1)), (0, .any), (1, .any), (2, .any)], [])) (fun v1 h => ?_) fun v1 h => ?_
 refine Xad ?_
 iterate 4 refine kO hT hC ?_
 refine kS h ?_ ?_ <;> intro b1 h
 iterate 3 refine kI hT hC b1 ?_
 refine kP hC true b1 ?_
 refine kO hT hC ?_
 exact Vc.nil kM
 iterate 3 refine kF hC b1 ?_
 refine kP hC false b1 ?_
 refine kO hT hC ?_
 exact Vc.nil kM
 exact Xah kR
def Ykr (r : Int) : AV := .sv (.int .i64 r)
def Ykq (r : Int) : Xa6 := []
theorem Xif {p0 r} (h : Xcb p0 = some r) : AC Tryz.prog 195 [.sv (.ints .i64 p0)] [] (Ykr r) (Ykq r) := by
 refine Xae hT Tryz.func195 rfl fun C hC => ?_
 unfold Xcb at h
 refine Xac ?_
 refine kO hT hC ?_
 refine kN ?_
 refine kO hT hC ?_
 refine Vc.nil (Xat (Xac ?_))
 iterate 3 refine kO hT hC ?_
 refine Vc.nil ?_
 refine kL [3,6,7,8] [] [_,_,_,_] [] ?_
 refine kX h (fun v2 => ([(3, .sv (.int .i64 v2.1)), (8, .sv (.int .i64 v2.2))], [])) (fun v4 => ([(3, .sv (.int .i64 v4)), (6, .any), (7, .any), (8, .any)], [])) (kW hC []) (fun v2 s h => ?_) fun v4 h => ?_
 unfold Xdp at h
 refine Xac ?_
 refine kO hT hC ?_
 refine Vc.nil (Xat ?_)
 refine kS h ?_ ?_ <;> intro b3 h
 refine kt b3 (Xag (Xaf (Xat (Xao (Xac ?_)))))
 refine kQ hT hC h fun h => ?_
 iterate 2 refine kO hT hC ?_
 refine Vc.nil (Xad ?_)
 iterate 4 refine kO hT hC ?_
 refine Vc.nil (Xaq (Xaf (Xad ?_)))
 iterate 2 refine kO hT hC ?_
 exact Vc.nil kG
 exact kf b3 (Xas (Xaz ku))
 refine Xaf (Xac ?_)
 iterate 2 refine kO hT hC ?_
 exact Vc.nil (Xah kR)
def Xk3 (r : Int) : AV := .sv (.int .i64 r)
def Xk2 (r : Int) : Xa6 := []
theorem Xq7 {p0 r} (h : Xdu p0 = some r) : AC Tryz.prog 145 [.agg [.sv (.int .i64 p0.Level), .sv (.int .i64 p0.Bits), .sv (.ints .i64 p0.Cols), .sv (.ints .i64 p0.Rows)]] [] (Xk3 r) (Xk2 r) := by
 refine Xae hT Tryz.func145 rfl fun C hC => ?_
 unfold Xdu at h
 refine Xac ?_
 iterate 2 refine kO hT hC ?_
 refine Vc.nil (Xat (Xac ?_))
 iterate 7 refine kO hT hC ?_
 refine Vc.nil ?_
 refine kL [1,11,12,13] [16,176] [_,_,_,_] [_,_] ?_
 obtain ⟨o32, hl, h⟩ := Xa8 h
 refine Xmo (fun v11 => ([(13, .sv (.int .i64 v11))], [])) (fun v22 => ([(11, .any), (12, .any), (13, .any)], [(176, none)])) (fun r => Xw1 C T Tryz.f145.results.toList (Xk3 r) (Xk2 r)) hl ?_ ?_ ?_ ?_
 apply Xe8 hC []
 exact co
 rfl
 decide
 rfl
 intro v11 s hs
 have h := hs
 unfold Xdc at h
 refine Xac ?_
 refine kO hT hC ?_
 refine Vc.nil (Xat ?_)
 refine kS h ?_ ?_ <;> intro b17 h
 refine kt b17 (Xag (Xaf (Xat (Xao (Xac ?_)))))
 iterate 2 refine kQ hT hC h fun h => ?_
 refine kO hT hC ?_
 refine Vc.nil (Xat (Xac ?_))
 iterate 2 refine kO hT hC ?_
 refine kC hC [] Tryz.call116 h (fun _ => Xai) fun q23 h => ?_
 refine kO hT hC ?_
 refine Vc.nil ?_
 refine kS h ?_ ?_ <;> intro b18 h
 refine kt b18 (Xac ?_)
 refine kO hT hC ?_
 refine Vc.nil (Xah (Xav (Xh8 (Xav ?_))))
 obtain rfl := kj h
 refine Yaa (Xz3 ?_)
 exact Xct (Xkp.refl _) rfl trivial
 refine kf b18 (Xag (Xaf (Xac ?_)))
 iterate 3 refine kO hT hC ?_
 refine Vc.nil ?_
 refine kL [1,11,12,13,21,22,23] [16,176] [_,_,_,_,_,_,_] [_,_] ?_
 obtain ⟨o31, hl, h⟩ := Xa8 h
 refine Xmo (fun v26 => ([(23, .sv (.int .i64 v26))], [])) (fun v29 => ([(21, .any), (22, .any), (23, .any)], [])) (fun r => Xw1 C T Tryz.f145.results.toList (Xk3 r) (Xk2 r)) hl ?_ ?_ ?_ ?_
 apply Xe8 hC []
 exact co
 rfl
 decide
 rfl
 intro v26 s hs
 have h := hs
 unfold Xce at h
 refine Xac ?_
 refine kO hT hC ?_
 refine Vc.nil (Xat ?_)
 refine kS h ?_ ?_ <;> intro b23 h
 refine kt b23 (Xag (Xaf (Xat (Xao (Xac ?_)))))
 refine kQ hT hC h fun h => ?_
 iterate 2 refine kO hT hC ?_
 refine kN ?_
 refine kO hT hC ?_
 refine kC hC [] Tryz.call116 h (fun _ => Xai) fun q30 h => ?_
 refine kO hT hC ?_
 refine Vc.nil ?_
 refine kS h ?_ ?_ <;> intro b24 h
 refine kt b24 (Xac ?_)
 refine kO hT hC ?_
 refine Vc.nil (Xah (Xh8 (Xav ?_)))
 obtain rfl := kj h
 refine Yaa (Xz3 ?_)
 exact Xct (Xkp.refl _) rfl trivial
 refine kf b24 (Xag (Xaq (Xaf (Xad ?_))))
 iterate 2 refine kO hT hC ?_
 exact Vc.nil kG
 exact kf b23 (Xas (Xaz kb))
 intro v29 e
 subst e
 refine Xaq (Xaf (Xad ?_))
 iterate 2 refine kO hT hC ?_
 exact Vc.nil kG
 intro r' σ' e hE
 subst e
 obtain rfl := kj h
 refine Xh8 (Xav (Yaa (Xz3 ?_)))
 exact hE
 exact kf b17 (Xas (Xaz kb))
 intro v22 e
 subst e
 refine Xaf ?_
 refine Xb8 hm ?_
 iterate 2 refine kO hT hC ?_
 refine kC hC [] Tryz.call195 h (fun _ => Xif) fun q33 h => ?_
 iterate 2 refine kO hT hC ?_
 refine kC hC [] Tryz.call195 h (fun _ => Xif) fun q34 h => ?_
 iterate 2 refine kO hT hC ?_
 exact kD (Xah kR)
 intro r' σ' e hE
 subst e
 obtain rfl := kj h
 refine Xav ?_
 exact hE
def Xt4 (r : Int) : AV := .sv (.int .i64 r)
def Xt3 (r : Int) : Xa6 := []
theorem Xvp {p0 r} (h : Xfh p0 = some r) : AC Tryz.prog 231 [.sv (.int .i64 p0)] [] (Xt4 r) (Xt3 r) := by
 refine Xae hT Tryz.func231 rfl fun C hC => ?_
 unfold Xfh at h
 refine Xac ?_
 refine kO hT hC ?_
 refine Vc.nil (Xat (Xac ?_))
 refine kO hT hC ?_
 refine kC hC [] Tryz.call116 h (fun _ => Xai) fun q1 h => ?_
 refine kO hT hC ?_
 refine Vc.nil ?_
 refine kS h ?_ ?_ <;> intro b1 h
 refine kt b1 (Xac ?_)
 refine kO hT hC ?_
 exact Vc.nil (Xah (Xav kR))
 refine kf b1 (Xag (Xaf (Xac ?_)))
 iterate 3 refine kO hT hC ?_
 iterate 2 refine kQ hT hC h fun h => ?_
 refine kO hT hC ?_
 exact Vc.nil (Xah kR)
def Yka (r : Bool) : AV := .sv (.bool r)
def Yj9 (r : Bool) : Xa6 := []
theorem Xic {p0 r} (h : Xgx p0 = some r) : AC Tryz.prog 182 [.agg [.sv (.int .i64 p0.Level), .sv (.int .i64 p0.Bits), .sv (.ints .i64 p0.Cols), .sv (.ints .i64 p0.Rows)]] [] (Yka r) (Yj9 r) := by
 refine Xae hT Tryz.func182 rfl fun C hC => ?_
 unfold Xgx at h
 refine Xac ?_
 iterate 2 refine kO hT hC ?_
 refine Vc.nil ?_
 refine kL [1,2] [16] [_,_] [_] ?_
 refine kA h (fun v1 => ([(2, .sv (.bool v1)), (1, .any)], [(16, none)])) (fun v1 h => ?_) fun v1 h => ?_
 refine Xei hm ?_
 refine kO hT hC ?_
 refine kC hC [] Tryz.call145 h (fun _ => Xq7) fun q2 h => ?_
 iterate 2 refine kO hT hC ?_
 refine kC hC [] Tryz.call231 h (fun _ => Xvp) fun q3 h => ?_
 refine kC hC [] Tryz.call116 h (fun _ => Xai) fun q4 h => ?_
 refine kO hT hC ?_
 refine kS h ?_ ?_ <;> intro b1 h
 iterate 2 refine kI hT hC b1 ?_
 refine kE hC b1 [] Tryz.call116 h (fun _ => Xai) fun q5 h => ?_
 refine kP hC true b1 ?_
 refine kO hT hC ?_
 exact kD kM
 iterate 3 refine kF hC b1 ?_
 refine kP hC false b1 ?_
 refine kO hT hC ?_
 exact kD kM
 exact Xah kR
def Yjz (r : Bool) : AV := .sv (.bool r)
def Yjy (r : Bool) : Xa6 := []
theorem Xer {p0 r} (h : Xel p0 = some r) : AC Tryz.prog 69 [.agg [.sv (.int .i64 p0.Qp), .sv (.bool p0.Large), .sv (.bool p0.Exact), .sv (.bool p0.Confined)]] [] (Yjz r) (Yjy r) := by
 refine Xae hT Tryz.func69 rfl fun C hC => ?_
 unfold Xel at h
 refine Xac ?_
 iterate 2 refine kO hT hC ?_
 refine Vc.nil ?_
 refine kL [1,2] [16] [_,_] [_] ?_
 refine kA h (fun v1 => ([(2, .sv (.bool v1)), (1, .any)], [(16, none)])) (fun v1 h => ?_) fun v1 h => ?_
 refine Xad ?_
 iterate 2 refine kO hT hC ?_
 refine kC hC [] Tryz.call116 h (fun _ => Xai) fun q2 h => ?_
 refine kO hT hC ?_
 refine kS h ?_ ?_ <;> intro b1 h
 iterate 3 refine kI hT hC b1 ?_
 refine kS h ?_ ?_ <;> intro b2 h
 iterate 2 refine kI hT hC b2 ?_
 refine Xax hC rfl rfl rfl rfl b1 rfl rfl (b := true) b2 rfl rfl rfl trivial ?_
 refine kI hT hC b1 ?_
 refine kP hC true b1 ?_
 refine kO hT hC ?_
 exact Vc.nil kM
 iterate 2 refine kF hC b2 ?_
 refine Xax hC rfl rfl rfl rfl b1 rfl rfl (b := false) b2 rfl rfl rfl trivial ?_
 refine kI hT hC b1 ?_
 refine kP hC true b1 ?_
 refine kO hT hC ?_
 exact Vc.nil kM
 iterate 3 refine kF hC b1 ?_
 iterate 2 refine Xde hC rfl rfl rfl rfl rfl rfl ?_
 iterate 2 refine kF hC b1 ?_
 refine kP hC false b1 ?_
 refine kO hT hC ?_
 exact Vc.nil kM
 exact Xah kR
def Yeh (r : Int) : AV := .sv (.int .i64 r)
def Yeg (r : Int) : Xa6 := []
theorem Xk4 {p0 r} (h : Xdv p0 = some r) : AC Tryz.prog 123 [.agg [.sv (.int .i64 p0.Level), .sv (.int .i64 p0.Bits), .sv (.ints .i64 p0.Cols), .sv (.ints .i64 p0.Rows)]] [] (Yeh r) (Yeg r) := by
 refine Xae hT Tryz.func123 rfl fun C hC => ?_
 unfold Xdv at h
 refine Xac ?_
 iterate 2 refine kO hT hC ?_
 refine Vc.nil (Xat (Xac ?_))
 refine kO hT hC ?_
 refine kC hC [] Tryz.call182 h (fun _ => Xic) fun q1 h => ?_
 refine kO hT hC ?_
 refine Vc.nil ?_
 refine kS h ?_ ?_ <;> intro b1 h
 refine kt b1 (Xac ?_)
 refine kO hT hC ?_
 exact Vc.nil (Xah (Xav kR))
 refine kf b1 (Xag (Xaf (Xac ?_)))
 iterate 8 refine kO hT hC ?_
 exact Vc.nil (Xah kR)
def Yhh (r : (Int × Int)) : AV := .tup [.sv (.int .i64 r.1), .sv (.int .i64 r.2)]
def Yhg (r : (Int × Int)) : Xa6 := []
theorem Ykd {p0 r} (h : Xo8 p0 = some r) : AC Tryz.prog 125 [.agg [.sv (.int .i64 p0.Level), .sv (.int .i64 p0.Bits), .sv (.ints .i64 p0.Cols), .sv (.ints .i64 p0.Rows)]] [] (Yhh r) (Yhg r) := by
 refine Xae hT Tryz.func125 rfl fun C hC => ?_
 unfold Xo8 at h
 refine Xac ?_
 iterate 3 refine kO hT hC ?_
 refine Vc.nil (Xat (Xac ?_))
 refine kO hT hC ?_
 refine kC hC [] Tryz.call182 h (fun _ => Xic) fun q1 h => ?_
 refine kO hT hC ?_
 refine Vc.nil ?_
 refine kS h ?_ ?_ <;> intro b1 h
 refine kt b1 (Xac ?_)
 iterate 2 refine kO hT hC ?_
 exact Vc.nil (Xah (Xav kR))
 refine kf b1 (Xag (Xaf ?_))
 refine Xb8 hm ?_
 iterate 2 refine kO hT hC ?_
 refine kC hC [] Tryz.call195 h (fun _ => Xif) fun q2 h => ?_
 iterate 3 refine kO hT hC ?_
 refine kC hC [] Tryz.call195 h (fun _ => Xif) fun q3 h => ?_
 iterate 3 refine kO hT hC ?_
 exact kD (Xah kR)
def Yj4 (r : Bool) : AV := .sv (.bool r)
def Yj3 (r : Bool) : Xa6 := []
theorem Xdn {p0 r} (h : Xcw p0 = some r) : AC Tryz.prog 47 [.agg [.sv (.int .i64 p0.Wide), .sv (.int .i64 p0.High), .sv (.str p0.Dots)]] [] (Yj4 r) (Yj3 r) := by
 refine Xae hT Tryz.func47 rfl fun C hC => ?_
 unfold Xcw at h
 refine Xac ?_
 iterate 2 refine kO hT hC ?_
 refine Vc.nil ?_
 refine kL [1,2] [16] [_,_] [_] ?_
 refine kA h (fun v1 => ([(2, .sv (.bool v1)), (1, .any)], [(16, none)])) (fun v1 h => ?_) fun v1 h => ?_
 refine Xad ?_
 iterate 2 refine kO hT hC ?_
 refine kC hC [] Tryz.call116 h (fun _ => Xai) fun q2 h => ?_
 refine kO hT hC ?_
 refine kS h ?_ ?_ <;> intro b1 h
 iterate 2 refine kI hT hC b1 ?_
 refine kE hC b1 [] Tryz.call116 h (fun _ => Xai) fun q3 h => ?_
 refine kP hC true b1 ?_
 refine kO hT hC ?_
 refine kS h ?_ ?_ <;> intro b2 h
 iterate 9 refine kI hT hC b2 ?_
 refine kP hC true b2 ?_
 refine kO hT hC ?_
 exact Vc.nil kM
 iterate 9 refine kF hC b2 ?_
 refine kP hC false b2 ?_
 refine kO hT hC ?_
 exact Vc.nil kM
 iterate 3 refine kF hC b1 ?_
 refine kP hC false b1 ?_
 refine kO hT hC ?_
 iterate 9 refine kF hC rfl ?_
 iterate 2 refine kO hT hC ?_
 exact Vc.nil kM
 exact Xah kR
def Ym3 (r : Bool) : AV := .sv (.bool r)
def Ym2 (r : Bool) : Xa6 := []
theorem Ycv {p0 p1 r} (h : Xrb p0 p1 = some r) : AC Tryz.prog 57 [.agg [.sv (.int .i64 p0.Wide), .sv (.int .i64 p0.High), .sv (.str p0.Dots)], .agg [.sv (.int .i64 p1.Level), .sv (.int .i64 p1.Bits), .sv (.ints .i64 p1.Cols), .sv (.ints .i64 p1.Rows)]] [] (Ym3 r) (Ym2 r) := by
 refine Xae hT Tryz.func57 rfl fun C hC => ?_
 unfold Xrb at h
 refine Xac ?_
 iterate 3 refine kO hT hC ?_
 refine kN ?_
 refine kO hT hC ?_
 refine kC hC [] Tryz.call125 h (fun _ => Ykd) fun q1 h => ?_
 iterate 5 refine kO hT hC ?_
 refine Vc.nil ?_
 refine kL [2,4,5,6] [32] [_,_,_,_] [_] ?_
 refine kA h (fun v2 => ([(4, .sv (.bool v2)), (2, .any), (5, .any), (6, .any)], [(32, none)])) (fun v2 h => ?_) fun v2 h => ?_
 refine Xad ?_
 refine kO hT hC ?_
 refine kC hC [] Tryz.call47 h (fun _ => Xdn) fun q3 h => ?_
 refine kO hT hC ?_
 refine kS h ?_ ?_ <;> intro b1 h
 iterate 4 refine kI hT hC b1 ?_
 refine kP hC true b1 ?_
 refine kO hT hC ?_
 refine kS h ?_ ?_ <;> intro b2 h
 iterate 4 refine kI hT hC b2 ?_
 refine kP hC true b2 ?_
 refine kO hT hC ?_
 exact Vc.nil kM
 iterate 4 refine kF hC b2 ?_
 refine kP hC false b2 ?_
 refine kO hT hC ?_
 exact Vc.nil kM
 iterate 4 refine kF hC b1 ?_
 refine kP hC false b1 ?_
 refine kO hT hC ?_
 iterate 4 refine kF hC rfl ?_
 iterate 2 refine kO hT hC ?_
 exact Vc.nil kM
 exact Xah kR
def Yhv (r : Bool) : AV := .sv (.bool r)
def Yhu (r : Bool) : Xa6 := []
theorem Xwg {p0 r} (h : Xmf p0 = some r) : AC Tryz.prog 140 [.sv (.int .i64 p0)] [] (Yhv r) (Yhu r) := by
 refine Xae hT Tryz.func140 rfl fun C hC => ?_
 unfold Xmf at h
 refine Xac ?_
 refine kO hT hC ?_
 refine Vc.nil ?_
 refine kL [0,2] [] [_,_] [] ?_
 refine kA h (fun v1 => ([(2, .sv (.bool v1)), (0, .any)], [])) (fun v1 h => ?_) fun v1 h => ?_
 refine Xad ?_
 iterate 3 refine kO hT hC ?_
 refine kS h ?_ ?_ <;> intro b1 h
 iterate 2 refine kF hC b1 ?_
 refine kP hC true b1 ?_
 refine kO hT hC ?_
 iterate 2 refine kF hC rfl ?_
 iterate 2 refine kO hT hC ?_
 iterate 2 refine kF hC rfl ?_
 iterate 2 refine kO hT hC ?_
 exact Vc.nil kM
 iterate 2 refine kI hT hC b1 ?_
 refine kP hC false b1 ?_
 refine kO hT hC ?_
 refine kS h ?_ ?_ <;> intro b2 h
 iterate 2 refine kF hC b2 ?_
 refine kP hC true b2 ?_
 refine kO hT hC ?_
 iterate 2 refine kF hC rfl ?_
 iterate 2 refine kO hT hC ?_
 exact Vc.nil kM
 iterate 2 refine kI hT hC b2 ?_
 refine kP hC false b2 ?_
 refine kO hT hC ?_
 refine kS h ?_ ?_ <;> intro b3 h
 iterate 2 refine kF hC b3 ?_
 refine kP hC true b3 ?_
 refine kO hT hC ?_
 exact Vc.nil kM
 iterate 2 refine kI hT hC b3 ?_
 refine kP hC false b3 ?_
 refine kO hT hC ?_
 exact Vc.nil kM
 exact Xah kR
def Ya5 (r : (ByteArray × Bool)) : AV := .tup [.sv (.str r.1), .sv (.bool r.2)]
def Ya4 (r : (ByteArray × Bool)) : Xa6 := []
theorem Ydn {p0 r} (h : Xku p0 = some r) : AC Tryz.prog 183 [.sv (.str p0)] [] (Ya5 r) (Ya4 r) := by
 refine Xae hT Tryz.func183 rfl fun C hC => ?_
 unfold Xku at h
 refine Xac ?_
 iterate 2 refine kO hT hC ?_
 refine kN ?_
 iterate 4 refine kO hT hC ?_
 refine Vc.nil (Xat ?_)
 refine kL [0,4] [] [_,_] [] ?_
 refine kA h (fun v1 => ([(23, .sv (.bool v1))], [])) (fun v1 h => ?_) fun v1 h => ?_
 refine Xad ?_
 iterate 3 refine kO hT hC ?_
 refine kS h ?_ ?_ <;> intro b1 h
 iterate 6 refine kF hC b1 ?_
 refine kP hC true b1 ?_
 refine kO hT hC ?_
 iterate 2 refine kF hC rfl ?_
 refine kO hT hC ?_
 exact Vc.nil kM
 iterate 4 refine kI hT hC b1 ?_
 refine kJ hT hC b1 h fun h => ?_
 refine kI hT hC b1 ?_
 refine kP hC false b1 ?_
 refine kO hT hC ?_
 refine kS h ?_ ?_ <;> intro b2 h
 iterate 2 refine kF hC b2 ?_
 refine kP hC true b2 ?_
 exact Vc.nil kM
 iterate 2 refine kI hT hC b2 ?_
 refine kP hC false b2 ?_
 exact Vc.nil kM
 refine kS h ?_ ?_ <;> intro b3 h
 refine kt b3 (Xac ?_)
 iterate 2 refine kO hT hC ?_
 exact Vc.nil (Xah (Xav kR))
 refine kf b3 (Xag (Xaf (Xac ?_)))
 refine kO hT hC ?_
 obtain ⟨hq, h⟩ := Xau h
 refine Ylk hT hC rfl rfl rfl rfl ⟨hq.1, hq.2.1, hq.2.2, by decide⟩ ?_
 refine kO hT hC ?_
 refine Vc.nil (Xat (Xac ?_))
 refine kO hT hC ?_
 refine Vc.nil ?_
 refine kL [0,4,5,6] [400] [_,_,_,_] [_] ?_
 refine kX h (fun v3 => ([(6, .sv (.int .i64 v3.1))], [(400, some (.ints .u8 v3.2))])) (fun v5 => ([(0, .any), (6, .any)], [(400, some (.ints .u8 v5))])) (kW hC []) (fun v3 s h => ?_) fun v5 h => ?_
 unfold Xej at h
 refine Xat (Xac ?_)
 iterate 3 refine kO hT hC ?_
 refine Vc.nil ?_
 refine kS h ?_ ?_ <;> intro b6 h
 refine kt b6 (Xag (Xaf (Xat (Xao (Xad ?_)))))
 iterate 3 refine kO hT hC ?_
 iterate 2 refine kQ hT hC h fun h => ?_
 refine kO hT hC ?_
 refine kQ hT hC h fun h => ?_
 refine kO hT hC ?_
 refine kQ hT hC h fun h => ?_
 iterate 3 refine kO hT hC ?_
 refine kT hT hC h fun h => ?_
 refine kO hT hC ?_
 refine Vc.nil (Xaq (Xaf (Xad ?_)))
 iterate 3 refine kO hT hC ?_
 refine Vc.nil ?_
 obtain rfl := kj h
 exact Ylx (kW hC [(400, 688)])
 exact kf b6 (Xas (Xaz ku))
 refine Xaf (Xat ?_)
 refine kL [4,5] [400] [_,_] [_] ?_
 refine kX h (fun v8 => ([(4, .sv (.int .i64 v8))], [])) (fun v10 => ([(4, .sv (.int .i64 v10))], [])) (kW hC []) (fun v8 s h => ?_) fun v10 h => ?_
 unfold Xek at h
 refine Xat (Xac ?_)
 iterate 3 refine kO hT hC ?_
 iterate 2 refine kQ hT hC h fun h => ?_
 refine kO hT hC ?_
 refine Vc.nil ?_
 refine kS h ?_ ?_ <;> intro b9 h
 refine kt b9 (Xag (Xaf (Xao (Xad ?_))))
 iterate 3 refine kO hT hC ?_
 exact Vc.nil (Xaq kG)
 exact kf b9 (Xas (Xaz ku))
 refine Xaf (Xat (Xac ?_))
 iterate 3 refine kO hT hC ?_
 refine Vc.nil ?_
 refine kS h ?_ ?_ <;> intro b10 h
 refine kt b10 (Xac ?_)
 iterate 2 refine kO hT hC ?_
 exact Vc.nil (Xah (Xav kR))
 refine kf b10 (Xag (Xaf (Xac ?_)))
 iterate 3 refine kO hT hC ?_
 iterate 2 refine kQ hT hC h fun h => ?_
 iterate 2 refine kO hT hC ?_
 exact Vc.nil (Xah kR)
def Yhq (r : (Int × ByteArray × Bool)) : AV := .tup [.sv (.int .i64 r.1), .sv (.str r.2.1), .sv (.bool r.2.2)]
def Yhp (r : (Int × ByteArray × Bool)) : Xa6 := []
theorem Ykj {p0 r} (h : Xmb p0 = some r) : AC Tryz.prog 112 [.sv (.str p0)] [] (Yhq r) (Yhp r) := by
 refine Xae hT Tryz.func112 rfl fun C hC => ?_
 unfold Xmb at h
 refine Xac ?_
 iterate 3 refine kO hT hC ?_
 refine Vc.nil (Xat ?_)
 refine kL [0] [] [_] [] ?_
 refine kA h (fun v1 => ([(15, .sv (.bool v1))], [])) (fun v1 h => ?_) fun v1 h => ?_
 refine Xad ?_
 iterate 3 refine kO hT hC ?_
 refine kS h ?_ ?_ <;> intro b1 h
 iterate 5 refine kF hC b1 ?_
 refine kP hC true b1 ?_
 exact Vc.nil kM
 refine kI hT hC b1 ?_
 refine kJ hT hC b1 h fun h => ?_
 refine kI hT hC b1 ?_
 refine kE hC b1 [] Tryz.call140 h (fun _ => Xwg) fun q2 h => ?_
 refine kI hT hC b1 ?_
 refine kP hC false b1 ?_
 exact Vc.nil kM
 refine kS h ?_ ?_ <;> intro b2 h
 refine kt b2 (Xac ?_)
 iterate 3 refine kO hT hC ?_
 exact Vc.nil (Xah (Xav kR))
 refine kf b2 (Xag (Xaf (Xac ?_)))
 refine kO hT hC ?_
 refine kQ hT hC h fun h => ?_
 refine kC hC [] Tryz.call183 h (fun _ => Ydn) fun q3 h => ?_
 iterate 5 refine kO hT hC ?_
 refine Vc.nil (Xat (Xac ?_))
 iterate 2 refine kO hT hC ?_
 refine Vc.nil ?_
 refine kS h ?_ ?_ <;> intro b3 h
 refine kt b3 (Xac ?_)
 iterate 3 refine kO hT hC ?_
 exact Vc.nil (Xah (Xav kR))
 refine kf b3 (Xag (Xaf (Xac ?_)))
 refine kO hT hC ?_
 refine kQ hT hC h fun h => ?_
 iterate 5 refine kO hT hC ?_
 exact Vc.nil (Xah kR)
def Xwa (r : Bool) : AV := .sv (.bool r)
def Xv9 (r : Bool) : Xa6 := []
theorem Xy2 {p0 r} (h : Xor p0 = some r) : AC Tryz.prog 215 [.sv (.str p0)] [] (Xwa r) (Xv9 r) := by
 refine Xae hT Tryz.func215 rfl fun C hC => ?_
 unfold Xor at h
 refine Xac ?_
 refine kO hT hC ?_
 refine Vc.nil (Xat (Xac ?_))
 iterate 3 refine kO hT hC ?_
 refine Vc.nil ?_
 refine kS h ?_ ?_ <;> intro b1 h
 refine kt b1 (Xac ?_)
 refine kO hT hC ?_
 exact Vc.nil (Xah (Xav kR))
 refine kf b1 (Xag (Xaf (Xat (Xac ?_))))
 refine kO hT hC ?_
 refine Vc.nil ?_
 refine kL [0,3] [] [_,_] [] ?_
 obtain ⟨o8, hl, h⟩ := Xa8 h
 refine Xmo (fun v3 => ([(3, .sv (.int .i64 v3))], [])) (fun v6 => ([(0, .any), (3, .any)], [])) (fun r => Xw1 C T Tryz.f215.results.toList (Xwa r) (Xv9 r)) hl ?_ ?_ ?_ ?_
 apply Xe8 hC []
 exact co
 rfl
 decide
 rfl
 intro v3 s hs
 have h := hs
 unfold Xk0 at h
 refine Xat (Xac ?_)
 iterate 4 refine kO hT hC ?_
 refine Vc.nil ?_
 refine kS h ?_ ?_ <;> intro b8 h
 refine kt b8 (Xag (Xaf (Xat (Xao ?_))))
 refine kL [0,3] [] [_,_] [] ?_
 refine kA h (fun v7 => ([(22, .sv (.bool v7))], [])) (fun v7 h => ?_) fun v7 h => ?_
 refine Xad ?_
 iterate 2 refine kO hT hC ?_
 refine kQ hT hC h fun h => ?_
 iterate 2 refine kO hT hC ?_
 refine kS h ?_ ?_ <;> intro b9 h
 iterate 2 refine kI hT hC b9 ?_
 refine kJ hT hC b9 h fun h => ?_
 refine kI hT hC b9 ?_
 refine kP hC true b9 ?_
 exact Vc.nil kM
 iterate 4 refine kF hC b9 ?_
 refine kP hC false b9 ?_
 exact Vc.nil kM
 refine kS h ?_ ?_ <;> intro b10 h
 refine kt b10 (Xac ?_)
 refine kO hT hC ?_
 refine Vc.nil (Xah (Xh8 (Xav ?_)))
 obtain rfl := kj h
 refine Yaa (Xz3 ?_)
 exact Xct (Xkp.refl _) rfl trivial
 refine kf b10 (Xag (Xaq (Xaf (Xad ?_))))
 iterate 3 refine kO hT hC ?_
 exact Vc.nil kG
 exact kf b8 (Xas (Xaz kb))
 intro v6 e
 subst e
 refine Xaf (Xac ?_)
 refine kO hT hC ?_
 exact Vc.nil (Xah kR)
 intro r' σ' e hE
 subst e
 obtain rfl := kj h
 refine Xav ?_
 exact hE
def Yh1 (r : Xnf) : AV := .ptr 16 0
def Yh0 (r : Xnf) : Xa6 := [(16, .box [.sv (.str r.row_), .sv (.int .i64 r.at_), .sv (.bool r.bad_)])]
theorem Xm2 {p0 p1 r} (h : Xhs p0 p1 = some r) : AC Tryz.prog 184 [.sv (.str p0), .sv (.int .i64 p1)] [] (Yh1 r) (Yh0 r) := by
 refine Xae hT Tryz.func184 rfl fun C hC => ?_
 unfold Xhs at h
 refine Xac ?_
 refine kO hT hC ?_
 refine Vc.nil ?_
 refine kL [0,1] [] [_,_] [] ?_
 refine kA h (fun v1 => ([(4, .ptr 321 0), (0, .any), (1, .any)], [(321, some (.box [.sv (.str p0), .sv (.int .i64 p1), .sv (.bool v1)]))])) (fun v1 h => ?_) fun v1 h => ?_
 refine Xad ?_
 iterate 3 refine kO hT hC ?_
 refine kC hC [] Tryz.call215 h (fun _ => Xy2) fun q2 h => ?_
 iterate 2 refine kO hT hC ?_
 refine kS h ?_ ?_ <;> intro b1 h
 iterate 3 refine kI hT hC (kn b1) ?_
 refine kE hC (kn b1) [] Tryz.call116 h (fun _ => Xai) fun q3 h => ?_
 refine kI hT hC (kn b1) ?_
 refine kP hC false (kn b1) ?_
 iterate 3 refine kO hT hC ?_
 refine Vc.nil ?_
 obtain rfl := kj h
 exact Xhc (kW hC [(321, 288)])
 iterate 5 refine kF hC (kn b1) ?_
 refine kP hC true (kn b1) ?_
 iterate 3 refine kO hT hC ?_
 refine Vc.nil ?_
 obtain rfl := kj h
 exact Xhc (kW hC [(321, 288)])
 refine Xah ?_
 obtain rfl := kj h
 exact Xct (τ := ⟨[(4, .ptr 16 0)], [(16, some (.box [.sv (.str p0), .sv (.int .i64 p1), .sv (.bool v1)]))]⟩) (kW hC [(16, 321)]) rfl ⟨rfl, trivial⟩
def Ybx (r : (Int × Xnf)) : AV := .sv (.int .i64 r.1)
def Ybw (r : (Int × Xnf)) : Xa6 := [(0, .box [.sv (.str r.2.row_), .sv (.int .i64 r.2.at_), .sv (.bool r.2.bad_)])]
theorem Xdg {p0 p1 r} (h : Xcf p0 p1 = some r) : AC Tryz.prog 186 [.ptr 0 0, .sv (.int .i64 p1)] [(0, .box [.sv (.str p0.row_), .sv (.int .i64 p0.at_), .sv (.bool p0.bad_)])] (Ybx r) (Ybw r) := by
 refine Xae hT Tryz.func186 rfl fun C hC => ?_
 unfold Xcf at h
 refine Xac ?_
 refine kO hT hC ?_
 refine Vc.nil (Xat ?_)
 refine kL [0,1] [0] [_,_] [_] ?_
 refine kA h (fun v1 => ([(24, .sv (.bool v1))], [])) (fun v1 h => ?_) fun v1 h => ?_
 refine Xei hm ?_
 iterate 5 refine kO hT hC ?_
 refine kS h ?_ ?_ <;> intro b1 h
 iterate 12 refine kF hC b1 ?_
 refine kP hC true b1 ?_
 exact kD kM
 iterate 12 refine kI hT hC b1 ?_
 refine kP hC false b1 ?_
 exact kD kM
 refine kS h ?_ ?_ <;> intro b2 h
 refine kt b2 (Xac ?_)
 iterate 4 refine kO hT hC ?_
 refine kN ?_
 refine kO hT hC ?_
 refine Vc.nil (Xah (Xav ?_))
 obtain rfl := kj h
 exact Xct (Xkp.refl _) rfl ⟨rfl, trivial⟩
 refine kf b2 (Xag (Xaf (Xac ?_)))
 refine kO hT hC ?_
 refine Vc.nil (Xat (Xac ?_))
 refine kO hT hC ?_
 refine Vc.nil ?_
 refine kL [0,1,5,6] [0] [_,_,_,_] [_] ?_
 refine kX h (fun v3 => ([(5, .sv (.int .i64 v3.1)), (6, .sv (.int .i64 v3.2))], [])) (fun v5 => ([(5, .sv (.int .i64 v5)), (6, .any)], [])) (kW hC []) (fun v3 s h => ?_) fun v5 h => ?_
 unfold Xgn at h
 refine Xat (Xac ?_)
 iterate 3 refine kO hT hC ?_
 refine Vc.nil ?_
 refine kS h ?_ ?_ <;> intro b5 h
 refine kt b5 (Xag (Xaf (Xat (Xao ?_))))
 refine Xei hm ?_
 refine kO hT hC ?_
 refine kQ hT hC h fun h => ?_
 iterate 10 refine kO hT hC ?_
 refine kQ hT hC h fun h => ?_
 iterate 4 refine kO hT hC ?_
 refine kD (Xaq (Xaf (Xad ?_)))
 iterate 3 refine kO hT hC ?_
 exact Vc.nil kG
 exact kf b5 (Xas (Xaz ku))
 refine Xaf (Xac ?_)
 iterate 10 refine kO hT hC ?_
 refine kN ?_
 iterate 2 refine kO hT hC ?_
 refine Vc.nil (Xah ?_)
 obtain rfl := kj h
 exact Xct (Xkp.refl _) rfl ⟨rfl, trivial⟩
def Yet (r : (Int × Xnf)) : AV := .sv (.int .i64 r.1)
def Yes (r : (Int × Xnf)) : Xa6 := [(0, .box [.sv (.str r.2.row_), .sv (.int .i64 r.2.at_), .sv (.bool r.2.bad_)])]
theorem Xcg {p0 r} (h : Xbs p0 = some r) : AC Tryz.prog 185 [.ptr 0 0] [(0, .box [.sv (.str p0.row_), .sv (.int .i64 p0.at_), .sv (.bool p0.bad_)])] (Yet r) (Yes r) := by
 refine Xae hT Tryz.func185 rfl fun C hC => ?_
 unfold Xbs at h
 refine Xac ?_
 refine kO hT hC ?_
 refine kN ?_
 refine kO hT hC ?_
 refine Vc.nil (Xat ?_)
 refine kL [0,3] [0] [_,_] [_] ?_
 refine kX h (fun v3 => ([(3, .sv (.int .i64 v3))], [])) (fun v6 => ([(3, .sv (.int .i64 v6))], [])) (kW hC []) (fun v3 s h => ?_) fun v6 h => ?_
 unfold Xht at h
 refine Xat ?_
 refine kL [0,3] [0] [_,_] [_] ?_
 refine kA h (fun v7 => ([(37, .sv (.bool v7))], [])) (fun v7 h => ?_) fun v7 h => ?_
 refine Xei hm ?_
 iterate 6 refine kO hT hC ?_
 refine kS h ?_ ?_ <;> intro b7 h
 iterate 12 refine kF hC (kn b7) ?_
 refine kP hC false (kn b7) ?_
 refine kO hT hC ?_
 iterate 12 refine kF hC rfl ?_
 refine kO hT hC ?_
 exact kD kM
 iterate 12 refine kI hT hC (kn b7) ?_
 refine kP hC true (kn b7) ?_
 refine kO hT hC ?_
 refine kS h ?_ ?_ <;> intro b8 h
 iterate 10 refine kI hT hC b8 ?_
 refine kJ hT hC b8 h fun h => ?_
 refine kI hT hC b8 ?_
 refine kP hC true b8 ?_
 exact kD kM
 iterate 12 refine kF hC b8 ?_
 refine kP hC false b8 ?_
 exact kD kM
 refine kS h ?_ ?_ <;> intro b9 h
 refine kt b9 (Xag (Xaf (Xao (Xad ?_))))
 iterate 3 refine kO hT hC ?_
 exact Vc.nil (Xaq kG)
 exact kf b9 (Xas (Xaz ku))
 refine Xaf ?_
 refine kL [0,3] [0] [_,_] [_] ?_
 refine kA h (fun v9 => ([], [(0, some (.box [.sv (.str p0.row_), .sv (.int .i64 p0.at_), .sv (.bool v9)]))])) (fun v9 h => ?_) fun v9 h => ?_
 refine Xac ?_
 iterate 2 refine kO hT hC ?_
 refine Vc.nil ?_
 refine kS h ?_ ?_ <;> intro b10 h
 refine kt b10 (Xad ?_)
 iterate 4 refine kO hT hC ?_
 exact Vc.nil kM
 exact kf b10 (Xag kM)
 refine Xac ?_
 iterate 4 refine kO hT hC ?_
 refine kC hC [(0, 0)] Tryz.call186 h (fun _ => Xdg) fun q10 h => ?_
 iterate 2 refine kO hT hC ?_
 refine Vc.nil (Xat ?_)
 refine kL [0,4] [0] [_,_] [_] ?_
 refine kA h (fun v11 => ([(58, .sv (.bool v11))], [])) (fun v11 h => ?_) fun v11 h => ?_
 refine Xad ?_
 iterate 5 refine kO hT hC ?_
 refine kS h ?_ ?_ <;> intro b11 h
 iterate 2 refine kF hC b11 ?_
 refine kP hC true b11 ?_
 exact Vc.nil kM
 iterate 2 refine kI hT hC b11 ?_
 refine kP hC false b11 ?_
 exact Vc.nil kM
 refine kS h ?_ ?_ <;> intro b12 h
 refine kt b12 (Xac ?_)
 iterate 4 refine kO hT hC ?_
 refine kN ?_
 refine kO hT hC ?_
 refine Vc.nil (Xah (Xav ?_))
 obtain rfl := kj h
 exact Xct (Xkp.refl _) rfl ⟨rfl, trivial⟩
 refine kf b12 (Xag (Xaf (Xac ?_)))
 iterate 2 refine kO hT hC ?_
 refine Vc.nil (Xah ?_)
 obtain rfl := kj h
 exact Xct (Xkp.refl _) rfl ⟨rfl, trivial⟩
def Xzv (r : ((List Int) × Xnf)) : AV := .own 16
def Xzu (r : ((List Int) × Xnf)) : Xa6 := [(16, .ints .i64 r.1), (0, .box [.sv (.str r.2.row_), .sv (.int .i64 r.2.at_), .sv (.bool r.2.bad_)])]
theorem Xrh {p0 r} (h : Xg1 p0 = some r) : AC Tryz.prog 187 [.ptr 0 0] [(0, .box [.sv (.str p0.row_), .sv (.int .i64 p0.at_), .sv (.bool p0.bad_)])] (Xzv r) (Xzu r) := by
 refine Xae hT Tryz.func187 rfl fun C hC => ?_
 unfold Xg1 at h
 refine Xac ?_
 refine kO hT hC ?_
 refine kN ?_
 iterate 2 refine kO hT hC ?_
 refine kN ?_
 refine kO hT hC ?_
 refine kC hC [(0, 0)] Tryz.call185 h (fun _ => Xcg) fun q1 h => ?_
 refine kO hT hC ?_
 refine Vc.nil ?_
 refine kL [0,3,4] [0,96] [_,_,_] [_,_] ?_
 refine kA h (fun v2 => ([], [(0, some (.box [.sv (.str q1.2.row_), .sv (.int .i64 q1.2.at_), .sv (.bool v2)]))])) (fun v2 h => ?_) fun v2 h => ?_
 refine Xac ?_
 iterate 2 refine kO hT hC ?_
 refine Vc.nil ?_
 refine kS h ?_ ?_ <;> intro b1 h
 refine kt b1 (Xad ?_)
 iterate 4 refine kO hT hC ?_
 exact Vc.nil kM
 exact kf b1 (Xag kM)
 refine Xat (Xac ?_)
 refine kO hT hC ?_
 refine Vc.nil ?_
 refine kL [0,3,4,5] [0,96] [_,_,_,_] [_,_] ?_
 refine kX h (fun v6 => ([(5, .sv (.int .i64 v6.1))], [(0, some (.box [.sv (.str v6.2.1), .sv (.int .i64 v6.2.2.1), .sv (.bool v6.2.2.2.1)])), (96, some (.ints .i64 v6.2.2.2.2))])) (fun v10 => ([(0, .any), (4, .any), (5, .any)], [(0, some (.box [.sv (.str v10.2.1), .sv (.int .i64 v10.2.2.1), .sv (.bool v10.2.2.2)])), (96, some (.ints .i64 v10.1))])) (kW hC []) (fun v6 s h => ?_) fun v10 h => ?_
 unfold Xfl at h
 refine Xat ?_
 refine kL [0,3,4,5] [0,96] [_,_,_,_] [_,_] ?_
 refine kA h (fun v11 => ([(23, .sv (.bool v11))], [])) (fun v11 h => ?_) fun v11 h => ?_
 refine Xad ?_
 iterate 4 refine kO hT hC ?_
 refine kS h ?_ ?_ <;> intro b6 h
 iterate 5 refine kI hT hC b6 ?_
 refine kP hC true b6 ?_
 exact Vc.nil kM
 iterate 5 refine kF hC b6 ?_
 refine kP hC false b6 ?_
 exact Vc.nil kM
 refine kS h ?_ ?_ <;> intro b7 h
 refine kt b7 (Xag (Xaf (Xat (Xao (Xad ?_)))))
 iterate 2 refine kO hT hC ?_
 refine kC hC [(0, 0)] Tryz.call185 h (fun _ => Xcg) fun q12 h => ?_
 refine kO hT hC ?_
 refine kT hT hC h fun h => ?_
 refine kO hT hC ?_
 refine Vc.nil (Xaq (Xaf (Xad ?_)))
 iterate 3 refine kO hT hC ?_
 refine Vc.nil ?_
 obtain rfl := kj h
 exact Ylx (kW hC [(96, 480)])
 exact kf b7 (Xas (Xaz ku))
 refine Xaf (Xac ?_)
 iterate 2 refine kO hT hC ?_
 refine Vc.nil (Xah ?_)
 obtain rfl := kj h
 exact Xct (τ := ⟨[(2, .own 16)], [(16, some (.ints .i64 v10.1)), (0, some (.box [.sv (.str v10.2.1), .sv (.int .i64 v10.2.2.1), .sv (.bool v10.2.2.2)]))]⟩) (kW hC [(16, 96)]) rfl ⟨rfl, rfl, trivial⟩
def Yd5 (r : (Seq × Int × Bool)) : AV := .tup [.agg [.sv (.int .i64 r.1.Level), .sv (.int .i64 r.1.Bits), .own 16, .own 17], .sv (.int .i64 r.2.1), .sv (.bool r.2.2)]
def Yd4 (r : (Seq × Int × Bool)) : Xa6 := [(16, .ints .i64 r.1.Cols), (17, .ints .i64 r.1.Rows)]
theorem Yg7 {p0 p1 r} (h : Xj7 p0 p1 = some r) : AC Tryz.prog 113 [.sv (.str p0), .sv (.int .i64 p1)] [] (Yd5 r) (Yd4 r) := by
 refine Xae hT Tryz.func113 rfl fun C hC => ?_
 unfold Xj7 at h
 refine Xac ?_
 iterate 3 refine kO hT hC ?_
 refine kN ?_
 iterate 2 refine kO hT hC ?_
 refine kC hC [(16, 176)] Tryz.call184 h (fun _ => Xm2) fun q1 h => ?_
 refine kO hT hC ?_
 refine kN ?_
 iterate 3 refine kO hT hC ?_
 refine kN ?_
 refine kO hT hC ?_
 refine kC hC [(0, 176)] Tryz.call185 h (fun _ => Xcg) fun q2 h => ?_
 iterate 2 refine kO hT hC ?_
 refine kN ?_
 refine kO hT hC ?_
 refine kC hC [(0, 176)] Tryz.call186 h (fun _ => Xdg) fun q3 h => ?_
 iterate 2 refine kO hT hC ?_
 refine kN ?_
 refine kO hT hC ?_
 refine kC hC [(16, 320), (0, 176)] Tryz.call187 h (fun _ => Xrh) fun q4 h => ?_
 iterate 2 refine kO hT hC ?_
 refine kN ?_
 refine kO hT hC ?_
 refine kC hC [(16, 368), (0, 176)] Tryz.call187 h (fun _ => Xrh) fun q5 h => ?_
 iterate 2 refine kO hT hC ?_
 refine Vc.nil (Xat ?_)
 refine kL [4,7,8] [64,128,176,320,368] [_,_,_] [_,_,_,_,_] ?_
 refine kA h (fun v6 => ([(33, .sv (.bool v6))], [])) (fun v6 h => ?_) fun v6 h => ?_
 refine Xad ?_
 iterate 5 refine kO hT hC ?_
 refine kS h ?_ ?_ <;> intro b1 h
 iterate 3 refine kF hC b1 ?_
 refine kP hC true b1 ?_
 exact Vc.nil kM
 refine kI hT hC b1 ?_
 refine kE hC b1 [] Tryz.call182 h (fun _ => Xic) fun q7 h => ?_
 refine kI hT hC b1 ?_
 refine kP hC false b1 ?_
 exact Vc.nil kM
 refine kS h ?_ ?_ <;> intro b2 h
 refine kt b2 (Xac ?_)
 iterate 4 refine kO hT hC ?_
 refine Vc.nil (Xah (Xav ?_))
 obtain rfl := kj h
 refine Xct (τ := ⟨[(4, .ptr 2000000 0), (5, .sv (.int .i64 0)), (6, .sv (.bool false))], [(16, some (.ints .i64 [])), (17, some (.ints .i64 [])), (2000000, some (.box [.sv (.int .i64 0), .sv (.int .i64 0), .own 16, .own 17]))]⟩) ?_ rfl ⟨rfl, rfl, trivial⟩
 refine Xpu hC 64 2 657 (.ints .i64 []) rfl rfl rfl rfl rfl trivial ?_
 refine Xpu hC 64 3 658 (.ints .i64 []) rfl rfl rfl rfl rfl trivial ?_
 apply Xe8 hC [(16, 657), (17, 658), (2000000, 64)]
 exact co
 rfl
 decide
 rfl
 refine kf b2 (Xag (Xaf ?_))
 refine Xb8 hm ?_
 iterate 8 refine kO hT hC ?_
 refine kD (Xah ?_)
 obtain rfl := kj h
 exact Xct (τ := ⟨[(4, .ptr 2000000 0), (5, .sv (.int .i64 q5.2.at_)), (6, .sv (.bool true))], [(16, some (.ints .i64 q4.1)), (17, some (.ints .i64 q5.1)), (2000000, some (.box [.sv (.int .i64 q2.1), .sv (.int .i64 q3.1), .own 16, .own 17]))]⟩) (kW hC [(16, 320), (17, 368), (2000000, 64)]) rfl ⟨rfl, rfl, trivial⟩
def Yd3 (r : (Par × Int × Bool)) : AV := .tup [.agg [.sv (.int .i64 r.1.Qp), .sv (.bool r.1.Large), .sv (.bool r.1.Exact), .sv (.bool r.1.Confined)], .sv (.int .i64 r.2.1), .sv (.bool r.2.2)]
def Yd2 (r : (Par × Int × Bool)) : Xa6 := []
theorem Yg6 {p0 p1 r} (h : Xj6 p0 p1 = some r) : AC Tryz.prog 114 [.sv (.str p0), .sv (.int .i64 p1)] [] (Yd3 r) (Yd2 r) := by
 refine Xae hT Tryz.func114 rfl fun C hC => ?_
 unfold Xj6 at h
 refine Xac ?_
 iterate 3 refine kO hT hC ?_
 refine kN ?_
 iterate 2 refine kO hT hC ?_
 refine kC hC [(16, 176)] Tryz.call184 h (fun _ => Xm2) fun q1 h => ?_
 refine kO hT hC ?_
 refine kN ?_
 refine kO hT hC ?_
 refine kC hC [(0, 176)] Tryz.call186 h (fun _ => Xdg) fun q2 h => ?_
 iterate 3 refine kO hT hC ?_
 refine kN ?_
 refine kO hT hC ?_
 refine kC hC [(0, 176)] Tryz.call186 h (fun _ => Xdg) fun q3 h => ?_
 iterate 3 refine kO hT hC ?_
 refine kN ?_
 refine kO hT hC ?_
 refine kC hC [(0, 176)] Tryz.call186 h (fun _ => Xdg) fun q4 h => ?_
 iterate 3 refine kO hT hC ?_
 refine kN ?_
 refine kO hT hC ?_
 refine kC hC [(0, 176)] Tryz.call186 h (fun _ => Xdg) fun q5 h => ?_
 iterate 3 refine kO hT hC ?_
 refine Vc.nil (Xat ?_)
 refine kL [4,7,8] [64,128,176] [_,_,_] [_,_,_] ?_
 refine kA h (fun v6 => ([(35, .sv (.bool v6))], [])) (fun v6 h => ?_) fun v6 h => ?_
 refine Xad ?_
 iterate 5 refine kO hT hC ?_
 refine kS h ?_ ?_ <;> intro b1 h
 iterate 3 refine kF hC b1 ?_
 refine kP hC true b1 ?_
 exact Vc.nil kM
 refine kI hT hC b1 ?_
 refine kE hC b1 [] Tryz.call69 h (fun _ => Xer) fun q7 h => ?_
 refine kI hT hC b1 ?_
 refine kP hC false b1 ?_
 exact Vc.nil kM
 refine kS h ?_ ?_ <;> intro b2 h
 refine kt b2 (Xac ?_)
 iterate 4 refine kO hT hC ?_
 exact Vc.nil (Xah (Xav kR))
 refine kf b2 (Xag (Xaf ?_))
 refine Xb8 hm ?_
 iterate 8 refine kO hT hC ?_
 exact kD (Xah kR)
def Ygz (r : (Int × Bool)) : AV := .tup [.sv (.int .i64 r.1), .sv (.bool r.2)]
def Ygy (r : (Int × Bool)) : Xa6 := []
theorem Yjx {p0 r} (h : Xo4 p0 = some r) : AC Tryz.prog 250 [.sv (.int .i64 p0)] [] (Ygz r) (Ygy r) := by
 refine Xae hT Tryz.func250 rfl fun C hC => ?_
 unfold Xo4 at h
 refine Xac ?_
 iterate 2 refine kO hT hC ?_
 refine Vc.nil (Xat (Xao (Xac ?_)))
 refine kO hT hC ?_
 refine kC hC [] Tryz.call116 h (fun _ => Xai) fun q1 h => ?_
 iterate 2 refine kO hT hC ?_
 refine Vc.nil ?_
 refine kS h ?_ ?_ <;> intro b1 h
 refine kt b1 (Xac ?_)
 iterate 2 refine kO hT hC ?_
 exact Vc.nil (Xah (Xh8 (Xav kR)))
 refine kf b1 (Xac ?_)
 refine kO hT hC ?_
 refine kQ hT hC h fun h => ?_
 iterate 2 refine kO hT hC ?_
 refine Vc.nil ?_
 refine kS h ?_ ?_ <;> intro b2 h
 refine kt b2 (Xac ?_)
 iterate 2 refine kO hT hC ?_
 refine kQ hT hC h fun h => ?_
 iterate 2 refine kO hT hC ?_
 exact Vc.nil (Xah (Xh8 (Xav kR)))
 refine kf b2 (Xag (Xaq (Xaf (Xac ?_))))
 iterate 2 refine kO hT hC ?_
 refine kQ hT hC h fun h => ?_
 iterate 2 refine kO hT hC ?_
 exact Vc.nil (Xah kR)
def Yer (r : (Int × Xnf)) : AV := .sv (.int .i64 r.1)
def Yeq (r : (Int × Xnf)) : Xa6 := [(0, .box [.sv (.str r.2.row_), .sv (.int .i64 r.2.at_), .sv (.bool r.2.bad_)])]
theorem Xk9 {p0 r} (h : Xdw p0 = some r) : AC Tryz.prog 216 [.ptr 0 0] [(0, .box [.sv (.str p0.row_), .sv (.int .i64 p0.at_), .sv (.bool p0.bad_)])] (Yer r) (Yeq r) := by
 refine Xae hT Tryz.func216 rfl fun C hC => ?_
 unfold Xdw at h
 refine Xac ?_
 refine kO hT hC ?_
 refine kN ?_
 refine kO hT hC ?_
 refine kC hC [(0, 0)] Tryz.call185 h (fun _ => Xcg) fun q1 h => ?_
 refine kC hC [] Tryz.call250 h (fun _ => Yjx) fun q2 h => ?_
 iterate 5 refine kO hT hC ?_
 refine Vc.nil ?_
 refine kL [0,3,4] [0] [_,_,_] [_] ?_
 refine kA h (fun v3 => ([(0, .any), (4, .any)], [(0, some (.box [.sv (.str q1.2.row_), .sv (.int .i64 q1.2.at_), .sv (.bool v3)]))])) (fun v3 h => ?_) fun v3 h => ?_
 refine Xad ?_
 iterate 6 refine kO hT hC ?_
 refine kS h ?_ ?_ <;> intro b1 h
 iterate 2 refine kF hC b1 ?_
 refine kP hC true b1 ?_
 iterate 3 refine kO hT hC ?_
 exact Vc.nil kM
 iterate 2 refine kI hT hC b1 ?_
 refine kP hC false b1 ?_
 iterate 3 refine kO hT hC ?_
 exact Vc.nil kM
 refine Xac ?_
 iterate 2 refine kO hT hC ?_
 refine Vc.nil (Xah ?_)
 obtain rfl := kj h
 exact Xct (Xkp.refl _) rfl ⟨rfl, trivial⟩
def Ygp (r : Bool) : AV := .sv (.bool r)
def Ygo (r : Bool) : Xa6 := []
theorem Xv5 {p0 p1 p2 r} (h : Xl4 p0 p1 p2 = some r) : AC Tryz.prog 132 [.agg [.sv (.int .i64 p0.Level), .sv (.int .i64 p0.Bits), .sv (.ints .i64 p0.Cols), .sv (.ints .i64 p0.Rows)], .agg [.sv (.int .i64 p1.Qp), .sv (.bool p1.Large), .sv (.bool p1.Exact), .sv (.bool p1.Confined)], .agg [.sv (.int .i64 p2.Tile), .sv (.int .i64 p2.Frame), .sv (.int .i64 p2.Qp)]] [] (Ygp r) (Ygo r) := by
 refine Xae hT Tryz.func132 rfl fun C hC => ?_
 unfold Xl4 at h
 refine Xac ?_
 iterate 4 refine kO hT hC ?_
 refine Vc.nil ?_
 refine kL [3,4,5,6] [48,64,80] [_,_,_,_] [_,_,_] ?_
 refine kA h (fun v1 => ([(6, .sv (.bool v1)), (3, .any), (4, .any), (5, .any)], [(48, none), (64, none), (80, none)])) (fun v1 h => ?_) fun v1 h => ?_
 refine Xei hm ?_
 refine kO hT hC ?_
 refine kC hC [] Tryz.call182 h (fun _ => Xic) fun q2 h => ?_
 refine kO hT hC ?_
 refine kS h ?_ ?_ <;> intro b1 h
 refine kI hT hC b1 ?_
 refine kE hC b1 [] Tryz.call69 h (fun _ => Xer) fun q3 h => ?_
 refine kP hC true b1 ?_
 refine kO hT hC ?_
 refine kS h ?_ ?_ <;> intro b2 h
 iterate 3 refine kI hT hC b2 ?_
 refine kE hC b2 [] Tryz.call123 h (fun _ => Xk4) fun q4 h => ?_
 refine kI hT hC b2 ?_
 refine kE hC b2 [] Tryz.call116 h (fun _ => Xai) fun q5 h => ?_
 refine kP hC true b2 ?_
 refine kO hT hC ?_
 refine kS h ?_ ?_ <;> intro b3 h
 iterate 4 refine kI hT hC b3 ?_
 refine kJ hT hC b3 h fun h => ?_
 refine kI hT hC b3 ?_
 refine kE hC b3 [] Tryz.call116 h (fun _ => Xai) fun q6 h => ?_
 refine kP hC true b3 ?_
 refine kO hT hC ?_
 refine kS h ?_ ?_ <;> intro b4 h
 iterate 2 refine kI hT hC b4 ?_
 refine kE hC b4 [] Tryz.call116 h (fun _ => Xai) fun q7 h => ?_
 refine kP hC true b4 ?_
 refine kO hT hC ?_
 exact kD kM
 iterate 3 refine kF hC b4 ?_
 refine kP hC false b4 ?_
 refine kO hT hC ?_
 exact kD kM
 iterate 7 refine kF hC b3 ?_
 refine kP hC false b3 ?_
 refine kO hT hC ?_
 iterate 3 refine kF hC rfl ?_
 iterate 2 refine kO hT hC ?_
 exact kD kM
 iterate 6 refine kF hC b2 ?_
 refine kP hC false b2 ?_
 refine kO hT hC ?_
 iterate 7 refine kF hC rfl ?_
 iterate 2 refine kO hT hC ?_
 iterate 3 refine kF hC rfl ?_
 iterate 2 refine kO hT hC ?_
 exact kD kM
 iterate 2 refine kF hC b1 ?_
 refine kP hC false b1 ?_
 refine kO hT hC ?_
 iterate 6 refine kF hC rfl ?_
 iterate 2 refine kO hT hC ?_
 iterate 7 refine kF hC rfl ?_
 iterate 2 refine kO hT hC ?_
 iterate 3 refine kF hC rfl ?_
 iterate 2 refine kO hT hC ?_
 exact kD kM
 exact Xah kR
def Ybg (r : (Xu1 × Int × Bool)) : AV := .tup [.agg [.sv (.int .i64 r.1.Tile), .sv (.int .i64 r.1.Frame), .sv (.int .i64 r.1.Qp)], .sv (.int .i64 r.2.1), .sv (.bool r.2.2)]
def Ybf (r : (Xu1 × Int × Bool)) : Xa6 := []
theorem Yd1 {p0 p1 p2 r} (h : Xf9 p0 p1 p2 = some r) : AC Tryz.prog 143 [.agg [.sv (.int .i64 p0.Level), .sv (.int .i64 p0.Bits), .sv (.ints .i64 p0.Cols), .sv (.ints .i64 p0.Rows)], .agg [.sv (.int .i64 p1.Qp), .sv (.bool p1.Large), .sv (.bool p1.Exact), .sv (.bool p1.Confined)], .sv (.str p2)] [] (Ybg r) (Ybf r) := by
 refine Xae hT Tryz.func143 rfl fun C hC => ?_
 unfold Xf9 at h
 refine Xac ?_
 iterate 5 refine kO hT hC ?_
 refine kN ?_
 refine kO hT hC ?_
 refine kC hC [(16, 192)] Tryz.call184 h (fun _ => Xm2) fun q1 h => ?_
 refine kO hT hC ?_
 refine Vc.nil (Xat ?_)
 refine kL [3,4,6,9] [48,64,96,192] [_,_,_,_] [_,_,_,_] ?_
 refine kA h (fun v2 => ([(20, .sv (.bool v2))], [])) (fun v2 h => ?_) fun v2 h => ?_
 refine Xad ?_
 refine kO hT hC ?_
 refine kC hC [] Tryz.call182 h (fun _ => Xic) fun q3 h => ?_
 iterate 2 refine kO hT hC ?_
 refine kS h ?_ ?_ <;> intro b1 h
 refine kI hT hC (kn b1) ?_
 refine kE hC (kn b1) [] Tryz.call69 h (fun _ => Xer) fun q4 h => ?_
 refine kI hT hC (kn b1) ?_
 refine kP hC false (kn b1) ?_
 exact Vc.nil kM
 iterate 3 refine kF hC (kn b1) ?_
 refine kP hC true (kn b1) ?_
 exact Vc.nil kM
 refine kS h ?_ ?_ <;> intro b2 h
 refine kt b2 (Xac ?_)
 iterate 4 refine kO hT hC ?_
 exact Vc.nil (Xah (Xav kR))
 refine kf b2 (Xag (Xaf (Xac ?_)))
 refine kO hT hC ?_
 refine kC hC [(0, 192)] Tryz.call185 h (fun _ => Xcg) fun q5 h => ?_
 iterate 3 refine kO hT hC ?_
 refine kN ?_
 iterate 3 refine kO hT hC ?_
 refine kC hC [(0, 192)] Tryz.call186 h (fun _ => Xdg) fun q6 h => ?_
 iterate 2 refine kO hT hC ?_
 refine kN ?_
 refine kO hT hC ?_
 refine kC hC [(0, 192)] Tryz.call216 h (fun _ => Xk9) fun q7 h => ?_
 iterate 2 refine kO hT hC ?_
 refine kN ?_
 iterate 7 refine kO hT hC ?_
 refine Vc.nil (Xat ?_)
 refine kL [3,4,6,9,10] [48,64,96,160,192] [_,_,_,_,_] [_,_,_,_,_] ?_
 refine kA h (fun v8 => ([(49, .sv (.bool v8)), (3, .any), (4, .any)], [(48, none), (64, none)])) (fun v8 h => ?_) fun v8 h => ?_
 refine Xad ?_
 iterate 5 refine kO hT hC ?_
 refine kS h ?_ ?_ <;> intro b3 h
 iterate 5 refine kF hC b3 ?_
 refine kP hC true b3 ?_
 exact Vc.nil kM
 iterate 3 refine kI hT hC b3 ?_
 refine kE hC b3 [] Tryz.call132 h (fun _ => Xv5) fun q9 h => ?_
 refine kI hT hC b3 ?_
 refine kP hC false b3 ?_
 exact Vc.nil kM
 refine kS h ?_ ?_ <;> intro b4 h
 refine kt b4 (Xac ?_)
 iterate 4 refine kO hT hC ?_
 exact Vc.nil (Xah (Xav kR))
 refine kf b4 (Xag (Xaf ?_))
 refine Xb8 hm ?_
 iterate 8 refine kO hT hC ?_
 exact kD (Xah kR)
def Ygj (r : Bool) : AV := .sv (.bool r)
def Ygi (r : Bool) : Xa6 := []
theorem Xey {p0 r} (h : Xd2 p0 = some r) : AC Tryz.prog 127 [.agg [.sv (.bool p0.Key), .sv (.int .i64 p0.Qp), .sv (.bool p0.Large), .sv (.bool p0.Exact)]] [] (Ygj r) (Ygi r) := by
 refine Xae hT Tryz.func127 rfl fun C hC => ?_
 unfold Xd2 at h
 refine Xac ?_
 iterate 2 refine kO hT hC ?_
 refine Vc.nil ?_
 refine kL [1,2] [16] [_,_] [_] ?_
 refine kA h (fun v1 => ([(2, .sv (.bool v1)), (1, .any)], [(16, none)])) (fun v1 h => ?_) fun v1 h => ?_
 refine Xad ?_
 iterate 2 refine kO hT hC ?_
 refine kC hC [] Tryz.call116 h (fun _ => Xai) fun q2 h => ?_
 refine kO hT hC ?_
 refine kS h ?_ ?_ <;> intro b1 h
 iterate 3 refine kI hT hC b1 ?_
 refine kS h ?_ ?_ <;> intro b2 h
 iterate 2 refine kI hT hC b2 ?_
 refine Xax hC rfl rfl rfl rfl b1 rfl rfl (b := true) b2 rfl rfl rfl trivial ?_
 refine kI hT hC b1 ?_
 refine kP hC true b1 ?_
 refine kO hT hC ?_
 exact Vc.nil kM
 iterate 2 refine kF hC b2 ?_
 refine Xax hC rfl rfl rfl rfl b1 rfl rfl (b := false) b2 rfl rfl rfl trivial ?_
 refine kI hT hC b1 ?_
 refine kP hC true b1 ?_
 refine kO hT hC ?_
 exact Vc.nil kM
 iterate 3 refine kF hC b1 ?_
 iterate 2 refine Xde hC rfl rfl rfl rfl rfl rfl ?_
 iterate 2 refine kF hC b1 ?_
 refine kP hC false b1 ?_
 refine kO hT hC ?_
 exact Vc.nil kM
 exact Xah kR
def Xzx (r : ((List Int) × Xnf)) : AV := .own 16
def Xzw (r : ((List Int) × Xnf)) : Xa6 := [(16, .ints .i64 r.1), (0, .box [.sv (.str r.2.row_), .sv (.int .i64 r.2.at_), .sv (.bool r.2.bad_)])]
theorem Xri {p0 p1 r} (h : Xg2 p0 p1 = some r) : AC Tryz.prog 297 [.ptr 0 0, .sv (.int .i64 p1)] [(0, .box [.sv (.str p0.row_), .sv (.int .i64 p0.at_), .sv (.bool p0.bad_)])] (Xzx r) (Xzw r) := by
 refine Xae hT Tryz.func297 rfl fun C hC => ?_
 unfold Xg2 at h
 refine Xac ?_
 refine kO hT hC ?_
 refine kN ?_
 refine kO hT hC ?_
 obtain ⟨hq, h⟩ := Xau h
 refine Ylk hT hC rfl rfl rfl rfl ⟨hq.1, hq.2.1, hq.2.2, by decide⟩ ?_
 refine kO hT hC ?_
 refine kN ?_
 refine kO hT hC ?_
 refine Vc.nil (Xat (Xac ?_))
 refine kO hT hC ?_
 refine kC hC [(0, 0)] Tryz.call185 h (fun _ => Xcg) fun q1 h => ?_
 refine kO hT hC ?_
 refine Vc.nil ?_
 refine kL [0,1,5,6,7] [0,160] [_,_,_,_,_] [_,_] ?_
 refine kX h (fun v8 => ([(6, .sv (.int .i64 v8.1)), (7, .sv (.int .i64 v8.2.1))], [(0, some (.box [.sv (.str v8.2.2.1), .sv (.int .i64 v8.2.2.2.1), .sv (.bool v8.2.2.2.2.1)])), (160, some (.ints .i64 v8.2.2.2.2.2))])) (fun v15 => ([(0, .any), (1, .any), (6, .any), (7, .any)], [(0, some (.box [.sv (.str v15.2.1), .sv (.int .i64 v15.2.2.1), .sv (.bool v15.2.2.2)])), (160, some (.ints .i64 v15.1))])) (kW hC []) (fun v8 s h => ?_) fun v15 h => ?_
 unfold Xfm at h
 refine Xat ?_
 refine kL [0,1,5,6,7] [0,160] [_,_,_,_,_] [_,_] ?_
 refine kA h (fun v16 => ([(21, .sv (.bool v16))], [])) (fun v16 h => ?_) fun v16 h => ?_
 refine Xad ?_
 iterate 3 refine kO hT hC ?_
 refine kS h ?_ ?_ <;> intro b11 h
 iterate 5 refine kI hT hC b11 ?_
 refine kP hC true b11 ?_
 exact Vc.nil kM
 iterate 5 refine kF hC b11 ?_
 refine kP hC false b11 ?_
 exact Vc.nil kM
 refine kS h ?_ ?_ <;> intro b12 h
 refine kt b12 (Xag (Xaf (Xat (Xao (Xac ?_)))))
 iterate 2 refine kO hT hC ?_
 refine kC hC [(0, 0)] Tryz.call185 h (fun _ => Xcg) fun q17 h => ?_
 iterate 2 refine kO hT hC ?_
 refine kN ?_
 refine kO hT hC ?_
 refine kC hC [(0, 0)] Tryz.call216 h (fun _ => Xk9) fun q18 h => ?_
 refine kO hT hC ?_
 refine Vc.nil (Xat ?_)
 refine kL [0,1,5,6,7,8] [0,160] [_,_,_,_,_,_] [_,_] ?_
 refine kA h (fun v19 => ([(41, .sv (.bool v19))], [])) (fun v19 h => ?_) fun v19 h => ?_
 refine Xad ?_
 iterate 4 refine kO hT hC ?_
 refine kS h ?_ ?_ <;> intro b13 h
 iterate 2 refine kF hC b13 ?_
 refine kP hC true b13 ?_
 refine kO hT hC ?_
 iterate 3 refine kF hC rfl ?_
 refine kO hT hC ?_
 exact Vc.nil kM
 iterate 2 refine kI hT hC b13 ?_
 refine kP hC false b13 ?_
 refine kO hT hC ?_
 refine kS h ?_ ?_ <;> intro b14 h
 iterate 3 refine kF hC b14 ?_
 refine kP hC true b14 ?_
 exact Vc.nil kM
 refine kI hT hC b14 ?_
 refine kE hC b14 [] Tryz.call116 h (fun _ => Xai) fun q20 h => ?_
 refine kI hT hC b14 ?_
 refine kP hC false b14 ?_
 exact Vc.nil kM
 refine kS h ?_ ?_ <;> intro b15 h
 refine kt b15 (Xac ?_)
 iterate 4 refine kO hT hC ?_
 refine Vc.nil (Xas (Xaz ?_))
 refine Yzz rfl ?_
 exact Xaz ku
 refine kf b15 (Xag (Xaf (Xac ?_)))
 iterate 3 refine kO hT hC ?_
 iterate 2 refine kQ hT hC h fun h => ?_
 refine Vc.nil (Xad ?_)
 iterate 3 refine kO hT hC ?_
 refine Vc.nil (Xaq (Xaf (Xad ?_)))
 iterate 3 refine kO hT hC ?_
 exact Vc.nil kG
 exact kf b12 (Xas (Xaz ku))
 refine Xaf (Xac ?_)
 iterate 2 refine kO hT hC ?_
 refine Vc.nil (Xah ?_)
 obtain rfl := kj h
 exact Xct (τ := ⟨[(4, .own 16)], [(16, some (.ints .i64 v15.1)), (0, some (.box [.sv (.str v15.2.1), .sv (.int .i64 v15.2.2.1), .sv (.bool v15.2.2.2)]))]⟩) (kW hC [(16, 160)]) rfl ⟨rfl, rfl, trivial⟩
def Xvs (r : ((List Int) × Xnf)) : AV := .own 16
def Xvr (r : ((List Int) × Xnf)) : Xa6 := [(16, .ints .i64 r.1), (0, .box [.sv (.str r.2.row_), .sv (.int .i64 r.2.at_), .sv (.bool r.2.bad_)])]
theorem Xpc {p0 p1 r} (h : Xcn p0 p1 = some r) : AC Tryz.prog 265 [.ptr 0 0, .agg [.sv (.bool p1.Key), .sv (.int .i64 p1.Qp), .sv (.bool p1.Large), .sv (.bool p1.Exact)]] [(0, .box [.sv (.str p0.row_), .sv (.int .i64 p0.at_), .sv (.bool p0.bad_)])] (Xvs r) (Xvr r) := by
 refine Xae hT Tryz.func265 rfl fun C hC => ?_
 unfold Xcn at h
 refine Xac ?_
 iterate 2 refine kO hT hC ?_
 refine Vc.nil (Xat ?_)
 refine kL [0,3] [0,48] [_,_] [_,_] ?_
 refine kA h (fun v1 => ([(11, .sv (.bool v1)), (3, .any)], [(48, none)])) (fun v1 h => ?_) fun v1 h => ?_
 refine Xad ?_
 iterate 3 refine kO hT hC ?_
 refine kS h ?_ ?_ <;> intro b1 h
 iterate 2 refine kF hC b1 ?_
 refine kP hC true b1 ?_
 exact Vc.nil kM
 iterate 2 refine kI hT hC b1 ?_
 refine kP hC false b1 ?_
 exact Vc.nil kM
 refine kS h ?_ ?_ <;> intro b2 h
 refine kt b2 (Xac ?_)
 refine kO hT hC ?_
 refine kC hC [(16, 208), (0, 0)] Tryz.call297 h (fun _ => Xri) fun q2 h => ?_
 refine kO hT hC ?_
 refine Vc.nil (Xah (Xav ?_))
 obtain rfl := kj h
 exact Xct (τ := ⟨[(4, .own 16)], [(16, some (.ints .i64 q2.1)), (0, some (.box [.sv (.str q2.2.row_), .sv (.int .i64 q2.2.at_), .sv (.bool q2.2.bad_)]))]⟩) (kW hC [(16, 208)]) rfl ⟨rfl, rfl, trivial⟩
 refine kf b2 (Xag (Xaf (Xac ?_)))
 iterate 2 refine kO hT hC ?_
 refine Vc.nil (Xat (Xac ?_))
 refine kO hT hC ?_
 refine Vc.nil ?_
 refine kL [0,5,15] [0,224] [_,_,_] [_,_] ?_
 refine kX h (fun v5 => ([(15, .sv (.int .i64 v5.1))], [(0, some (.box [.sv (.str v5.2.1), .sv (.int .i64 v5.2.2.1), .sv (.bool v5.2.2.2.1)])), (224, some (.ints .i64 v5.2.2.2.2))])) (fun v8 => ([(0, .any), (15, .any)], [(0, some (.box [.sv (.str v8.2.1), .sv (.int .i64 v8.2.2.1), .sv (.bool v8.2.2.2)])), (224, some (.ints .i64 v8.1))])) (kW hC []) (fun v5 s h => ?_) fun v8 h => ?_
 unfold Xb9 at h
 refine Xac ?_
 refine kO hT hC ?_
 refine Vc.nil (Xat ?_)
 refine kS h ?_ ?_ <;> intro b5 h
 refine kt b5 (Xag (Xaf (Xat (Xao (Xad ?_)))))
 iterate 2 refine kO hT hC ?_
 refine kC hC [(16, 304), (0, 0)] Tryz.call297 h (fun _ => Xri) fun q9 h => ?_
 refine kT hT hC h fun h => ?_
 refine kO hT hC ?_
 refine Vc.nil (Xaq (Xaf (Xad ?_)))
 iterate 2 refine kO hT hC ?_
 refine Vc.nil ?_
 obtain rfl := kj h
 exact Ylx (kW hC [(224, 320)])
 exact kf b5 (Xas (Xaz ku))
 refine Xaf (Xac ?_)
 iterate 2 refine kO hT hC ?_
 refine Vc.nil (Xah ?_)
 obtain rfl := kj h
 exact Xct (τ := ⟨[(4, .own 16)], [(16, some (.ints .i64 v8.1)), (0, some (.box [.sv (.str v8.2.1), .sv (.int .i64 v8.2.2.1), .sv (.bool v8.2.2.2)]))]⟩) (kW hC [(16, 224)]) rfl ⟨rfl, rfl, trivial⟩
def Xwf (r : Bool) : AV := .sv (.bool r)
def Xwe (r : Bool) : Xa6 := []
theorem Xb0 {p0 p1 p2 p3 r} (h : Xbi p0 p1 p2 p3 = some r) : AC Tryz.prog 197 [.sv (.ints .i64 p0), .sv (.int .i64 p1), .sv (.int .i64 p2), .sv (.int .i64 p3)] [] (Xwf r) (Xwe r) := by
 refine Xae hT Tryz.func197 rfl fun C hC => ?_
 unfold Xbi at h
 refine Xac ?_
 refine kO hT hC ?_
 refine Vc.nil (Xat (Xac ?_))
 iterate 3 refine kO hT hC ?_
 refine Vc.nil ?_
 refine kL [0,1,2,3,11,12,13] [] [_,_,_,_,_,_,_] [] ?_
 obtain ⟨o8, hl, h⟩ := Xa8 h
 refine Xmo (fun v3 => ([(13, .sv (.int .i64 v3))], [])) (fun v6 => ([(2, .any), (3, .any), (11, .any), (12, .any), (13, .any)], [])) (fun r => Xw1 C T Tryz.f197.results.toList (Xwf r) (Xwe r)) hl ?_ ?_ ?_ ?_
 apply Xe8 hC []
 exact co
 rfl
 decide
 rfl
 intro v3 s hs
 have h := hs
 unfold Xk6 at h
 refine Xac ?_
 refine kO hT hC ?_
 refine Vc.nil (Xat ?_)
 refine kS h ?_ ?_ <;> intro b5 h
 refine kt b5 (Xag (Xaf (Xat (Xao (Xac ?_)))))
 refine kQ hT hC h fun h => ?_
 iterate 2 refine kO hT hC ?_
 refine kN ?_
 iterate 3 refine kO hT hC ?_
 refine kC hC [] Tryz.call116 h (fun _ => Xai) fun q7 h => ?_
 refine kO hT hC ?_
 refine Vc.nil ?_
 refine kS h ?_ ?_ <;> intro b6 h
 refine kt b6 (Xac ?_)
 refine kO hT hC ?_
 refine Vc.nil (Xah (Xh8 (Xav ?_)))
 obtain rfl := kj h
 refine Yaa (Xz3 ?_)
 exact Xct (Xkp.refl _) rfl trivial
 refine kf b6 (Xag (Xaq (Xaf (Xad ?_))))
 iterate 2 refine kO hT hC ?_
 exact Vc.nil kG
 exact kf b5 (Xas (Xaz kb))
 intro v6 e
 subst e
 refine Xaf (Xac ?_)
 iterate 5 refine kO hT hC ?_
 exact Vc.nil (Xah kR)
 intro r' σ' e hE
 subst e
 obtain rfl := kj h
 refine Xav ?_
 exact hE
def Xzj (r : Bool) : AV := .sv (.bool r)
def Xzi (r : Bool) : Xa6 := []
theorem Xmd {p0 r} (h : Xe2 p0 = some r) : AC Tryz.prog 248 [.sv (.ints .i64 p0)] [] (Xzj r) (Xzi r) := by
 refine Xae hT Tryz.func248 rfl fun C hC => ?_
 unfold Xe2 at h
 refine Xac ?_
 refine kO hT hC ?_
 refine kN ?_
 refine kO hT hC ?_
 refine kC hC [] Tryz.call197 h (fun _ => Xb0) fun q1 h => ?_
 refine kO hT hC ?_
 exact Vc.nil (Xah kR)
def Ybo (r : Bool) : AV := .sv (.bool r)
def Ybn (r : Bool) : Xa6 := []
theorem Xn5 {p0 r} (h : Xgb p0 = some r) : AC Tryz.prog 211 [.agg [.sv (.int .i64 p0.Kind), .sv (.int .i64 p0.Mode), .sv (.int .i64 p0.Dx), .sv (.int .i64 p0.Dy), .sv (.ints .i64 p0.Levels)]] [] (Ybo r) (Ybn r) := by
 refine Xae hT Tryz.func211 rfl fun C hC => ?_
 unfold Xgb at h
 refine Xac ?_
 iterate 2 refine kO hT hC ?_
 refine Vc.nil (Xat (Xac ?_))
 iterate 2 refine kO hT hC ?_
 refine Vc.nil (Xao (Xac ?_))
 iterate 2 refine kO hT hC ?_
 refine Vc.nil ?_
 refine kS h ?_ ?_ <;> intro b1 h
 refine kt b1 ?_
 refine kL [1,2] [16] [_,_] [_] ?_
 refine kA h (fun v1 => ([(2, .sv (.bool v1)), (1, .any)], [(16, none)])) (fun v1 h => ?_) fun v1 h => ?_
 refine Xad ?_
 iterate 4 refine kO hT hC ?_
 refine kS h ?_ ?_ <;> intro b2 h
 iterate 3 refine kI hT hC b2 ?_
 refine kP hC true b2 ?_
 refine kO hT hC ?_
 refine kS h ?_ ?_ <;> intro b3 h
 iterate 3 refine kI hT hC b3 ?_
 refine kP hC true b3 ?_
 refine kO hT hC ?_
 refine kS h ?_ ?_ <;> intro b4 h
 iterate 4 refine kI hT hC b4 ?_
 refine kP hC true b4 ?_
 refine kO hT hC ?_
 exact Vc.nil kM
 iterate 4 refine kF hC b4 ?_
 refine kP hC false b4 ?_
 refine kO hT hC ?_
 exact Vc.nil kM
 iterate 3 refine kF hC b3 ?_
 refine kP hC false b3 ?_
 refine kO hT hC ?_
 iterate 4 refine kF hC rfl ?_
 iterate 2 refine kO hT hC ?_
 exact Vc.nil kM
 iterate 3 refine kF hC b2 ?_
 refine kP hC false b2 ?_
 refine kO hT hC ?_
 iterate 3 refine kF hC rfl ?_
 iterate 2 refine kO hT hC ?_
 iterate 4 refine kF hC rfl ?_
 iterate 2 refine kO hT hC ?_
 exact Vc.nil kM
 exact Xah (Xh8 (Xav kR))
 refine kf b1 (Xac ?_)
 iterate 2 refine kO hT hC ?_
 refine Vc.nil ?_
 refine kS h ?_ ?_ <;> intro b5 h
 refine kt b5 ?_
 refine kL [1,2] [16] [_,_] [_] ?_
 refine kA h (fun v2 => ([(2, .sv (.bool v2)), (1, .any)], [(16, none)])) (fun v2 h => ?_) fun v2 h => ?_
 refine Xad ?_
 iterate 4 refine kO hT hC ?_
 refine kS h ?_ ?_ <;> intro b6 h
 iterate 2 refine kI hT hC b6 ?_
 refine kE hC b6 [] Tryz.call116 h (fun _ => Xai) fun q3 h => ?_
 refine kP hC true b6 ?_
 refine kO hT hC ?_
 refine kS h ?_ ?_ <;> intro b7 h
 iterate 2 refine kI hT hC b7 ?_
 refine kE hC b7 [] Tryz.call116 h (fun _ => Xai) fun q4 h => ?_
 refine kP hC true b7 ?_
 refine kO hT hC ?_
 refine kS h ?_ ?_ <;> intro b8 h
 iterate 2 refine kI hT hC b8 ?_
 refine kE hC b8 [] Tryz.call248 h (fun _ => Xmd) fun q5 h => ?_
 refine kP hC true b8 ?_
 refine kO hT hC ?_
 exact Vc.nil kM
 iterate 3 refine kF hC b8 ?_
 refine kP hC false b8 ?_
 refine kO hT hC ?_
 exact Vc.nil kM
 iterate 3 refine kF hC b7 ?_
 refine kP hC false b7 ?_
 refine kO hT hC ?_
 iterate 3 refine kF hC rfl ?_
 iterate 2 refine kO hT hC ?_
 exact Vc.nil kM
 iterate 3 refine kF hC b6 ?_
 refine kP hC false b6 ?_
 refine kO hT hC ?_
 iterate 3 refine kF hC rfl ?_
 iterate 2 refine kO hT hC ?_
 iterate 3 refine kF hC rfl ?_
 iterate 2 refine kO hT hC ?_
 exact Vc.nil kM
 exact Xah (Xh8 (Xav kR))
 refine kf b5 (Xac ?_)
 iterate 2 refine kO hT hC ?_
 refine Vc.nil ?_
 refine kS h ?_ ?_ <;> intro b9 h
 refine kt b9 ?_
 refine kL [1,2] [16] [_,_] [_] ?_
 refine kA h (fun v6 => ([(2, .sv (.bool v6)), (1, .any)], [(16, none)])) (fun v6 h => ?_) fun v6 h => ?_
 refine Xad ?_
 iterate 2 refine kO hT hC ?_
 refine kC hC [] Tryz.call116 h (fun _ => Xai) fun q7 h => ?_
 refine kO hT hC ?_
 refine kS h ?_ ?_ <;> intro b10 h
 iterate 3 refine kI hT hC b10 ?_
 refine kP hC true b10 ?_
 refine kO hT hC ?_
 refine kS h ?_ ?_ <;> intro b11 h
 iterate 3 refine kI hT hC b11 ?_
 refine kP hC true b11 ?_
 refine kO hT hC ?_
 refine kS h ?_ ?_ <;> intro b12 h
 iterate 2 refine kI hT hC b12 ?_
 refine kE hC b12 [] Tryz.call248 h (fun _ => Xmd) fun q8 h => ?_
 refine kP hC true b12 ?_
 refine kO hT hC ?_
 exact Vc.nil kM
 iterate 3 refine kF hC b12 ?_
 refine kP hC false b12 ?_
 refine kO hT hC ?_
 exact Vc.nil kM
 iterate 3 refine kF hC b11 ?_
 refine kP hC false b11 ?_
 refine kO hT hC ?_
 iterate 3 refine kF hC rfl ?_
 iterate 2 refine kO hT hC ?_
 exact Vc.nil kM
 iterate 3 refine kF hC b10 ?_
 refine kP hC false b10 ?_
 refine kO hT hC ?_
 iterate 3 refine kF hC rfl ?_
 iterate 2 refine kO hT hC ?_
 iterate 3 refine kF hC rfl ?_
 iterate 2 refine kO hT hC ?_
 exact Vc.nil kM
 exact Xah (Xh8 (Xav kR))
 refine kf b9 (Xag (Xaq (Xaf (Xac ?_))))
 refine kO hT hC ?_
 exact Vc.nil (Xah kR)
def Xvu (r : (Xam × Xnf)) : AV := .agg [.sv (.int .i64 r.1.Kind), .sv (.int .i64 r.1.Mode), .sv (.int .i64 r.1.Dx), .sv (.int .i64 r.1.Dy), .own 16]
def Xvt (r : (Xam × Xnf)) : Xa6 := [(16, .ints .i64 r.1.Levels), (0, .box [.sv (.str r.2.row_), .sv (.int .i64 r.2.at_), .sv (.bool r.2.bad_)])]
theorem Xxs {p0 p1 r} (h : Xgo p0 p1 = some r) : AC Tryz.prog 232 [.ptr 0 0, .agg [.sv (.bool p1.Key), .sv (.int .i64 p1.Qp), .sv (.bool p1.Large), .sv (.bool p1.Exact)]] [(0, .box [.sv (.str p0.row_), .sv (.int .i64 p0.at_), .sv (.bool p0.bad_)])] (Xvu r) (Xvt r) := by
 refine Xae hT Tryz.func232 rfl fun C hC => ?_
 unfold Xgo at h
 refine Xac ?_
 iterate 2 refine kO hT hC ?_
 refine kN ?_
 iterate 3 refine kO hT hC ?_
 refine Vc.nil ?_
 refine kL [0,3,4,5] [0,48,64,80] [_,_,_,_] [_,_,_,_] ?_
 refine kA h (fun v1 => ([], [(0, some (.box [.sv (.str v1.1), .sv (.int .i64 v1.2.1), .sv (.bool v1.2.2.1)])), (80, some (.box [.sv (.int .i64 v1.2.2.2), .sv (.int .i64 0), .sv (.int .i64 0), .sv (.int .i64 0), .sv .nil]))])) (fun v1 h => ?_) fun v1 h => ?_
 refine Xac ?_
 iterate 3 refine kO hT hC ?_
 refine Vc.nil ?_
 refine kS h ?_ ?_ <;> intro b1 h
 refine kt b1 (Xad ?_)
 refine kO hT hC ?_
 refine kC hC [(0, 0)] Tryz.call185 h (fun _ => Xcg) fun q2 h => ?_
 iterate 2 refine kO hT hC ?_
 exact Vc.nil kM
 exact kf b1 (Xag kM)
 refine kL [0,3,4,5] [0,48,64,80] [_,_,_,_] [_,_,_,_] ?_
 refine kA h (fun v3 => ([(3, .any)], [(0, some (.box [.sv (.str v3.1), .sv (.int .i64 v3.2.1), .sv (.bool v3.2.2.1)])), (80, some (.box [.sv (.int .i64 v1.2.2.2), .sv (.int .i64 v3.2.2.2.1), .sv (.int .i64 v3.2.2.2.2.1), .sv (.int .i64 v3.2.2.2.2.2.1), .own 913])), (913, some (.ints .i64 v3.2.2.2.2.2.2)), (48, none)])) (fun v3 h => ?_) fun v3 h => ?_
 refine Xao (Xac ?_)
 iterate 5 refine kO hT hC ?_
 refine Vc.nil ?_
 refine kS h ?_ ?_ <;> intro b2 h
 refine kt b2 (Xag (Xaq ?_))
 obtain rfl := kj h
 refine Xhc ?_
 refine Xpu hC 80 4 914 (.ints .i64 []) rfl rfl rfl rfl rfl trivial ?_
 try dsimp only
 apply Xe8 hC [(913, 914)]
 exact co
 rfl
 decide
 rfl
 refine kf b2 (Xac ?_)
 iterate 4 refine kO hT hC ?_
 refine Vc.nil ?_
 refine kS h ?_ ?_ <;> intro b3 h
 refine kt b3 (Xac ?_)
 refine kO hT hC ?_
 refine kC hC [(0, 0)] Tryz.call216 h (fun _ => Xk9) fun q4 h => ?_
 iterate 2 refine kO hT hC ?_
 refine kN ?_
 refine kO hT hC ?_
 refine kC hC [(0, 0)] Tryz.call216 h (fun _ => Xk9) fun q5 h => ?_
 iterate 2 refine kO hT hC ?_
 refine Vc.nil (Xad ?_)
 iterate 2 refine kO hT hC ?_
 refine kC hC [(16, 480), (0, 0)] Tryz.call265 h (fun _ => Xpc) fun q6 h => ?_
 iterate 2 refine kO hT hC ?_
 refine Vc.nil (Xaq ?_)
 obtain rfl := kj h
 exact Xhc (kW hC [(913, 480)])
 refine kf b3 (Xac ?_)
 iterate 4 refine kO hT hC ?_
 refine Vc.nil ?_
 refine kS h ?_ ?_ <;> intro b4 h
 refine kt b4 (Xac ?_)
 refine kO hT hC ?_
 refine kC hC [(0, 0)] Tryz.call185 h (fun _ => Xcg) fun q7 h => ?_
 iterate 2 refine kO hT hC ?_
 refine Vc.nil (Xad ?_)
 iterate 2 refine kO hT hC ?_
 refine kC hC [(16, 656), (0, 0)] Tryz.call265 h (fun _ => Xpc) fun q8 h => ?_
 iterate 2 refine kO hT hC ?_
 refine Vc.nil (Xaq ?_)
 obtain rfl := kj h
 exact Xhc (kW hC [(913, 656)])
 refine kf b4 (Xag (Xaq ?_))
 obtain rfl := kj h
 refine Xhc ?_
 refine Xpu hC 80 4 915 (.ints .i64 []) rfl rfl rfl rfl rfl trivial ?_
 try dsimp only
 apply Xe8 hC [(913, 915)]
 exact co
 rfl
 decide
 rfl
 refine kL [0,4,5] [0,64,80,913] [_,_,_] [_,_,_,_] ?_
 refine kA h (fun v9 => ([(0, .any)], [(0, some (.box [.sv (.str v3.1), .sv (.int .i64 v3.2.1), .sv (.bool v9)]))])) (fun v9 h => ?_) fun v9 h => ?_
 refine Xad ?_
 iterate 6 refine kO hT hC ?_
 refine kS h ?_ ?_ <;> intro b5 h
 iterate 3 refine kF hC b5 ?_
 refine kP hC true b5 ?_
 iterate 3 refine kO hT hC ?_
 exact Vc.nil kM
 refine kI hT hC b5 ?_
 refine kE hC b5 [] Tryz.call211 h (fun _ => Xn5) fun q10 h => ?_
 refine kI hT hC b5 ?_
 refine kP hC false b5 ?_
 iterate 3 refine kO hT hC ?_
 exact Vc.nil kM
 refine Xac ?_
 iterate 2 refine kO hT hC ?_
 refine Vc.nil (Xah ?_)
 obtain rfl := kj h
 exact Xct (τ := ⟨[(4, .ptr 2000000 0)], [(16, some (.ints .i64 v3.2.2.2.2.2.2)), (0, some (.box [.sv (.str v3.1), .sv (.int .i64 v3.2.1), .sv (.bool v9)])), (2000000, some (.box [.sv (.int .i64 v1.2.2.2), .sv (.int .i64 v3.2.2.2.1), .sv (.int .i64 v3.2.2.2.2.1), .sv (.int .i64 v3.2.2.2.2.2.1), .own 16]))]⟩) (kW hC [(16, 913), (2000000, 64)]) rfl ⟨rfl, rfl, trivial⟩
def Xq6 (r : ((List Xam) × Bool)) : AV := .tup [.own 16, .sv (.bool r.2)]
def Xq5 (r : ((List Xam) × Bool)) : Xa6 := [(16, .row Xdf r.1)]
theorem Yd6 {p0 p1 p2 p3 r} (h : Xib p0 p1 p2 p3 = some r) : AC Tryz.prog 188 [.sv (.str p0), .sv (.int .i64 p1), .sv (.int .i64 p2), .agg [.sv (.bool p3.Key), .sv (.int .i64 p3.Qp), .sv (.bool p3.Large), .sv (.bool p3.Exact)]] [] (Xq6 r) (Xq5 r) := by
 refine Xae hT Tryz.func188 rfl fun C hC => ?_
 unfold Xib at h
 refine Xac ?_
 iterate 3 refine kO hT hC ?_
 refine kN ?_
 iterate 2 refine kO hT hC ?_
 refine kC hC [(16, 224)] Tryz.call184 h (fun _ => Xm2) fun q1 h => ?_
 refine kO hT hC ?_
 refine kN ?_
 iterate 2 refine kO hT hC ?_
 refine Vc.nil (Xat ?_)
 refine kL [0,2,7,10,11] [112,224,240] [_,_,_,_,_] [_,_,_] ?_
 refine kA h (fun v2 => ([(23, .sv (.bool v2))], [])) (fun v2 h => ?_) fun v2 h => ?_
 refine Xad ?_
 refine kO hT hC ?_
 refine kC hC [] Tryz.call116 h (fun _ => Xai) fun q3 h => ?_
 iterate 2 refine kO hT hC ?_
 refine kS h ?_ ?_ <;> intro b1 h
 refine kI hT hC (kn b1) ?_
 refine kE hC (kn b1) [] Tryz.call127 h (fun _ => Xey) fun q4 h => ?_
 refine kI hT hC (kn b1) ?_
 refine kP hC false (kn b1) ?_
 exact Vc.nil kM
 iterate 3 refine kF hC (kn b1) ?_
 refine kP hC true (kn b1) ?_
 exact Vc.nil kM
 refine kS h ?_ ?_ <;> intro b2 h
 refine kt b2 (Xac ?_)
 iterate 3 refine kO hT hC ?_
 refine Vc.nil (Xah (Xav ?_))
 obtain rfl := kj h
 exact Xct (τ := ⟨[(8, .own 16), (9, .sv (.bool false))], [(16, some (.row Xdf ([] : List Xam)))]⟩) (kW hC [(16, 240)]) rfl ⟨rfl, trivial⟩
 refine kf b2 (Xag (Xaf (Xat (Xac ?_))))
 iterate 2 refine kO hT hC ?_
 refine Vc.nil ?_
 refine kL [0,7,10,11,25,26] [112,224,240] [_,_,_,_,_,_] [_,_,_] ?_
 obtain ⟨o12, hl, h⟩ := Xa8 h
 refine Xmo (fun v7 => ([(26, .sv (.int .i64 v7.1))], [(224, some (.box [.sv (.str v7.2.1), .sv (.int .i64 v7.2.2.1), .sv (.bool v7.2.2.2.1)])), (240, some (.row Xdf v7.2.2.2.2))])) (fun v10 => ([(7, .any), (25, .any), (26, .any)], [(224, some (.box [.sv (.str v10.1), .sv (.int .i64 v10.2.1), .sv (.bool v10.2.2.1)])), (240, some (.row Xdf v10.2.2.2)), (112, none)])) (fun r => Xw1 C T Tryz.f188.results.toList (Xq6 r) (Xq5 r)) hl ?_ ?_ ?_ ?_
 try dsimp only
 apply Xe8 hC []
 exact co
 rfl
 decide
 rfl
 intro v7 s hs
 have h := hs
 unfold Xgl at h
 refine Xac ?_
 refine kO hT hC ?_
 refine Vc.nil (Xat ?_)
 refine kS h ?_ ?_ <;> intro b7 h
 refine kt b7 (Xag (Xaf (Xat (Xao (Xac ?_)))))
 iterate 3 refine kO hT hC ?_
 refine kC hC [(16, 496), (0, 224)] Tryz.call232 h (fun _ => Xxs) fun q11 h => ?_
 refine kO hT hC ?_
 obtain ⟨hq, h⟩ := Xau h
 refine Ylk hT hC rfl rfl rfl rfl ⟨fun _ _ => rfl, by rw [Xu5]; exact hq⟩ ?_
 rw [Xu5]
 refine kO hT hC ?_
 refine kN ?_
 iterate 4 refine kO hT hC ?_
 refine Vc.nil ?_
 refine kS h ?_ ?_ <;> intro b8 h
 refine kt b8 (Xac ?_)
 iterate 3 refine kO hT hC ?_
 refine Vc.nil (Xah (Xh8 (Xav ?_)))
 obtain rfl := kj h
 refine Yaa (Xz3 ?_)
 refine Xct (τ := ⟨[(8, .own 16), (9, .sv (.bool false))], [(16, some (.row Xdf ([] : List Xam)))]⟩) ?_ rfl ⟨rfl, trivial⟩
 apply Xe8 hC [(16, 608)]
 exact co
 rfl
 decide
 rfl
 refine kf b8 (Xag (Xaq (Xaf (Xad ?_))))
 iterate 2 refine kO hT hC ?_
 refine Vc.nil ?_
 obtain rfl := kj h
 exact Ylx (kW hC [(240, 528)])
 exact kf b7 (Xas (Xaz kb))
 intro v10 e
 subst e
 refine Xaf (Xat (Xac ?_))
 iterate 7 refine kO hT hC ?_
 refine Vc.nil ?_
 refine kS h ?_ ?_ <;> intro b9 h
 refine kt b9 (Xac ?_)
 iterate 3 refine kO hT hC ?_
 refine Vc.nil (Xah (Xav ?_))
 obtain rfl := kj h
 exact Xct (τ := ⟨[(8, .own 16), (9, .sv (.bool false))], [(16, some (.row Xdf ([] : List Xam)))]⟩) (kW hC [(16, 752)]) rfl ⟨rfl, trivial⟩
 refine kf b9 (Xag (Xaf (Xac ?_)))
 iterate 3 refine kO hT hC ?_
 refine Vc.nil (Xah ?_)
 obtain rfl := kj h
 exact Xct (τ := ⟨[(8, .own 16), (9, .sv (.bool true))], [(16, some (.row Xdf v10.2.2.2))]⟩) (kW hC [(16, 240)]) rfl ⟨rfl, trivial⟩
 intro r' σ' e hE
 subst e
 obtain rfl := kj h
 refine Xav ?_
 exact hE
def Yhz (r : Bool) : AV := .sv (.bool r)
def Yhy (r : Bool) : Xa6 := []
theorem Xwi {p0 r} (h : Xmg p0 = some r) : AC Tryz.prog 126 [.sv (.int .i64 p0)] [] (Yhz r) (Yhy r) := by
 refine Xae hT Tryz.func126 rfl fun C hC => ?_
 unfold Xmg at h
 refine Xac ?_
 refine kO hT hC ?_
 refine Vc.nil ?_
 refine kL [0,2] [] [_,_] [] ?_
 refine kA h (fun v1 => ([(2, .sv (.bool v1)), (0, .any)], [])) (fun v1 h => ?_) fun v1 h => ?_
 refine Xad ?_
 refine kO hT hC ?_
 refine kQ hT hC h fun h => ?_
 iterate 2 refine kO hT hC ?_
 refine kS h ?_ ?_ <;> intro b1 h
 refine kI hT hC b1 ?_
 refine kE hC b1 [] Tryz.call116 h (fun _ => Xai) fun q2 h => ?_
 refine kP hC true b1 ?_
 refine kO hT hC ?_
 exact Vc.nil kM
 iterate 2 refine kF hC b1 ?_
 refine kP hC false b1 ?_
 refine kO hT hC ?_
 exact Vc.nil kM
 exact Xah kR
def Xy1 (r : Bool) : AV := .sv (.bool r)
def Xy0 (r : Bool) : Xa6 := []
theorem Ybc {p0 p1 r} (h : Xi4 p0 p1 = some r) : AC Tryz.prog 233 [.agg [.sv (.int .i64 p0.Wide), .sv (.int .i64 p0.High), .sv (.str p0.Dots)], .agg [.sv (.int .i64 p1.Left), .sv (.int .i64 p1.Top), .sv (.int .i64 p1.Wide), .sv (.int .i64 p1.High)]] [] (Xy1 r) (Xy0 r) := by
 refine Xae hT Tryz.func233 rfl fun C hC => ?_
 unfold Xi4 at h
 refine Xac ?_
 iterate 3 refine kO hT hC ?_
 refine Vc.nil ?_
 refine kL [2,3,4] [32,48] [_,_,_] [_,_] ?_
 refine kA h (fun v1 => ([(4, .sv (.bool v1)), (2, .any), (3, .any)], [(32, none), (48, none)])) (fun v1 h => ?_) fun v1 h => ?_
 refine Xad ?_
 iterate 4 refine kO hT hC ?_
 refine kC hC [] Tryz.call116 h (fun _ => Xai) fun q2 h => ?_
 refine kO hT hC ?_
 refine kS h ?_ ?_ <;> intro b1 h
 iterate 4 refine kI hT hC b1 ?_
 refine kE hC b1 [] Tryz.call116 h (fun _ => Xai) fun q3 h => ?_
 refine kP hC true b1 ?_
 refine kO hT hC ?_
 refine kS h ?_ ?_ <;> intro b2 h
 iterate 7 refine kI hT hC b2 ?_
 refine kE hC b2 [] Tryz.call116 h (fun _ => Xai) fun q4 h => ?_
 refine kP hC true b2 ?_
 refine kO hT hC ?_
 refine kS h ?_ ?_ <;> intro b3 h
 iterate 7 refine kI hT hC b3 ?_
 refine kE hC b3 [] Tryz.call116 h (fun _ => Xai) fun q5 h => ?_
 refine kP hC true b3 ?_
 refine kO hT hC ?_
 exact Vc.nil kM
 iterate 8 refine kF hC b3 ?_
 refine kP hC false b3 ?_
 refine kO hT hC ?_
 exact Vc.nil kM
 iterate 8 refine kF hC b2 ?_
 refine kP hC false b2 ?_
 refine kO hT hC ?_
 iterate 8 refine kF hC rfl ?_
 iterate 2 refine kO hT hC ?_
 exact Vc.nil kM
 iterate 5 refine kF hC b1 ?_
 refine kP hC false b1 ?_
 refine kO hT hC ?_
 iterate 8 refine kF hC rfl ?_
 iterate 2 refine kO hT hC ?_
 iterate 8 refine kF hC rfl ?_
 iterate 2 refine kO hT hC ?_
 exact Vc.nil kM
 exact Xah kR
def Ymw (r : Pic) : AV := .agg [.sv (.int .i64 r.Wide), .sv (.int .i64 r.High), .sv (.str r.Dots)]
def Ymv (r : Pic) : Xa6 := []
theorem Ypp {p0 p1 r} (h : Xt2 p0 p1 = some r) : AC Tryz.prog 128 [.sv (.int .i64 p0), .sv (.int .i64 p1)] [] (Ymw r) (Ymv r) := by
 refine Xae hT Tryz.func128 rfl fun C hC => ?_
 unfold Xt2 at h
 refine Xac ?_
 refine kO hT hC ?_
 refine Vc.nil (Xat ?_)
 refine kL [0,1,4] [64] [_,_,_] [_] ?_
 refine kA h (fun v1 => ([(14, .sv (.bool v1))], [])) (fun v1 h => ?_) fun v1 h => ?_
 refine Xad ?_
 refine kO hT hC ?_
 refine kC hC [] Tryz.call116 h (fun _ => Xai) fun q2 h => ?_
 iterate 2 refine kO hT hC ?_
 refine kS h ?_ ?_ <;> intro b1 h
 refine kI hT hC (kn b1) ?_
 refine kE hC (kn b1) [] Tryz.call116 h (fun _ => Xai) fun q3 h => ?_
 refine kI hT hC (kn b1) ?_
 refine kP hC false (kn b1) ?_
 exact Vc.nil kM
 iterate 3 refine kF hC (kn b1) ?_
 refine kP hC true (kn b1) ?_
 exact Vc.nil kM
 refine kS h ?_ ?_ <;> intro b2 h
 refine kt b2 (Xac ?_)
 iterate 2 refine kO hT hC ?_
 exact Vc.nil (Xah (Xav kR))
 refine kf b2 (Xag (Xaf (Xac ?_)))
 iterate 3 refine kO hT hC ?_
 obtain ⟨hq, h⟩ := Xau h
 refine Ylk hT hC rfl rfl rfl rfl ⟨hq.1, hq.2.1, hq.2.2, by decide⟩ ?_
 refine kO hT hC ?_
 refine Vc.nil (Xat (Xac ?_))
 iterate 3 refine kO hT hC ?_
 refine Vc.nil ?_
 refine kL [0,1,4,5,21,22] [64,304] [_,_,_,_,_,_] [_,_] ?_
 refine kX h (fun v5 => ([(22, .sv (.int .i64 v5.1))], [(304, some (.ints .u8 v5.2))])) (fun v7 => ([(21, .any), (22, .any)], [(304, some (.ints .u8 v7))])) (kW hC []) (fun v5 s h => ?_) fun v7 h => ?_
 unfold Xni at h
 refine Xac ?_
 refine kO hT hC ?_
 refine Vc.nil (Xat ?_)
 refine kS h ?_ ?_ <;> intro b5 h
 refine kt b5 (Xag (Xaf (Xat (Xao (Xac ?_)))))
 iterate 2 refine kO hT hC ?_
 refine Vc.nil (Xad ?_)
 iterate 2 refine kO hT hC ?_
 iterate 2 refine kQ hT hC h fun h => ?_
 refine Vc.nil (Xaq (Xaf (Xad ?_)))
 iterate 2 refine kO hT hC ?_
 exact Vc.nil kG
 exact kf b5 (Xas (Xaz ku))
 refine Xaf (Xac ?_)
 iterate 6 refine kO hT hC ?_
 exact Vc.nil (Xah kR)
def Xt6 (r : Bool) : AV := .sv (.bool r)
def Xt5 (r : Bool) : Xa6 := []
theorem Xfb {p0 p1 p2 r} (h : Xbz p0 p1 p2 = some r) : AC Tryz.prog 196 [.agg [.sv (.int .i64 p0.Wide), .sv (.int .i64 p0.High), .sv (.str p0.Dots)], .sv (.int .i64 p1), .sv (.int .i64 p2)] [] (Xt6 r) (Xt5 r) := by
 refine Xae hT Tryz.func196 rfl fun C hC => ?_
 unfold Xbz at h
 refine Xac ?_
 iterate 2 refine kO hT hC ?_
 refine Vc.nil ?_
 refine kL [1,2,3,6] [48] [_,_,_,_] [_] ?_
 refine kA h (fun v1 => ([(6, .sv (.bool v1)), (1, .any), (2, .any), (3, .any)], [(48, none)])) (fun v1 h => ?_) fun v1 h => ?_
 refine Xad ?_
 refine kO hT hC ?_
 refine kQ hT hC h fun h => ?_
 iterate 2 refine kO hT hC ?_
 refine kS h ?_ ?_ <;> intro b1 h
 refine kI hT hC b1 ?_
 refine kJ hT hC b1 h fun h => ?_
 refine kI hT hC b1 ?_
 refine kP hC true b1 ?_
 refine kO hT hC ?_
 refine kS h ?_ ?_ <;> intro b2 h
 iterate 4 refine kI hT hC b2 ?_
 refine kE hC b2 [] Tryz.call116 h (fun _ => Xai) fun q2 h => ?_
 refine kP hC true b2 ?_
 refine kO hT hC ?_
 refine kS h ?_ ?_ <;> intro b3 h
 iterate 4 refine kI hT hC b3 ?_
 refine kE hC b3 [] Tryz.call116 h (fun _ => Xai) fun q3 h => ?_
 refine kP hC true b3 ?_
 refine kO hT hC ?_
 exact Vc.nil kM
 iterate 5 refine kF hC b3 ?_
 refine kP hC false b3 ?_
 refine kO hT hC ?_
 exact Vc.nil kM
 iterate 5 refine kF hC b2 ?_
 refine kP hC false b2 ?_
 refine kO hT hC ?_
 iterate 5 refine kF hC rfl ?_
 iterate 2 refine kO hT hC ?_
 exact Vc.nil kM
 iterate 3 refine kF hC b1 ?_
 refine kP hC false b1 ?_
 refine kO hT hC ?_
 iterate 5 refine kF hC rfl ?_
 iterate 2 refine kO hT hC ?_
 iterate 5 refine kF hC rfl ?_
 iterate 2 refine kO hT hC ?_
 exact Vc.nil kM
 exact Xah kR
def Xxo (r : Bool) : AV := .sv (.bool r)
def Xxn (r : Bool) : Xa6 := []
theorem Xp2 {p0 p1 r} (h : Xd7 p0 p1 = some r) : AC Tryz.prog 212 [.agg [.sv (.int .i64 p0.Kind), .sv (.int .i64 p0.Mode), .sv (.int .i64 p0.Dx), .sv (.int .i64 p0.Dy), .sv (.ints .i64 p0.Levels)], .agg [.sv (.bool p1.Key), .sv (.int .i64 p1.Qp), .sv (.bool p1.Large), .sv (.bool p1.Exact)]] [] (Xxo r) (Xxn r) := by
 refine Xae hT Tryz.func212 rfl fun C hC => ?_
 unfold Xd7 at h
 refine Xac ?_
 iterate 3 refine kO hT hC ?_
 refine Vc.nil ?_
 refine kL [2,3,4] [32,48] [_,_,_] [_,_] ?_
 refine kA h (fun v1 => ([(4, .sv (.bool v1)), (2, .any), (3, .any)], [(32, none), (48, none)])) (fun v1 h => ?_) fun v1 h => ?_
 refine Xad ?_
 iterate 4 refine kO hT hC ?_
 refine kS h ?_ ?_ <;> intro b1 h
 iterate 3 refine kI hT hC (kn b1) ?_
 refine kP hC false (kn b1) ?_
 refine kO hT hC ?_
 exact Vc.nil kM
 iterate 3 refine kF hC (kn b1) ?_
 refine kP hC true (kn b1) ?_
 refine kO hT hC ?_
 exact Vc.nil kM
 exact Xah kR
def Ydm (r : Int) : AV := .sv (.int .i64 r)
def Ydl (r : Int) : Xa6 := []
theorem Xd1 {p0 p1 p2 r} (h : Xcm p0 p1 p2 = some r) : AC Tryz.prog 141 [.sv (.int .i64 p0), .sv (.int .i64 p1), .sv (.int .i64 p2)] [] (Ydm r) (Ydl r) := by
 refine Xae hT Tryz.func141 rfl fun C hC => ?_
 unfold Xcm at h
 refine Xac ?_
 refine kO hT hC ?_
 refine kN ?_
 iterate 6 refine kO hT hC ?_
 exact Vc.nil (Xah kR)
def Ydy (r : Int) : AV := .sv (.int .i64 r)
def Ydx (r : Int) : Xa6 := []
theorem Xkx {p0 p1 p2 r} (h : Xeu p0 p1 p2 = some r) : AC Tryz.prog 206 [.agg [.sv (.int .i64 p0.Wide), .sv (.int .i64 p0.High), .sv (.str p0.Dots)], .sv (.int .i64 p1), .sv (.int .i64 p2)] [] (Ydy r) (Ydx r) := by
 refine Xae hT Tryz.func206 rfl fun C hC => ?_
 unfold Xeu at h
 refine Xac ?_
 iterate 2 refine kO hT hC ?_
 refine Vc.nil ?_
 refine Xb8 hm ?_
 iterate 6 refine kO hT hC ?_
 refine kC hC [] Tryz.call141 h (fun _ => Xd1) fun q1 h => ?_
 iterate 7 refine kO hT hC ?_
 refine kC hC [] Tryz.call141 h (fun _ => Xd1) fun q2 h => ?_
 refine kO hT hC ?_
 refine kQ hT hC h fun h => ?_
 iterate 2 refine kO hT hC ?_
 exact kD (Xah kR)
def Xyz (r : (List Int)) : AV := .own 16
def Xyy (r : (List Int)) : Xa6 := [(16, .ints .i64 r)]
theorem Xdy {p0 p1 p2 r} (h : Xbw p0 p1 p2 = some r) : AC Tryz.prog 130 [.agg [.sv (.int .i64 p0.Wide), .sv (.int .i64 p0.High), .sv (.str p0.Dots)], .sv (.int .i64 p1), .sv (.int .i64 p2)] [] (Xyz r) (Xyy r) := by
 refine Xae hT Tryz.func130 rfl fun C hC => ?_
 unfold Xbw at h
 refine Xac ?_
 iterate 2 refine kO hT hC ?_
 refine kN ?_
 obtain ⟨hq, h⟩ := Xau h
 refine Ylk hT hC rfl rfl rfl rfl ⟨hq.1, hq.2.1, hq.2.2, by decide⟩ ?_
 refine kO hT hC ?_
 refine Vc.nil (Xat (Xac ?_))
 refine kO hT hC ?_
 refine Vc.nil ?_
 refine kL [1,2,3,7,11] [48,160] [_,_,_,_,_] [_,_] ?_
 refine kX h (fun v10 => ([(11, .sv (.int .i64 v10.1))], [(160, some (.ints .i64 v10.2))])) (fun v20 => ([(1, .any), (2, .any), (3, .any), (11, .any)], [(160, some (.ints .i64 v20)), (48, none)])) (kW hC []) (fun v10 s h => ?_) fun v20 h => ?_
 unfold Xes at h
 refine Xac ?_
 refine kO hT hC ?_
 refine Vc.nil (Xat ?_)
 refine kS h ?_ ?_ <;> intro b9 h
 refine kt b9 (Xag (Xaf (Xat (Xao (Xac ?_)))))
 iterate 2 refine kO hT hC ?_
 refine kN ?_
 refine kO hT hC ?_
 refine Vc.nil ?_
 refine kL [1,2,3,7,8,11,14] [48,160] [_,_,_,_,_,_,_] [_,_] ?_
 refine kX h (fun v23 => ([(14, .sv (.int .i64 v23.1))], [(160, some (.ints .i64 v23.2))])) (fun v26 => ([(8, .any), (14, .any)], [(160, some (.ints .i64 v26))])) (kW hC []) (fun v23 s h => ?_) fun v26 h => ?_
 unfold Xet at h
 refine Xac ?_
 refine kO hT hC ?_
 refine Vc.nil (Xat ?_)
 refine kS h ?_ ?_ <;> intro b12 h
 refine kt b12 (Xag (Xaf (Xat (Xao (Xac ?_)))))
 iterate 2 refine kO hT hC ?_
 refine Vc.nil (Xad ?_)
 iterate 8 refine kO hT hC ?_
 refine kC hC [] Tryz.call206 h (fun _ => Xkx) fun q27 h => ?_
 refine kO hT hC ?_
 refine kT hT hC h fun h => ?_
 refine kO hT hC ?_
 refine Vc.nil (Xaq (Xaf (Xad ?_)))
 iterate 2 refine kO hT hC ?_
 refine Vc.nil ?_
 obtain rfl := kj h
 exact Ylx (kW hC [(160, 432)])
 exact kf b12 (Xas (Xaz ku))
 refine Xaq (Xaf (Xad ?_))
 iterate 2 refine kO hT hC ?_
 exact Vc.nil kG
 exact kf b9 (Xas (Xaz ku))
 refine Xaf (Xac ?_)
 iterate 2 refine kO hT hC ?_
 refine Vc.nil (Xah ?_)
 obtain rfl := kj h
 exact Xct (τ := ⟨[(6, .own 16)], [(16, some (.ints .i64 v20))]⟩) (kW hC [(16, 160)]) rfl ⟨rfl, trivial⟩
def Xzt (r : (List Int)) : AV := .own 16
def Xzs (r : (List Int)) : Xa6 := [(16, .ints .i64 r)]
theorem Xrf {p0 r} (h : Xg0 p0 = some r) : AC Tryz.prog 266 [.sv (.int .i64 p0)] [] (Xzt r) (Xzs r) := by
 refine Xae hT Tryz.func266 rfl fun C hC => ?_
 unfold Xg0 at h
 refine Xac ?_
 refine kO hT hC ?_
 refine kN ?_
 iterate 2 refine kO hT hC ?_
 refine Vc.nil (Xat (Xac ?_))
 refine kO hT hC ?_
 refine Vc.nil ?_
 refine kL [0,3,4] [128] [_,_,_] [_] ?_
 refine kX h (fun v16 => ([(4, .sv (.int .i64 v16.1))], [(128, some (.ints .i64 v16.2))])) (fun v32 => ([(0, .any), (4, .any)], [(128, some (.ints .i64 v32))])) (kW hC []) (fun v16 s h => ?_) fun v32 h => ?_
 unfold Xhb at h
 refine Xat (Xac ?_)
 iterate 5 refine kO hT hC ?_
 refine Vc.nil ?_
 refine kS h ?_ ?_ <;> intro b27 h
 refine kt b27 (Xag (Xaf (Xat (Xao (Xac ?_)))))
 refine kO hT hC ?_
 refine Vc.nil ?_
 refine kL [0,3,4,5] [128] [_,_,_,_] [_] ?_
 refine kX h (fun v37 => ([(5, .sv (.int .i64 v37.1))], [(128, some (.ints .i64 v37.2))])) (fun v42 => ([(5, .any)], [(128, some (.ints .i64 v42))])) (kW hC []) (fun v37 s h => ?_) fun v42 h => ?_
 unfold Xk8 at h
 refine Xat (Xac ?_)
 iterate 3 refine kO hT hC ?_
 refine Vc.nil ?_
 refine kS h ?_ ?_ <;> intro b36 h
 refine kt b36 (Xag (Xaf ?_))
 refine kL [0,3,4,5] [128] [_,_,_,_] [_] ?_
 refine kA h (fun v43 => ([], [(128, some (.ints .i64 v43))])) (fun v43 h => ?_) fun v43 h => ?_
 refine Xao (Xac ?_)
 iterate 2 refine kO hT hC ?_
 refine Vc.nil ?_
 refine kL [0,3,4,5,6] [128] [_,_,_,_,_] [_] ?_
 refine kA h (fun v44 => ([(6, .sv (.int .i64 v44))], [])) (fun v44 h => ?_) fun v44 h => ?_
 refine Xac ?_
 refine kO hT hC ?_
 refine kQ hT hC h fun h => ?_
 refine kO hT hC ?_
 refine Vc.nil ?_
 refine kS h ?_ ?_ <;> intro b37 h
 refine kt b37 (Xad ?_)
 iterate 4 refine kO hT hC ?_
 exact Vc.nil kM
 exact kf b37 (Xag kM)
 refine Xac ?_
 iterate 4 refine kO hT hC ?_
 refine Vc.nil ?_
 refine kL [0,3,4,5,6,7] [128] [_,_,_,_,_,_] [_] ?_
 refine kA h (fun v45 => ([(38, .sv (.bool v45))], [])) (fun v45 h => ?_) fun v45 h => ?_
 refine Xad ?_
 iterate 4 refine kO hT hC ?_
 refine kS h ?_ ?_ <;> intro b38 h
 iterate 3 refine kI hT hC b38 ?_
 refine kP hC true b38 ?_
 exact Vc.nil kM
 iterate 3 refine kF hC b38 ?_
 refine kP hC false b38 ?_
 exact Vc.nil kM
 refine kS h ?_ ?_ <;> intro b39 h
 refine kt b39 (Xad ?_)
 iterate 7 refine kO hT hC ?_
 refine kT hT hC h fun h => ?_
 refine kO hT hC ?_
 refine Vc.nil (Xaq ?_)
 obtain rfl := kj h
 exact Xhc (kW hC [(128, 736)])
 exact kf b39 (Xag (Xaq kM))
 refine Xad ?_
 iterate 3 refine kO hT hC ?_
 exact Vc.nil kG
 exact kf b36 (Xas (Xaz ku))
 refine Xaq (Xaf (Xad ?_))
 iterate 3 refine kO hT hC ?_
 exact Vc.nil kG
 exact kf b27 (Xas (Xaz ku))
 refine Xaf (Xac ?_)
 iterate 2 refine kO hT hC ?_
 refine Vc.nil (Xah ?_)
 obtain rfl := kj h
 exact Xct (τ := ⟨[(2, .own 16)], [(16, some (.ints .i64 v32))]⟩) (kW hC [(16, 128)]) rfl ⟨rfl, trivial⟩
def Xzh (r : ((List Int) × Bool)) : AV := .tup [.own 16, .sv (.bool r.2)]
def Xzg (r : ((List Int) × Bool)) : Xa6 := [(16, .ints .i64 r.1)]
theorem Xmc {p0 p1 r} (h : Xe1 p0 p1 = some r) : AC Tryz.prog 273 [.sv (.int .i64 p0), .sv (.ints .i64 p1)] [] (Xzh r) (Xzg r) := by
 refine Xae hT Tryz.func273 rfl fun C hC => ?_
 unfold Xe1 at h
 refine Xac ?_
 iterate 2 refine kO hT hC ?_
 refine Vc.nil (Xat ?_)
 refine kL [0,1] [] [_,_] [] ?_
 refine kA h (fun v1 => ([(22, .sv (.bool v1))], [])) (fun v1 h => ?_) fun v1 h => ?_
 refine Xad ?_
 iterate 3 refine kO hT hC ?_
 refine kS h ?_ ?_ <;> intro b1 h
 iterate 2 refine kI hT hC b1 ?_
 refine kP hC true b1 ?_
 refine kO hT hC ?_
 refine kS h ?_ ?_ <;> intro b2 h
 iterate 6 refine kF hC b2 ?_
 refine kP hC true b2 ?_
 exact Vc.nil kM
 iterate 6 refine kI hT hC b2 ?_
 refine kP hC false b2 ?_
 exact Vc.nil kM
 iterate 2 refine kF hC b1 ?_
 refine kP hC false b1 ?_
 refine kO hT hC ?_
 iterate 6 refine kI hT hC rfl ?_
 refine kO hT hC ?_
 exact Vc.nil kM
 refine kS h ?_ ?_ <;> intro b3 h
 refine kt b3 (Xac ?_)
 iterate 3 refine kO hT hC ?_
 refine Vc.nil (Xah (Xav ?_))
 obtain rfl := kj h
 exact Xct (τ := ⟨[(4, .own 16), (5, .sv (.bool false))], [(16, some (.ints .i64 ([] : List Int)))]⟩) (kW hC [(16, 368)]) rfl ⟨rfl, trivial⟩
 refine kf b3 (Xag (Xaf (Xac ?_)))
 iterate 2 refine kO hT hC ?_
 obtain ⟨hq, h⟩ := Xau h
 refine Ylk hT hC rfl rfl rfl rfl ⟨hq.1, hq.2.1, hq.2.2, by decide⟩ ?_
 refine kO hT hC ?_
 refine Vc.nil (Xat (Xac ?_))
 refine kO hT hC ?_
 refine kC hC [(16, 448)] Tryz.call266 h (fun _ => Xrf) fun q2 h => ?_
 iterate 2 refine kO hT hC ?_
 refine Vc.nil ?_
 refine kL [1,6,28,29,30] [416,448] [_,_,_,_,_] [_,_] ?_
 refine kX h (fun v4 => ([(30, .sv (.int .i64 v4.1))], [(416, some (.ints .i64 v4.2))])) (fun v6 => ([(1, .any), (28, .any), (29, .any), (30, .any)], [(416, some (.ints .i64 v6)), (448, none)])) (kW hC []) (fun v4 s h => ?_) fun v6 h => ?_
 unfold Xie at h
 refine Xac ?_
 refine kO hT hC ?_
 refine Vc.nil (Xat ?_)
 refine kS h ?_ ?_ <;> intro b6 h
 refine kt b6 (Xag (Xaf (Xat (Xao (Xac ?_)))))
 refine kO hT hC ?_
 iterate 2 refine kQ hT hC h fun h => ?_
 iterate 2 refine kO hT hC ?_
 refine Vc.nil (Xad ?_)
 iterate 4 refine kO hT hC ?_
 refine kQ hT hC h fun h => ?_
 refine kO hT hC ?_
 iterate 2 refine kQ hT hC h fun h => ?_
 refine Vc.nil (Xaq (Xaf (Xad ?_)))
 iterate 2 refine kO hT hC ?_
 exact Vc.nil kG
 exact kf b6 (Xas (Xaz ku))
 refine Xaf (Xac ?_)
 iterate 3 refine kO hT hC ?_
 refine Vc.nil (Xah ?_)
 obtain rfl := kj h
 exact Xct (τ := ⟨[(4, .own 16), (5, .sv (.bool true))], [(16, some (.ints .i64 v6))]⟩) (kW hC [(16, 416)]) rfl ⟨rfl, trivial⟩
def Yhj (r : Int) : AV := .sv (.int .i64 r)
def Yhi (r : Int) : Xa6 := []
theorem Xwd {p0 r} (h : Xjw p0 = some r) : AC Tryz.prog 268 [.sv (.int .i64 p0)] [] (Yhj r) (Yhi r) := by
 refine Xae hT Tryz.func268 rfl fun C hC => ?_
 unfold Xjw at h
 refine Xac ?_
 refine kO hT hC ?_
 refine Vc.nil (Xat (Xac ?_))
 refine kO hT hC ?_
 refine kC hC [] Tryz.call116 h (fun _ => Xai) fun q1 h => ?_
 refine kO hT hC ?_
 refine Vc.nil ?_
 refine kS h ?_ ?_ <;> intro b1 h
 refine kt b1 (Xac ?_)
 refine kO hT hC ?_
 exact Vc.nil (Xah (Xav kR))
 refine kf b1 (Xag (Xaf (Xac ?_)))
 iterate 2 refine kO hT hC ?_
 iterate 3 refine kQ hT hC h fun h => ?_
 refine kO hT hC ?_
 iterate 2 refine kQ hT hC h fun h => ?_
 refine kO hT hC ?_
 exact Vc.nil (Xah kR)
def Xyv (r : Int) : AV := .sv (.int .i64 r)
def Xyu (r : Int) : Xa6 := []
theorem Ya9 {p0 p1 r} (h : Xi3 p0 p1 = some r) : AC Tryz.prog 274 [.sv (.int .i64 p0), .sv (.int .i64 p1)] [] (Xyv r) (Xyu r) := by
 refine Xae hT Tryz.func274 rfl fun C hC => ?_
 unfold Xi3 at h
 refine Xac ?_
 refine kO hT hC ?_
 refine Vc.nil (Xat (Xac ?_))
 refine kO hT hC ?_
 refine kC hC [] Tryz.call116 h (fun _ => Xai) fun q1 h => ?_
 refine kO hT hC ?_
 refine Vc.nil ?_
 refine kS h ?_ ?_ <;> intro b1 h
 refine kt b1 (Xac ?_)
 refine kO hT hC ?_
 exact Vc.nil (Xah (Xav kR))
 refine kf b1 (Xag (Xaf (Xac ?_)))
 iterate 2 refine kO hT hC ?_
 refine kC hC [] Tryz.call268 h (fun _ => Xwd) fun q2 h => ?_
 iterate 2 refine kO hT hC ?_
 exact Vc.nil (Xah kR)
def Yhf (r : Int) : AV := .sv (.int .i64 r)
def Yhe (r : Int) : Xa6 := []
theorem Xwc {p0 p1 r} (h : Xl9 p0 p1 = some r) : AC Tryz.prog 298 [.sv (.int .i64 p0), .sv (.int .i64 p1)] [] (Yhf r) (Yhe r) := by
 refine Xae hT Tryz.func298 rfl fun C hC => ?_
 unfold Xl9 at h
 refine Xac ?_
 refine kO hT hC ?_
 refine Vc.nil (Xat ?_)
 refine kL [0,1] [] [_,_] [] ?_
 refine kA h (fun v1 => ([(13, .sv (.bool v1))], [])) (fun v1 h => ?_) fun v1 h => ?_
 refine Xad ?_
 refine kO hT hC ?_
 refine kC hC [] Tryz.call116 h (fun _ => Xai) fun q2 h => ?_
 iterate 2 refine kO hT hC ?_
 refine kS h ?_ ?_ <;> intro b1 h
 refine kI hT hC (kn b1) ?_
 refine kE hC (kn b1) [] Tryz.call116 h (fun _ => Xai) fun q3 h => ?_
 refine kI hT hC (kn b1) ?_
 refine kP hC false (kn b1) ?_
 exact Vc.nil kM
 iterate 3 refine kF hC (kn b1) ?_
 refine kP hC true (kn b1) ?_
 exact Vc.nil kM
 refine kS h ?_ ?_ <;> intro b2 h
 refine kt b2 (Xac ?_)
 refine kO hT hC ?_
 exact Vc.nil (Xah (Xav kR))
 refine kf b2 (Xag (Xaf (Xac ?_)))
 iterate 4 refine kO hT hC ?_
 refine Vc.nil (Xat (Xac ?_))
 iterate 3 refine kO hT hC ?_
 refine kQ hT hC h fun h => ?_
 iterate 3 refine kO hT hC ?_
 refine kQ hT hC h fun h => ?_
 iterate 2 refine kO hT hC ?_
 refine kQ hT hC h fun h => ?_
 refine kO hT hC ?_
 refine Vc.nil ?_
 refine kS h ?_ ?_ <;> intro b3 h
 refine kt b3 (Xac ?_)
 refine kO hT hC ?_
 exact Vc.nil (Xah (Xav kR))
 refine kf b3 (Xag (Xaf (Xac ?_)))
 refine kO hT hC ?_
 exact Vc.nil (Xah kR)
def Ynd (r : (List Int)) : AV := .own 16
def Ync (r : (List Int)) : Xa6 := [(16, .ints .i64 r)]
theorem Yc0 {p0 r} (h : Xrk p0 = some r) : AC Tryz.prog 267 [.sv (.ints .i64 p0)] [] (Ynd r) (Ync r) := by
 refine Xae hT Tryz.func267 rfl fun C hC => ?_
 unfold Xrk at h
 refine Xac ?_
 refine kO hT hC ?_
 refine kN ?_
 obtain ⟨hq, h⟩ := Xau h
 refine Ylk hT hC rfl rfl rfl rfl ⟨hq.1, hq.2.1, hq.2.2, by decide⟩ ?_
 refine kO hT hC ?_
 refine Vc.nil (Xat (Xac ?_))
 refine kO hT hC ?_
 refine Vc.nil ?_
 refine kL [0,3,12] [176] [_,_,_] [_] ?_
 refine kX h (fun v31 => ([(12, .sv (.int .i64 v31.1))], [(176, some (.ints .i64 v31.2))])) (fun v62 => ([(0, .any), (12, .any)], [(176, some (.ints .i64 v62))])) (kW hC []) (fun v31 s h => ?_) fun v62 h => ?_
 unfold Xse at h
 refine Xac ?_
 refine kO hT hC ?_
 refine Vc.nil (Xat ?_)
 refine kS h ?_ ?_ <;> intro b27 h
 refine kt b27 (Xag (Xaf (Xat (Xao (Xac ?_)))))
 iterate 2 refine kO hT hC ?_
 refine kN ?_
 refine kO hT hC ?_
 refine Vc.nil ?_
 refine kL [0,3,4,12,15] [176] [_,_,_,_,_] [_] ?_
 refine kX h (fun v72 => ([(15, .sv (.int .i64 v72.1))], [(176, some (.ints .i64 v72.2))])) (fun v82 => ([(4, .any), (15, .any)], [(176, some (.ints .i64 v82))])) (kW hC []) (fun v72 s h => ?_) fun v82 h => ?_
 unfold Xsf at h
 refine Xac ?_
 refine kO hT hC ?_
 refine Vc.nil (Xat ?_)
 refine kS h ?_ ?_ <;> intro b36 h
 refine kt b36 (Xag (Xaf (Xat (Xao (Xac ?_)))))
 iterate 2 refine kO hT hC ?_
 refine kN ?_
 refine kO hT hC ?_
 refine Vc.nil ?_
 refine kL [0,3,4,5,12,15,18] [176] [_,_,_,_,_,_,_] [_] ?_
 refine kX h (fun v85 => ([(18, .sv (.int .i64 v85.1))], [(176, some (.ints .i64 v85.2))])) (fun v88 => ([(5, .any), (18, .any)], [(176, some (.ints .i64 v88))])) (kW hC []) (fun v85 s h => ?_) fun v88 h => ?_
 unfold Xlb at h
 refine Xac ?_
 refine kO hT hC ?_
 refine Vc.nil (Xat ?_)
 refine kS h ?_ ?_ <;> intro b39 h
 refine kt b39 (Xag (Xaf (Xat (Xao (Xac ?_)))))
 iterate 2 refine kO hT hC ?_
 refine Vc.nil ?_
 refine Xei hm ?_
 iterate 10 refine kO hT hC ?_
 iterate 2 refine kQ hT hC h fun h => ?_
 iterate 2 refine kO hT hC ?_
 refine kC hC [] Tryz.call298 h (fun _ => Xwc) fun q89 h => ?_
 iterate 5 refine kO hT hC ?_
 refine kQ hT hC h fun h => ?_
 iterate 3 refine kO hT hC ?_
 iterate 2 refine kQ hT hC h fun h => ?_
 refine kD (Xaq (Xaf (Xad ?_)))
 iterate 2 refine kO hT hC ?_
 exact Vc.nil kG
 exact kf b39 (Xas (Xaz ku))
 refine Xaq (Xaf (Xad ?_))
 iterate 2 refine kO hT hC ?_
 exact Vc.nil kG
 exact kf b36 (Xas (Xaz ku))
 refine Xaq (Xaf (Xad ?_))
 iterate 2 refine kO hT hC ?_
 exact Vc.nil kG
 exact kf b27 (Xas (Xaz ku))
 refine Xaf (Xac ?_)
 obtain ⟨hq, h⟩ := Xau h
 refine Ylk hT hC rfl rfl rfl rfl ⟨hq.1, hq.2.1, hq.2.2, by decide⟩ ?_
 refine kO hT hC ?_
 refine Vc.nil (Xat (Xac ?_))
 refine kO hT hC ?_
 refine Vc.nil ?_
 refine kL [3,7,50] [176,784] [_,_,_] [_,_] ?_
 refine kX h (fun v123 => ([(50, .sv (.int .i64 v123.1))], [(784, some (.ints .i64 v123.2))])) (fun v154 => ([(3, .any), (50, .any)], [(784, some (.ints .i64 v154)), (176, none)])) (kW hC []) (fun v123 s h => ?_) fun v154 h => ?_
 unfold Xqm at h
 refine Xac ?_
 refine kO hT hC ?_
 refine Vc.nil (Xat ?_)
 refine kS h ?_ ?_ <;> intro b66 h
 refine kt b66 (Xag (Xaf (Xat (Xao (Xac ?_)))))
 iterate 2 refine kO hT hC ?_
 refine kN ?_
 refine kO hT hC ?_
 refine Vc.nil ?_
 refine kL [3,7,8,50,53] [176,784] [_,_,_,_,_] [_,_] ?_
 refine kX h (fun v164 => ([(53, .sv (.int .i64 v164.1))], [(784, some (.ints .i64 v164.2))])) (fun v174 => ([(8, .any), (53, .any)], [(784, some (.ints .i64 v174))])) (kW hC []) (fun v164 s h => ?_) fun v174 h => ?_
 unfold Xqn at h
 refine Xac ?_
 refine kO hT hC ?_
 refine Vc.nil (Xat ?_)
 refine kS h ?_ ?_ <;> intro b75 h
 refine kt b75 (Xag (Xaf (Xat (Xao (Xac ?_)))))
 iterate 2 refine kO hT hC ?_
 refine kN ?_
 refine kO hT hC ?_
 refine Vc.nil ?_
 refine kL [3,7,8,9,50,53,56] [176,784] [_,_,_,_,_,_,_] [_,_] ?_
 refine kX h (fun v177 => ([(56, .sv (.int .i64 v177.1))], [(784, some (.ints .i64 v177.2))])) (fun v180 => ([(9, .any), (56, .any)], [(784, some (.ints .i64 v180))])) (kW hC []) (fun v177 s h => ?_) fun v180 h => ?_
 unfold Xi7 at h
 refine Xac ?_
 refine kO hT hC ?_
 refine Vc.nil (Xat ?_)
 refine kS h ?_ ?_ <;> intro b78 h
 refine kt b78 (Xag (Xaf (Xat (Xao (Xac ?_)))))
 iterate 2 refine kO hT hC ?_
 refine Vc.nil ?_
 refine Xei hm ?_
 iterate 10 refine kO hT hC ?_
 iterate 2 refine kQ hT hC h fun h => ?_
 iterate 2 refine kO hT hC ?_
 refine kC hC [] Tryz.call298 h (fun _ => Xwc) fun q181 h => ?_
 iterate 5 refine kO hT hC ?_
 iterate 2 refine kQ hT hC h fun h => ?_
 iterate 2 refine kO hT hC ?_
 iterate 2 refine kQ hT hC h fun h => ?_
 refine kD (Xaq (Xaf (Xad ?_)))
 iterate 2 refine kO hT hC ?_
 exact Vc.nil kG
 exact kf b78 (Xas (Xaz ku))
 refine Xaq (Xaf (Xad ?_))
 iterate 2 refine kO hT hC ?_
 exact Vc.nil kG
 exact kf b75 (Xas (Xaz ku))
 refine Xaq (Xaf (Xad ?_))
 iterate 2 refine kO hT hC ?_
 exact Vc.nil kG
 exact kf b66 (Xas (Xaz ku))
 refine Xaf (Xac ?_)
 iterate 2 refine kO hT hC ?_
 refine Vc.nil (Xah ?_)
 obtain rfl := kj h
 exact Xct (τ := ⟨[(2, .own 16)], [(16, some (.ints .i64 v154))]⟩) (kW hC [(16, 784)]) rfl ⟨rfl, trivial⟩
def Ykn (r : Int) : AV := .sv (.int .i64 r)
def Ykm (r : Int) : Xa6 := []
theorem Xsb {p0 p1 r} (h : Xou p0 p1 = some r) : AC Tryz.prog 303 [.sv (.int .i64 p0), .sv (.int .i64 p1)] [] (Ykn r) (Ykm r) := by
 refine Xae hT Tryz.func303 rfl fun C hC => ?_
 unfold Xou at h
 refine Xac ?_
 refine kO hT hC ?_
 refine kN ?_
 iterate 2 refine kO hT hC ?_
 refine kQ hT hC h fun h => ?_
 refine kO hT hC ?_
 refine Vc.nil ?_
 refine kL [0,1,5] [] [_,_,_] [] ?_
 refine kA h (fun v1 => ([(5, .sv (.int .i64 v1)), (0, .any), (1, .any)], [])) (fun v1 h => ?_) fun v1 h => ?_
 refine Xac ?_
 iterate 2 refine kO hT hC ?_
 refine kQ hT hC h fun h => ?_
 refine kO hT hC ?_
 refine Vc.nil ?_
 refine kS h ?_ ?_ <;> intro b1 h
 refine kt b1 (Xad ?_)
 iterate 3 refine kO hT hC ?_
 exact Vc.nil kM
 exact kf b1 (Xag kM)
 refine Xac ?_
 iterate 2 refine kO hT hC ?_
 exact Vc.nil (Xah kR)
def Yev (r : ((List Int) × (List Int))) : AV := .own 0
def Yeu (r : ((List Int) × (List Int))) : Xa6 := [(0, .ints .i64 r.2)]
theorem Xua {p0 r} (h : Xkf p0 = some r) : AC Tryz.prog 300 [.own 0] [(0, .ints .i64 p0)] (Yev r) (Yeu r) := by
 refine Xae hT Tryz.func300 rfl fun C hC => ?_
 unfold Xkf at h
 refine Xac ?_
 refine kO hT hC ?_
 refine Vc.nil (Xat (Xac ?_))
 iterate 3 refine kO hT hC ?_
 refine Vc.nil ?_
 refine kL [0,5,6,7] [0] [_,_,_,_] [_] ?_
 refine kX h (fun v3 => ([(7, .sv (.int .i64 v3.1))], [(0, some (.ints .i64 v3.2))])) (fun v6 => ([(5, .any), (6, .any), (7, .any)], [(0, some (.ints .i64 v6))])) (kW hC []) (fun v3 s h => ?_) fun v6 h => ?_
 unfold Xpd at h
 refine Xac ?_
 refine kO hT hC ?_
 refine Vc.nil (Xat ?_)
 refine kS h ?_ ?_ <;> intro b3 h
 refine kt b3 (Xag (Xaf (Xat (Xao (Xac ?_)))))
 refine kO hT hC ?_
 iterate 2 refine kQ hT hC h fun h => ?_
 iterate 2 refine kO hT hC ?_
 refine Vc.nil (Xad ?_)
 iterate 4 refine kO hT hC ?_
 refine kC hC [] Tryz.call303 h (fun _ => Xsb) fun q7 h => ?_
 iterate 2 refine kQ hT hC h fun h => ?_
 refine Vc.nil (Xaq (Xaf (Xad ?_)))
 iterate 2 refine kO hT hC ?_
 exact Vc.nil kG
 exact kf b3 (Xas (Xaz ku))
 refine Xaf (Xac ?_)
 iterate 2 refine kO hT hC ?_
 refine Vc.nil (Xah ?_)
 obtain rfl := kj h
 exact Xct (Xkp.refl _) rfl ⟨rfl, trivial⟩
def Xys (r : (List Int)) : AV := .own 16
def Xyr (r : (List Int)) : Xa6 := [(16, .ints .i64 r)]
theorem Ya6 {p0 r} (h : Xi2 p0 = some r) : AC Tryz.prog 275 [.sv (.ints .i64 p0)] [] (Xys r) (Xyr r) := by
 refine Xae hT Tryz.func275 rfl fun C hC => ?_
 unfold Xi2 at h
 refine Xac ?_
 refine kO hT hC ?_
 refine Vc.nil (Xat (Xac ?_))
 refine kO hT hC ?_
 refine kC hC [] Tryz.call197 h (fun _ => Xb0) fun q1 h => ?_
 refine kO hT hC ?_
 refine Vc.nil ?_
 refine kS h ?_ ?_ <;> intro b1 h
 refine kt b1 (Xac ?_)
 iterate 2 refine kO hT hC ?_
 refine Vc.nil (Xah (Xav ?_))
 obtain rfl := kj h
 exact Xct (τ := ⟨[(2, .own 16)], [(16, some (.ints .i64 ([] : List Int)))]⟩) (kW hC [(16, 96)]) rfl ⟨rfl, trivial⟩
 refine kf b1 (Xag (Xaf (Xac ?_)))
 refine kO hT hC ?_
 refine kC hC [(16, 128)] Tryz.call267 h (fun _ => Yc0) fun q2 h => ?_
 refine kC hC [(0, 128)] Tryz.call300 h (fun _ => Xua) fun q3 h => ?_
 refine kO hT hC ?_
 refine Vc.nil (Xah ?_)
 obtain rfl := kj h
 exact Xct (τ := ⟨[(2, .own 16)], [(16, some (.ints .i64 q3.2))]⟩) (kW hC [(16, 128)]) rfl ⟨rfl, trivial⟩
def Ygx (r : Int) : AV := .sv (.int .i64 r)
def Ygw (r : Int) : Xa6 := []
theorem Xv8 {p0 r} (h : Xsa p0 = some r) : AC Tryz.prog 299 [.sv (.int .i64 p0)] [] (Ygx r) (Ygw r) := by
 refine Xae hT Tryz.func299 rfl fun C hC => ?_
 unfold Xsa at h
 refine Xac ?_
 refine kO hT hC ?_
 refine Vc.nil (Xat (Xac ?_))
 refine kO hT hC ?_
 refine kC hC [] Tryz.call116 h (fun _ => Xai) fun q1 h => ?_
 refine kO hT hC ?_
 refine Vc.nil ?_
 refine kS h ?_ ?_ <;> intro b1 h
 refine kt b1 (Xac ?_)
 refine kO hT hC ?_
 exact Vc.nil (Xah (Xav kR))
 refine kf b1 (Xag (Xaf (Xac ?_)))
 refine kO hT hC ?_
 iterate 2 refine kQ hT hC h fun h => ?_
 refine kO hT hC ?_
 iterate 2 refine kQ hT hC h fun h => ?_
 iterate 2 refine kO hT hC ?_
 refine Vc.nil (Xat (Xao ?_))
 refine kL [3,4] [] [_,_] [] ?_
 refine kA h (fun v2 => ([(14, .sv (.bool v2))], [])) (fun v2 h => ?_) fun v2 h => ?_
 refine Xad ?_
 iterate 3 refine kO hT hC ?_
 refine kS h ?_ ?_ <;> intro b2 h
 iterate 2 refine kI hT hC b2 ?_
 refine kP hC true b2 ?_
 refine kO hT hC ?_
 exact Vc.nil kM
 iterate 2 refine kF hC b2 ?_
 refine kP hC false b2 ?_
 refine kO hT hC ?_
 exact Vc.nil kM
 refine kS h ?_ ?_ <;> intro b3 h
 refine kt b3 (Xac ?_)
 refine kO hT hC ?_
 exact Vc.nil (Xah (Xh8 (Xav kR)))
 refine kf b3 ?_
 refine kL [3,4] [] [_,_] [] ?_
 refine kA h (fun v3 => ([(21, .sv (.bool v3)), (3, .any), (4, .any)], [])) (fun v3 h => ?_) fun v3 h => ?_
 refine Xad ?_
 iterate 3 refine kO hT hC ?_
 refine kS h ?_ ?_ <;> intro b4 h
 iterate 2 refine kI hT hC b4 ?_
 refine kP hC true b4 ?_
 refine kO hT hC ?_
 exact Vc.nil kM
 iterate 2 refine kF hC b4 ?_
 refine kP hC false b4 ?_
 refine kO hT hC ?_
 exact Vc.nil kM
 refine kS h ?_ ?_ <;> intro b5 h
 refine kt b5 (Xac ?_)
 refine kO hT hC ?_
 exact Vc.nil (Xah (Xh8 (Xav kR)))
 refine kf b5 (Xag (Xaq (Xaf (Xac ?_))))
 refine kO hT hC ?_
 exact Vc.nil (Xah kR)
def Yea (r : Int) : AV := .sv (.int .i64 r)
def Yd9 (r : Int) : Xa6 := []
theorem Yg8 {p0 p1 r} (h : Xnk p0 p1 = some r) : AC Tryz.prog 301 [.sv (.int .i64 p0), .sv (.int .i64 p1)] [] (Yea r) (Yd9 r) := by
 refine Xae hT Tryz.func301 rfl fun C hC => ?_
 unfold Xnk at h
 refine Xac ?_
 refine kO hT hC ?_
 refine Vc.nil (Xat ?_)
 refine kL [0,1] [] [_,_] [] ?_
 refine kA h (fun v1 => ([(13, .sv (.bool v1))], [])) (fun v1 h => ?_) fun v1 h => ?_
 refine Xad ?_
 refine kO hT hC ?_
 refine kC hC [] Tryz.call116 h (fun _ => Xai) fun q2 h => ?_
 iterate 2 refine kO hT hC ?_
 refine kS h ?_ ?_ <;> intro b1 h
 refine kI hT hC (kn b1) ?_
 refine kE hC (kn b1) [] Tryz.call116 h (fun _ => Xai) fun q3 h => ?_
 refine kI hT hC (kn b1) ?_
 refine kP hC false (kn b1) ?_
 exact Vc.nil kM
 iterate 3 refine kF hC (kn b1) ?_
 refine kP hC true (kn b1) ?_
 exact Vc.nil kM
 refine kS h ?_ ?_ <;> intro b2 h
 refine kt b2 (Xac ?_)
 refine kO hT hC ?_
 exact Vc.nil (Xah (Xav kR))
 refine kf b2 (Xag (Xaf (Xac ?_)))
 iterate 9 refine kO hT hC ?_
 refine Vc.nil ?_
 refine Xb8 hm ?_
 refine kO hT hC ?_
 refine kQ hT hC h fun h => ?_
 refine kO hT hC ?_
 refine kC hC [] Tryz.call299 h (fun _ => Xv8) fun q4 h => ?_
 iterate 2 refine kQ hT hC h fun h => ?_
 obtain ⟨hq, h⟩ := Xau h
 refine Zcj hT hC rfl rfl rfl rfl rfl rfl hq ?_
 refine kO hT hC ?_
 iterate 2 refine kQ hT hC h fun h => ?_
 refine kO hT hC ?_
 exact kD (Xah kR)
def Xy5 (r : Int) : AV := .sv (.int .i64 r)
def Xy4 (r : Int) : Xa6 := []
theorem Ybj {p0 p1 p2 r} (h : Xi5 p0 p1 p2 = some r) : AC Tryz.prog 276 [.sv (.int .i64 p0), .sv (.int .i64 p1), .sv (.int .i64 p2)] [] (Xy5 r) (Xy4 r) := by
 refine Xae hT Tryz.func276 rfl fun C hC => ?_
 unfold Xi5 at h
 refine Xac ?_
 refine kO hT hC ?_
 refine Vc.nil (Xat (Xac ?_))
 refine kO hT hC ?_
 refine kC hC [] Tryz.call116 h (fun _ => Xai) fun q1 h => ?_
 refine kO hT hC ?_
 refine Vc.nil ?_
 refine kS h ?_ ?_ <;> intro b1 h
 refine kt b1 (Xac ?_)
 refine kO hT hC ?_
 exact Vc.nil (Xah (Xav kR))
 refine kf b1 (Xag (Xaf (Xac ?_)))
 iterate 3 refine kO hT hC ?_
 refine kC hC [] Tryz.call301 h (fun _ => Yg8) fun q2 h => ?_
 iterate 2 refine kO hT hC ?_
 exact Vc.nil (Xah kR)
def Xxa (r : (Int × Int × Int × Int)) : AV := .agg [.sv (.int .i64 r.1), .sv (.int .i64 r.2.1), .sv (.int .i64 r.2.2.1), .sv (.int .i64 r.2.2.2)]
def Xw9 (r : (Int × Int × Int × Int)) : Xa6 := []
theorem Xp0 {p0 p1 p2 p3 r} (h : Xd3 p0 p1 p2 p3 = some r) : AC Tryz.prog 302 [.sv (.int .i64 p0), .sv (.int .i64 p1), .sv (.int .i64 p2), .sv (.int .i64 p3)] [] (Xxa r) (Xw9 r) := by
 refine Xae hT Tryz.func302 rfl fun C hC => ?_
 unfold Xd3 at h
 refine Xac ?_
 refine kO hT hC ?_
 refine kN ?_
 iterate 7 refine kO hT hC ?_
 refine kC hC [] Tryz.call303 h (fun _ => Xsb) fun q1 h => ?_
 iterate 4 refine kO hT hC ?_
 refine kC hC [] Tryz.call303 h (fun _ => Xsb) fun q2 h => ?_
 iterate 5 refine kO hT hC ?_
 refine kN ?_
 iterate 14 refine kO hT hC ?_
 exact Vc.nil (Xah kR)
def Xmj (r : (List Int)) : AV := .own 16
def Xmi (r : (List Int)) : Xa6 := [(16, .ints .i64 r)]
theorem Xno {p0 r} (h : Xch p0 = some r) : AC Tryz.prog 270 [.sv (.ints .i64 p0), .fn 302 []] [] (Xmj r) (Xmi r) := by
 refine Xae hT Tryz.func270 rfl fun C hC => ?_
 unfold Xch at h
 refine Xac ?_
 refine kO hT hC ?_
 refine kN ?_
 refine kO hT hC ?_
 refine kC hC [(16, 208)] Tryz.call146 h (fun _ => Xjk) fun q1 h => ?_
 refine kO hT hC ?_
 refine Vc.nil (Xat (Xac ?_))
 refine kO hT hC ?_
 refine Vc.nil ?_
 refine kL [1,5,6] [208] [_,_,_] [_] ?_
 refine kX h (fun v4 => ([(6, .sv (.int .i64 v4.1))], [(208, some (.ints .i64 v4.2))])) (fun v7 => ([(6, .any)], [(208, some (.ints .i64 v7))])) (kW hC []) (fun v4 s h => ?_) fun v7 h => ?_
 unfold Xf1 at h
 refine Xat (Xac ?_)
 iterate 2 refine kO hT hC ?_
 refine Vc.nil ?_
 refine kS h ?_ ?_ <;> intro b3 h
 refine kt b3 (Xag (Xaf (Xat (Xao ?_))))
 refine Xb8 hm ?_
 iterate 3 refine kO hT hC ?_
 iterate 2 refine kQ hT hC h fun h => ?_
 iterate 3 refine kO hT hC ?_
 iterate 2 refine kQ hT hC h fun h => ?_
 iterate 3 refine kO hT hC ?_
 iterate 2 refine kQ hT hC h fun h => ?_
 iterate 3 refine kO hT hC ?_
 iterate 2 refine kQ hT hC h fun h => ?_
 refine kC hC [] Tryz.call302 h (fun _ => Xp0) fun q8 h => ?_
 iterate 2 refine kO hT hC ?_
 refine kD ?_
 refine Xei hm ?_
 iterate 4 refine kO hT hC ?_
 refine kQ hT hC h fun h => ?_
 refine Zcg hT hC rfl rfl rfl rfl rfl rfl rfl rfl rfl ?_
 obtain ⟨hq, h⟩ := Xau h
 refine Yzt hT hC rfl rfl rfl rfl rfl rfl rfl rfl rfl ⟨⟨trivial, hq.1⟩, hq.2⟩ ?_
 refine kD (Xaq (Xaf (Xad ?_)))
 iterate 3 refine kO hT hC ?_
 exact Vc.nil kG
 exact kf b3 (Xas (Xaz ku))
 refine Xaf (Xat (Xac ?_))
 refine kO hT hC ?_
 refine Vc.nil ?_
 refine kL [1,5,46] [208] [_,_,_] [_] ?_
 refine kX h (fun v17 => ([(46, .sv (.int .i64 v17.1))], [(208, some (.ints .i64 v17.2))])) (fun v25 => ([(1, .any), (46, .any)], [(208, some (.ints .i64 v25))])) (kW hC []) (fun v17 s h => ?_) fun v25 h => ?_
 unfold Xfn at h
 refine Xac ?_
 refine kO hT hC ?_
 refine Vc.nil (Xat ?_)
 refine kS h ?_ ?_ <;> intro b12 h
 refine kt b12 (Xag (Xaf (Xat (Xao (Xac ?_)))))
 iterate 2 refine kO hT hC ?_
 refine Vc.nil ?_
 refine Xb8 hm ?_
 iterate 3 refine kO hT hC ?_
 iterate 2 refine kQ hT hC h fun h => ?_
 iterate 3 refine kO hT hC ?_
 iterate 2 refine kQ hT hC h fun h => ?_
 iterate 3 refine kO hT hC ?_
 iterate 2 refine kQ hT hC h fun h => ?_
 iterate 3 refine kO hT hC ?_
 iterate 2 refine kQ hT hC h fun h => ?_
 refine kC hC [] Tryz.call302 h (fun _ => Xp0) fun q26 h => ?_
 iterate 2 refine kO hT hC ?_
 refine kD (Xac ?_)
 iterate 2 refine kO hT hC ?_
 refine Vc.nil ?_
 refine kL [1,5,8,46,70,71] [208] [_,_,_,_,_,_] [_] ?_
 refine kX h (fun v28 => ([(71, .sv (.int .i64 v28.1))], [(208, some (.ints .i64 v28.2))])) (fun v30 => ([(8, .any), (70, .any), (71, .any)], [(208, some (.ints .i64 v30))])) (kW hC []) (fun v28 s h => ?_) fun v30 h => ?_
 unfold Xfo at h
 refine Xac ?_
 refine kO hT hC ?_
 refine Vc.nil (Xat ?_)
 refine kS h ?_ ?_ <;> intro b15 h
 refine kt b15 (Xag (Xaf (Xat (Xao (Xac ?_)))))
 refine kO hT hC ?_
 obtain ⟨hq, h⟩ := Xau h
 refine Zch hT hC rfl rfl rfl rfl rfl rfl rfl hq ?_
 iterate 2 refine kO hT hC ?_
 refine Vc.nil (Xad ?_)
 iterate 6 refine kO hT hC ?_
 iterate 2 refine kQ hT hC h fun h => ?_
 refine Vc.nil (Xaq (Xaf (Xad ?_)))
 iterate 2 refine kO hT hC ?_
 exact Vc.nil kG
 exact kf b15 (Xas (Xaz ku))
 refine Xaq (Xaf (Xad ?_))
 iterate 2 refine kO hT hC ?_
 exact Vc.nil kG
 exact kf b12 (Xas (Xaz ku))
 refine Xaf (Xac ?_)
 iterate 2 refine kO hT hC ?_
 refine Vc.nil (Xah ?_)
 obtain rfl := kj h
 exact Xct (τ := ⟨[(4, .own 16)], [(16, some (.ints .i64 v25))]⟩) (kW hC [(16, 208)]) rfl ⟨rfl, trivial⟩
def Ya8 (r : (List Int)) : AV := .own 16
def Ya7 (r : (List Int)) : Xa6 := [(16, .ints .i64 r)]
theorem Yds {p0 r} (h : Xkw p0 = some r) : AC Tryz.prog 277 [.sv (.ints .i64 p0)] [] (Ya8 r) (Ya7 r) := by
 refine Xae hT Tryz.func277 rfl fun C hC => ?_
 unfold Xkw at h
 refine Xac ?_
 refine kO hT hC ?_
 refine Vc.nil (Xat (Xac ?_))
 refine kO hT hC ?_
 refine kC hC [] Tryz.call197 h (fun _ => Xb0) fun q1 h => ?_
 refine kO hT hC ?_
 refine Vc.nil ?_
 refine kS h ?_ ?_ <;> intro b1 h
 refine kt b1 (Xac ?_)
 iterate 2 refine kO hT hC ?_
 refine Vc.nil (Xah (Xav ?_))
 obtain rfl := kj h
 exact Xct (τ := ⟨[(2, .own 16)], [(16, some (.ints .i64 ([] : List Int)))]⟩) (kW hC [(16, 96)]) rfl ⟨rfl, trivial⟩
 refine kf b1 (Xag (Xaf (Xac ?_)))
 refine kO hT hC ?_
 refine kC hC [(16, 128)] Tryz.call270 h (fun _ => Xno) fun q2 h => ?_
 refine kC hC [(0, 128)] Tryz.call300 h (fun _ => Xua) fun q3 h => ?_
 refine kO hT hC ?_
 refine Vc.nil (Xah ?_)
 obtain rfl := kj h
 exact Xct (τ := ⟨[(2, .own 16)], [(16, some (.ints .i64 q3.2))]⟩) (kW hC [(16, 128)]) rfl ⟨rfl, trivial⟩
def Yep (r : (List Int)) : AV := .own 16
def Yeo (r : (List Int)) : Xa6 := [(16, .ints .i64 r)]
theorem Xt9 {p0 r} (h : Xkc p0 = some r) : AC Tryz.prog 240 [.sv (.int .i64 p0)] [] (Yep r) (Yeo r) := by
 refine Xae hT Tryz.func240 rfl fun C hC => ?_
 unfold Xkc at h
 refine Xac ?_
 refine kO hT hC ?_
 refine kN ?_
 iterate 2 refine kO hT hC ?_
 refine Vc.nil (Xat (Xac ?_))
 refine kO hT hC ?_
 refine Vc.nil ?_
 refine kL [0,3,7] [96] [_,_,_] [_] ?_
 refine kX h (fun v7 => ([(7, .sv (.int .i64 v7.1))], [(96, some (.ints .i64 v7.2))])) (fun v14 => ([(0, .any), (7, .any)], [(96, some (.ints .i64 v14))])) (kW hC []) (fun v7 s h => ?_) fun v14 h => ?_
 unfold Xjm at h
 refine Xac ?_
 refine kO hT hC ?_
 refine Vc.nil (Xat ?_)
 refine kS h ?_ ?_ <;> intro b9 h
 refine kt b9 (Xag (Xaf (Xat (Xao (Xac ?_)))))
 iterate 2 refine kO hT hC ?_
 refine kN ?_
 refine kO hT hC ?_
 refine Vc.nil ?_
 refine kL [0,3,4,7,10] [96] [_,_,_,_,_] [_] ?_
 refine kX h (fun v16 => ([(10, .sv (.int .i64 v16.1))], [(96, some (.ints .i64 v16.2))])) (fun v18 => ([(4, .any), (10, .any)], [(96, some (.ints .i64 v18))])) (kW hC []) (fun v16 s h => ?_) fun v18 h => ?_
 unfold Xoa at h
 refine Xac ?_
 refine kO hT hC ?_
 refine Vc.nil (Xat ?_)
 refine kS h ?_ ?_ <;> intro b12 h
 refine kt b12 (Xag (Xaf (Xat (Xao (Xac ?_)))))
 iterate 2 refine kO hT hC ?_
 refine Vc.nil (Xad ?_)
 iterate 3 refine kO hT hC ?_
 refine kQ hT hC h fun h => ?_
 iterate 6 refine kO hT hC ?_
 refine kQ hT hC h fun h => ?_
 iterate 3 refine kO hT hC ?_
 refine kT hT hC h fun h => ?_
 refine kO hT hC ?_
 refine Vc.nil (Xaq (Xaf (Xad ?_)))
 iterate 2 refine kO hT hC ?_
 refine Vc.nil ?_
 obtain rfl := kj h
 exact Ylx (kW hC [(96, 432)])
 exact kf b12 (Xas (Xaz ku))
 refine Xaq (Xaf (Xad ?_))
 iterate 2 refine kO hT hC ?_
 exact Vc.nil kG
 exact kf b9 (Xas (Xaz ku))
 refine Xaf (Xac ?_)
 iterate 2 refine kO hT hC ?_
 refine Vc.nil (Xah ?_)
 obtain rfl := kj h
 exact Xct (τ := ⟨[(2, .own 16)], [(16, some (.ints .i64 v14))]⟩) (kW hC [(16, 96)]) rfl ⟨rfl, trivial⟩
def Xxe (r : ((List Int) × Bool)) : AV := .tup [.own 16, .sv (.bool r.2)]
def Xxd (r : ((List Int) × Bool)) : Xa6 := [(16, .ints .i64 r.1)]
theorem Xyx {p0 p1 r} (h : Xhk p0 p1 = some r) : AC Tryz.prog 246 [.sv (.ints .i64 p0), .agg [.sv (.bool p1.Key), .sv (.int .i64 p1.Qp), .sv (.bool p1.Large), .sv (.bool p1.Exact)]] [] (Xxe r) (Xxd r) := by
 refine Xae hT Tryz.func246 rfl fun C hC => ?_
 unfold Xhk at h
 refine Xac ?_
 iterate 3 refine kO hT hC ?_
 refine Vc.nil (Xat ?_)
 refine kL [0,3] [48] [_,_] [_] ?_
 refine kA h (fun v1 => ([(26, .sv (.bool v1))], [])) (fun v1 h => ?_) fun v1 h => ?_
 refine Xad ?_
 refine kO hT hC ?_
 refine kC hC [] Tryz.call248 h (fun _ => Xmd) fun q2 h => ?_
 iterate 2 refine kO hT hC ?_
 refine kS h ?_ ?_ <;> intro b1 h
 refine kI hT hC (kn b1) ?_
 refine kE hC (kn b1) [] Tryz.call127 h (fun _ => Xey) fun q3 h => ?_
 refine kI hT hC (kn b1) ?_
 refine kP hC false (kn b1) ?_
 exact Vc.nil kM
 iterate 3 refine kF hC (kn b1) ?_
 refine kP hC true (kn b1) ?_
 exact Vc.nil kM
 refine kS h ?_ ?_ <;> intro b2 h
 refine kt b2 (Xac ?_)
 iterate 3 refine kO hT hC ?_
 refine Vc.nil (Xah (Xav ?_))
 obtain rfl := kj h
 exact Xct (τ := ⟨[(4, .own 16), (5, .sv (.bool false))], [(16, some (.ints .i64 ([] : List Int)))]⟩) (kW hC [(16, 432)]) rfl ⟨rfl, trivial⟩
 refine kf b2 (Xag (Xaf (Xat (Xac ?_))))
 iterate 2 refine kO hT hC ?_
 refine Vc.nil ?_
 refine kS h ?_ ?_ <;> intro b3 h
 refine kt b3 (Xac ?_)
 refine kO hT hC ?_
 refine kC hC [(16, 496)] Tryz.call273 h (fun _ => Xmc) fun q4 h => ?_
 iterate 4 refine kO hT hC ?_
 refine Vc.nil (Xah (Xav ?_))
 obtain rfl := kj h
 exact Xct (τ := ⟨[(4, .own 16), (5, .sv (.bool q4.2))], [(16, some (.ints .i64 q4.1))]⟩) (kW hC [(16, 496)]) rfl ⟨rfl, trivial⟩
 refine kf b3 (Xag (Xaf (Xat (Xac ?_))))
 iterate 2 refine kO hT hC ?_
 refine Vc.nil ?_
 refine kS h ?_ ?_ <;> intro b4 h
 refine kt b4 (Xac ?_)
 refine kO hT hC ?_
 refine kC hC [(16, 608)] Tryz.call273 h (fun _ => Xmc) fun q5 h => ?_
 iterate 5 refine kO hT hC ?_
 refine Vc.nil (Xat (Xac ?_))
 iterate 3 refine kO hT hC ?_
 refine Vc.nil ?_
 refine kL [3,6,41,42,43] [48,608] [_,_,_,_,_] [_,_] ?_
 refine kX h (fun v8 => ([(43, .sv (.int .i64 v8.1))], [(608, some (.ints .i64 v8.2))])) (fun v11 => ([(3, .any), (41, .any), (42, .any), (43, .any)], [(608, some (.ints .i64 v11)), (48, none)])) (kW hC []) (fun v8 s h => ?_) fun v11 h => ?_
 unfold Xeq at h
 refine Xac ?_
 refine kO hT hC ?_
 refine Vc.nil (Xat ?_)
 refine kS h ?_ ?_ <;> intro b7 h
 refine kt b7 (Xag (Xaf (Xat (Xao (Xac ?_)))))
 refine kO hT hC ?_
 iterate 2 refine kQ hT hC h fun h => ?_
 iterate 2 refine kO hT hC ?_
 refine Vc.nil (Xad ?_)
 iterate 5 refine kO hT hC ?_
 refine kC hC [] Tryz.call274 h (fun _ => Ya9) fun q12 h => ?_
 iterate 2 refine kQ hT hC h fun h => ?_
 refine Vc.nil (Xaq (Xaf (Xad ?_)))
 iterate 2 refine kO hT hC ?_
 exact Vc.nil kG
 exact kf b7 (Xas (Xaz ku))
 refine Xaf (Xac ?_)
 refine kO hT hC ?_
 refine kC hC [(16, 912)] Tryz.call275 h (fun _ => Ya6) fun q14 h => ?_
 iterate 2 refine kO hT hC ?_
 refine Vc.nil (Xah (Xav ?_))
 obtain rfl := kj h
 exact Xct (τ := ⟨[(4, .own 16), (5, .sv (.bool true))], [(16, some (.ints .i64 q14))]⟩) (kW hC [(16, 912)]) rfl ⟨rfl, trivial⟩
 refine kf b4 (Xag (Xaf (Xac ?_)))
 obtain ⟨hq, h⟩ := Xau h
 refine Ylk hT hC rfl rfl rfl rfl ⟨hq.1, hq.2.1, hq.2.2, by decide⟩ ?_
 refine kO hT hC ?_
 refine Vc.nil (Xat (Xac ?_))
 refine kO hT hC ?_
 refine Vc.nil ?_
 refine kL [0,3,10,59] [48,928] [_,_,_,_] [_,_] ?_
 refine kX h (fun v32 => ([(59, .sv (.int .i64 v32.1))], [(928, some (.ints .i64 v32.2))])) (fun v50 => ([(0, .any), (3, .any), (59, .any)], [(928, some (.ints .i64 v50)), (48, none)])) (kW hC []) (fun v32 s h => ?_) fun v50 h => ?_
 unfold Xju at h
 refine Xac ?_
 refine kO hT hC ?_
 refine Vc.nil (Xat ?_)
 refine kS h ?_ ?_ <;> intro b22 h
 refine kt b22 (Xag (Xaf (Xat (Xao (Xac ?_)))))
 iterate 2 refine kO hT hC ?_
 refine kN ?_
 iterate 6 refine kO hT hC ?_
 refine kQ hT hC h fun h => ?_
 refine kC hC [(16, 1120)] Tryz.call273 h (fun _ => Xmc) fun q51 h => ?_
 iterate 5 refine kO hT hC ?_
 refine Vc.nil (Xat (Xac ?_))
 iterate 3 refine kO hT hC ?_
 refine Vc.nil ?_
 refine kL [0,3,10,11,12,59,73,74,75] [48,928,1120] [_,_,_,_,_,_,_,_,_] [_,_,_] ?_
 refine kX h (fun v54 => ([(75, .sv (.int .i64 v54.1))], [(1120, some (.ints .i64 v54.2))])) (fun v57 => ([(73, .any), (74, .any), (75, .any)], [(1120, some (.ints .i64 v57))])) (kW hC []) (fun v54 s h => ?_) fun v57 h => ?_
 unfold Xd4 at h
 refine Xac ?_
 refine kO hT hC ?_
 refine Vc.nil (Xat ?_)
 refine kS h ?_ ?_ <;> intro b25 h
 refine kt b25 (Xag (Xaf (Xat (Xao (Xac ?_)))))
 refine kO hT hC ?_
 iterate 2 refine kQ hT hC h fun h => ?_
 iterate 2 refine kO hT hC ?_
 refine Vc.nil (Xad ?_)
 iterate 6 refine kO hT hC ?_
 refine kC hC [] Tryz.call276 h (fun _ => Ybj) fun q58 h => ?_
 iterate 2 refine kQ hT hC h fun h => ?_
 refine Vc.nil (Xaq (Xaf (Xad ?_)))
 iterate 2 refine kO hT hC ?_
 exact Vc.nil kG
 exact kf b25 (Xas (Xaz ku))
 refine Xaf (Xac ?_)
 refine kO hT hC ?_
 refine kC hC [(16, 1440)] Tryz.call277 h (fun _ => Yds) fun q60 h => ?_
 refine kO hT hC ?_
 refine kN ?_
 refine kO hT hC ?_
 refine kC hC [(16, 1472)] Tryz.call240 h (fun _ => Xt9) fun q61 h => ?_
 iterate 2 refine kO hT hC ?_
 refine Vc.nil ?_
 refine kL [0,3,10,16,59,92,93,94] [48,928,1440,1472] [_,_,_,_,_,_,_,_] [_,_,_,_] ?_
 refine kX h (fun v63 => ([(94, .sv (.int .i64 v63.1))], [(928, some (.ints .i64 v63.2))])) (fun v65 => ([(16, .any), (92, .any), (93, .any), (94, .any)], [(928, some (.ints .i64 v65)), (1440, none), (1472, none)])) (kW hC []) (fun v63 s h => ?_) fun v65 h => ?_
 unfold Xf7 at h
 refine Xac ?_
 refine kO hT hC ?_
 refine Vc.nil (Xat ?_)
 refine kS h ?_ ?_ <;> intro b28 h
 refine kt b28 (Xag (Xaf (Xat (Xao (Xac ?_)))))
 refine kO hT hC ?_
 iterate 2 refine kQ hT hC h fun h => ?_
 iterate 2 refine kO hT hC ?_
 refine Vc.nil (Xad ?_)
 iterate 4 refine kO hT hC ?_
 iterate 4 refine kQ hT hC h fun h => ?_
 refine Vc.nil (Xaq (Xaf (Xad ?_)))
 iterate 2 refine kO hT hC ?_
 exact Vc.nil kG
 exact kf b28 (Xas (Xaz ku))
 refine Xaq (Xaf (Xad ?_))
 iterate 2 refine kO hT hC ?_
 exact Vc.nil kG
 exact kf b22 (Xas (Xaz ku))
 refine Xaf (Xac ?_)
 iterate 3 refine kO hT hC ?_
 refine Vc.nil (Xah ?_)
 obtain rfl := kj h
 exact Xct (τ := ⟨[(4, .own 16), (5, .sv (.bool true))], [(16, some (.ints .i64 v50))]⟩) (kW hC [(16, 928)]) rfl ⟨rfl, trivial⟩
def Ygt (r : (List Int)) : AV := .own 16
def Ygs (r : (List Int)) : Xa6 := [(16, .ints .i64 r)]
theorem Xv7 {p0 p1 r} (h : Xl5 p0 p1 = some r) : AC Tryz.prog 247 [.sv (.ints .i64 p0), .sv (.ints .i64 p1)] [] (Ygt r) (Ygs r) := by
 refine Xae hT Tryz.func247 rfl fun C hC => ?_
 unfold Xl5 at h
 refine Xac ?_
 refine kO hT hC ?_
 refine kN ?_
 iterate 2 refine kO hT hC ?_
 refine Vc.nil (Xat ?_)
 refine kL [0,1,5] [128] [_,_,_] [_] ?_
 refine kA h (fun v1 => ([(16, .sv (.bool v1))], [])) (fun v1 h => ?_) fun v1 h => ?_
 refine Xad ?_
 refine kO hT hC ?_
 refine kC hC [] Tryz.call197 h (fun _ => Xb0) fun q2 h => ?_
 iterate 2 refine kO hT hC ?_
 refine kS h ?_ ?_ <;> intro b1 h
 refine kI hT hC (kn b1) ?_
 refine kE hC (kn b1) [] Tryz.call197 h (fun _ => Xb0) fun q3 h => ?_
 refine kI hT hC (kn b1) ?_
 refine kP hC false (kn b1) ?_
 exact Vc.nil kM
 iterate 3 refine kF hC (kn b1) ?_
 refine kP hC true (kn b1) ?_
 exact Vc.nil kM
 refine kS h ?_ ?_ <;> intro b2 h
 refine kt b2 (Xac ?_)
 iterate 2 refine kO hT hC ?_
 refine Vc.nil (Xah (Xav ?_))
 obtain rfl := kj h
 exact Xct (τ := ⟨[(4, .own 16)], [(16, some (.ints .i64 ([] : List Int)))]⟩) (kW hC [(16, 128)]) rfl ⟨rfl, trivial⟩
 refine kf b2 (Xag (Xaf (Xat (Xac ?_))))
 iterate 3 refine kO hT hC ?_
 refine Vc.nil ?_
 refine kL [1,5,18,19,20] [128] [_,_,_,_,_] [_] ?_
 refine kX h (fun v6 => ([(20, .sv (.int .i64 v6.1))], [(128, some (.ints .i64 v6.2))])) (fun v9 => ([(1, .any), (18, .any), (19, .any), (20, .any)], [(128, some (.ints .i64 v9))])) (kW hC []) (fun v6 s h => ?_) fun v9 h => ?_
 unfold Xmz at h
 refine Xac ?_
 refine kO hT hC ?_
 refine Vc.nil (Xat ?_)
 refine kS h ?_ ?_ <;> intro b5 h
 refine kt b5 (Xag (Xaf (Xat (Xao (Xac ?_)))))
 refine kO hT hC ?_
 refine kQ hT hC h fun h => ?_
 iterate 3 refine kO hT hC ?_
 refine Vc.nil (Xad ?_)
 iterate 4 refine kO hT hC ?_
 refine kQ hT hC h fun h => ?_
 iterate 2 refine kO hT hC ?_
 refine kC hC [] Tryz.call141 h (fun _ => Xd1) fun q10 h => ?_
 refine kO hT hC ?_
 refine kT hT hC h fun h => ?_
 refine kO hT hC ?_
 refine Vc.nil (Xaq (Xaf (Xad ?_)))
 iterate 2 refine kO hT hC ?_
 refine Vc.nil ?_
 obtain rfl := kj h
 exact Ylx (kW hC [(128, 544)])
 exact kf b5 (Xas (Xaz ku))
 refine Xaf (Xac ?_)
 iterate 2 refine kO hT hC ?_
 refine Vc.nil (Xah ?_)
 obtain rfl := kj h
 exact Xct (τ := ⟨[(4, .own 16)], [(16, some (.ints .i64 v9))]⟩) (kW hC [(16, 128)]) rfl ⟨rfl, trivial⟩
def Ydr (r : (Xiz × Bool)) : AV := .tup [.agg [.own 16, .own 17, .sv (.int .i64 r.1.Corner)], .sv (.bool r.2)]
def Ydq (r : (Xiz × Bool)) : Xa6 := [(16, .ints .i64 r.1.Above), (17, .ints .i64 r.1.Left)]
theorem Xtz {p0 p1 p2 r} (h : Xj4 p0 p1 p2 = some r) : AC Tryz.prog 198 [.agg [.sv (.int .i64 p0.Wide), .sv (.int .i64 p0.High), .sv (.str p0.Dots)], .sv (.int .i64 p1), .sv (.int .i64 p2)] [] (Ydr r) (Ydq r) := by
 refine Xae hT Tryz.func198 rfl fun C hC => ?_
 unfold Xj4 at h
 refine Xac ?_
 iterate 3 refine kO hT hC ?_
 refine Vc.nil (Xat ?_)
 refine kL [1,2,3,6] [48,96] [_,_,_,_] [_,_] ?_
 refine kA h (fun v1 => ([(19, .sv (.bool v1))], [])) (fun v1 h => ?_) fun v1 h => ?_
 refine Xad ?_
 refine kO hT hC ?_
 refine kC hC [] Tryz.call47 h (fun _ => Xdn) fun q2 h => ?_
 iterate 2 refine kO hT hC ?_
 refine kS h ?_ ?_ <;> intro b1 h
 iterate 3 refine kI hT hC (kn b1) ?_
 refine kE hC (kn b1) [] Tryz.call196 h (fun _ => Xfb) fun q3 h => ?_
 refine kI hT hC (kn b1) ?_
 refine kP hC false (kn b1) ?_
 exact Vc.nil kM
 iterate 5 refine kF hC (kn b1) ?_
 refine kP hC true (kn b1) ?_
 exact Vc.nil kM
 refine kS h ?_ ?_ <;> intro b2 h
 refine kt b2 (Xac ?_)
 iterate 3 refine kO hT hC ?_
 refine Vc.nil (Xah (Xav ?_))
 obtain rfl := kj h
 refine Xct (τ := ⟨[(6, .ptr 2000000 0), (7, .sv (.bool false))], [(16, some (.ints .i64 [])), (17, some (.ints .i64 [])), (2000000, some (.box [.own 16, .own 17, .sv (.int .i64 0)]))]⟩) ?_ rfl ⟨rfl, rfl, trivial⟩
 refine Xpu hC 96 0 1105 (.ints .i64 []) rfl rfl rfl rfl rfl trivial ?_
 refine Xpu hC 96 1 1106 (.ints .i64 []) rfl rfl rfl rfl rfl trivial ?_
 apply Xe8 hC [(16, 1105), (17, 1106), (2000000, 96)]
 exact co
 rfl
 decide
 rfl
 refine kf b2 (Xag (Xaf (Xac ?_)))
 iterate 3 refine kO hT hC ?_
 refine Vc.nil (Xat (Xac ?_))
 refine kO hT hC ?_
 refine Vc.nil ?_
 refine kL [1,2,3,6,8,22] [48,96,128] [_,_,_,_,_,_] [_,_,_] ?_
 obtain ⟨v15, hl, h⟩ := Xa8 h
 refine Yzp (fun v9 => ([(22, .sv (.int .i64 v9.1))], [(128, some (.box [.own 1129, .own 1130, .sv (.int .i64 (-1))])), (1129, some (.ints .i64 v9.2.1)), (1130, some (.ints .i64 v9.2.2))])) (fun v15 => ([(22, .any)], [(128, some (.box [.own 1133, .own 1134, .sv (.int .i64 (-1))])), (1133, some (.ints .i64 v15.1)), (1134, some (.ints .i64 v15.2))])) hl ?_ ?_ ?_
 refine Xpu hC 128 0 1135 (.ints .i64 []) rfl rfl rfl rfl rfl trivial ?_
 refine Xpu hC 128 1 1136 (.ints .i64 []) rfl rfl rfl rfl rfl trivial ?_
 try dsimp only
 apply Xe8 hC [(1129, 1135), (1130, 1136)]
 exact co
 rfl
 decide
 rfl
 intro v9 s hs
 have h := hs
 unfold Xkv at h
 refine Xac ?_
 refine kO hT hC ?_
 refine Vc.nil (Xat ?_)
 refine kS h ?_ ?_ <;> intro b9 h
 refine kt b9 (Xag (Xaf ?_))
 refine kL [1,2,3,6,8,22] [48,96,128,1129,1130] [_,_,_,_,_,_] [_,_,_,_,_] ?_
 refine kA h (fun v16 => ([], [(1129, some (.ints .i64 v16.1)), (1130, some (.ints .i64 v16.2))])) (fun v16 h => ?_) fun v16 h => ?_
 refine Xao (Xac ?_)
 iterate 2 refine kO hT hC ?_
 refine Vc.nil ?_
 refine kL [1,2,3,6,8,9,22] [48,96,128,1129,1130] [_,_,_,_,_,_,_] [_,_,_,_,_] ?_
 refine kA h (fun v17 => ([], [(1129, some (.ints .i64 v17))])) (fun v17 h => ?_) fun v17 h => ?_
 refine Xac ?_
 iterate 2 refine kO hT hC ?_
 refine Vc.nil ?_
 refine kS h ?_ ?_ <;> intro b10 h
 refine kt b10 ?_
 refine Xei hm ?_
 iterate 8 refine kO hT hC ?_
 refine kC hC [] Tryz.call206 h (fun _ => Xkx) fun q18 h => ?_
 refine kO hT hC ?_
 refine kT hT hC h fun h => ?_
 iterate 2 refine kO hT hC ?_
 refine kD ?_
 obtain rfl := kj h
 exact Xhc (kW hC [(1129, 592)])
 exact kf b10 (Xag kM)
 refine Xac ?_
 iterate 2 refine kO hT hC ?_
 refine Vc.nil ?_
 refine kS h ?_ ?_ <;> intro b11 h
 refine kt b11 ?_
 refine Xei hm ?_
 iterate 8 refine kO hT hC ?_
 refine kC hC [] Tryz.call206 h (fun _ => Xkx) fun q19 h => ?_
 refine kO hT hC ?_
 refine kT hT hC h fun h => ?_
 iterate 2 refine kO hT hC ?_
 refine kD (Xaq ?_)
 obtain rfl := kj h
 exact Xhc (kW hC [(1130, 816)])
 exact kf b11 (Xag (Xaq kM))
 refine Xad ?_
 iterate 2 refine kO hT hC ?_
 exact Vc.nil kG
 refine kf b9 (Xas (Xaz ?_))
 obtain rfl := kj h
 exact Ywk (Zbq (kW hC [(1133, 1129), (1134, 1130)]))
 refine Xaf ?_
 refine kL [1,2,3,6,8] [48,96,128,1133,1134] [_,_,_,_,_] [_,_,_,_,_] ?_
 refine kA h (fun v21 => ([(1, .any), (2, .any), (3, .any)], [(128, some (.box [.own 1133, .own 1134, .sv (.int .i64 v21)])), (48, none)])) (fun v21 h => ?_) fun v21 h => ?_
 refine kL [1,2,3,6,8] [48,96,128,1133,1134] [_,_,_,_,_] [_,_,_,_,_] ?_
 refine kA h (fun v22 => ([(59, .sv (.bool v22))], [])) (fun v22 h => ?_) fun v22 h => ?_
 refine Xad ?_
 iterate 3 refine kO hT hC ?_
 refine kS h ?_ ?_ <;> intro b12 h
 iterate 2 refine kI hT hC b12 ?_
 refine kP hC true b12 ?_
 exact Vc.nil kM
 iterate 2 refine kF hC b12 ?_
 refine kP hC false b12 ?_
 exact Vc.nil kM
 refine kS h ?_ ?_ <;> intro b13 h
 refine kt b13 (Xad ?_)
 iterate 5 refine kO hT hC ?_
 refine kC hC [] Tryz.call206 h (fun _ => Xkx) fun q23 h => ?_
 iterate 2 refine kO hT hC ?_
 exact Vc.nil kM
 exact kf b13 (Xag kM)
 refine Xac ?_
 iterate 3 refine kO hT hC ?_
 refine Vc.nil (Xah ?_)
 obtain rfl := kj h
 exact Xct (τ := ⟨[(6, .ptr 2000000 0), (7, .sv (.bool true))], [(16, some (.ints .i64 v15.1)), (17, some (.ints .i64 v15.2)), (2000000, some (.box [.own 16, .own 17, .sv (.int .i64 v21)]))]⟩) (kW hC [(16, 1133), (17, 1134), (2000000, 96)]) rfl ⟨rfl, rfl, trivial⟩
def Xs5 (r : Bool) : AV := .sv (.bool r)
def Xs4 (r : Bool) : Xa6 := []
theorem Xt0 {p0 r} (h : Xj5 p0 = some r) : AC Tryz.prog 235 [.agg [.sv (.ints .i64 p0.Above), .sv (.ints .i64 p0.Left), .sv (.int .i64 p0.Corner)]] [] (Xs5 r) (Xs4 r) := by
 refine Xae hT Tryz.func235 rfl fun C hC => ?_
 unfold Xj5 at h
 refine Xac ?_
 iterate 2 refine kO hT hC ?_
 refine Vc.nil (Xat (Xac ?_))
 iterate 7 refine kO hT hC ?_
 refine Vc.nil ?_
 refine kL [1,9,10,11] [16,144] [_,_,_,_] [_,_] ?_
 obtain ⟨o11, hl, h⟩ := Xa8 h
 refine Xmo (fun v4 => ([(11, .sv (.int .i64 v4))], [])) (fun v8 => ([(9, .any), (10, .any), (11, .any)], [(144, none)])) (fun r => Xw1 C T Tryz.f235.results.toList (Xs5 r) (Xs4 r)) hl ?_ ?_ ?_ ?_
 apply Xe8 hC []
 exact co
 rfl
 decide
 rfl
 intro v4 s hs
 have h := hs
 unfold Xfg at h
 refine Xac ?_
 refine kO hT hC ?_
 refine Vc.nil (Xat ?_)
 refine kS h ?_ ?_ <;> intro b7 h
 refine kt b7 (Xag (Xaf (Xat (Xao (Xac ?_)))))
 iterate 2 refine kQ hT hC h fun h => ?_
 refine kO hT hC ?_
 refine Vc.nil ?_
 refine kL [1,4,9,10,11] [16,144] [_,_,_,_,_] [_,_] ?_
 refine kA h (fun v9 => ([(22, .sv (.bool v9)), (4, .any)], [])) (fun v9 h => ?_) fun v9 h => ?_
 refine Xad ?_
 iterate 4 refine kO hT hC ?_
 refine kS h ?_ ?_ <;> intro b8 h
 refine kI hT hC b8 ?_
 refine kE hC b8 [] Tryz.call197 h (fun _ => Xb0) fun q10 h => ?_
 refine kI hT hC b8 ?_
 refine kP hC true b8 ?_
 exact Vc.nil kM
 iterate 3 refine kF hC b8 ?_
 refine kP hC false b8 ?_
 exact Vc.nil kM
 refine kS h ?_ ?_ <;> intro b9 h
 refine kt b9 (Xac ?_)
 refine kO hT hC ?_
 refine Vc.nil (Xah (Xh8 (Xav ?_)))
 obtain rfl := kj h
 refine Yaa (Xz3 ?_)
 exact Xct (Xkp.refl _) rfl trivial
 refine kf b9 (Xag (Xaq (Xaf (Xad ?_))))
 iterate 2 refine kO hT hC ?_
 exact Vc.nil kG
 exact kf b7 (Xas (Xaz kb))
 intro v8 e
 subst e
 refine Xaf (Xac ?_)
 iterate 2 refine kO hT hC ?_
 refine kC hC [] Tryz.call116 h (fun _ => Xai) fun q12 h => ?_
 refine kO hT hC ?_
 exact Vc.nil (Xah kR)
 intro r' σ' e hE
 subst e
 obtain rfl := kj h
 refine Xav ?_
 exact hE
def Yh3 (r : (List Int)) : AV := .sv (.ints .i64 r)
def Yh2 (r : (List Int)) : Xa6 := []
theorem Xwk {p0 r} (h : Xmh p0 = some r) : AC Tryz.prog 243 [.sv (.ints .i64 p0)] [] (Yh3 r) (Yh2 r) := by
 refine Xae hT Tryz.func243 rfl fun C hC => ?_
 unfold Xmh at h
 refine Xac ?_
 refine kO hT hC ?_
 refine Vc.nil (Xat (Xac ?_))
 iterate 3 refine kO hT hC ?_
 refine Vc.nil ?_
 refine kS h ?_ ?_ <;> intro b1 h
 refine kt b1 (Xac ?_)
 iterate 2 refine kO hT hC ?_
 refine Vc.nil (Xah (Xav ?_))
 obtain rfl := kj h
 exact Xct (τ := ⟨[(2, .sv (.ints .i64 ([128, 128, 128, 128, 128, 128, 128, 128])))], []⟩) (kW hC []) rfl trivial
 refine kf b1 (Xag (Xaf (Xac ?_)))
 iterate 2 refine kO hT hC ?_
 exact Vc.nil (Xah kR)
def Ydu (r : (List Int)) : AV := .own 16
def Ydt (r : (List Int)) : Xa6 := [(16, .ints .i64 r)]
theorem Xo2 {p0 p1 r} (h : Xf0 p0 p1 = some r) : AC Tryz.prog 202 [.sv (.int .i64 p0), .agg [.sv (.ints .i64 p1.Above), .sv (.ints .i64 p1.Left), .sv (.int .i64 p1.Corner)]] [] (Ydu r) (Ydt r) := by
 refine Xae hT Tryz.func202 rfl fun C hC => ?_
 unfold Xf0 at h
 refine Xac ?_
 iterate 2 refine kO hT hC ?_
 refine kN ?_
 iterate 2 refine kO hT hC ?_
 refine Vc.nil (Xat ?_)
 refine kL [0,3,5] [48,208] [_,_,_] [_,_] ?_
 refine kA h (fun v1 => ([(21, .sv (.bool v1))], [])) (fun v1 h => ?_) fun v1 h => ?_
 refine Xad ?_
 refine kO hT hC ?_
 refine kC hC [] Tryz.call235 h (fun _ => Xt0) fun q2 h => ?_
 iterate 2 refine kO hT hC ?_
 refine kS h ?_ ?_ <;> intro b1 h
 refine kI hT hC (kn b1) ?_
 refine kE hC (kn b1) [] Tryz.call116 h (fun _ => Xai) fun q3 h => ?_
 refine kI hT hC (kn b1) ?_
 refine kP hC false (kn b1) ?_
 exact Vc.nil kM
 iterate 3 refine kF hC (kn b1) ?_
 refine kP hC true (kn b1) ?_
 exact Vc.nil kM
 refine kS h ?_ ?_ <;> intro b2 h
 refine kt b2 (Xac ?_)
 iterate 2 refine kO hT hC ?_
 refine Vc.nil (Xah (Xav ?_))
 obtain rfl := kj h
 exact Xct (τ := ⟨[(4, .own 16)], [(16, some (.ints .i64 ([] : List Int)))]⟩) (kW hC [(16, 208)]) rfl ⟨rfl, trivial⟩
 refine kf b2 (Xag (Xaf (Xac ?_)))
 refine kO hT hC ?_
 refine Vc.nil ?_
 refine kL [0,3,5,6] [48,208] [_,_,_,_] [_,_] ?_
 refine kA h (fun v4 => ([(6, .sv (.int .i64 v4))], [])) (fun v4 h => ?_) fun v4 h => ?_
 refine Xac ?_
 iterate 8 refine kO hT hC ?_
 refine kN ?_
 iterate 2 refine kO hT hC ?_
 refine Vc.nil ?_
 refine kS h ?_ ?_ <;> intro b3 h
 refine kt b3 ?_
 refine Xei hm ?_
 iterate 2 refine kO hT hC ?_
 refine kC hC [] Tryz.call195 h (fun _ => Xif) fun q5 h => ?_
 iterate 2 refine kO hT hC ?_
 refine kC hC [] Tryz.call195 h (fun _ => Xif) fun q6 h => ?_
 iterate 2 refine kO hT hC ?_
 refine kQ hT hC h fun h => ?_
 iterate 2 refine kO hT hC ?_
 refine kQ hT hC h fun h => ?_
 refine kO hT hC ?_
 exact kD kM
 exact kf b3 (Xag kM)
 refine Xb8 hm ?_
 iterate 2 refine kO hT hC ?_
 refine kC hC [] Tryz.call243 h (fun _ => Xwk) fun q7 h => ?_
 iterate 2 refine kO hT hC ?_
 refine kC hC [] Tryz.call243 h (fun _ => Xwk) fun q8 h => ?_
 iterate 5 refine kO hT hC ?_
 refine kD ?_
 refine kL [0,5,6,8,9,10] [208] [_,_,_,_,_,_] [_] ?_
 refine kA h (fun v9 => ([(10, .sv (.int .i64 v9))], [])) (fun v9 h => ?_) fun v9 h => ?_
 refine Xac ?_
 iterate 2 refine kO hT hC ?_
 refine Vc.nil ?_
 refine kS h ?_ ?_ <;> intro b4 h
 refine kt b4 (Xad ?_)
 refine kO hT hC ?_
 exact Vc.nil kM
 exact kf b4 (Xag kM)
 refine Xat (Xac ?_)
 refine kO hT hC ?_
 refine Vc.nil ?_
 refine kL [0,5,6,8,9,10,54] [208] [_,_,_,_,_,_,_] [_] ?_
 refine kX h (fun v22 => ([(54, .sv (.int .i64 v22.1))], [(208, some (.ints .i64 v22.2))])) (fun v35 => ([(0, .any), (6, .any), (8, .any), (9, .any), (10, .any), (54, .any)], [(208, some (.ints .i64 v35))])) (kW hC []) (fun v22 s h => ?_) fun v35 h => ?_
 unfold Xn2 at h
 refine Xac ?_
 refine kO hT hC ?_
 refine Vc.nil (Xat ?_)
 refine kS h ?_ ?_ <;> intro b31 h
 refine kt b31 (Xag (Xaf (Xat (Xao (Xac ?_)))))
 iterate 2 refine kO hT hC ?_
 refine kN ?_
 refine kO hT hC ?_
 refine Vc.nil ?_
 refine kL [0,5,6,8,9,10,11,54,57] [208] [_,_,_,_,_,_,_,_,_] [_] ?_
 refine kX h (fun v39 => ([(57, .sv (.int .i64 v39.1))], [(208, some (.ints .i64 v39.2))])) (fun v43 => ([(11, .any), (57, .any)], [(208, some (.ints .i64 v43))])) (kW hC []) (fun v39 s h => ?_) fun v43 h => ?_
 unfold Xgk at h
 refine Xac ?_
 refine kO hT hC ?_
 refine Vc.nil (Xat ?_)
 refine kS h ?_ ?_ <;> intro b40 h
 refine kt b40 (Xag (Xaf ?_))
 refine kL [0,5,6,8,9,10,11,54,57] [208] [_,_,_,_,_,_,_,_,_] [_] ?_
 refine kA h (fun v44 => ([(5, .own 1700)], [(1700, some (.ints .i64 v44)), (208, none)])) (fun v44 h => ?_) fun v44 h => ?_
 refine Xao (Xac ?_)
 iterate 2 refine kO hT hC ?_
 refine kN ?_
 refine kO hT hC ?_
 refine Vc.nil (Xao (Xac ?_))
 iterate 2 refine kO hT hC ?_
 refine Vc.nil ?_
 refine kS h ?_ ?_ <;> intro b41 h
 refine kt b41 (Xad ?_)
 iterate 3 refine kO hT hC ?_
 refine kT hT hC h fun h => ?_
 refine kO hT hC ?_
 refine Vc.nil ?_
 iterate 2 refine Xaq ?_
 obtain rfl := kj h
 exact Xhc (kW hC [(1700, 1296)])
 refine kf b41 (Xac ?_)
 iterate 2 refine kO hT hC ?_
 refine Vc.nil ?_
 refine kS h ?_ ?_ <;> intro b42 h
 refine kt b42 (Xad ?_)
 iterate 3 refine kO hT hC ?_
 refine kQ hT hC h fun h => ?_
 iterate 2 refine kO hT hC ?_
 refine kT hT hC h fun h => ?_
 refine kO hT hC ?_
 refine Vc.nil ?_
 iterate 2 refine Xaq ?_
 obtain rfl := kj h
 exact Xhc (kW hC [(1700, 1440)])
 refine kf b42 (Xac ?_)
 iterate 2 refine kO hT hC ?_
 refine Vc.nil ?_
 refine kS h ?_ ?_ <;> intro b43 h
 refine kt b43 (Xad ?_)
 iterate 3 refine kO hT hC ?_
 refine kQ hT hC h fun h => ?_
 iterate 2 refine kO hT hC ?_
 refine kT hT hC h fun h => ?_
 refine kO hT hC ?_
 refine Vc.nil ?_
 iterate 2 refine Xaq ?_
 obtain rfl := kj h
 exact Xhc (kW hC [(1700, 1584)])
 refine kf b43 ?_
 refine Xei hm ?_
 iterate 3 refine kO hT hC ?_
 refine kQ hT hC h fun h => ?_
 iterate 3 refine kO hT hC ?_
 refine kQ hT hC h fun h => ?_
 iterate 4 refine kO hT hC ?_
 refine kC hC [] Tryz.call141 h (fun _ => Xd1) fun q45 h => ?_
 refine kO hT hC ?_
 refine kT hT hC h fun h => ?_
 refine kO hT hC ?_
 refine kD ?_
 iterate 2 refine Xaq ?_
 obtain rfl := kj h
 exact Xhc (kW hC [(1700, 1200)])
 refine Xad ?_
 iterate 2 refine kO hT hC ?_
 refine Vc.nil ?_
 obtain rfl := kj h
 exact Ylx (kW hC [(208, 1700)])
 exact kf b40 (Xas (Xaz ku))
 refine Xaq (Xaf (Xad ?_))
 iterate 2 refine kO hT hC ?_
 exact Vc.nil kG
 exact kf b31 (Xas (Xaz ku))
 refine Xaf (Xac ?_)
 iterate 2 refine kO hT hC ?_
 refine Vc.nil (Xah ?_)
 obtain rfl := kj h
 exact Xct (τ := ⟨[(4, .own 16)], [(16, some (.ints .i64 v35))]⟩) (kW hC [(16, 208)]) rfl ⟨rfl, trivial⟩
def Xxm (r : ((List Int) × Bool)) : AV := .tup [.own 16, .sv (.bool r.2)]
def Xxl (r : ((List Int) × Bool)) : Xa6 := [(16, .ints .i64 r.1)]
theorem Xy9 {p0 p1 p2 p3 p4 p5 p6 p7 r} (h : Xd6 p0 p1 p2 p3 p4 p5 p6 p7 = some r) : AC Tryz.prog 205 [.agg [.sv (.int .i64 p0.Wide), .sv (.int .i64 p0.High), .sv (.str p0.Dots)], .agg [.sv (.int .i64 p1.Wide), .sv (.int .i64 p1.High), .sv (.str p1.Dots)], .sv (.int .i64 p2), .sv (.int .i64 p3), .agg [.sv (.bool p4.Key), .sv (.int .i64 p4.Qp), .sv (.bool p4.Large), .sv (.bool p4.Exact)], .sv (.int .i64 p5), .sv (.int .i64 p6), .agg [.sv (.int .i64 p7.Kind), .sv (.int .i64 p7.Mode), .sv (.int .i64 p7.Dx), .sv (.int .i64 p7.Dy), .sv (.ints .i64 p7.Levels)]] [] (Xxm r) (Xxl r) := by
 refine Xae hT Tryz.func205 rfl fun C hC => ?_
 unfold Xd6 at h
 refine Xac ?_
 iterate 6 refine kO hT hC ?_
 refine Vc.nil (Xat ?_)
 refine kL [2,3,5,6,8,9,12,15] [128,144,192,240] [_,_,_,_,_,_,_,_] [_,_,_,_] ?_
 refine kA h (fun v1 => ([(67, .sv (.bool v1))], [])) (fun v1 h => ?_) fun v1 h => ?_
 refine Xad ?_
 refine kO hT hC ?_
 refine kC hC [] Tryz.call47 h (fun _ => Xdn) fun q2 h => ?_
 iterate 2 refine kO hT hC ?_
 refine kS h ?_ ?_ <;> intro b1 h
 iterate 3 refine kI hT hC (kn b1) ?_
 refine kE hC (kn b1) [] Tryz.call196 h (fun _ => Xfb) fun q3 h => ?_
 refine kI hT hC (kn b1) ?_
 refine kP hC false (kn b1) ?_
 refine kO hT hC ?_
 refine kS h ?_ ?_ <;> intro b2 h
 refine kI hT hC (kn b2) ?_
 refine kE hC (kn b2) [] Tryz.call116 h (fun _ => Xai) fun q4 h => ?_
 refine kI hT hC (kn b2) ?_
 refine kP hC false (kn b2) ?_
 refine kO hT hC ?_
 refine kS h ?_ ?_ <;> intro b3 h
 refine kI hT hC (kn b3) ?_
 refine kE hC (kn b3) [] Tryz.call116 h (fun _ => Xai) fun q5 h => ?_
 refine kI hT hC (kn b3) ?_
 refine kP hC false (kn b3) ?_
 refine kO hT hC ?_
 refine kS h ?_ ?_ <;> intro b4 h
 refine kI hT hC (kn b4) ?_
 refine kE hC (kn b4) [] Tryz.call211 h (fun _ => Xn5) fun q6 h => ?_
 refine kI hT hC (kn b4) ?_
 refine kP hC false (kn b4) ?_
 refine kO hT hC ?_
 refine kS h ?_ ?_ <;> intro b5 h
 refine kI hT hC (kn b5) ?_
 refine kE hC (kn b5) [] Tryz.call127 h (fun _ => Xey) fun q7 h => ?_
 refine kI hT hC (kn b5) ?_
 refine kP hC false (kn b5) ?_
 refine kO hT hC ?_
 refine kS h ?_ ?_ <;> intro b6 h
 iterate 2 refine kI hT hC (kn b6) ?_
 refine kE hC (kn b6) [] Tryz.call212 h (fun _ => Xp2) fun q8 h => ?_
 refine kI hT hC (kn b6) ?_
 refine kP hC false (kn b6) ?_
 refine kO hT hC ?_
 refine kS h ?_ ?_ <;> intro b7 h
 iterate 4 refine kI hT hC (kn b7) ?_
 refine kS h ?_ ?_ <;> intro b8 h
 refine kI hT hC b8 ?_
 refine kE hC b8 [] Tryz.call47 h (fun _ => Xdn) fun q9 h => ?_
 refine kI hT hC b8 ?_
 refine Xax hC rfl rfl rfl rfl (kn b7) rfl rfl (b := true) b8 rfl rfl rfl trivial ?_
 refine kP hC false (kn b7) ?_
 exact Vc.nil kM
 iterate 3 refine kF hC b8 ?_
 refine Xax hC rfl rfl rfl rfl (kn b7) rfl rfl (b := false) b8 rfl rfl rfl trivial ?_
 refine kP hC false (kn b7) ?_
 exact Vc.nil kM
 iterate 4 refine kF hC (kn b7) ?_
 iterate 3 refine Xde hC rfl rfl rfl rfl rfl rfl ?_
 refine kF hC (kn b7) ?_
 refine kP hC true (kn b7) ?_
 exact Vc.nil kM
 iterate 4 refine kF hC (kn b6) ?_
 refine kP hC true (kn b6) ?_
 refine kO hT hC ?_
 iterate 4 refine kF hC rfl ?_
 iterate 3 refine Xde hC rfl rfl rfl rfl rfl rfl ?_
 refine kF hC rfl ?_
 refine kO hT hC ?_
 exact Vc.nil kM
 iterate 3 refine kF hC (kn b5) ?_
 refine kP hC true (kn b5) ?_
 refine kO hT hC ?_
 iterate 4 refine kF hC rfl ?_
 iterate 2 refine kO hT hC ?_
 iterate 4 refine kF hC rfl ?_
 iterate 3 refine Xde hC rfl rfl rfl rfl rfl rfl ?_
 refine kF hC rfl ?_
 refine kO hT hC ?_
 exact Vc.nil kM
 iterate 3 refine kF hC (kn b4) ?_
 refine kP hC true (kn b4) ?_
 refine kO hT hC ?_
 iterate 3 refine kF hC rfl ?_
 iterate 2 refine kO hT hC ?_
 iterate 4 refine kF hC rfl ?_
 iterate 2 refine kO hT hC ?_
 iterate 4 refine kF hC rfl ?_
 iterate 3 refine Xde hC rfl rfl rfl rfl rfl rfl ?_
 refine kF hC rfl ?_
 refine kO hT hC ?_
 exact Vc.nil kM
 iterate 3 refine kF hC (kn b3) ?_
 refine kP hC true (kn b3) ?_
 refine kO hT hC ?_
 iterate 3 refine kF hC rfl ?_
 iterate 2 refine kO hT hC ?_
 iterate 3 refine kF hC rfl ?_
 iterate 2 refine kO hT hC ?_
 iterate 4 refine kF hC rfl ?_
 iterate 2 refine kO hT hC ?_
 iterate 4 refine kF hC rfl ?_
 iterate 3 refine Xde hC rfl rfl rfl rfl rfl rfl ?_
 refine kF hC rfl ?_
 refine kO hT hC ?_
 exact Vc.nil kM
 iterate 3 refine kF hC (kn b2) ?_
 refine kP hC true (kn b2) ?_
 refine kO hT hC ?_
 iterate 3 refine kF hC rfl ?_
 iterate 2 refine kO hT hC ?_
 iterate 3 refine kF hC rfl ?_
 iterate 2 refine kO hT hC ?_
 iterate 3 refine kF hC rfl ?_
 iterate 2 refine kO hT hC ?_
 iterate 4 refine kF hC rfl ?_
 iterate 2 refine kO hT hC ?_
 iterate 4 refine kF hC rfl ?_
 iterate 3 refine Xde hC rfl rfl rfl rfl rfl rfl ?_
 refine kF hC rfl ?_
 refine kO hT hC ?_
 exact Vc.nil kM
 iterate 5 refine kF hC (kn b1) ?_
 refine kP hC true (kn b1) ?_
 refine kO hT hC ?_
 iterate 3 refine kF hC rfl ?_
 iterate 2 refine kO hT hC ?_
 iterate 3 refine kF hC rfl ?_
 iterate 2 refine kO hT hC ?_
 iterate 3 refine kF hC rfl ?_
 iterate 2 refine kO hT hC ?_
 iterate 3 refine kF hC rfl ?_
 iterate 2 refine kO hT hC ?_
 iterate 4 refine kF hC rfl ?_
 iterate 2 refine kO hT hC ?_
 iterate 4 refine kF hC rfl ?_
 iterate 3 refine Xde hC rfl rfl rfl rfl rfl rfl ?_
 refine kF hC rfl ?_
 refine kO hT hC ?_
 exact Vc.nil kM
 refine kS h ?_ ?_ <;> intro b9 h
 refine kt b9 (Xac ?_)
 iterate 3 refine kO hT hC ?_
 refine Vc.nil (Xah (Xav ?_))
 obtain rfl := kj h
 exact Xct (τ := ⟨[(16, .own 16), (17, .sv (.bool false))], [(16, some (.ints .i64 ([] : List Int)))]⟩) (kW hC [(16, 1088)]) rfl ⟨rfl, trivial⟩
 refine kf b9 (Xag (Xaf (Xat (Xac ?_))))
 iterate 3 refine kO hT hC ?_
 refine Vc.nil ?_
 refine kS h ?_ ?_ <;> intro b10 h
 refine kt b10 (Xac ?_)
 iterate 7 refine kO hT hC ?_
 refine kC hC [(16, 1264)] Tryz.call130 h (fun _ => Xdy) fun q10 h => ?_
 iterate 2 refine kO hT hC ?_
 refine Vc.nil (Xah (Xav ?_))
 obtain rfl := kj h
 exact Xct (τ := ⟨[(16, .own 16), (17, .sv (.bool true))], [(16, some (.ints .i64 q10))]⟩) (kW hC [(16, 1264)]) rfl ⟨rfl, trivial⟩
 refine kf b10 (Xag (Xaf (Xac ?_)))
 iterate 3 refine kO hT hC ?_
 refine kC hC [(16, 1344)] Tryz.call246 h (fun _ => Xyx) fun q11 h => ?_
 iterate 5 refine kO hT hC ?_
 refine Vc.nil (Xat (Xac ?_))
 iterate 3 refine kO hT hC ?_
 refine Vc.nil ?_
 refine kS h ?_ ?_ <;> intro b11 h
 refine kt b11 (Xac ?_)
 iterate 13 refine kO hT hC ?_
 refine kC hC [(16, 1648)] Tryz.call130 h (fun _ => Xdy) fun q12 h => ?_
 refine kO hT hC ?_
 refine kC hC [(16, 1680)] Tryz.call247 h (fun _ => Xv7) fun q13 h => ?_
 iterate 2 refine kO hT hC ?_
 refine Vc.nil (Xah (Xav ?_))
 obtain rfl := kj h
 exact Xct (τ := ⟨[(16, .own 16), (17, .sv (.bool true))], [(16, some (.ints .i64 q13))]⟩) (kW hC [(16, 1680)]) rfl ⟨rfl, trivial⟩
 refine kf b11 (Xag (Xaf (Xac ?_)))
 iterate 3 refine kO hT hC ?_
 refine kC hC [(16, 1760), (17, 1761)] Tryz.call198 h (fun _ => Xtz) fun q14 h => ?_
 iterate 6 refine kO hT hC ?_
 refine kN ?_
 iterate 3 refine kO hT hC ?_
 refine kC hC [(16, 1856)] Tryz.call202 h (fun _ => Xo2) fun q15 h => ?_
 refine kO hT hC ?_
 refine kC hC [(16, 1888)] Tryz.call247 h (fun _ => Xv7) fun q16 h => ?_
 iterate 2 refine kO hT hC ?_
 refine Vc.nil (Xah ?_)
 obtain rfl := kj h
 exact Xct (τ := ⟨[(16, .own 16), (17, .sv (.bool true))], [(16, some (.ints .i64 q16))]⟩) (kW hC [(16, 1888)]) rfl ⟨rfl, trivial⟩
def Ym1 (r : (List Int)) : AV := .own 16
def Ym0 (r : (List Int)) : Xa6 := [(16, .ints .u8 r)]
theorem Ypr {p0 r} (h : Xzm p0 = some r) : AC Tryz.prog 207 [.agg [.sv (.int .i64 p0.Wide), .sv (.int .i64 p0.High), .sv (.str p0.Dots)]] [] (Ym1 r) (Ym0 r) := by
 refine Xae hT Tryz.func207 rfl fun C hC => ?_
 unfold Xzm at h
 refine Xac ?_
 iterate 2 refine kO hT hC ?_
 refine kN ?_
 iterate 2 refine kO hT hC ?_
 refine kQ hT hC h fun h => ?_
 refine kO hT hC ?_
 refine Vc.nil (Xah ?_)
 obtain rfl := kj h
 exact Xct (τ := ⟨[(2, .own 16)], [(16, some (.ints .u8 (Xa9 p0.Dots)))]⟩) (kW hC [(16, 80)]) rfl ⟨rfl, trivial⟩
def Ypv (r : Pic) : AV := .agg [.sv (.int .i64 r.Wide), .sv (.int .i64 r.High), .sv (.str r.Dots)]
def Ypu (r : Pic) : Xa6 := []
theorem Yrf {p0 p1 p2 p3 r} (h : Xzr p0 p1 p2 p3 = some r) : AC Tryz.prog 131 [.agg [.sv (.int .i64 p0.Wide), .sv (.int .i64 p0.High), .sv (.str p0.Dots)], .sv (.int .i64 p1), .sv (.int .i64 p2), .sv (.ints .i64 p3)] [] (Ypv r) (Ypu r) := by
 refine Xae hT Tryz.func131 rfl fun C hC => ?_
 unfold Xzr at h
 refine Xac ?_
 iterate 2 refine kO hT hC ?_
 refine kN ?_
 refine kO hT hC ?_
 refine kC hC [(16, 208)] Tryz.call207 h (fun _ => Ypr) fun q1 h => ?_
 refine kO hT hC ?_
 refine Vc.nil (Xat (Xac ?_))
 iterate 3 refine kO hT hC ?_
 refine Vc.nil ?_
 refine kL [1,2,4,8,9,14,15,16] [64,128,208] [_,_,_,_,_,_,_,_] [_,_,_] ?_
 refine kX h (fun v3 => ([(16, .sv (.int .i64 v3.1))], [(208, some (.ints .u8 v3.2))])) (fun v5 => ([(1, .any), (2, .any), (14, .any), (15, .any), (16, .any)], [(208, some (.ints .u8 v5))])) (kW hC []) (fun v3 s h => ?_) fun v5 h => ?_
 unfold Xsd at h
 refine Xac ?_
 refine kO hT hC ?_
 refine Vc.nil (Xat ?_)
 refine kS h ?_ ?_ <;> intro b3 h
 refine kt b3 (Xag (Xaf (Xat (Xao (Xac ?_)))))
 refine kO hT hC ?_
 refine kQ hT hC h fun h => ?_
 iterate 3 refine kO hT hC ?_
 refine Vc.nil (Xad ?_)
 iterate 3 refine kO hT hC ?_
 refine kQ hT hC h fun h => ?_
 iterate 7 refine kO hT hC ?_
 refine kQ hT hC h fun h => ?_
 iterate 3 refine kO hT hC ?_
 iterate 2 refine kQ hT hC h fun h => ?_
 refine Vc.nil (Xaq (Xaf (Xad ?_)))
 iterate 2 refine kO hT hC ?_
 exact Vc.nil kG
 exact kf b3 (Xas (Xaz ku))
 refine Xaf (Xac ?_)
 iterate 4 refine kO hT hC ?_
 refine kN ?_
 iterate 2 refine kO hT hC ?_
 exact Vc.nil (Xah kR)
def Ykl (r : Int) : AV := .sv (.int .i64 r)
def Ykk (r : Int) : Xa6 := []
theorem Ymz {p0 p1 r} (h : Xot p0 p1 = some r) : AC Tryz.prog 72 [.sv (.int .i64 p0), .sv (.int .i64 p1)] [] (Ykl r) (Ykk r) := by
 refine Xae hT Tryz.func72 rfl fun C hC => ?_
 unfold Xot at h
 refine Xac ?_
 refine kO hT hC ?_
 refine kN ?_
 iterate 3 refine kO hT hC ?_
 iterate 2 refine kQ hT hC h fun h => ?_
 refine kO hT hC ?_
 exact Vc.nil (Xah kR)
def Xrn (r : Bool) : AV := .sv (.bool r)
def Xrm (r : Bool) : Xa6 := []
theorem Xtb {p0 p1 r} (h : Xig p0 p1 = some r) : AC Tryz.prog 14 [.sv (.ints .i64 p0), .sv (.ints .i64 p1)] [] (Xrn r) (Xrm r) := by
 refine Xae hT Tryz.func14 rfl fun C hC => ?_
 unfold Xig at h
 refine Xac ?_
 refine kO hT hC ?_
 refine Vc.nil (Xat (Xac ?_))
 iterate 5 refine kO hT hC ?_
 refine Vc.nil ?_
 refine kS h ?_ ?_ <;> intro b1 h
 refine kt b1 (Xac ?_)
 refine kO hT hC ?_
 exact Vc.nil (Xah (Xav kR))
 refine kf b1 (Xag (Xaf (Xat (Xac ?_))))
 refine kO hT hC ?_
 refine Vc.nil ?_
 refine kL [0,1,5] [] [_,_,_] [] ?_
 obtain ⟨o5, hl, h⟩ := Xa8 h
 refine Xmo (fun v2 => ([(5, .sv (.int .i64 v2))], [])) (fun v4 => ([(0, .any), (1, .any), (5, .any)], [])) (fun r => Xw1 C T Tryz.f14.results.toList (Xrn r) (Xrm r)) hl ?_ ?_ ?_ ?_
 apply Xe8 hC []
 exact co
 rfl
 decide
 rfl
 intro v2 s hs
 have h := hs
 unfold Xgp at h
 refine Xat (Xac ?_)
 iterate 4 refine kO hT hC ?_
 refine Vc.nil ?_
 refine kS h ?_ ?_ <;> intro b6 h
 refine kt b6 (Xag (Xaf (Xat (Xao ?_))))
 refine Xb8 hm ?_
 iterate 2 refine kO hT hC ?_
 refine kQ hT hC h fun h => ?_
 iterate 3 refine kO hT hC ?_
 refine kQ hT hC h fun h => ?_
 iterate 2 refine kO hT hC ?_
 refine kD ?_
 refine kS h ?_ ?_ <;> intro b7 h
 refine kt b7 (Xac ?_)
 refine kO hT hC ?_
 refine Vc.nil (Xah (Xh8 (Xav ?_)))
 obtain rfl := kj h
 refine Yaa (Xz3 ?_)
 exact Xct (Xkp.refl _) rfl trivial
 refine kf b7 (Xag (Xaq (Xaf (Xad ?_))))
 iterate 3 refine kO hT hC ?_
 exact Vc.nil kG
 exact kf b6 (Xas (Xaz kb))
 intro v4 e
 subst e
 refine Xaf (Xac ?_)
 refine kO hT hC ?_
 exact Vc.nil (Xah kR)
 intro r' σ' e hE
 subst e
 obtain rfl := kj h
 refine Xav ?_
 exact hE
def Ycl (r : (Rate × Xbm)) : AV := .agg [.sv (.int .i64 r.1.Qp), .sv (.int .i64 r.1.Target), .sv (.int .i64 r.1.Debt)]
def Yck (r : (Rate × Xbm)) : Xa6 := [(0, .box [.sv (.ints .u8 r.2.b_), .sv (.int .i64 r.2.i_), .sv (.int .i64 r.2.h_)])]
theorem Yfh {p0 r} (h : Xlz p0 = some r) : AC Tryz.prog 51 [.ptr 0 0] [(0, .box [.sv (.ints .u8 p0.b_), .sv (.int .i64 p0.i_), .sv (.int .i64 p0.h_)])] (Ycl r) (Yck r) := by
 refine Xae hT Tryz.func51 rfl fun C hC => ?_
 unfold Xlz at h
 refine Xac ?_
 refine kO hT hC ?_
 refine kN ?_
 refine kO hT hC ?_
 refine kC hC [(0, 0)] Tryz.call49 h (fun _ => Xa1) fun q1 h => ?_
 iterate 2 refine kO hT hC ?_
 refine kN ?_
 refine kO hT hC ?_
 refine kC hC [(0, 0)] Tryz.call49 h (fun _ => Xa1) fun q2 h => ?_
 iterate 5 refine kO hT hC ?_
 refine kC hC [(0, 0)] Tryz.call49 h (fun _ => Xa1) fun q3 h => ?_
 iterate 5 refine kO hT hC ?_
 refine Vc.nil (Xah ?_)
 obtain rfl := kj h
 exact Xct (Xkp.refl _) rfl ⟨rfl, trivial⟩
def Xru (r : Int) : AV := .sv (.int .i64 r)
def Xrt (r : Int) : Xa6 := []
theorem Ye2 {p0 p1 r} (h : Xlk p0 p1 = some r) : AC Tryz.prog 117 [.sv (.ints .i64 p0), .sv (.ints .i64 p1)] [] (Xru r) (Xrt r) := by
 refine Xae hT Tryz.func117 rfl fun C hC => ?_
 unfold Xlk at h
 refine Xac ?_
 refine kO hT hC ?_
 refine Vc.nil (Xat (Xac ?_))
 refine kO hT hC ?_
 refine Vc.nil ?_
 refine kL [0,1,5] [] [_,_,_] [] ?_
 obtain ⟨o8, hl, h⟩ := Xa8 h
 refine Xmo (fun v3 => ([(5, .sv (.int .i64 v3))], [])) (fun v6 => ([(0, .any), (1, .any), (5, .any)], [])) (fun r => Xw1 C T Tryz.f117.results.toList (Xru r) (Xrt r)) hl ?_ ?_ ?_ ?_
 apply Xe8 hC []
 exact co
 rfl
 decide
 rfl
 intro v3 s hs
 have h := hs
 unfold Xjq at h
 refine Xat (Xac ?_)
 iterate 2 refine kO hT hC ?_
 refine Vc.nil ?_
 refine kS h ?_ ?_ <;> intro b5 h
 refine kt b5 (Xag (Xaf (Xat (Xao (Xac ?_)))))
 iterate 4 refine kO hT hC ?_
 refine kC hC [] Tryz.call119 h (fun _ => Xsu) fun q7 h => ?_
 refine Vc.nil ?_
 refine kS h ?_ ?_ <;> intro b6 h
 refine kt b6 (Xac ?_)
 iterate 2 refine kO hT hC ?_
 refine Vc.nil (Xah (Xh8 (Xav ?_)))
 obtain rfl := kj h
 refine Yaa (Xz3 ?_)
 exact Xct (Xkp.refl _) rfl trivial
 refine kf b6 (Xag (Xaq (Xaf (Xad ?_))))
 iterate 3 refine kO hT hC ?_
 exact Vc.nil kG
 exact kf b5 (Xas (Xaz kb))
 intro v6 e
 subst e
 refine Xaf (Xac ?_)
 refine kO hT hC ?_
 exact Vc.nil (Xah kR)
 intro r' σ' e hE
 subst e
 obtain rfl := kj h
 refine Xav ?_
 exact hE
def Yiy (r : Bool) : AV := .sv (.bool r)
def Yix (r : Bool) : Xa6 := []
theorem Yk5 {p0 r} (h : Xpj p0 = some r) : AC Tryz.prog 148 [.agg [.sv (.int .i64 p0.Qp), .sv (.int .i64 p0.Target), .sv (.int .i64 p0.Debt)]] [] (Yiy r) (Yix r) := by
 refine Xae hT Tryz.func148 rfl fun C hC => ?_
 unfold Xpj at h
 refine Xac ?_
 iterate 2 refine kO hT hC ?_
 refine Vc.nil ?_
 refine kL [1,2] [16] [_,_] [_] ?_
 refine kA h (fun v1 => ([(2, .sv (.bool v1)), (1, .any)], [(16, none)])) (fun v1 h => ?_) fun v1 h => ?_
 refine Xad ?_
 iterate 2 refine kO hT hC ?_
 refine kC hC [] Tryz.call149 h (fun _ => Xb7) fun q2 h => ?_
 refine kO hT hC ?_
 refine kS h ?_ ?_ <;> intro b1 h
 iterate 2 refine kI hT hC b1 ?_
 refine kE hC b1 [] Tryz.call149 h (fun _ => Xb7) fun q3 h => ?_
 refine kP hC true b1 ?_
 refine kO hT hC ?_
 refine kS h ?_ ?_ <;> intro b2 h
 iterate 8 refine kI hT hC b2 ?_
 refine kE hC b2 [] Tryz.call149 h (fun _ => Xb7) fun q4 h => ?_
 refine kP hC true b2 ?_
 refine kO hT hC ?_
 exact Vc.nil kM
 iterate 9 refine kF hC b2 ?_
 refine kP hC false b2 ?_
 refine kO hT hC ?_
 exact Vc.nil kM
 iterate 3 refine kF hC b1 ?_
 refine kP hC false b1 ?_
 refine kO hT hC ?_
 iterate 9 refine kF hC rfl ?_
 iterate 2 refine kO hT hC ?_
 exact Vc.nil kM
 exact Xah kR
def Yi2 (r : (Int × Int)) : AV := .tup [.sv (.int .i64 r.1), .sv (.int .i64 r.2)]
def Yi1 (r : (Int × Int)) : Xa6 := []
theorem Xwu {p0 r} (h : Xmv p0 = some r) : AC Tryz.prog 52 [.agg [.sv (.int .i64 p0.Level), .sv (.int .i64 p0.Bits), .sv (.ints .i64 p0.Cols), .sv (.ints .i64 p0.Rows)]] [] (Yi2 r) (Yi1 r) := by
 refine Xae hT Tryz.func52 rfl fun C hC => ?_
 unfold Xmv at h
 refine Xac ?_
 iterate 3 refine kO hT hC ?_
 refine Vc.nil (Xat (Xac ?_))
 refine kO hT hC ?_
 refine kC hC [] Tryz.call119 h (fun _ => Xsu) fun q1 h => ?_
 refine kO hT hC ?_
 refine Vc.nil ?_
 refine kS h ?_ ?_ <;> intro b1 h
 refine kt b1 (Xac ?_)
 iterate 2 refine kO hT hC ?_
 exact Vc.nil (Xah (Xav kR))
 refine kf b1 (Xag (Xaf ?_))
 refine Xb8 hm ?_
 iterate 2 refine kO hT hC ?_
 refine kC hC [] Tryz.call120 h (fun _ => Xnb) fun q2 h => ?_
 iterate 3 refine kO hT hC ?_
 refine kC hC [] Tryz.call120 h (fun _ => Xnb) fun q3 h => ?_
 iterate 3 refine kO hT hC ?_
 exact kD (Xah kR)
def Yk4 (r : Bool) : AV := .sv (.bool r)
def Yk3 (r : Bool) : Xa6 := []
theorem Yaj {p0 r} (h : Xfu p0 = some r) : AC Tryz.prog 77 [.agg [.sv (.int .i64 p0.Wide), .sv (.int .i64 p0.High), .sv (.str p0.Dots)]] [] (Yk4 r) (Yk3 r) := by
 refine Xae hT Tryz.func77 rfl fun C hC => ?_
 unfold Xfu at h
 refine Xac ?_
 iterate 2 refine kO hT hC ?_
 refine Vc.nil ?_
 refine kL [1,2] [16] [_,_] [_] ?_
 refine kA h (fun v1 => ([(2, .sv (.bool v1)), (1, .any)], [(16, none)])) (fun v1 h => ?_) fun v1 h => ?_
 refine Xad ?_
 iterate 2 refine kO hT hC ?_
 refine kC hC [] Tryz.call149 h (fun _ => Xb7) fun q2 h => ?_
 refine kO hT hC ?_
 refine kS h ?_ ?_ <;> intro b1 h
 iterate 2 refine kI hT hC b1 ?_
 refine kE hC b1 [] Tryz.call149 h (fun _ => Xb7) fun q3 h => ?_
 refine kP hC true b1 ?_
 refine kO hT hC ?_
 refine kS h ?_ ?_ <;> intro b2 h
 iterate 9 refine kI hT hC b2 ?_
 refine kP hC true b2 ?_
 refine kO hT hC ?_
 exact Vc.nil kM
 iterate 9 refine kF hC b2 ?_
 refine kP hC false b2 ?_
 refine kO hT hC ?_
 exact Vc.nil kM
 iterate 3 refine kF hC b1 ?_
 refine kP hC false b1 ?_
 refine kO hT hC ?_
 iterate 9 refine kF hC rfl ?_
 iterate 2 refine kO hT hC ?_
 exact Vc.nil kM
 exact Xah kR
def Ycb (r : Bool) : AV := .sv (.bool r)
def Yca (r : Bool) : Xa6 := []
theorem Ye4 {p0 r} (h : Xll p0 = some r) : AC Tryz.prog 76 [.agg [.sv (.int .i64 p0.Seq.Level), .sv (.int .i64 p0.Seq.Bits), .sv (.ints .i64 p0.Seq.Cols), .sv (.ints .i64 p0.Seq.Rows), .sv (.int .i64 p0.Par.Qp), .sv (.bool p0.Par.Large), .sv (.bool p0.Par.Exact), .sv (.bool p0.Par.Confined), .sv (.int .i64 p0.Rate.Qp), .sv (.int .i64 p0.Rate.Target), .sv (.int .i64 p0.Rate.Debt), .sv (.int .i64 p0.Frame), .sv (.int .i64 p0.Since), .sv (.int .i64 p0.Every), .sv (.int .i64 p0.Reach), .sv (.bool p0.Has), .sv (.int .i64 p0.Ref.Wide), .sv (.int .i64 p0.Ref.High), .sv (.str p0.Ref.Dots)]] [] (Ycb r) (Yca r) := by
 refine Xae hT Tryz.func76 rfl fun C hC => ?_
 unfold Xll at h
 refine Xac ?_
 iterate 2 refine kO hT hC ?_
 refine Vc.nil (Xat ?_)
 refine kL [1] [16] [_] [_] ?_
 refine kA h (fun v1 => ([(35, .sv (.bool v1))], [])) (fun v1 h => ?_) fun v1 h => ?_
 refine Xad ?_
 iterate 2 refine kO hT hC ?_
 refine kC hC [] Tryz.call101 h (fun _ => Yi3) fun q2 h => ?_
 iterate 2 refine kO hT hC ?_
 refine kS h ?_ ?_ <;> intro b1 h
 iterate 4 refine kF hC b1 ?_
 refine kP hC true b1 ?_
 refine kO hT hC ?_
 iterate 4 refine kF hC rfl ?_
 iterate 2 refine kO hT hC ?_
 iterate 3 refine kF hC rfl ?_
 iterate 2 refine kO hT hC ?_
 iterate 8 refine kF hC rfl ?_
 refine kO hT hC ?_
 exact Vc.nil kM
 iterate 2 refine kI hT hC b1 ?_
 refine kE hC b1 [] Tryz.call96 h (fun _ => Yn6) fun q3 h => ?_
 refine kI hT hC b1 ?_
 refine kP hC false b1 ?_
 refine kO hT hC ?_
 refine kS h ?_ ?_ <;> intro b2 h
 iterate 2 refine kI hT hC (kn b2) ?_
 refine kE hC (kn b2) [] Tryz.call148 h (fun _ => Yk5) fun q4 h => ?_
 refine kI hT hC (kn b2) ?_
 refine kP hC false (kn b2) ?_
 refine kO hT hC ?_
 refine kS h ?_ ?_ <;> intro b3 h
 iterate 3 refine kI hT hC (kn b3) ?_
 refine kP hC false (kn b3) ?_
 refine kO hT hC ?_
 refine kS h ?_ ?_ <;> intro b4 h
 iterate 8 refine kF hC b4 ?_
 refine kP hC true b4 ?_
 exact Vc.nil kM
 iterate 6 refine kI hT hC b4 ?_
 refine kJ hT hC b4 h fun h => ?_
 refine kI hT hC b4 ?_
 refine kP hC false b4 ?_
 exact Vc.nil kM
 iterate 3 refine kF hC (kn b3) ?_
 refine kP hC true (kn b3) ?_
 refine kO hT hC ?_
 iterate 8 refine kF hC rfl ?_
 refine kO hT hC ?_
 exact Vc.nil kM
 iterate 4 refine kF hC (kn b2) ?_
 refine kP hC true (kn b2) ?_
 refine kO hT hC ?_
 iterate 3 refine kF hC rfl ?_
 iterate 2 refine kO hT hC ?_
 iterate 8 refine kF hC rfl ?_
 refine kO hT hC ?_
 exact Vc.nil kM
 refine kS h ?_ ?_ <;> intro b5 h
 refine kt b5 (Xac ?_)
 refine kO hT hC ?_
 exact Vc.nil (Xah (Xav kR))
 refine kf b5 (Xag (Xaf (Xat ?_)))
 refine kL [1] [16] [_] [_] ?_
 refine kA h (fun v5 => ([(51, .sv (.bool v5))], [])) (fun v5 h => ?_) fun v5 h => ?_
 refine Xad ?_
 iterate 2 refine kO hT hC ?_
 refine kC hC [] Tryz.call149 h (fun _ => Xb7) fun q6 h => ?_
 iterate 2 refine kO hT hC ?_
 refine kS h ?_ ?_ <;> intro b6 h
 iterate 2 refine kI hT hC (kn b6) ?_
 refine kE hC (kn b6) [] Tryz.call149 h (fun _ => Xb7) fun q7 h => ?_
 refine kI hT hC (kn b6) ?_
 refine kP hC false (kn b6) ?_
 refine kO hT hC ?_
 refine kS h ?_ ?_ <;> intro b7 h
 iterate 2 refine kI hT hC (kn b7) ?_
 refine kE hC (kn b7) [] Tryz.call149 h (fun _ => Xb7) fun q8 h => ?_
 refine kI hT hC (kn b7) ?_
 refine kP hC false (kn b7) ?_
 exact Vc.nil kM
 iterate 4 refine kF hC (kn b7) ?_
 refine kP hC true (kn b7) ?_
 exact Vc.nil kM
 iterate 4 refine kF hC (kn b6) ?_
 refine kP hC true (kn b6) ?_
 refine kO hT hC ?_
 iterate 4 refine kF hC rfl ?_
 refine kO hT hC ?_
 exact Vc.nil kM
 refine kS h ?_ ?_ <;> intro b8 h
 refine kt b8 (Xac ?_)
 refine kO hT hC ?_
 exact Vc.nil (Xah (Xav kR))
 refine kf b8 (Xag (Xaf (Xac ?_)))
 iterate 2 refine kO hT hC ?_
 refine kC hC [] Tryz.call52 h (fun _ => Xwu) fun q9 h => ?_
 iterate 5 refine kO hT hC ?_
 refine Vc.nil (Xat (Xac ?_))
 iterate 2 refine kO hT hC ?_
 refine Vc.nil ?_
 refine kS h ?_ ?_ <;> intro b9 h
 refine kt b9 ?_
 refine kL [1,3,4] [16] [_,_,_] [_] ?_
 refine kA h (fun v10 => ([(2, .sv (.bool v10)), (1, .any), (3, .any), (4, .any)], [(16, none)])) (fun v10 h => ?_) fun v10 h => ?_
 refine Xad ?_
 iterate 2 refine kO hT hC ?_
 refine kC hC [] Tryz.call77 h (fun _ => Yaj) fun q11 h => ?_
 refine kO hT hC ?_
 refine kS h ?_ ?_ <;> intro b10 h
 iterate 5 refine kI hT hC b10 ?_
 refine kP hC true b10 ?_
 refine kO hT hC ?_
 refine kS h ?_ ?_ <;> intro b11 h
 iterate 5 refine kI hT hC b11 ?_
 refine kP hC true b11 ?_
 refine kO hT hC ?_
 exact Vc.nil kM
 iterate 5 refine kF hC b11 ?_
 refine kP hC false b11 ?_
 refine kO hT hC ?_
 exact Vc.nil kM
 iterate 5 refine kF hC b10 ?_
 refine kP hC false b10 ?_
 refine kO hT hC ?_
 iterate 5 refine kF hC rfl ?_
 iterate 2 refine kO hT hC ?_
 exact Vc.nil kM
 exact Xah (Xav kR)
 refine kf b9 (Xag (Xaf ?_))
 refine kL [1] [16] [_] [_] ?_
 refine kA h (fun v12 => ([(2, .sv (.bool v12)), (1, .any)], [(16, none)])) (fun v12 h => ?_) fun v12 h => ?_
 refine Xad ?_
 iterate 5 refine kO hT hC ?_
 refine kS h ?_ ?_ <;> intro b12 h
 iterate 4 refine kI hT hC b12 ?_
 refine kP hC true b12 ?_
 refine kO hT hC ?_
 refine kS h ?_ ?_ <;> intro b13 h
 iterate 5 refine kI hT hC b13 ?_
 refine kP hC true b13 ?_
 refine kO hT hC ?_
 exact Vc.nil kM
 iterate 5 refine kF hC b13 ?_
 refine kP hC false b13 ?_
 refine kO hT hC ?_
 exact Vc.nil kM
 iterate 4 refine kF hC b12 ?_
 refine kP hC false b12 ?_
 refine kO hT hC ?_
 iterate 5 refine kF hC rfl ?_
 iterate 2 refine kO hT hC ?_
 exact Vc.nil kM
 exact Xah kR
end
end Go.Proofs.YtnhflbeahbcklabGreat.A
