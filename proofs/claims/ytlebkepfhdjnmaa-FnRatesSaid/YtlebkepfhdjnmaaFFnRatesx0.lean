/- Contracts of the functions that the law FnRates reaches, part 0: each comes to what its pure function tells. Written by a program of this session. Conditions: as each statement tells. -/
import Derived.Test.YtlebkepfhdjnmaaBFnRates
namespace Go.Proofs.Ytlebkepfhdjnmaa.A
open Go Go.Proofs Go.Proofs.YtlebkepfhdjnmaaAL Go.RowKit
set_option linter.unusedVariables false
set_option linter.unusedSimpArgs false
set_option maxRecDepth 100000
set_option maxHeartbeats 8000000
noncomputable section
def Xij (r : Bool) : AV := .sv (.bool r)
def Xii (r : Bool) : Xay := []
theorem Xi4 {p0 r} (h : Xfa p0 = some r) : AC Try.prog 8 [.sv (.ints .u8 p0)] [] (Xij r) (Xii r) := by
 refine Xai hT Try.func8 rfl fun C hC => ?_
 unfold Xfa at h
 refine Xal ?_
 refine kO hT hC ?_
 refine kN ?_
 iterate 4 refine kO hT hC ?_
 exact Vc.nil (Xa7 kR)
def Xgb (r : Xaz) : AV := .ptr 16 0
def Xga (r : Xaz) : Xay := [(16, .box [.sv (.ints .u8 r.b_), .sv (.int .i64 r.i_), .sv (.int .i64 r.h_)])]
theorem Xda {p0 r} (h : Xbq p0 = some r) : AC Try.prog 33 [.sv (.ints .u8 p0)] [] (Xgb r) (Xga r) := by
 refine Xai hT Try.func33 rfl fun C hC => ?_
 unfold Xbq at h
 refine Xal ?_
 refine kO hT hC ?_
 refine kN ?_
 iterate 4 refine kO hT hC ?_
 refine Vc.nil (Xh2 (Xal ?_))
 refine kO hT hC ?_
 refine Vc.nil ?_
 refine kL [0,3,4] [] [_,_,_] [] ?_
 refine kX h (fun v3 => ([(3, .sv (.int .i64 v3.1)), (4, .sv (.int .i64 v3.2))], [])) (fun v6 => ([(3, .sv (.int .i64 v6)), (4, .any)], [])) (kW hC []) (fun v3 s h => ?_) fun v6 h => ?_
 unfold Xbv at h
 refine Xh2 ?_
 refine kL [0,3,4] [] [_,_,_] [] ?_
 refine kA h (fun v7 => ([(15, .sv (.bool v7))], [])) (fun v7 h => ?_) fun v7 h => ?_
 refine Xan ?_
 iterate 5 refine kO hT hC ?_
 refine kS h ?_ ?_ <;> intro b5 h
 iterate 2 refine kI hT hC b5 ?_
 refine kP hC true b5 ?_
 exact Vc.nil kM
 iterate 2 refine kF hC b5 ?_
 refine kP hC false b5 ?_
 exact Vc.nil kM
 refine kS h ?_ ?_ <;> intro b6 h
 refine kt b6 (Xb0 (Xbj (Xh2 (Xed (Xan ?_)))))
 iterate 4 refine kO hT hC ?_
 refine kQ hT hC h fun h => ?_
 iterate 6 refine kO hT hC ?_
 refine Vc.nil (Xem (Xbj (Xan ?_)))
 iterate 3 refine kO hT hC ?_
 exact Vc.nil kG
 exact kf b6 (Xg8 (Xkf ku))
 refine Xbj (Xal ?_)
 iterate 5 refine kO hT hC ?_
 refine Vc.nil (Xa7 ?_)
 obtain rfl := kj h
 exact Xmh (τ := ⟨[(2, .ptr 16 0)], [(16, some (.box [.sv (.ints .u8 p0), .sv (.int .i64 0), .sv (.int .i64 v6)]))]⟩) (kW hC [(16, 496)]) rfl ⟨rfl, trivial⟩
def Xe4 (r : (Int × Xaz)) : AV := .sv (.int .i64 r.1)
def Xe3 (r : (Int × Xaz)) : Xay := [(0, .box [.sv (.ints .u8 r.2.b_), .sv (.int .i64 r.2.i_), .sv (.int .i64 r.2.h_)])]
theorem Xat {p0 r} (h : Xam p0 = some r) : AC Try.prog 36 [.ptr 0 0] [(0, .box [.sv (.ints .u8 p0.b_), .sv (.int .i64 p0.i_), .sv (.int .i64 p0.h_)])] (Xe4 r) (Xe3 r) := by
 refine Xai hT Try.func36 rfl fun C hC => ?_
 unfold Xam at h
 refine Xal ?_
 refine kO hT hC ?_
 refine kN ?_
 iterate 10 refine kO hT hC ?_
 refine Vc.nil ?_
 refine Xer hm ?_
 iterate 4 refine kO hT hC ?_
 refine kQ hT hC h fun h => ?_
 iterate 4 refine kO hT hC ?_
 refine kQ hT hC h fun h => ?_
 iterate 3 refine kO hT hC ?_
 refine kD ?_
 refine kL [0,3] [0] [_,_] [_] ?_
 refine kA h (fun v1 => ([(3, .sv (.int .i64 v1.1)), (0, .any)], [(0, some (.box [.sv (.ints .u8 p0.b_), .sv (.int .i64 v1.2), .sv (.int .i64 (Xab .i64 ((Xab .i64 (p0.h_ * 6364136223846793005)) + 1442695040888963407)))]))])) (fun v1 h => ?_) fun v1 h => ?_
 refine Xer hm ?_
 iterate 10 refine kO hT hC ?_
 refine kD ?_
 refine kS h ?_ ?_ <;> intro b1 h
 refine kt b1 ?_
 refine Xer hm ?_
 iterate 9 refine kO hT hC ?_
 refine kQ hT hC h fun h => ?_
 iterate 5 refine kO hT hC ?_
 refine kD (Xan ?_)
 iterate 9 refine kO hT hC ?_
 exact Vc.nil kM
 exact kf b1 (Xb0 kM)
 refine Xal ?_
 iterate 2 refine kO hT hC ?_
 refine Vc.nil (Xa7 ?_)
 obtain rfl := kj h
 exact Xmh (Xdd.refl _) rfl ⟨rfl, trivial⟩
def Xeh (r : (Int × Xaz)) : AV := .sv (.int .i64 r.1)
def Xeg (r : (Int × Xaz)) : Xay := [(0, .box [.sv (.ints .u8 r.2.b_), .sv (.int .i64 r.2.i_), .sv (.int .i64 r.2.h_)])]
theorem Xaq {p0 p1 r} (h : Xag p0 p1 = some r) : AC Try.prog 35 [.ptr 0 0, .sv (.int .i64 p1)] [(0, .box [.sv (.ints .u8 p0.b_), .sv (.int .i64 p0.i_), .sv (.int .i64 p0.h_)])] (Xeh r) (Xeg r) := by
 refine Xai hT Try.func35 rfl fun C hC => ?_
 unfold Xag at h
 refine Xal ?_
 refine kO hT hC ?_
 refine Vc.nil (Xh2 (Xal ?_))
 iterate 2 refine kO hT hC ?_
 refine Vc.nil ?_
 refine kS h ?_ ?_ <;> intro b1 h
 refine kt b1 (Xal ?_)
 refine kO hT hC ?_
 refine Vc.nil (Xa7 (Xjk ?_))
 obtain rfl := kj h
 exact Xmh (Xdd.refl _) rfl ⟨rfl, trivial⟩
 refine kf b1 (Xb0 (Xbj (Xh2 (Xal ?_))))
 iterate 2 refine kO hT hC ?_
 refine Vc.nil ?_
 refine kS h ?_ ?_ <;> intro b2 h
 refine kt b2 (Xal ?_)
 refine kO hT hC ?_
 refine kC hC [(0, 0)] Try.call36 h (fun _ => Xat) fun q1 h => ?_
 refine kO hT hC ?_
 refine kQ hT hC h fun h => ?_
 refine kO hT hC ?_
 refine Vc.nil (Xa7 (Xjk ?_))
 obtain rfl := kj h
 exact Xmh (Xdd.refl _) rfl ⟨rfl, trivial⟩
 refine kf b2 (Xb0 (Xbj (Xal ?_)))
 refine kO hT hC ?_
 refine kC hC [(0, 0)] Try.call36 h (fun _ => Xat) fun q2 h => ?_
 refine kO hT hC ?_
 refine kN ?_
 refine kO hT hC ?_
 refine kC hC [(0, 0)] Try.call36 h (fun _ => Xat) fun q3 h => ?_
 refine kO hT hC ?_
 refine kN ?_
 refine kO hT hC ?_
 refine kC hC [(0, 0)] Try.call36 h (fun _ => Xat) fun q4 h => ?_
 refine kO hT hC ?_
 refine kN ?_
 refine kO hT hC ?_
 refine kC hC [(0, 0)] Try.call36 h (fun _ => Xat) fun q5 h => ?_
 refine kO hT hC ?_
 refine kN ?_
 iterate 11 refine kO hT hC ?_
 refine kQ hT hC h fun h => ?_
 refine kO hT hC ?_
 refine Vc.nil (Xa7 ?_)
 obtain rfl := kj h
 exact Xmh (Xdd.refl _) rfl ⟨rfl, trivial⟩
def Xej (r : (Xcr × Xaz)) : AV := .agg [.sv (.int .i64 r.1.Qp), .sv (.int .i64 r.1.Target), .sv (.int .i64 r.1.Debt)]
def Xei (r : (Xcr × Xaz)) : Xay := [(0, .box [.sv (.ints .u8 r.2.b_), .sv (.int .i64 r.2.i_), .sv (.int .i64 r.2.h_)])]
theorem Xe5 {p0 r} (h : Xbi p0 = some r) : AC Try.prog 34 [.ptr 0 0] [(0, .box [.sv (.ints .u8 p0.b_), .sv (.int .i64 p0.i_), .sv (.int .i64 p0.h_)])] (Xej r) (Xei r) := by
 refine Xai hT Try.func34 rfl fun C hC => ?_
 unfold Xbi at h
 refine Xal ?_
 refine kO hT hC ?_
 refine kN ?_
 refine kO hT hC ?_
 refine kC hC [(0, 0)] Try.call35 h (fun _ => Xaq) fun q1 h => ?_
 iterate 2 refine kO hT hC ?_
 refine kN ?_
 refine kO hT hC ?_
 refine kC hC [(0, 0)] Try.call35 h (fun _ => Xaq) fun q2 h => ?_
 iterate 5 refine kO hT hC ?_
 refine kC hC [(0, 0)] Try.call35 h (fun _ => Xaq) fun q3 h => ?_
 iterate 5 refine kO hT hC ?_
 refine Vc.nil (Xa7 ?_)
 obtain rfl := kj h
 exact Xmh (Xdd.refl _) rfl ⟨rfl, trivial⟩
def Xef (r : (Xcr × (List Int))) : AV := .tup [.agg [.sv (.int .i64 r.1.Qp), .sv (.int .i64 r.1.Target), .sv (.int .i64 r.1.Debt)], .own 16]
def Xee (r : (Xcr × (List Int))) : Xay := [(16, .ints .i64 r.2)]
theorem Xe1 {p0 r} (h : Xbh p0 = some r) : AC Try.prog 9 [.sv (.ints .u8 p0)] [] (Xef r) (Xee r) := by
 refine Xai hT Try.func9 rfl fun C hC => ?_
 unfold Xbh at h
 refine Xal ?_
 iterate 2 refine kO hT hC ?_
 refine kN ?_
 refine kO hT hC ?_
 refine kC hC [(16, 144)] Try.call33 h (fun _ => Xda) fun q1 h => ?_
 refine kO hT hC ?_
 refine kN ?_
 refine kO hT hC ?_
 refine kC hC [(0, 144)] Try.call34 h (fun _ => Xe5) fun q2 h => ?_
 iterate 2 refine kO hT hC ?_
 refine kN ?_
 iterate 2 refine kO hT hC ?_
 refine Vc.nil (Xh2 (Xal ?_))
 refine kO hT hC ?_
 refine Vc.nil ?_
 refine kL [2,4,5,6,7] [32,80,144,192] [_,_,_,_,_] [_,_,_,_] ?_
 refine kX h (fun v6 => ([(7, .sv (.int .i64 v6.1))], [(144, some (.box [.sv (.ints .u8 v6.2.1), .sv (.int .i64 v6.2.2.1), .sv (.int .i64 v6.2.2.2.1)])), (192, some (.ints .i64 v6.2.2.2.2))])) (fun v10 => ([(4, .any), (7, .any)], [(192, some (.ints .i64 v10)), (144, none)])) (kW hC []) (fun v6 s h => ?_) fun v10 h => ?_
 unfold Xa9 at h
 refine Xh2 (Xal ?_)
 iterate 2 refine kO hT hC ?_
 refine kC hC [(0, 144)] Try.call35 h (fun _ => Xaq) fun q11 h => ?_
 iterate 2 refine kO hT hC ?_
 refine Vc.nil ?_
 refine kS h ?_ ?_ <;> intro b3 h
 refine kt b3 (Xb0 (Xbj (Xh2 (Xed (Xan ?_)))))
 iterate 2 refine kO hT hC ?_
 refine kC hC [(0, 144)] Try.call35 h (fun _ => Xaq) fun q12 h => ?_
 refine kO hT hC ?_
 refine kT hT hC h fun h => ?_
 refine kO hT hC ?_
 refine Vc.nil (Xem (Xbj (Xan ?_)))
 iterate 3 refine kO hT hC ?_
 refine Vc.nil ?_
 obtain rfl := kj h
 exact Xoy (kW hC [(192, 384)])
 exact kf b3 (Xg8 (Xkf ku))
 refine Xbj (Xal ?_)
 iterate 4 refine kO hT hC ?_
 refine Vc.nil (Xa7 ?_)
 obtain rfl := kj h
 exact Xmh (τ := ⟨[(2, .ptr 2000000 0), (3, .own 16)], [(16, some (.ints .i64 v10)), (2000000, some (.box [.sv (.int .i64 q2.1.Qp), .sv (.int .i64 q2.1.Target), .sv (.int .i64 q2.1.Debt)]))]⟩) (kW hC [(16, 192), (2000000, 32)]) rfl ⟨rfl, trivial⟩
def Xdk (r : (List Int)) : AV := .own 16
def Xdj (r : (List Int)) : Xay := [(16, .ints .i64 r)]
theorem Xdv {p0 r} (h : Xa5 p0 = some r) : AC Try.prog 10 [.sv (.ints .u8 p0)] [] (Xdk r) (Xdj r) := by
 refine Xai hT Try.func10 rfl fun C hC => ?_
 unfold Xa5 at h
 refine Xal ?_
 refine kO hT hC ?_
 refine kN ?_
 refine kO hT hC ?_
 refine kC hC [(16, 112)] Try.call33 h (fun _ => Xda) fun q1 h => ?_
 refine kO hT hC ?_
 refine kN ?_
 refine kO hT hC ?_
 refine kC hC [(0, 112)] Try.call36 h (fun _ => Xat) fun q2 h => ?_
 refine kN ?_
 iterate 2 refine kO hT hC ?_
 refine Vc.nil (Xh2 (Xal ?_))
 refine kO hT hC ?_
 refine Vc.nil ?_
 refine kL [3,4,5] [112,160] [_,_,_] [_,_] ?_
 refine kX h (fun v5 => ([(5, .sv (.int .i64 v5.1))], [(112, some (.box [.sv (.ints .u8 v5.2.1), .sv (.int .i64 v5.2.2.1), .sv (.int .i64 v5.2.2.2.1)])), (160, some (.ints .i64 v5.2.2.2.2))])) (fun v8 => ([(3, .any), (5, .any)], [(160, some (.ints .i64 v8)), (112, none)])) (kW hC []) (fun v5 s h => ?_) fun v8 h => ?_
 unfold Xax at h
 refine Xh2 (Xal ?_)
 iterate 2 refine kO hT hC ?_
 refine Vc.nil ?_
 refine kS h ?_ ?_ <;> intro b3 h
 refine kt b3 (Xb0 (Xbj (Xh2 (Xed (Xan ?_)))))
 iterate 2 refine kO hT hC ?_
 refine kC hC [(0, 112)] Try.call35 h (fun _ => Xaq) fun q9 h => ?_
 refine kO hT hC ?_
 refine kT hT hC h fun h => ?_
 refine kO hT hC ?_
 refine Vc.nil (Xem (Xbj (Xan ?_)))
 iterate 3 refine kO hT hC ?_
 refine Vc.nil ?_
 obtain rfl := kj h
 exact Xoy (kW hC [(160, 304)])
 exact kf b3 (Xg8 (Xkf ku))
 refine Xbj (Xal ?_)
 iterate 2 refine kO hT hC ?_
 refine Vc.nil (Xa7 ?_)
 obtain rfl := kj h
 exact Xmh (τ := ⟨[(2, .own 16)], [(16, some (.ints .i64 v8))]⟩) (kW hC [(16, 160)]) rfl ⟨rfl, trivial⟩
def Xfs (r : Bool) : AV := .sv (.bool r)
def Xfr (r : Bool) : Xay := []
theorem Xcj {p0 p1 p2 r} (h : Xba p0 p1 p2 = some r) : AC Try.prog 38 [.sv (.int .i64 p0), .sv (.int .i64 p1), .sv (.int .i64 p2)] [] (Xfs r) (Xfr r) := by
 refine Xai hT Try.func38 rfl fun C hC => ?_
 unfold Xba at h
 refine Xal ?_
 refine kO hT hC ?_
 refine Vc.nil ?_
 refine kL [0,1,2,6] [] [_,_,_,_] [] ?_
 refine kA h (fun v1 => ([(6, .sv (.bool v1)), (0, .any), (1, .any), (2, .any)], [])) (fun v1 h => ?_) fun v1 h => ?_
 refine Xan ?_
 iterate 4 refine kO hT hC ?_
 refine kS h ?_ ?_ <;> intro b1 h
 iterate 3 refine kI hT hC b1 ?_
 refine kP hC true b1 ?_
 refine kO hT hC ?_
 exact Vc.nil kM
 iterate 3 refine kF hC b1 ?_
 refine kP hC false b1 ?_
 refine kO hT hC ?_
 exact Vc.nil kM
 exact Xa7 kR
def Xfq (r : Bool) : AV := .sv (.bool r)
def Xfp (r : Bool) : Xay := []
theorem Xbs {p0 r} (h : Xa1 p0 = some r) : AC Try.prog 13 [.agg [.sv (.int .i64 p0.Qp), .sv (.int .i64 p0.Target), .sv (.int .i64 p0.Debt)]] [] (Xfq r) (Xfp r) := by
 refine Xai hT Try.func13 rfl fun C hC => ?_
 unfold Xa1 at h
 refine Xal ?_
 iterate 2 refine kO hT hC ?_
 refine Vc.nil ?_
 refine kL [1,2] [16] [_,_] [_] ?_
 refine kA h (fun v1 => ([(2, .sv (.bool v1)), (1, .any)], [(16, none)])) (fun v1 h => ?_) fun v1 h => ?_
 refine Xan ?_
 iterate 2 refine kO hT hC ?_
 refine kC hC [] Try.call38 h (fun _ => Xcj) fun q2 h => ?_
 refine kO hT hC ?_
 refine kS h ?_ ?_ <;> intro b1 h
 iterate 2 refine kI hT hC b1 ?_
 refine kE hC b1 [] Try.call38 h (fun _ => Xcj) fun q3 h => ?_
 refine kP hC true b1 ?_
 refine kO hT hC ?_
 refine kS h ?_ ?_ <;> intro b2 h
 iterate 8 refine kI hT hC b2 ?_
 refine kE hC b2 [] Try.call38 h (fun _ => Xcj) fun q4 h => ?_
 refine kP hC true b2 ?_
 refine kO hT hC ?_
 exact Vc.nil kM
 iterate 9 refine kF hC b2 ?_
 refine kP hC false b2 ?_
 refine kO hT hC ?_
 exact Vc.nil kM
 iterate 3 refine kF hC b1 ?_
 refine kP hC false b1 ?_
 refine kO hT hC ?_
 iterate 9 refine kF hC rfl ?_
 iterate 2 refine kO hT hC ?_
 exact Vc.nil kM
 exact Xa7 kR
def Xeu (r : Int) : AV := .sv (.int .i64 r)
def Xet (r : Int) : Xay := []
theorem Xcb {p0 p1 p2 r} (h : Xa0 p0 p1 p2 = some r) : AC Try.prog 37 [.sv (.int .i64 p0), .sv (.int .i64 p1), .sv (.int .i64 p2)] [] (Xeu r) (Xet r) := by
 refine Xai hT Try.func37 rfl fun C hC => ?_
 unfold Xa0 at h
 refine Xal ?_
 refine kO hT hC ?_
 refine kN ?_
 iterate 6 refine kO hT hC ?_
 exact Vc.nil (Xa7 kR)
def Xd9 (r : Xcr) : AV := .agg [.sv (.int .i64 r.Qp), .sv (.int .i64 r.Target), .sv (.int .i64 r.Debt)]
def Xd8 (r : Xcr) : Xay := []
theorem Xb1 {p0 p1 r} (h : Xau p0 p1 = some r) : AC Try.prog 12 [.agg [.sv (.int .i64 p0.Qp), .sv (.int .i64 p0.Target), .sv (.int .i64 p0.Debt)], .sv (.int .i64 p1)] [] (Xd9 r) (Xd8 r) := by
 refine Xai hT Try.func12 rfl fun C hC => ?_
 unfold Xau at h
 refine Xal ?_
 iterate 2 refine kO hT hC ?_
 refine Vc.nil (Xh2 (Xal ?_))
 refine kO hT hC ?_
 refine kC hC [] Try.call13 h (fun _ => Xbs) fun q1 h => ?_
 refine kO hT hC ?_
 refine Vc.nil ?_
 refine kS h ?_ ?_ <;> intro b1 h
 refine kt b1 (Xal ?_)
 iterate 2 refine kO hT hC ?_
 exact Vc.nil (Xa7 (Xjk kR))
 refine kf b1 (Xb0 (Xbj ?_))
 refine Xer hm ?_
 iterate 3 refine kO hT hC ?_
 refine kC hC [] Try.call37 h (fun _ => Xcb) fun q2 h => ?_
 iterate 10 refine kO hT hC ?_
 refine kC hC [] Try.call37 h (fun _ => Xcb) fun q3 h => ?_
 iterate 2 refine kO hT hC ?_
 refine kD ?_
 refine kL [2,4] [32,64] [_,_] [_,_] ?_
 refine kA h (fun v4 => ([], [(32, some (.box [.sv (.int .i64 v4), .sv (.int .i64 p0.Target), .sv (.int .i64 q3)]))])) (fun v4 h => ?_) fun v4 h => ?_
 refine Xed (Xal ?_)
 iterate 6 refine kO hT hC ?_
 refine Vc.nil ?_
 refine kS h ?_ ?_ <;> intro b2 h
 refine kt b2 (Xan ?_)
 iterate 5 refine kO hT hC ?_
 exact Vc.nil (Xem kM)
 refine kf b2 (Xal ?_)
 iterate 7 refine kO hT hC ?_
 refine Vc.nil ?_
 refine kS h ?_ ?_ <;> intro b3 h
 refine kt b3 (Xan ?_)
 iterate 5 refine kO hT hC ?_
 exact Vc.nil (Xem kM)
 exact kf b3 (Xb0 (Xem kM))
 refine Xal ?_
 iterate 2 refine kO hT hC ?_
 refine kC hC [] Try.call37 h (fun _ => Xcb) fun q5 h => ?_
 iterate 2 refine kO hT hC ?_
 refine kN ?_
 iterate 2 refine kO hT hC ?_
 exact Vc.nil (Xa7 kR)
def Xew (r : Xcr) : AV := .agg [.sv (.int .i64 r.Qp), .sv (.int .i64 r.Target), .sv (.int .i64 r.Debt)]
def Xev (r : Xcr) : Xay := []
theorem Xcc {p0 p1 r} (h : Xa2 p0 p1 = some r) : AC Try.prog 11 [.agg [.sv (.int .i64 p0.Qp), .sv (.int .i64 p0.Target), .sv (.int .i64 p0.Debt)], .sv (.ints .i64 p1)] [] (Xew r) (Xev r) := by
 refine Xai hT Try.func11 rfl fun C hC => ?_
 unfold Xa2 at h
 refine Xal ?_
 iterate 2 refine kO hT hC ?_
 refine Vc.nil (Xh2 (Xal ?_))
 iterate 3 refine kO hT hC ?_
 refine Vc.nil ?_
 refine kS h ?_ ?_ <;> intro b1 h
 refine kt b1 (Xal ?_)
 iterate 2 refine kO hT hC ?_
 exact Vc.nil (Xa7 (Xjk kR))
 refine kf b1 (Xb0 (Xbj (Xh2 (Xal ?_))))
 iterate 3 refine kO hT hC ?_
 refine Vc.nil ?_
 refine kL [2,4,11,12,13] [32,64] [_,_,_,_,_] [_,_] ?_
 refine kX h (fun v3 => ([(13, .sv (.int .i64 v3.1))], [(32, some (.box [.sv (.int .i64 v3.2.1), .sv (.int .i64 v3.2.2.1), .sv (.int .i64 v3.2.2.2)]))])) (fun v6 => ([(11, .any), (12, .any), (13, .any)], [(32, some (.box [.sv (.int .i64 v6.1), .sv (.int .i64 v6.2.1), .sv (.int .i64 v6.2.2)]))])) (kW hC []) (fun v3 s h => ?_) fun v6 h => ?_
 unfold Xa3 at h
 refine Xal ?_
 refine kO hT hC ?_
 refine Vc.nil (Xh2 ?_)
 refine kS h ?_ ?_ <;> intro b4 h
 refine kt b4 (Xb0 (Xbj (Xh2 (Xed (Xal ?_)))))
 refine kQ hT hC h fun h => ?_
 iterate 2 refine kO hT hC ?_
 refine Vc.nil (Xan ?_)
 iterate 2 refine kO hT hC ?_
 refine kC hC [] Try.call12 h (fun _ => Xb1) fun q7 h => ?_
 refine kO hT hC ?_
 refine Vc.nil (Xem (Xbj (Xan ?_)))
 iterate 2 refine kO hT hC ?_
 exact Vc.nil kG
 exact kf b4 (Xg8 (Xkf ku))
 refine Xbj (Xal ?_)
 iterate 2 refine kO hT hC ?_
 exact Vc.nil (Xa7 kR)
def Xgk (r : Int) : AV := .sv (.int .i64 r)
def Xgj (r : Int) : Xay := []
theorem Xcu {p0 p1 r} (h : Xbk p0 p1 = some r) : AC Try.prog 14 [.agg [.sv (.int .i64 p0.Qp), .sv (.int .i64 p0.Target), .sv (.int .i64 p0.Debt)], .sv (.bool p1)] [] (Xgk r) (Xgj r) := by
 refine Xai hT Try.func14 rfl fun C hC => ?_
 unfold Xbk at h
 refine Xal ?_
 iterate 2 refine kO hT hC ?_
 refine Vc.nil (Xh2 (Xed (Xal ?_)))
 refine kO hT hC ?_
 refine kC hC [] Try.call13 h (fun _ => Xbs) fun q1 h => ?_
 iterate 2 refine kO hT hC ?_
 refine Vc.nil ?_
 refine kS h ?_ ?_ <;> intro b1 h
 refine kt b1 (Xal ?_)
 refine kO hT hC ?_
 exact Vc.nil (Xa7 (Xn4 (Xjk kR)))
 refine kf b1 (Xal ?_)
 iterate 2 refine kO hT hC ?_
 refine Vc.nil ?_
 refine kS h ?_ ?_ <;> intro b2 h
 refine kt b2 (Xal ?_)
 iterate 5 refine kO hT hC ?_
 exact Vc.nil (Xa7 (Xn4 (Xjk kR)))
 refine kf b2 (Xb0 (Xem (Xbj (Xal ?_))))
 iterate 3 refine kO hT hC ?_
 exact Vc.nil (Xa7 kR)
def Xey (r : Bool) : AV := .sv (.bool r)
def Xex (r : Bool) : Xay := []
theorem Xft {p0 r} (h : Xcg p0 = some r) : AC Try.prog 3 [.sv (.ints .u8 p0)] [] (Xey r) (Xex r) := by
 refine Xai hT Try.func3 rfl fun C hC => ?_
 unfold Xcg at h
 refine Xal ?_
 refine kO hT hC ?_
 refine Vc.nil (Xh2 (Xal ?_))
 refine kO hT hC ?_
 refine kC hC [] Try.call8 h (fun _ => Xi4) fun q1 h => ?_
 refine Vc.nil ?_
 refine kS h ?_ ?_ <;> intro b1 h
 refine kt b1 (Xal ?_)
 refine kO hT hC ?_
 exact Vc.nil (Xa7 (Xjk kR))
 refine kf b1 (Xb0 (Xbj (Xal ?_)))
 refine kO hT hC ?_
 refine kC hC [(16, 256)] Try.call9 h (fun _ => Xe1) fun q2 h => ?_
 iterate 6 refine kO hT hC ?_
 refine kN ?_
 refine kO hT hC ?_
 refine kC hC [(16, 320)] Try.call10 h (fun _ => Xdv) fun q3 h => ?_
 refine kO hT hC ?_
 refine kN ?_
 refine kO hT hC ?_
 iterate 2 refine kQ hT hC h fun h => ?_
 iterate 3 refine kO hT hC ?_
 refine kQ hT hC h fun h => ?_
 refine kO hT hC ?_
 refine Vc.nil ?_
 refine Xer hm ?_
 iterate 3 refine kO hT hC ?_
 refine kT hT hC h fun h => ?_
 refine kC hC [] Try.call11 h (fun _ => Xcc) fun q4 h => ?_
 iterate 2 refine kO hT hC ?_
 refine kD ?_
 refine Xer hm ?_
 iterate 4 refine kO hT hC ?_
 refine kQ hT hC h fun h => ?_
 obtain ⟨hq, h⟩ := Xc6 h
 refine Xoh hT hC rfl rfl rfl rfl ⟨hq.1, hq.2⟩ ?_
 refine kC hC [] Try.call11 h (fun _ => Xcc) fun q5 h => ?_
 iterate 3 refine kO hT hC ?_
 refine kQ hT hC h fun h => ?_
 obtain ⟨hq, h⟩ := Xc6 h
 refine Xoh hT hC rfl rfl rfl rfl ⟨hq.1, hq.2⟩ ?_
 refine kC hC [] Try.call11 h (fun _ => Xcc) fun q6 h => ?_
 iterate 2 refine kO hT hC ?_
 refine kD ?_
 refine Xer hm ?_
 iterate 2 refine kO hT hC ?_
 iterate 2 refine kQ hT hC h fun h => ?_
 refine kC hC [] Try.call12 h (fun _ => Xb1) fun q7 h => ?_
 iterate 2 refine kO hT hC ?_
 refine kD ?_
 refine Xer hm ?_
 iterate 2 refine kO hT hC ?_
 iterate 2 refine kQ hT hC h fun h => ?_
 refine kO hT hC ?_
 iterate 2 refine kQ hT hC h fun h => ?_
 refine kO hT hC ?_
 refine kC hC [] Try.call12 h (fun _ => Xb1) fun q8 h => ?_
 iterate 2 refine kO hT hC ?_
 refine kD (Xal ?_)
 iterate 6 refine kO hT hC ?_
 refine Vc.nil ?_
 refine kL [2,3,7,8,9,10,11] [48,112,128,144,160] [_,_,_,_,_,_,_] [_,_,_,_,_] ?_
 refine kA h (fun v9 => ([(2, .sv (.bool v9)), (3, .any), (7, .any), (8, .any), (9, .any), (10, .any), (11, .any)], [(48, none), (112, none), (128, none), (144, none), (160, none)])) (fun v9 h => ?_) fun v9 h => ?_
 refine Xk5 hm ?_
 refine kO hT hC ?_
 refine kC hC [] Try.call13 h (fun _ => Xbs) fun q10 h => ?_
 refine kO hT hC ?_
 refine kS h ?_ ?_ <;> intro b2 h
 refine kI hT hC b2 ?_
 refine kE hC b2 [] Try.call13 h (fun _ => Xbs) fun q11 h => ?_
 refine kP hC true b2 ?_
 refine kO hT hC ?_
 refine kS h ?_ ?_ <;> intro b3 h
 iterate 2 refine kI hT hC b3 ?_
 refine Xnw hC rfl rfl rfl rfl b3 rfl rfl rfl Xn6 rfl rfl ?_
 refine kP hC true b3 ?_
 refine kO hT hC ?_
 refine kS h ?_ ?_ <;> intro b4 h
 iterate 5 refine kI hT hC b4 ?_
 refine kP hC true b4 ?_
 refine kO hT hC ?_
 refine kS h ?_ ?_ <;> intro b5 h
 iterate 2 refine kI hT hC b5 ?_
 refine kP hC true b5 ?_
 refine kO hT hC ?_
 refine kS h ?_ ?_ <;> intro b6 h
 iterate 2 refine kI hT hC b6 ?_
 refine kP hC true b6 ?_
 refine kO hT hC ?_
 refine kS h ?_ ?_ <;> intro b7 h
 iterate 5 refine kI hT hC b7 ?_
 refine kP hC true b7 ?_
 refine kO hT hC ?_
 refine kS h ?_ ?_ <;> intro b8 h
 iterate 5 refine kI hT hC b8 ?_
 refine kP hC true b8 ?_
 refine kO hT hC ?_
 refine kS h ?_ ?_ <;> intro b9 h
 refine kI hT hC b9 ?_
 refine kE hC b9 [] Try.call14 h (fun _ => Xcu) fun q12 h => ?_
 iterate 3 refine kI hT hC b9 ?_
 refine kP hC true b9 ?_
 refine kO hT hC ?_
 refine kS h ?_ ?_ <;> intro b10 h
 refine kI hT hC b10 ?_
 refine kE hC b10 [] Try.call14 h (fun _ => Xcu) fun q13 h => ?_
 iterate 3 refine kI hT hC b10 ?_
 refine kP hC true b10 ?_
 refine kO hT hC ?_
 refine kS h ?_ ?_ <;> intro b11 h
 refine kI hT hC b11 ?_
 refine kE hC b11 [] Try.call14 h (fun _ => Xcu) fun q14 h => ?_
 iterate 4 refine kI hT hC b11 ?_
 refine kP hC true b11 ?_
 refine kO hT hC ?_
 exact kD kM
 iterate 6 refine kF hC b11 ?_
 refine kP hC false b11 ?_
 refine kO hT hC ?_
 exact kD kM
 iterate 5 refine kF hC b10 ?_
 refine kP hC false b10 ?_
 refine kO hT hC ?_
 iterate 6 refine kF hC rfl ?_
 iterate 2 refine kO hT hC ?_
 exact kD kM
 iterate 5 refine kF hC b9 ?_
 refine kP hC false b9 ?_
 refine kO hT hC ?_
 iterate 5 refine kF hC rfl ?_
 iterate 2 refine kO hT hC ?_
 iterate 6 refine kF hC rfl ?_
 iterate 2 refine kO hT hC ?_
 exact kD kM
 iterate 5 refine kF hC b8 ?_
 refine kP hC false b8 ?_
 refine kO hT hC ?_
 iterate 5 refine kF hC rfl ?_
 iterate 2 refine kO hT hC ?_
 iterate 5 refine kF hC rfl ?_
 iterate 2 refine kO hT hC ?_
 iterate 6 refine kF hC rfl ?_
 iterate 2 refine kO hT hC ?_
 exact kD kM
 iterate 5 refine kF hC b7 ?_
 refine kP hC false b7 ?_
 refine kO hT hC ?_
 iterate 5 refine kF hC rfl ?_
 iterate 2 refine kO hT hC ?_
 iterate 5 refine kF hC rfl ?_
 iterate 2 refine kO hT hC ?_
 iterate 5 refine kF hC rfl ?_
 iterate 2 refine kO hT hC ?_
 iterate 6 refine kF hC rfl ?_
 iterate 2 refine kO hT hC ?_
 exact kD kM
 iterate 2 refine kF hC b6 ?_
 refine kP hC false b6 ?_
 refine kO hT hC ?_
 iterate 5 refine kF hC rfl ?_
 iterate 2 refine kO hT hC ?_
 iterate 5 refine kF hC rfl ?_
 iterate 2 refine kO hT hC ?_
 iterate 5 refine kF hC rfl ?_
 iterate 2 refine kO hT hC ?_
 iterate 5 refine kF hC rfl ?_
 iterate 2 refine kO hT hC ?_
 iterate 6 refine kF hC rfl ?_
 iterate 2 refine kO hT hC ?_
 exact kD kM
 iterate 2 refine kF hC b5 ?_
 refine kP hC false b5 ?_
 refine kO hT hC ?_
 iterate 2 refine kF hC rfl ?_
 iterate 2 refine kO hT hC ?_
 iterate 5 refine kF hC rfl ?_
 iterate 2 refine kO hT hC ?_
 iterate 5 refine kF hC rfl ?_
 iterate 2 refine kO hT hC ?_
 iterate 5 refine kF hC rfl ?_
 iterate 2 refine kO hT hC ?_
 iterate 5 refine kF hC rfl ?_
 iterate 2 refine kO hT hC ?_
 iterate 6 refine kF hC rfl ?_
 iterate 2 refine kO hT hC ?_
 exact kD kM
 iterate 5 refine kF hC b4 ?_
 refine kP hC false b4 ?_
 refine kO hT hC ?_
 iterate 2 refine kF hC rfl ?_
 iterate 2 refine kO hT hC ?_
 iterate 2 refine kF hC rfl ?_
 iterate 2 refine kO hT hC ?_
 iterate 5 refine kF hC rfl ?_
 iterate 2 refine kO hT hC ?_
 iterate 5 refine kF hC rfl ?_
 iterate 2 refine kO hT hC ?_
 iterate 5 refine kF hC rfl ?_
 iterate 2 refine kO hT hC ?_
 iterate 5 refine kF hC rfl ?_
 iterate 2 refine kO hT hC ?_
 iterate 6 refine kF hC rfl ?_
 iterate 2 refine kO hT hC ?_
 exact kD kM
 iterate 3 refine kF hC b3 ?_
 refine kP hC false b3 ?_
 refine kO hT hC ?_
 iterate 5 refine kF hC rfl ?_
 iterate 2 refine kO hT hC ?_
 iterate 2 refine kF hC rfl ?_
 iterate 2 refine kO hT hC ?_
 iterate 2 refine kF hC rfl ?_
 iterate 2 refine kO hT hC ?_
 iterate 5 refine kF hC rfl ?_
 iterate 2 refine kO hT hC ?_
 iterate 5 refine kF hC rfl ?_
 iterate 2 refine kO hT hC ?_
 iterate 5 refine kF hC rfl ?_
 iterate 2 refine kO hT hC ?_
 iterate 5 refine kF hC rfl ?_
 iterate 2 refine kO hT hC ?_
 iterate 6 refine kF hC rfl ?_
 iterate 2 refine kO hT hC ?_
 exact kD kM
 iterate 2 refine kF hC b2 ?_
 refine kP hC false b2 ?_
 refine kO hT hC ?_
 iterate 3 refine kF hC rfl ?_
 iterate 2 refine kO hT hC ?_
 iterate 5 refine kF hC rfl ?_
 iterate 2 refine kO hT hC ?_
 iterate 2 refine kF hC rfl ?_
 iterate 2 refine kO hT hC ?_
 iterate 2 refine kF hC rfl ?_
 iterate 2 refine kO hT hC ?_
 iterate 5 refine kF hC rfl ?_
 iterate 2 refine kO hT hC ?_
 iterate 5 refine kF hC rfl ?_
 iterate 2 refine kO hT hC ?_
 iterate 5 refine kF hC rfl ?_
 iterate 2 refine kO hT hC ?_
 iterate 5 refine kF hC rfl ?_
 iterate 2 refine kO hT hC ?_
 iterate 6 refine kF hC rfl ?_
 iterate 2 refine kO hT hC ?_
 exact kD kM
 exact Xa7 kR
end
end Go.Proofs.Ytlebkepfhdjnmaa.A
