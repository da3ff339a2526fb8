/- Contracts of the functions that the law FnExactDecStep reaches, part 1: each comes to what its pure function tells. Written by a program of this session. Conditions: as each statement tells. -/
import Derived.Test.YtjgbfopmjpkkhaaGreatFFnExactDecStepx0
namespace Go.Proofs.YtjgbfopmjpkkhaaGreat.A
open Go Go.Proofs Go.Proofs.YtjgbfopmjpkkhaaGreatAL Go.RowKit
set_option linter.unusedVariables false
set_option linter.unusedSimpArgs false
set_option maxRecDepth 100000
set_option maxHeartbeats 2000000
noncomputable section
def Xz4 (r : (List Int)) : AV := .own 16
def Xz3 (r : (List Int)) : Xa4 := [(16, .ints .i64 r)]
theorem Yd7 {p0 p1 r} (h : Xfc p0 p1 = some r) : AC Tryz.prog 181 [.sv (.int .i64 p0), .agg [.sv (.ints .i64 p1.Above), .sv (.ints .i64 p1.Left), .sv (.int .i64 p1.Corner)]] [] (Xz4 r) (Xz3 r) := by
 refine Xag hT Tryz.func181 rfl fun C hC => ?_
 unfold Xfc at h
 refine Xab ?_
 iterate 2 refine kO hT hC ?_
 refine kN ?_
 iterate 2 refine kO hT hC ?_
 refine Vc.nil ?_
 refine Xao ?_
 refine kL [0,3,5] [48,160] [_,_,_] [_,_] ?_
 refine kA h (fun v1 => ([(18, .sv (.bool v1))], [])) (fun v1 h => ?_) fun v1 h => ?_
 refine Xac ?_
 refine kO hT hC ?_
 refine kC hC [] Tryz.call209 h (fun _ => Yd6) fun q2 h => ?_
 iterate 2 refine kO hT hC ?_
 refine kS h ?_ ?_ <;> intro b1 h
 refine kI hT hC (kn b1) ?_
 refine kE hC (kn b1) [] Tryz.call136 h (fun _ => Xas) fun q3 h => ?_
 refine kI hT hC (kn b1) ?_
 refine kP hC false (kn b1) ?_
 refine Vc.nil ?_
 exact kM
 iterate 3 refine kF hC (kn b1) ?_
 refine kP hC true (kn b1) ?_
 refine Vc.nil ?_
 exact kM
 refine kS h ?_ ?_ <;> intro b2 h
 refine kt b2 ?_
 refine Xab ?_
 iterate 2 refine kO hT hC ?_
 refine Vc.nil ?_
 refine Xah ?_
 refine Xal ?_
 obtain rfl := kj h
 exact Xbv (τ := ⟨[(4, .own 16)], [(16, some (.ints .i64 ([] : List Int)))]⟩) (kW hC [(16, 160)]) rfl ⟨rfl, trivial⟩
 refine kf b2 ?_
 refine Xaf ?_
 refine Xae ?_
 refine Xab ?_
 iterate 3 refine kO hT hC ?_
 refine Vc.nil ?_
 refine kL [0,3,5,6] [48,160] [_,_,_,_] [_,_] ?_
 refine kA h (fun v4 => ([(6, .sv (.int .i64 v4))], [])) (fun v4 h => ?_) fun v4 h => ?_
 refine Xab ?_
 iterate 2 refine kO hT hC ?_
 refine Vc.nil ?_
 refine kS h ?_ ?_ <;> intro b3 h
 refine kt b3 ?_
 refine Xac ?_
 refine kO hT hC ?_
 refine Vc.nil ?_
 exact kM
 refine kf b3 ?_
 refine Xaf ?_
 exact kM
 refine Xao ?_
 refine Xab ?_
 refine kO hT hC ?_
 refine Vc.nil ?_
 refine kL [0,3,5,6,7] [48,160] [_,_,_,_,_] [_,_] ?_
 refine kX h (fun v11 => ([(7, .sv (.int .i64 v11.1))], [(160, some (.ints .i64 v11.2))])) (fun v18 => ([(0, .any), (3, .any), (6, .any), (7, .any)], [(160, some (.ints .i64 v18)), (48, none)])) (kW hC []) (fun v11 s h => ?_) fun v18 h => ?_
 unfold Xc4 at h
 refine Xao ?_
 refine Xab ?_
 iterate 2 refine kO hT hC ?_
 refine Vc.nil ?_
 refine kS h ?_ ?_ <;> intro b12 h
 refine kt b12 ?_
 refine Xaf ?_
 refine Xae ?_
 refine kL [0,3,5,6,7] [48,160] [_,_,_,_,_] [_,_] ?_
 refine kA h (fun v19 => ([(5, .own 1110)], [(1110, some (.ints .i64 v19)), (160, none)])) (fun v19 h => ?_) fun v19 h => ?_
 refine Xaq ?_
 refine Xab ?_
 iterate 3 refine kO hT hC ?_
 refine kQ hT hC h fun h => ?_
 refine kC hC [] Tryz.call210 h (fun _ => Xom) fun q20 h => ?_
 refine kO hT hC ?_
 refine kN ?_
 iterate 3 refine kO hT hC ?_
 refine kQ hT hC h fun h => ?_
 refine kC hC [] Tryz.call210 h (fun _ => Xom) fun q21 h => ?_
 refine kO hT hC ?_
 refine kN ?_
 refine kO hT hC ?_
 refine Vc.nil ?_
 refine Xaq ?_
 refine Xab ?_
 iterate 2 refine kO hT hC ?_
 refine Vc.nil ?_
 refine kS h ?_ ?_ <;> intro b13 h
 refine kt b13 ?_
 refine Xac ?_
 iterate 2 refine kO hT hC ?_
 refine kC hC [] Tryz.call211 h (fun _ => Yh1) fun q22 h => ?_
 refine kO hT hC ?_
 refine kT hT hC h fun h => ?_
 refine kO hT hC ?_
 refine Vc.nil ?_
 iterate 2 refine Xat ?_
 obtain rfl := kj h
 exact Xip (kW hC [(1110, 864)])
 refine kf b13 ?_
 refine Xab ?_
 iterate 2 refine kO hT hC ?_
 refine Vc.nil ?_
 refine kS h ?_ ?_ <;> intro b14 h
 refine kt b14 ?_
 refine Xac ?_
 iterate 3 refine kO hT hC ?_
 refine kT hT hC h fun h => ?_
 refine kO hT hC ?_
 refine Vc.nil ?_
 iterate 2 refine Xat ?_
 obtain rfl := kj h
 exact Xip (kW hC [(1110, 960)])
 refine kf b14 ?_
 refine Xab ?_
 iterate 2 refine kO hT hC ?_
 refine Vc.nil ?_
 refine kS h ?_ ?_ <;> intro b15 h
 refine kt b15 ?_
 refine Xac ?_
 iterate 3 refine kO hT hC ?_
 refine kT hT hC h fun h => ?_
 refine kO hT hC ?_
 refine Vc.nil ?_
 iterate 2 refine Xat ?_
 obtain rfl := kj h
 exact Xip (kW hC [(1110, 1056)])
 refine kf b15 ?_
 refine Xac ?_
 iterate 6 refine kO hT hC ?_
 refine kC hC [] Tryz.call208 h (fun _ => Xjh) fun q23 h => ?_
 refine kO hT hC ?_
 refine kT hT hC h fun h => ?_
 refine kO hT hC ?_
 refine Vc.nil ?_
 iterate 2 refine Xat ?_
 obtain rfl := kj h
 exact Xip (kW hC [(1110, 752)])
 refine Xac ?_
 iterate 3 refine kO hT hC ?_
 refine Vc.nil ?_
 obtain rfl := kj h
 exact Ygx (kW hC [(160, 1110)])
 refine kf b12 ?_
 refine Xau ?_
 refine Xaz ?_
 exact ku
 refine Xae ?_
 refine Xab ?_
 iterate 2 refine kO hT hC ?_
 refine Vc.nil ?_
 refine Xah ?_
 obtain rfl := kj h
 exact Xbv (τ := ⟨[(4, .own 16)], [(16, some (.ints .i64 v18))]⟩) (kW hC [(16, 160)]) rfl ⟨rfl, trivial⟩
def Xp1 (r : Bool) : AV := .sv (.bool r)
def Xp0 (r : Bool) : Xa4 := []
theorem Ye5 {p0 r} (h : Xlh p0 = some r) : AC Tryz.prog 207 [.sv (.ints .i64 p0)] [] (Xp1 r) (Xp0 r) := by
 refine Xag hT Tryz.func207 rfl fun C hC => ?_
 unfold Xlh at h
 refine Xab ?_
 refine kO hT hC ?_
 refine Vc.nil ?_
 refine Xao ?_
 refine Xab ?_
 iterate 3 refine kO hT hC ?_
 refine Vc.nil ?_
 refine kS h ?_ ?_ <;> intro b1 h
 refine kt b1 ?_
 refine Xab ?_
 refine kO hT hC ?_
 refine Vc.nil ?_
 refine Xah ?_
 refine Xal ?_
 exact kR
 refine kf b1 ?_
 refine Xaf ?_
 refine Xae ?_
 refine Xao ?_
 refine Xab ?_
 refine kO hT hC ?_
 refine Vc.nil ?_
 refine kL [0,3] [] [_,_] [] ?_
 obtain ⟨o8, hl, h⟩ := Xa7 h
 refine Xen (fun v3 => ([(3, .sv (.int .i64 v3))], [])) (fun v6 => ([(0, .any), (3, .any)], [])) (fun r => Xmc C T Tryz.f207.results.toList (Xp1 r) (Xp0 r)) hl ?_ ?_ ?_ ?_
 apply Xbz hC []
 exact co
 rfl
 decide
 rfl
 intro v3 s hs
 have h := hs
 unfold Xgq at h
 refine Xao ?_
 refine Xab ?_
 iterate 2 refine kO hT hC ?_
 refine Vc.nil ?_
 refine kS h ?_ ?_ <;> intro b6 h
 refine kt b6 ?_
 refine Xaf ?_
 refine Xae ?_
 refine Xao ?_
 refine Xaq ?_
 refine Xab ?_
 iterate 2 refine kO hT hC ?_
 refine kQ hT hC h fun h => ?_
 refine kO hT hC ?_
 refine kC hC [] Tryz.call136 h (fun _ => Xas) fun q7 h => ?_
 refine kO hT hC ?_
 refine Vc.nil ?_
 refine kS h ?_ ?_ <;> intro b7 h
 refine kt b7 ?_
 refine Xab ?_
 refine kO hT hC ?_
 refine Vc.nil ?_
 refine Xah ?_
 refine Xcs ?_
 refine Xal ?_
 obtain rfl := kj h
 refine Xmq ?_
 refine Xmo ?_
 exact Xbv (Xhl.refl _) rfl trivial
 refine kf b7 ?_
 refine Xaf ?_
 refine Xat ?_
 refine Xae ?_
 refine Xac ?_
 iterate 3 refine kO hT hC ?_
 refine Vc.nil ?_
 exact kG
 refine kf b6 ?_
 refine Xau ?_
 refine Xaz ?_
 exact kb
 intro v6 e
 subst e
 refine Xae ?_
 refine Xab ?_
 refine kO hT hC ?_
 refine Vc.nil ?_
 refine Xah ?_
 exact kR
 intro r' σ' e hE
 subst e
 obtain rfl := kj h
 refine Xal ?_
 exact hE
def Yec (r : (List Int)) : AV := .own 16
def Yeb (r : (List Int)) : Xa4 := [(16, .ints .i64 r)]
theorem Xss {p0 p1 r} (h : Xgh p0 p1 = some r) : AC Tryz.prog 180 [.sv (.ints .i64 p0), .sv (.ints .i64 p1)] [] (Yec r) (Yeb r) := by
 refine Xag hT Tryz.func180 rfl fun C hC => ?_
 unfold Xgh at h
 refine Xab ?_
 refine kO hT hC ?_
 refine kN ?_
 iterate 2 refine kO hT hC ?_
 refine Vc.nil ?_
 refine Xao ?_
 refine kL [0,1,5] [112] [_,_,_] [_] ?_
 refine kA h (fun v1 => ([(15, .sv (.bool v1))], [])) (fun v1 h => ?_) fun v1 h => ?_
 refine Xac ?_
 refine kO hT hC ?_
 refine kC hC [] Tryz.call207 h (fun _ => Ye5) fun q2 h => ?_
 iterate 2 refine kO hT hC ?_
 refine kS h ?_ ?_ <;> intro b1 h
 refine kI hT hC (kn b1) ?_
 refine kE hC (kn b1) [] Tryz.call200 h (fun _ => Xf1) fun q3 h => ?_
 refine kI hT hC (kn b1) ?_
 refine kP hC false (kn b1) ?_
 refine Vc.nil ?_
 exact kM
 iterate 3 refine kF hC (kn b1) ?_
 refine kP hC true (kn b1) ?_
 refine Vc.nil ?_
 exact kM
 refine kS h ?_ ?_ <;> intro b2 h
 refine kt b2 ?_
 refine Xab ?_
 iterate 2 refine kO hT hC ?_
 refine Vc.nil ?_
 refine Xah ?_
 refine Xal ?_
 obtain rfl := kj h
 exact Xbv (τ := ⟨[(4, .own 16)], [(16, some (.ints .i64 ([] : List Int)))]⟩) (kW hC [(16, 112)]) rfl ⟨rfl, trivial⟩
 refine kf b2 ?_
 refine Xaf ?_
 refine Xae ?_
 refine Xao ?_
 refine Xab ?_
 refine kO hT hC ?_
 refine Vc.nil ?_
 refine kL [0,1,5,6] [112] [_,_,_,_] [_] ?_
 refine kX h (fun v6 => ([(6, .sv (.int .i64 v6.1))], [(112, some (.ints .i64 v6.2))])) (fun v9 => ([(0, .any), (1, .any), (6, .any)], [(112, some (.ints .i64 v9))])) (kW hC []) (fun v6 s h => ?_) fun v9 h => ?_
 unfold Xeq at h
 refine Xao ?_
 refine Xab ?_
 iterate 2 refine kO hT hC ?_
 refine Vc.nil ?_
 refine kS h ?_ ?_ <;> intro b5 h
 refine kt b5 ?_
 refine Xaf ?_
 refine Xae ?_
 refine Xao ?_
 refine Xaq ?_
 refine Xcn hm ?_
 iterate 3 refine kO hT hC ?_
 refine kQ hT hC h fun h => ?_
 iterate 3 refine kO hT hC ?_
 refine kQ hT hC h fun h => ?_
 iterate 2 refine kO hT hC ?_
 refine kC hC [] Tryz.call208 h (fun _ => Xjh) fun q10 h => ?_
 refine kO hT hC ?_
 refine kT hT hC h fun h => ?_
 refine kO hT hC ?_
 refine kD ?_
 refine Xat ?_
 refine Xae ?_
 refine Xac ?_
 iterate 3 refine kO hT hC ?_
 refine Vc.nil ?_
 obtain rfl := kj h
 exact Ygx (kW hC [(112, 528)])
 refine kf b5 ?_
 refine Xau ?_
 refine Xaz ?_
 exact ku
 refine Xae ?_
 refine Xab ?_
 iterate 2 refine kO hT hC ?_
 refine Vc.nil ?_
 refine Xah ?_
 obtain rfl := kj h
 exact Xbv (τ := ⟨[(4, .own 16)], [(16, some (.ints .i64 v9))]⟩) (kW hC [(16, 112)]) rfl ⟨rfl, trivial⟩
def Xzs (r : (List Int)) : AV := .own 16
def Xzr (r : (List Int)) : Xa4 := [(16, .ints .i64 r)]
theorem Ydz {p0 p1 p2 r} (h : Xlc p0 p1 p2 = some r) : AC Tryz.prog 182 [.agg [.sv (.int .i64 p0.Wide), .sv (.int .i64 p0.High), .sv (.str p0.Dots)], .sv (.int .i64 p1), .sv (.int .i64 p2)] [] (Xzs r) (Xzr r) := by
 refine Xag hT Tryz.func182 rfl fun C hC => ?_
 unfold Xlc at h
 refine Xab ?_
 iterate 2 refine kO hT hC ?_
 refine kN ?_
 iterate 2 refine kO hT hC ?_
 refine Vc.nil ?_
 refine Xao ?_
 refine kL [1,2,3,7] [48,144] [_,_,_,_] [_,_] ?_
 refine kA h (fun v1 => ([(22, .sv (.bool v1))], [])) (fun v1 h => ?_) fun v1 h => ?_
 refine Xac ?_
 refine kO hT hC ?_
 refine kC hC [] Tryz.call139 h (fun _ => Xhc) fun q2 h => ?_
 iterate 2 refine kO hT hC ?_
 refine kS h ?_ ?_ <;> intro b1 h
 refine kI hT hC (kn b1) ?_
 refine kE hC (kn b1) [] Tryz.call136 h (fun _ => Xas) fun q3 h => ?_
 refine kI hT hC (kn b1) ?_
 refine kP hC false (kn b1) ?_
 refine kO hT hC ?_
 refine kS h ?_ ?_ <;> intro b2 h
 refine kI hT hC (kn b2) ?_
 refine kE hC (kn b2) [] Tryz.call136 h (fun _ => Xas) fun q4 h => ?_
 refine kI hT hC (kn b2) ?_
 refine kP hC false (kn b2) ?_
 refine Vc.nil ?_
 exact kM
 iterate 3 refine kF hC (kn b2) ?_
 refine kP hC true (kn b2) ?_
 refine Vc.nil ?_
 exact kM
 iterate 3 refine kF hC (kn b1) ?_
 refine kP hC true (kn b1) ?_
 refine kO hT hC ?_
 iterate 3 refine kF hC rfl ?_
 refine kO hT hC ?_
 refine Vc.nil ?_
 exact kM
 refine kS h ?_ ?_ <;> intro b3 h
 refine kt b3 ?_
 refine Xab ?_
 iterate 2 refine kO hT hC ?_
 refine Vc.nil ?_
 refine Xah ?_
 refine Xal ?_
 obtain rfl := kj h
 exact Xbv (τ := ⟨[(6, .own 16)], [(16, some (.ints .i64 ([] : List Int)))]⟩) (kW hC [(16, 144)]) rfl ⟨rfl, trivial⟩
 refine kf b3 ?_
 refine Xaf ?_
 refine Xae ?_
 refine Xao ?_
 refine Xab ?_
 refine kO hT hC ?_
 refine Vc.nil ?_
 refine kL [1,2,3,7,8] [48,144] [_,_,_,_,_] [_,_] ?_
 refine kX h (fun v7 => ([(8, .sv (.int .i64 v7.1))], [(144, some (.ints .i64 v7.2))])) (fun v10 => ([(1, .any), (2, .any), (3, .any), (8, .any)], [(144, some (.ints .i64 v10)), (48, none)])) (kW hC []) (fun v7 s h => ?_) fun v10 h => ?_
 unfold Xge at h
 refine Xao ?_
 refine Xab ?_
 iterate 2 refine kO hT hC ?_
 refine Vc.nil ?_
 refine kS h ?_ ?_ <;> intro b6 h
 refine kt b6 ?_
 refine Xaf ?_
 refine Xae ?_
 refine Xao ?_
 refine Xaq ?_
 refine Xac ?_
 iterate 4 refine kO hT hC ?_
 refine kQ hT hC h fun h => ?_
 iterate 3 refine kO hT hC ?_
 refine kQ hT hC h fun h => ?_
 refine kO hT hC ?_
 refine kC hC [] Tryz.call201 h (fun _ => Xl2) fun q11 h => ?_
 refine kO hT hC ?_
 refine kT hT hC h fun h => ?_
 refine kO hT hC ?_
 refine Vc.nil ?_
 refine Xat ?_
 refine Xae ?_
 refine Xac ?_
 iterate 3 refine kO hT hC ?_
 refine Vc.nil ?_
 obtain rfl := kj h
 exact Ygx (kW hC [(144, 640)])
 refine kf b6 ?_
 refine Xau ?_
 refine Xaz ?_
 exact ku
 refine Xae ?_
 refine Xab ?_
 iterate 2 refine kO hT hC ?_
 refine Vc.nil ?_
 refine Xah ?_
 obtain rfl := kj h
 exact Xbv (τ := ⟨[(6, .own 16)], [(16, some (.ints .i64 v10))]⟩) (kW hC [(16, 144)]) rfl ⟨rfl, trivial⟩
def Xtv (r : ((List Int) × Bool)) : AV := .tup [.own 16, .sv (.bool r.2)]
def Xtu (r : ((List Int) × Bool)) : Xa4 := [(16, .ints .i64 r.1)]
theorem Xvu {p0 p1 p2 p3 p4 p5 p6 p7 r} (h : Xch p0 p1 p2 p3 p4 p5 p6 p7 = some r) : AC Tryz.prog 151 [.agg [.sv (.int .i64 p0.Wide), .sv (.int .i64 p0.High), .sv (.str p0.Dots)], .agg [.sv (.int .i64 p1.Wide), .sv (.int .i64 p1.High), .sv (.str p1.Dots)], .sv (.int .i64 p2), .sv (.int .i64 p3), .agg [.sv (.bool p4.Key), .sv (.int .i64 p4.Qp), .sv (.bool p4.Large), .sv (.bool p4.Exact)], .sv (.int .i64 p5), .sv (.int .i64 p6), .agg [.sv (.int .i64 p7.Kind), .sv (.int .i64 p7.Mode), .sv (.int .i64 p7.Dx), .sv (.int .i64 p7.Dy), .sv (.ints .i64 p7.Levels)]] [] (Xtv r) (Xtu r) := by
 refine Xag hT Tryz.func151 rfl fun C hC => ?_
 unfold Xch at h
 refine Xab ?_
 iterate 6 refine kO hT hC ?_
 refine Vc.nil ?_
 refine Xao ?_
 refine kL [2,3,5,6,8,9,12,15] [128,144,192,240] [_,_,_,_,_,_,_,_] [_,_,_,_] ?_
 refine kA h (fun v1 => ([(49, .sv (.bool v1))], [])) (fun v1 h => ?_) fun v1 h => ?_
 refine Xac ?_
 iterate 3 refine kO hT hC ?_
 refine kC hC [] Tryz.call177 h (fun _ => Xq5) fun q2 h => ?_
 iterate 2 refine kO hT hC ?_
 refine kS h ?_ ?_ <;> intro b1 h
 refine kI hT hC (kn b1) ?_
 refine kE hC (kn b1) [] Tryz.call136 h (fun _ => Xas) fun q3 h => ?_
 refine kI hT hC (kn b1) ?_
 refine kP hC false (kn b1) ?_
 refine kO hT hC ?_
 refine kS h ?_ ?_ <;> intro b2 h
 refine kI hT hC (kn b2) ?_
 refine kE hC (kn b2) [] Tryz.call136 h (fun _ => Xas) fun q4 h => ?_
 refine kI hT hC (kn b2) ?_
 refine kP hC false (kn b2) ?_
 refine kO hT hC ?_
 refine kS h ?_ ?_ <;> intro b3 h
 refine kI hT hC (kn b3) ?_
 refine kE hC (kn b3) [] Tryz.call176 h (fun _ => Xlp) fun q5 h => ?_
 refine kI hT hC (kn b3) ?_
 refine kP hC false (kn b3) ?_
 refine kO hT hC ?_
 refine kS h ?_ ?_ <;> intro b4 h
 refine kI hT hC (kn b4) ?_
 refine kE hC (kn b4) [] Tryz.call144 h (fun _ => Xkv) fun q6 h => ?_
 refine kI hT hC (kn b4) ?_
 refine kP hC false (kn b4) ?_
 refine Vc.nil ?_
 exact kM
 iterate 3 refine kF hC (kn b4) ?_
 refine kP hC true (kn b4) ?_
 refine Vc.nil ?_
 exact kM
 iterate 3 refine kF hC (kn b3) ?_
 refine kP hC true (kn b3) ?_
 refine kO hT hC ?_
 iterate 3 refine kF hC rfl ?_
 refine kO hT hC ?_
 refine Vc.nil ?_
 exact kM
 iterate 3 refine kF hC (kn b2) ?_
 refine kP hC true (kn b2) ?_
 refine kO hT hC ?_
 iterate 3 refine kF hC rfl ?_
 iterate 2 refine kO hT hC ?_
 iterate 3 refine kF hC rfl ?_
 refine kO hT hC ?_
 refine Vc.nil ?_
 exact kM
 iterate 3 refine kF hC (kn b1) ?_
 refine kP hC true (kn b1) ?_
 refine kO hT hC ?_
 iterate 3 refine kF hC rfl ?_
 iterate 2 refine kO hT hC ?_
 iterate 3 refine kF hC rfl ?_
 iterate 2 refine kO hT hC ?_
 iterate 3 refine kF hC rfl ?_
 refine kO hT hC ?_
 refine Vc.nil ?_
 exact kM
 refine kS h ?_ ?_ <;> intro b5 h
 refine kt b5 ?_
 refine Xab ?_
 iterate 3 refine kO hT hC ?_
 refine Vc.nil ?_
 refine Xah ?_
 refine Xal ?_
 obtain rfl := kj h
 exact Xbv (τ := ⟨[(16, .own 16), (17, .sv (.bool false))], [(16, some (.ints .i64 ([] : List Int)))]⟩) (kW hC [(16, 800)]) rfl ⟨rfl, trivial⟩
 refine kf b5 ?_
 refine Xaf ?_
 refine Xae ?_
 refine Xao ?_
 refine Xab ?_
 iterate 3 refine kO hT hC ?_
 refine Vc.nil ?_
 refine kS h ?_ ?_ <;> intro b6 h
 refine kt b6 ?_
 refine Xab ?_
 iterate 3 refine kO hT hC ?_
 refine kC hC [(16, 928), (17, 929)] Tryz.call178 h (fun _ => Yd4) fun q7 h => ?_
 iterate 6 refine kO hT hC ?_
 refine kN ?_
 iterate 3 refine kO hT hC ?_
 refine kC hC [(16, 1040)] Tryz.call179 h (fun _ => Xna) fun q8 h => ?_
 iterate 5 refine kO hT hC ?_
 refine kN ?_
 iterate 3 refine kO hT hC ?_
 refine kC hC [(16, 1136)] Tryz.call181 h (fun _ => Yd7) fun q9 h => ?_
 refine kO hT hC ?_
 refine kC hC [(16, 1168)] Tryz.call180 h (fun _ => Xss) fun q10 h => ?_
 iterate 2 refine kO hT hC ?_
 refine Vc.nil ?_
 refine Xah ?_
 refine Xal ?_
 obtain rfl := kj h
 exact Xbv (τ := ⟨[(16, .own 16), (17, .sv (.bool true))], [(16, some (.ints .i64 q10))]⟩) (kW hC [(16, 1168)]) rfl ⟨rfl, trivial⟩
 refine kf b6 ?_
 refine Xaf ?_
 refine Xae ?_
 refine Xao ?_
 refine kL [2,3,5,6,9,12,15] [144,192,240] [_,_,_,_,_,_,_] [_,_,_] ?_
 refine kA h (fun v11 => ([(80, .sv (.bool v11))], [])) (fun v11 h => ?_) fun v11 h => ?_
 refine Xac ?_
 iterate 3 refine kO hT hC ?_
 refine kS h ?_ ?_ <;> intro b7 h
 iterate 3 refine kF hC b7 ?_
 refine kP hC true b7 ?_
 refine Vc.nil ?_
 exact kM
 refine kI hT hC b7 ?_
 refine kE hC b7 [] Tryz.call139 h (fun _ => Xhc) fun q12 h => ?_
 refine kI hT hC b7 ?_
 refine kP hC false b7 ?_
 refine Vc.nil ?_
 exact kM
 refine kS h ?_ ?_ <;> intro b8 h
 refine kt b8 ?_
 refine Xab ?_
 iterate 3 refine kO hT hC ?_
 refine Vc.nil ?_
 refine Xah ?_
 refine Xal ?_
 obtain rfl := kj h
 exact Xbv (τ := ⟨[(16, .own 16), (17, .sv (.bool false))], [(16, some (.ints .i64 ([] : List Int)))]⟩) (kW hC [(16, 1296)]) rfl ⟨rfl, trivial⟩
 refine kf b8 ?_
 refine Xaf ?_
 refine Xae ?_
 refine Xab ?_
 iterate 13 refine kO hT hC ?_
 refine kC hC [(16, 1520)] Tryz.call182 h (fun _ => Ydz) fun q13 h => ?_
 refine kO hT hC ?_
 refine Vc.nil ?_
 refine Xao ?_
 refine Xab ?_
 iterate 3 refine kO hT hC ?_
 refine Vc.nil ?_
 refine kS h ?_ ?_ <;> intro b9 h
 refine kt b9 ?_
 refine Xab ?_
 iterate 3 refine kO hT hC ?_
 refine Vc.nil ?_
 refine Xah ?_
 refine Xal ?_
 obtain rfl := kj h
 exact Xbv (τ := ⟨[(16, .own 16), (17, .sv (.bool true))], [(16, some (.ints .i64 q13))]⟩) (kW hC [(16, 1520)]) rfl ⟨rfl, trivial⟩
 refine kf b9 ?_
 refine Xaf ?_
 refine Xae ?_
 refine Xab ?_
 iterate 3 refine kO hT hC ?_
 refine kC hC [(16, 1664)] Tryz.call179 h (fun _ => Xna) fun q14 h => ?_
 iterate 5 refine kO hT hC ?_
 refine kN ?_
 iterate 2 refine kO hT hC ?_
 refine kC hC [(16, 1744)] Tryz.call180 h (fun _ => Xss) fun q15 h => ?_
 iterate 2 refine kO hT hC ?_
 refine Vc.nil ?_
 refine Xah ?_
 obtain rfl := kj h
 exact Xbv (τ := ⟨[(16, .own 16), (17, .sv (.bool true))], [(16, some (.ints .i64 q15))]⟩) (kW hC [(16, 1744)]) rfl ⟨rfl, trivial⟩
def Yfb (r : Pic) : AV := .agg [.sv (.int .i64 r.Wide), .sv (.int .i64 r.High), .sv (.str r.Dots)]
def Yfa (r : Pic) : Xa4 := []
theorem Yh2 {p0 p1 p2 p3 r} (h : Xgs p0 p1 p2 p3 = some r) : AC Tryz.prog 152 [.agg [.sv (.int .i64 p0.Wide), .sv (.int .i64 p0.High), .sv (.str p0.Dots)], .sv (.int .i64 p1), .sv (.int .i64 p2), .sv (.ints .i64 p3)] [] (Yfb r) (Yfa r) := by
 refine Xag hT Tryz.func152 rfl fun C hC => ?_
 unfold Xgs at h
 refine Xab ?_
 iterate 2 refine kO hT hC ?_
 refine kN ?_
 iterate 2 refine kO hT hC ?_
 refine kQ hT hC h fun h => ?_
 refine kO hT hC ?_
 refine Vc.nil ?_
 refine Xao ?_
 refine Xab ?_
 refine kO hT hC ?_
 refine Vc.nil ?_
 refine kL [1,2,3,4,8,9,10] [64,128,208] [_,_,_,_,_,_,_] [_,_,_] ?_
 refine kX h (fun v2 => ([(10, .sv (.int .i64 v2.1))], [(208, some (.ints .u8 v2.2))])) (fun v4 => ([(1, .any), (2, .any), (3, .any), (10, .any)], [(208, some (.ints .u8 v4))])) (kW hC []) (fun v2 s h => ?_) fun v4 h => ?_
 unfold Xet at h
 refine Xao ?_
 refine Xab ?_
 iterate 2 refine kO hT hC ?_
 refine Vc.nil ?_
 refine kS h ?_ ?_ <;> intro b3 h
 refine kt b3 ?_
 refine Xaf ?_
 refine Xae ?_
 refine Xao ?_
 refine Xaq ?_
 refine Xcn hm ?_
 iterate 3 refine kO hT hC ?_
 refine kQ hT hC h fun h => ?_
 iterate 7 refine kO hT hC ?_
 refine kQ hT hC h fun h => ?_
 iterate 3 refine kO hT hC ?_
 refine kQ hT hC h fun h => ?_
 iterate 2 refine kO hT hC ?_
 iterate 2 refine kQ hT hC h fun h => ?_
 refine kD ?_
 refine Xat ?_
 refine Xae ?_
 refine Xac ?_
 iterate 3 refine kO hT hC ?_
 refine Vc.nil ?_
 exact kG
 refine kf b3 ?_
 refine Xau ?_
 refine Xaz ?_
 exact ku
 refine Xae ?_
 refine Xab ?_
 iterate 8 refine kO hT hC ?_
 refine Vc.nil ?_
 refine Xah ?_
 exact kR
def Xxs (r : (Pic × Bool)) : AV := .tup [.agg [.sv (.int .i64 r.1.Wide), .sv (.int .i64 r.1.High), .sv (.str r.1.Dots)], .sv (.bool r.2)]
def Xxr (r : (Pic × Bool)) : Xa4 := []
theorem Xz9 {p0 p1 p2 p3 p4 r} (h : Xjn p0 p1 p2 p3 p4 = some r) : AC Tryz.prog 111 [.agg [.sv (.int .i64 p0.Wide), .sv (.int .i64 p0.High), .sv (.str p0.Dots)], .agg [.sv (.int .i64 p1.Left), .sv (.int .i64 p1.Top), .sv (.int .i64 p1.Wide), .sv (.int .i64 p1.High)], .agg [.sv (.bool p2.Key), .sv (.int .i64 p2.Qp), .sv (.bool p2.Large), .sv (.bool p2.Exact)], .sv (.bool p3), .sv (Xdc.sv p4)] [] (Xxs r) (Xxr r) := by
 refine Xag hT Tryz.func111 rfl fun C hC => ?_
 unfold Xjn at h
 refine Xab ?_
 iterate 5 refine kO hT hC ?_
 refine Vc.nil ?_
 refine Xao ?_
 refine kL [3,4,5,6,7,10] [80,96,112,160] [_,_,_,_,_,_] [_,_,_,_] ?_
 refine kA h (fun v1 => ([(59, .sv (.bool v1))], [])) (fun v1 h => ?_) fun v1 h => ?_
 refine Xac ?_
 iterate 2 refine kO hT hC ?_
 refine kC hC [] Tryz.call147 h (fun _ => Xq7) fun q2 h => ?_
 iterate 2 refine kO hT hC ?_
 refine kS h ?_ ?_ <;> intro b1 h
 iterate 2 refine kI hT hC (kn b1) ?_
 refine kE hC (kn b1) [] Tryz.call147 h (fun _ => Xq7) fun q3 h => ?_
 refine kI hT hC (kn b1) ?_
 refine kP hC false (kn b1) ?_
 refine kO hT hC ?_
 refine kS h ?_ ?_ <;> intro b2 h
 iterate 2 refine kI hT hC (kn b2) ?_
 refine kE hC (kn b2) [] Tryz.call136 h (fun _ => Xas) fun q4 h => ?_
 refine kI hT hC (kn b2) ?_
 refine kP hC false (kn b2) ?_
 refine kO hT hC ?_
 refine kS h ?_ ?_ <;> intro b3 h
 iterate 2 refine kI hT hC (kn b3) ?_
 refine kE hC (kn b3) [] Tryz.call136 h (fun _ => Xas) fun q5 h => ?_
 refine kI hT hC (kn b3) ?_
 refine kP hC false (kn b3) ?_
 refine kO hT hC ?_
 refine kS h ?_ ?_ <;> intro b4 h
 iterate 2 refine kI hT hC (kn b4) ?_
 refine kE hC (kn b4) [] Tryz.call148 h (fun _ => Ykx) fun q6 h => ?_
 refine kI hT hC (kn b4) ?_
 refine kP hC false (kn b4) ?_
 refine kO hT hC ?_
 refine kS h ?_ ?_ <;> intro b5 h
 iterate 4 refine kI hT hC (kn b5) ?_
 refine kJ hT hC (kn b5) h fun h => ?_
 iterate 2 refine kI hT hC (kn b5) ?_
 refine kJ hT hC (kn b5) h fun h => ?_
 iterate 2 refine kI hT hC (kn b5) ?_
 refine kP hC false (kn b5) ?_
 refine Vc.nil ?_
 exact kM
 iterate 10 refine kF hC (kn b5) ?_
 refine kP hC true (kn b5) ?_
 refine Vc.nil ?_
 exact kM
 iterate 4 refine kF hC (kn b4) ?_
 refine kP hC true (kn b4) ?_
 refine kO hT hC ?_
 iterate 10 refine kF hC rfl ?_
 refine kO hT hC ?_
 refine Vc.nil ?_
 exact kM
 iterate 4 refine kF hC (kn b3) ?_
 refine kP hC true (kn b3) ?_
 refine kO hT hC ?_
 iterate 4 refine kF hC rfl ?_
 iterate 2 refine kO hT hC ?_
 iterate 10 refine kF hC rfl ?_
 refine kO hT hC ?_
 refine Vc.nil ?_
 exact kM
 iterate 4 refine kF hC (kn b2) ?_
 refine kP hC true (kn b2) ?_
 refine kO hT hC ?_
 iterate 4 refine kF hC rfl ?_
 iterate 2 refine kO hT hC ?_
 iterate 4 refine kF hC rfl ?_
 iterate 2 refine kO hT hC ?_
 iterate 10 refine kF hC rfl ?_
 refine kO hT hC ?_
 refine Vc.nil ?_
 exact kM
 iterate 4 refine kF hC (kn b1) ?_
 refine kP hC true (kn b1) ?_
 refine kO hT hC ?_
 iterate 4 refine kF hC rfl ?_
 iterate 2 refine kO hT hC ?_
 iterate 4 refine kF hC rfl ?_
 iterate 2 refine kO hT hC ?_
 iterate 4 refine kF hC rfl ?_
 iterate 2 refine kO hT hC ?_
 iterate 10 refine kF hC rfl ?_
 refine kO hT hC ?_
 refine Vc.nil ?_
 exact kM
 refine kS h ?_ ?_ <;> intro b6 h
 refine kt b6 ?_
 refine Xab ?_
 iterate 3 refine kO hT hC ?_
 refine Vc.nil ?_
 refine Xah ?_
 refine Xal ?_
 exact kR
 refine kf b6 ?_
 refine Xaf ?_
 refine Xae ?_
 refine Xao ?_
 refine kL [3,4,5,6,7,10] [80,96,112,160] [_,_,_,_,_,_] [_,_,_,_] ?_
 refine kA h (fun v7 => ([(76, .sv (.bool v7))], [])) (fun v7 h => ?_) fun v7 h => ?_
 refine Xac ?_
 iterate 4 refine kO hT hC ?_
 refine kS h ?_ ?_ <;> intro b7 h
 iterate 11 refine kF hC (kn b7) ?_
 refine kP hC false (kn b7) ?_
 refine Vc.nil ?_
 exact kM
 iterate 9 refine kI hT hC (kn b7) ?_
 refine kE hC (kn b7) [] Tryz.call149 h (fun _ => Xhi) fun q8 h => ?_
 refine kI hT hC (kn b7) ?_
 refine kP hC true (kn b7) ?_
 refine Vc.nil ?_
 exact kM
 refine kS h ?_ ?_ <;> intro b8 h
 refine kt b8 ?_
 refine Xab ?_
 iterate 3 refine kO hT hC ?_
 refine Vc.nil ?_
 refine Xah ?_
 refine Xal ?_
 exact kR
 refine kf b8 ?_
 refine Xaf ?_
 refine Xae ?_
 refine Xab ?_
 iterate 3 refine kO hT hC ?_
 refine kN ?_
 iterate 3 refine kO hT hC ?_
 refine Vc.nil ?_
 refine kL [3,4,5,6,7,10,12,13] [80,96,112,160] [_,_,_,_,_,_,_,_] [_,_,_,_] ?_
 refine kA h (fun v9 => ([(12, .sv (.int .i64 v9.1)), (13, .sv (.int .i64 v9.2.1)), (3, .any)], [(80, some (.box [.sv (.int .i64 v9.2.2.1), .sv (.int .i64 v9.2.2.2.1), .sv (.str v9.2.2.2.2)]))])) (fun v9 h => ?_) fun v9 h => ?_
 refine kL [3,4,5,6,7,10,12,13] [80,96,112,160] [_,_,_,_,_,_,_,_] [_,_,_,_] ?_
 refine kA h (fun v10 => ([(87, .sv (.bool v10)), (3, .any)], [])) (fun v10 h => ?_) fun v10 h => ?_
 refine Xac ?_
 iterate 4 refine kO hT hC ?_
 refine kS h ?_ ?_ <;> intro b9 h
 refine kF hC (kn b9) ?_
 refine kP hC false (kn b9) ?_
 refine Vc.nil ?_
 exact kM
 refine kI hT hC (kn b9) ?_
 refine kP hC true (kn b9) ?_
 refine Vc.nil ?_
 exact kM
 refine kS h ?_ ?_ <;> intro b10 h
 refine kt b10 ?_
 refine Xab ?_
 iterate 2 refine kO hT hC ?_
 refine kC hC [] Tryz.call150 h (fun _ => Ykq) fun q11 h => ?_
 iterate 4 refine kO hT hC ?_
 refine kN ?_
 refine kO hT hC ?_
 refine Vc.nil ?_
 refine Xac ?_
 refine kO hT hC ?_
 refine Vc.nil ?_
 exact kM
 refine kf b10 ?_
 refine Xaf ?_
 exact kM
 refine Xab ?_
 iterate 4 refine kO hT hC ?_
 refine kC hC [] Tryz.call113 h (fun _ => Xyi) fun q12 h => ?_
 iterate 2 refine kO hT hC ?_
 refine Vc.nil ?_
 refine Xao ?_
 refine Xab ?_
 refine kO hT hC ?_
 refine Vc.nil ?_
 refine kL [4,5,6,7,10,12,13,14,15] [80,96,112,160,224] [_,_,_,_,_,_,_,_,_] [_,_,_,_,_] ?_
 refine kX h (fun v16 => ([(15, .sv (.int .i64 v16.1))], [(224, some (.box [.sv (.int .i64 v16.2.1), .sv (.int .i64 v16.2.2.1), .sv (.str v16.2.2.2)]))])) (fun v20 => ([(4, .any), (5, .any), (6, .any), (7, .any), (12, .any), (13, .any), (15, .any)], [(224, some (.box [.sv (.int .i64 v20.1), .sv (.int .i64 v20.2.1), .sv (.str v20.2.2)])), (80, none), (96, none), (112, none)])) (kW hC []) (fun v16 s h => ?_) fun v20 h => ?_
 unfold Xa9 at h
 refine Xao ?_
 refine Xab ?_
 iterate 4 refine kO hT hC ?_
 refine Vc.nil ?_
 refine kS h ?_ ?_ <;> intro b13 h
 refine kt b13 ?_
 refine Xaf ?_
 refine Xae ?_
 refine Xao ?_
 refine Xaq ?_
 refine Xab ?_
 iterate 3 refine kO hT hC ?_
 iterate 2 refine kQ hT hC h fun h => ?_
 iterate 2 refine kO hT hC ?_
 refine kN ?_
 iterate 3 refine kO hT hC ?_
 iterate 2 refine kQ hT hC h fun h => ?_
 iterate 2 refine kO hT hC ?_
 refine Vc.nil ?_
 refine Xeg hm ?_
 iterate 9 refine kO hT hC ?_
 refine kQ hT hC h fun h => ?_
 refine kO hT hC ?_
 refine kC hC [(16, 2064)] Tryz.call151 h (fun _ => Xvu) fun q21 h => ?_
 iterate 5 refine kO hT hC ?_
 refine kD ?_
 refine Xac ?_
 iterate 4 refine kO hT hC ?_
 refine kC hC [] Tryz.call152 h (fun _ => Yh2) fun q22 h => ?_
 refine kO hT hC ?_
 refine Vc.nil ?_
 refine Xat ?_
 refine Xae ?_
 refine Xac ?_
 iterate 3 refine kO hT hC ?_
 refine Vc.nil ?_
 exact kG
 refine kf b13 ?_
 refine Xau ?_
 refine Xaz ?_
 exact ku
 refine Xae ?_
 refine Xab ?_
 iterate 3 refine kO hT hC ?_
 refine Vc.nil ?_
 refine Xah ?_
 exact kR
def Yei (r : (Pic × Bool)) : AV := .tup [.agg [.sv (.int .i64 r.1.Wide), .sv (.int .i64 r.1.High), .sv (.str r.1.Dots)], .sv (.bool r.2)]
def Yeh (r : (Pic × Bool)) : Xa4 := []
theorem Yhf {p0 p1 p2 p3 r} (h : Xmu p0 p1 p2 p3 = some r) : AC Tryz.prog 114 [.agg [.sv (.int .i64 p0.Wide), .sv (.int .i64 p0.High), .sv (.str p0.Dots)], .agg [.sv (.int .i64 p1.Wide), .sv (.int .i64 p1.High), .sv (.str p1.Dots)], .sv (.int .i64 p2), .sv (.int .i64 p3)] [] (Yei r) (Yeh r) := by
 refine Xag hT Tryz.func114 rfl fun C hC => ?_
 unfold Xmu at h
 refine Xab ?_
 iterate 4 refine kO hT hC ?_
 refine Vc.nil ?_
 refine Xao ?_
 refine kL [2,3,4,5,8] [64,80,128] [_,_,_,_,_] [_,_,_] ?_
 refine kA h (fun v1 => ([(26, .sv (.bool v1))], [])) (fun v1 h => ?_) fun v1 h => ?_
 refine Xac ?_
 refine kO hT hC ?_
 refine kC hC [] Tryz.call139 h (fun _ => Xhc) fun q2 h => ?_
 iterate 2 refine kO hT hC ?_
 refine kS h ?_ ?_ <;> intro b1 h
 iterate 7 refine kI hT hC (kn b1) ?_
 refine kE hC (kn b1) [] Tryz.call149 h (fun _ => Xhi) fun q3 h => ?_
 refine kI hT hC (kn b1) ?_
 refine kP hC false (kn b1) ?_
 refine Vc.nil ?_
 exact kM
 iterate 9 refine kF hC (kn b1) ?_
 refine kP hC true (kn b1) ?_
 refine Vc.nil ?_
 exact kM
 refine kS h ?_ ?_ <;> intro b2 h
 refine kt b2 ?_
 refine Xab ?_
 iterate 3 refine kO hT hC ?_
 refine Vc.nil ?_
 refine Xah ?_
 refine Xal ?_
 exact kR
 refine kf b2 ?_
 refine Xaf ?_
 refine Xae ?_
 refine Xab ?_
 iterate 2 refine kO hT hC ?_
 refine kQ hT hC h fun h => ?_
 refine kO hT hC ?_
 refine Vc.nil ?_
 refine Xao ?_
 refine Xab ?_
 refine kO hT hC ?_
 refine Vc.nil ?_
 refine kL [2,3,4,5,8,10,11] [64,80,128,480] [_,_,_,_,_,_,_] [_,_,_,_] ?_
 refine kX h (fun v10 => ([(11, .sv (.int .i64 v10.1))], [(480, some (.ints .u8 v10.2))])) (fun v17 => ([(2, .any), (3, .any), (5, .any), (11, .any)], [(480, some (.ints .u8 v17)), (80, none)])) (kW hC []) (fun v10 s h => ?_) fun v17 h => ?_
 unfold Xc6 at h
 refine Xao ?_
 refine Xab ?_
 iterate 4 refine kO hT hC ?_
 refine Vc.nil ?_
 refine kS h ?_ ?_ <;> intro b11 h
 refine kt b11 ?_
 refine Xaf ?_
 refine Xae ?_
 refine Xao ?_
 refine Xaq ?_
 refine Xab ?_
 refine kO hT hC ?_
 refine Vc.nil ?_
 refine kL [2,3,4,5,8,10,11,12] [64,80,128,480] [_,_,_,_,_,_,_,_] [_,_,_,_] ?_
 refine kX h (fun v19 => ([(12, .sv (.int .i64 v19.1))], [(480, some (.ints .u8 v19.2))])) (fun v21 => ([(12, .any)], [(480, some (.ints .u8 v21))])) (kW hC []) (fun v19 s h => ?_) fun v21 h => ?_
 unfold Xbl at h
 refine Xao ?_
 refine Xab ?_
 iterate 4 refine kO hT hC ?_
 refine Vc.nil ?_
 refine kS h ?_ ?_ <;> intro b14 h
 refine kt b14 ?_
 refine Xaf ?_
 refine Xae ?_
 refine Xao ?_
 refine Xaq ?_
 refine Xcn hm ?_
 iterate 19 refine kO hT hC ?_
 iterate 3 refine kQ hT hC h fun h => ?_
 refine kD ?_
 refine Xat ?_
 refine Xae ?_
 refine Xac ?_
 iterate 3 refine kO hT hC ?_
 refine Vc.nil ?_
 exact kG
 refine kf b14 ?_
 refine Xau ?_
 refine Xaz ?_
 exact ku
 refine Xat ?_
 refine Xae ?_
 refine Xac ?_
 iterate 3 refine kO hT hC ?_
 refine Vc.nil ?_
 exact kG
 refine kf b11 ?_
 refine Xau ?_
 refine Xaz ?_
 exact ku
 refine Xae ?_
 refine Xab ?_
 iterate 9 refine kO hT hC ?_
 refine Vc.nil ?_
 refine Xah ?_
 exact kR
def Xx0 (r : (Decoder × Int × Pic)) : AV := .tup [.agg [.sv (.bool r.1.HasSeq), .sv (.bool r.1.HasPar), .sv (.bool r.1.HasRef), .sv (.int .i64 r.1.Seq.Level), .sv (.int .i64 r.1.Seq.Bits), .sv (.ints .i64 r.1.Seq.Cols), .sv (.ints .i64 r.1.Seq.Rows), .sv (.int .i64 r.1.Par.Qp), .sv (.bool r.1.Par.Large), .sv (.bool r.1.Par.Exact), .sv (.bool r.1.Par.Confined), .sv (.int .i64 r.1.Frame), .sv (.int .i64 r.1.Got), .sv (.int .i64 r.1.Now.Wide), .sv (.int .i64 r.1.Now.High), .sv (.str r.1.Now.Dots), .sv (.int .i64 r.1.Ref.Wide), .sv (.int .i64 r.1.Ref.High), .sv (.str r.1.Ref.Dots)], .sv (.int .i64 r.2.1), .agg [.sv (.int .i64 r.2.2.Wide), .sv (.int .i64 r.2.2.High), .sv (.str r.2.2.Dots)]]
def Xxz (r : (Decoder × Int × Pic)) : Xa4 := []
theorem Ya2 {p0 p1 p2 r} (h : Xjt p0 p1 p2 = some r) : AC Tryz.prog 72 [.agg [.sv (.bool p0.HasSeq), .sv (.bool p0.HasPar), .sv (.bool p0.HasRef), .sv (.int .i64 p0.Seq.Level), .sv (.int .i64 p0.Seq.Bits), .sv (.ints .i64 p0.Seq.Cols), .sv (.ints .i64 p0.Seq.Rows), .sv (.int .i64 p0.Par.Qp), .sv (.bool p0.Par.Large), .sv (.bool p0.Par.Exact), .sv (.bool p0.Par.Confined), .sv (.int .i64 p0.Frame), .sv (.int .i64 p0.Got), .sv (.int .i64 p0.Now.Wide), .sv (.int .i64 p0.Now.High), .sv (.str p0.Now.Dots), .sv (.int .i64 p0.Ref.Wide), .sv (.int .i64 p0.Ref.High), .sv (.str p0.Ref.Dots)], .sv (.int .i64 p1), .sv (.str p2)] [] (Xx0 r) (Xxz r) := by
 refine Xag hT Tryz.func72 rfl fun C hC => ?_
 unfold Xjt at h
 refine Xab ?_
 iterate 4 refine kO hT hC ?_
 refine Vc.nil ?_
 refine Xao ?_
 refine Xab ?_
 iterate 3 refine kO hT hC ?_
 refine Vc.nil ?_
 refine kS h ?_ ?_ <;> intro b1 h
 refine kt b1 ?_
 refine Xab ?_
 iterate 5 refine kO hT hC ?_
 refine Vc.nil ?_
 refine Xah ?_
 refine Xal ?_
 exact kR
 refine kf b1 ?_
 refine Xaf ?_
 refine Xae ?_
 refine Xab ?_
 iterate 5 refine kO hT hC ?_
 refine kC hC [] Tryz.call107 h (fun _ => Xz5) fun q1 h => ?_
 iterate 8 refine kO hT hC ?_
 refine Vc.nil ?_
 refine Xao ?_
 refine Xab ?_
 iterate 2 refine kO hT hC ?_
 refine Vc.nil ?_
 refine kS h ?_ ?_ <;> intro b2 h
 refine kt b2 ?_
 refine Xab ?_
 iterate 5 refine kO hT hC ?_
 refine Vc.nil ?_
 refine Xah ?_
 refine Xal ?_
 exact kR
 refine kf b2 ?_
 refine Xaf ?_
 refine Xae ?_
 refine Xao ?_
 refine Xab ?_
 iterate 5 refine kO hT hC ?_
 refine Vc.nil ?_
 refine kS h ?_ ?_ <;> intro b3 h
 refine kt b3 ?_
 refine Xab ?_
 iterate 5 refine kO hT hC ?_
 refine Vc.nil ?_
 refine Xah ?_
 refine Xal ?_
 exact kR
 refine kf b3 ?_
 refine Xaf ?_
 refine Xae ?_
 refine Xao ?_
 refine kL [1,2,3,6,8,9,10] [48,96,128,144] [_,_,_,_,_,_,_] [_,_,_,_] ?_
 refine kA h (fun v2 => ([(58, .sv (.bool v2))], [])) (fun v2 h => ?_) fun v2 h => ?_
 refine Xac ?_
 iterate 4 refine kO hT hC ?_
 refine kS h ?_ ?_ <;> intro b4 h
 iterate 5 refine kI hT hC b4 ?_
 refine kP hC true b4 ?_
 refine Vc.nil ?_
 exact kM
 iterate 5 refine kF hC b4 ?_
 refine kP hC false b4 ?_
 refine Vc.nil ?_
 exact kM
 refine kS h ?_ ?_ <;> intro b5 h
 refine kt b5 ?_
 refine Xab ?_
 iterate 5 refine kO hT hC ?_
 refine Vc.nil ?_
 refine Xah ?_
 refine Xal ?_
 exact kR
 refine kf b5 ?_
 refine Xaf ?_
 refine Xae ?_
 refine Xao ?_
 refine kL [1,2,3,6,8,9,10] [48,96,128,144] [_,_,_,_,_,_,_] [_,_,_,_] ?_
 refine kA h (fun v3 => ([(67, .sv (.bool v3))], [])) (fun v3 h => ?_) fun v3 h => ?_
 refine Xac ?_
 iterate 3 refine kO hT hC ?_
 refine kS h ?_ ?_ <;> intro b6 h
 iterate 3 refine kI hT hC b6 ?_
 refine kP hC true b6 ?_
 refine Vc.nil ?_
 exact kM
 iterate 3 refine kF hC b6 ?_
 refine kP hC false b6 ?_
 refine Vc.nil ?_
 exact kM
 refine kS h ?_ ?_ <;> intro b7 h
 refine kt b7 ?_
 refine Xab ?_
 iterate 5 refine kO hT hC ?_
 refine Vc.nil ?_
 refine Xah ?_
 refine Xal ?_
 exact kR
 refine kf b7 ?_
 refine Xaf ?_
 refine Xae ?_
 refine Xab ?_
 iterate 13 refine kO hT hC ?_
 refine Vc.nil ?_
 refine Xeg hm ?_
 iterate 6 refine kO hT hC ?_
 refine kC hC [] Tryz.call109 h (fun _ => Xtw) fun q4 h => ?_
 refine kO hT hC ?_
 refine kC hC [(16, 1440)] Tryz.call108 h (fun _ => Xz6) fun q5 h => ?_
 iterate 5 refine kO hT hC ?_
 refine kD ?_
 refine Xao ?_
 refine Xab ?_
 iterate 2 refine kO hT hC ?_
 refine Vc.nil ?_
 refine kS h ?_ ?_ <;> intro b8 h
 refine kt b8 ?_
 refine Xab ?_
 iterate 5 refine kO hT hC ?_
 refine Vc.nil ?_
 refine Xah ?_
 refine Xal ?_
 exact kR
 refine kf b8 ?_
 refine Xaf ?_
 refine Xae ?_
 refine Xab ?_
 iterate 4 refine kO hT hC ?_
 refine kC hC [] Tryz.call110 h (fun _ => Xpu) fun q6 h => ?_
 iterate 6 refine kO hT hC ?_
 refine kN ?_
 iterate 8 refine kO hT hC ?_
 refine kC hC [] Tryz.call111 h (fun _ => Xz9) fun q7 h => ?_
 iterate 6 refine kO hT hC ?_
 refine kN ?_
 iterate 3 refine kO hT hC ?_
 refine Vc.nil ?_
 refine kL [3,6,8,9,15,17,19] [48,96,128,144,240,272,304] [_,_,_,_,_,_,_] [_,_,_,_,_,_,_] ?_
 refine kA h (fun v8 => ([], [(304, some (.box [.sv (.bool p0.HasSeq), .sv (.bool p0.HasPar), .sv (.bool p0.HasRef), .sv (.int .i64 p0.Seq.Level), .sv (.int .i64 p0.Seq.Bits), .sv (.ints .i64 p0.Seq.Cols), .sv (.ints .i64 p0.Seq.Rows), .sv (.int .i64 p0.Par.Qp), .sv (.bool p0.Par.Large), .sv (.bool p0.Par.Exact), .sv (.bool p0.Par.Confined), .sv (.int .i64 p0.Frame), .sv (.int .i64 p0.Got), .sv (.int .i64 v8.1), .sv (.int .i64 v8.2.1), .sv (.str v8.2.2), .sv (.int .i64 p0.Ref.Wide), .sv (.int .i64 p0.Ref.High), .sv (.str p0.Ref.Dots)]))])) (fun v8 h => ?_) fun v8 h => ?_
 refine Xab ?_
 iterate 3 refine kO hT hC ?_
 refine Vc.nil ?_
 refine kS h ?_ ?_ <;> intro b9 h
 refine kt b9 ?_
 refine Xab ?_
 iterate 2 refine kO hT hC ?_
 refine kC hC [] Tryz.call112 h (fun _ => Xsy) fun q9 h => ?_
 iterate 5 refine kO hT hC ?_
 refine Vc.nil ?_
 refine Xac ?_
 iterate 2 refine kO hT hC ?_
 refine kC hC [] Tryz.call113 h (fun _ => Xyi) fun q10 h => ?_
 iterate 2 refine kO hT hC ?_
 refine Vc.nil ?_
 exact kM
 refine kf b9 ?_
 refine Xaf ?_
 exact kM
 refine Xab ?_
 iterate 7 refine kO hT hC ?_
 refine kC hC [] Tryz.call114 h (fun _ => Yhf) fun q11 h => ?_
 iterate 5 refine kO hT hC ?_
 refine kN ?_
 iterate 5 refine kO hT hC ?_
 refine kN ?_
 iterate 4 refine kO hT hC ?_
 refine Vc.nil ?_
 refine Xao ?_
 refine Xeg hm ?_
 iterate 4 refine kO hT hC ?_
 refine kC hC [] Tryz.call100 h (fun _ => Xjo) fun q12 h => ?_
 refine kO hT hC ?_
 refine kD ?_
 refine kS h ?_ ?_ <;> intro b10 h
 refine kt b10 ?_
 refine Xab ?_
 iterate 5 refine kO hT hC ?_
 refine Vc.nil ?_
 refine Xah ?_
 refine Xal ?_
 exact kR
 refine kf b10 ?_
 refine Xaf ?_
 refine Xae ?_
 refine Xab ?_
 iterate 4 refine kO hT hC ?_
 refine kN ?_
 iterate 3 refine kO hT hC ?_
 refine kN ?_
 iterate 2 refine kO hT hC ?_
 refine kN ?_
 iterate 3 refine kO hT hC ?_
 refine kN ?_
 iterate 2 refine kO hT hC ?_
 refine kN ?_
 iterate 7 refine kO hT hC ?_
 iterate 2 refine kQ hT hC h fun h => ?_
 iterate 2 refine kO hT hC ?_
 refine Vc.nil ?_
 refine Xeg hm ?_
 iterate 5 refine kO hT hC ?_
 refine kD ?_
 refine Xah ?_
 exact kR
def Ya4 (r : (Decoder × Int × Pic)) : AV := .tup [.agg [.sv (.bool r.1.HasSeq), .sv (.bool r.1.HasPar), .sv (.bool r.1.HasRef), .sv (.int .i64 r.1.Seq.Level), .sv (.int .i64 r.1.Seq.Bits), .sv (.ints .i64 r.1.Seq.Cols), .sv (.ints .i64 r.1.Seq.Rows), .sv (.int .i64 r.1.Par.Qp), .sv (.bool r.1.Par.Large), .sv (.bool r.1.Par.Exact), .sv (.bool r.1.Par.Confined), .sv (.int .i64 r.1.Frame), .sv (.int .i64 r.1.Got), .sv (.int .i64 r.1.Now.Wide), .sv (.int .i64 r.1.Now.High), .sv (.str r.1.Now.Dots), .sv (.int .i64 r.1.Ref.Wide), .sv (.int .i64 r.1.Ref.High), .sv (.str r.1.Ref.Dots)], .sv (.int .i64 r.2.1), .agg [.sv (.int .i64 r.2.2.Wide), .sv (.int .i64 r.2.2.High), .sv (.str r.2.2.Dots)]]
def Ya3 (r : (Decoder × Int × Pic)) : Xa4 := []
theorem Yfd {p0 p1 r} (h : Xnc p0 p1 = some r) : AC Tryz.prog 36 [.agg [.sv (.bool p0.HasSeq), .sv (.bool p0.HasPar), .sv (.bool p0.HasRef), .sv (.int .i64 p0.Seq.Level), .sv (.int .i64 p0.Seq.Bits), .sv (.ints .i64 p0.Seq.Cols), .sv (.ints .i64 p0.Seq.Rows), .sv (.int .i64 p0.Par.Qp), .sv (.bool p0.Par.Large), .sv (.bool p0.Par.Exact), .sv (.bool p0.Par.Confined), .sv (.int .i64 p0.Frame), .sv (.int .i64 p0.Got), .sv (.int .i64 p0.Now.Wide), .sv (.int .i64 p0.Now.High), .sv (.str p0.Now.Dots), .sv (.int .i64 p0.Ref.Wide), .sv (.int .i64 p0.Ref.High), .sv (.str p0.Ref.Dots)], .sv (.str p1)] [] (Ya4 r) (Ya3 r) := by
 refine Xag hT Tryz.func36 rfl fun C hC => ?_
 unfold Xnc at h
 refine Xab ?_
 iterate 4 refine kO hT hC ?_
 refine Vc.nil ?_
 refine Xao ?_
 refine Xab ?_
 refine kO hT hC ?_
 refine kC hC [] Tryz.call68 h (fun _ => Yks) fun q1 h => ?_
 refine kO hT hC ?_
 refine Vc.nil ?_
 refine kS h ?_ ?_ <;> intro b1 h
 refine kt b1 ?_
 refine Xab ?_
 iterate 5 refine kO hT hC ?_
 refine Vc.nil ?_
 refine Xah ?_
 refine Xal ?_
 exact kR
 refine kf b1 ?_
 refine Xaf ?_
 refine Xae ?_
 refine Xab ?_
 refine kO hT hC ?_
 refine kC hC [] Tryz.call69 h (fun _ => Yhq) fun q2 h => ?_
 iterate 7 refine kO hT hC ?_
 refine Vc.nil ?_
 refine Xao ?_
 refine Xab ?_
 iterate 2 refine kO hT hC ?_
 refine Vc.nil ?_
 refine kS h ?_ ?_ <;> intro b2 h
 refine kt b2 ?_
 refine Xab ?_
 iterate 5 refine kO hT hC ?_
 refine Vc.nil ?_
 refine Xah ?_
 refine Xal ?_
 exact kR
 refine kf b2 ?_
 refine Xaf ?_
 refine Xae ?_
 refine Xao ?_
 refine Xab ?_
 refine kO hT hC ?_
 refine Vc.nil ?_
 refine Xaq ?_
 refine Xab ?_
 iterate 2 refine kO hT hC ?_
 refine Vc.nil ?_
 refine kS h ?_ ?_ <;> intro b3 h
 refine kt b3 ?_
 refine Xab ?_
 refine kO hT hC ?_
 refine kC hC [(16, 592), (17, 593)] Tryz.call70 h (fun _ => Xv4) fun q3 h => ?_
 iterate 8 refine kO hT hC ?_
 refine Vc.nil ?_
 refine Xao ?_
 refine kL [2,4,6,8,10,11,12] [32,64,96,160,592,593] [_,_,_,_,_,_,_] [_,_,_,_,_,_] ?_
 refine kA h (fun v4 => ([(48, .sv (.bool v4)), (8, .any), (11, .any), (12, .any)], [])) (fun v4 h => ?_) fun v4 h => ?_
 refine Xac ?_
 iterate 3 refine kO hT hC ?_
 refine kS h ?_ ?_ <;> intro b4 h
 iterate 4 refine kI hT hC (kn b4) ?_
 refine kP hC false (kn b4) ?_
 refine Vc.nil ?_
 exact kM
 iterate 4 refine kF hC (kn b4) ?_
 refine kP hC true (kn b4) ?_
 refine Vc.nil ?_
 exact kM
 refine kS h ?_ ?_ <;> intro b5 h
 refine kt b5 ?_
 refine Xab ?_
 iterate 5 refine kO hT hC ?_
 refine Vc.nil ?_
 refine Xah ?_
 refine Xal ?_
 refine Xcs ?_
 refine Xal ?_
 exact kR
 refine kf b5 ?_
 refine Xaf ?_
 refine Xae ?_
 refine Xab ?_
 iterate 6 refine kO hT hC ?_
 refine Vc.nil ?_
 refine Xah ?_
 refine Xcs ?_
 refine Xal ?_
 obtain rfl := kj h
 exact Xbv (τ := ⟨[(4, .ptr 2000000 0), (5, .sv (.int .i64 0)), (6, .ptr 2000002 0)], [(2000000, some (.box [.sv (.bool true), .sv (.bool false), .sv (.bool false), .sv (.int .i64 q3.1.Level), .sv (.int .i64 q3.1.Bits), .sv (.ints .i64 q3.1.Cols), .sv (.ints .i64 q3.1.Rows), .sv (.int .i64 0), .sv (.bool false), .sv (.bool false), .sv (.bool false), .sv (.int .i64 (-1)), .sv (.int .i64 0), .sv (.int .i64 0), .sv (.int .i64 0), .sv (.str ⟨#[]⟩), .sv (.int .i64 0), .sv (.int .i64 0), .sv (.str ⟨#[]⟩)])), (2000002, some (.box [.sv (.int .i64 0), .sv (.int .i64 0), .sv (.str ⟨#[]⟩)]))]⟩) (kW hC [(2000000, 64), (2000002, 96)]) rfl trivial
 refine kf b3 ?_
 refine Xab ?_
 iterate 2 refine kO hT hC ?_
 refine Vc.nil ?_
 refine kS h ?_ ?_ <;> intro b6 h
 refine kt b6 ?_
 refine Xab ?_
 refine kO hT hC ?_
 refine kC hC [] Tryz.call71 h (fun _ => Xv3) fun q5 h => ?_
 iterate 8 refine kO hT hC ?_
 refine Vc.nil ?_
 refine Xao ?_
 refine kL [2,4,6,8,13,14,15] [32,64,96,208] [_,_,_,_,_,_,_] [_,_,_,_] ?_
 refine kA h (fun v6 => ([(69, .sv (.bool v6)), (8, .any), (14, .any), (15, .any)], [])) (fun v6 h => ?_) fun v6 h => ?_
 refine Xac ?_
 iterate 3 refine kO hT hC ?_
 refine kS h ?_ ?_ <;> intro b7 h
 iterate 4 refine kI hT hC (kn b7) ?_
 refine kP hC false (kn b7) ?_
 refine Vc.nil ?_
 exact kM
 iterate 4 refine kF hC (kn b7) ?_
 refine kP hC true (kn b7) ?_
 refine Vc.nil ?_
 exact kM
 refine kS h ?_ ?_ <;> intro b8 h
 refine kt b8 ?_
 refine Xab ?_
 iterate 5 refine kO hT hC ?_
 refine Vc.nil ?_
 refine Xah ?_
 refine Xal ?_
 refine Xcs ?_
 refine Xal ?_
 exact kR
 refine kf b8 ?_
 refine Xaf ?_
 refine Xae ?_
 refine Xao ?_
 refine kL [2,4,6,13] [32,64,96,208] [_,_,_,_] [_,_,_,_] ?_
 refine kA h (fun v7 => ([(79, .sv (.bool v7))], [])) (fun v7 h => ?_) fun v7 h => ?_
 refine Xac ?_
 iterate 4 refine kO hT hC ?_
 refine kS h ?_ ?_ <;> intro b9 h
 iterate 3 refine kI hT hC (kn b9) ?_
 refine kP hC false (kn b9) ?_
 refine Vc.nil ?_
 exact kM
 iterate 3 refine kF hC (kn b9) ?_
 refine kP hC true (kn b9) ?_
 refine Vc.nil ?_
 exact kM
 refine kS h ?_ ?_ <;> intro b10 h
 refine kt b10 ?_
 refine Xab ?_
 iterate 5 refine kO hT hC ?_
 refine Vc.nil ?_
 refine Xah ?_
 refine Xal ?_
 refine Xcs ?_
 refine Xal ?_
 exact kR
 refine kf b10 ?_
 refine Xaf ?_
 refine Xae ?_
 refine Xab ?_
 iterate 3 refine kO hT hC ?_
 refine kN ?_
 iterate 2 refine kO hT hC ?_
 refine kN ?_
 iterate 3 refine kO hT hC ?_
 refine kN ?_
 iterate 5 refine kO hT hC ?_
 refine Vc.nil ?_
 refine Xah ?_
 refine Xcs ?_
 refine Xal ?_
 exact kR
 refine kf b6 ?_
 refine Xaf ?_
 refine Xat ?_
 refine Xae ?_
 refine Xab ?_
 iterate 3 refine kO hT hC ?_
 refine kC hC [] Tryz.call72 h (fun _ => Ya2) fun q8 h => ?_
 iterate 6 refine kO hT hC ?_
 refine Vc.nil ?_
 refine Xah ?_
 exact kR
def Yah (r : Seq) : AV := .agg [.sv (.int .i64 r.Level), .sv (.int .i64 r.Bits), .own 16, .own 17]
def Yag (r : Seq) : Xa4 := [(16, .ints .i64 r.Cols), (17, .ints .i64 r.Rows)]
theorem Yex {p0 r} (h : Xis p0 = some r) : AC Tryz.prog 37 [.agg [.sv (.int .i64 p0.Level), .sv (.int .i64 p0.Bits), .sv (.ints .i64 p0.Cols), .sv (.ints .i64 p0.Rows)]] [] (Yah r) (Yag r) := by
 refine Xag hT Tryz.func37 rfl fun C hC => ?_
 unfold Xis at h
 refine Xab ?_
 iterate 2 refine kO hT hC ?_
 refine kN ?_
 iterate 3 refine kO hT hC ?_
 refine kT hT hC h fun h => ?_
 iterate 2 refine kO hT hC ?_
 refine kN ?_
 iterate 3 refine kO hT hC ?_
 refine kT hT hC h fun h => ?_
 iterate 2 refine kO hT hC ?_
 refine kN ?_
 iterate 2 refine kO hT hC ?_
 refine Vc.nil ?_
 refine Xah ?_
 obtain rfl := kj h
 exact Xbv (τ := ⟨[(2, .ptr 2000000 0)], [(16, some (.ints .i64 (([] : List Int) ++ p0.Cols))), (17, some (.ints .i64 (([] : List Int) ++ p0.Rows))), (2000000, some (.box [.sv (.int .i64 p0.Level), .sv (.int .i64 p0.Bits), .own 16, .own 17]))]⟩) (kW hC [(16, 96), (17, 176), (2000000, 32)]) rfl ⟨rfl, rfl, trivial⟩
def Xzx (r : (Decoder × Int × Pic)) : AV := .tup [.agg [.sv (.bool r.1.HasSeq), .sv (.bool r.1.HasPar), .sv (.bool r.1.HasRef), .sv (.int .i64 r.1.Seq.Level), .sv (.int .i64 r.1.Seq.Bits), .own 16, .own 17, .sv (.int .i64 r.1.Par.Qp), .sv (.bool r.1.Par.Large), .sv (.bool r.1.Par.Exact), .sv (.bool r.1.Par.Confined), .sv (.int .i64 r.1.Frame), .sv (.int .i64 r.1.Got), .sv (.int .i64 r.1.Now.Wide), .sv (.int .i64 r.1.Now.High), .sv (.str r.1.Now.Dots), .sv (.int .i64 r.1.Ref.Wide), .sv (.int .i64 r.1.Ref.High), .sv (.str r.1.Ref.Dots)], .sv (.int .i64 r.2.1), .agg [.sv (.int .i64 r.2.2.Wide), .sv (.int .i64 r.2.2.High), .sv (.str r.2.2.Dots)]]
def Xzw (r : (Decoder × Int × Pic)) : Xa4 := [(16, .ints .i64 r.1.Seq.Cols), (17, .ints .i64 r.1.Seq.Rows)]
theorem Yd3 {p0 p1 r} (h : Xld p0 p1 = some r) : AC Tryz.prog 8 [.agg [.sv (.bool p0.HasSeq), .sv (.bool p0.HasPar), .sv (.bool p0.HasRef), .sv (.int .i64 p0.Seq.Level), .sv (.int .i64 p0.Seq.Bits), .sv (.ints .i64 p0.Seq.Cols), .sv (.ints .i64 p0.Seq.Rows), .sv (.int .i64 p0.Par.Qp), .sv (.bool p0.Par.Large), .sv (.bool p0.Par.Exact), .sv (.bool p0.Par.Confined), .sv (.int .i64 p0.Frame), .sv (.int .i64 p0.Got), .sv (.int .i64 p0.Now.Wide), .sv (.int .i64 p0.Now.High), .sv (.str p0.Now.Dots), .sv (.int .i64 p0.Ref.Wide), .sv (.int .i64 p0.Ref.High), .sv (.str p0.Ref.Dots)], .sv (.str p1)] [] (Xzx r) (Xzw r) := by
 refine Xag hT Tryz.func8 rfl fun C hC => ?_
 unfold Xld at h
 refine Xab ?_
 iterate 4 refine kO hT hC ?_
 refine kN ?_
 iterate 2 refine kO hT hC ?_
 refine kC hC [] Tryz.call36 h (fun _ => Yfd) fun q1 h => ?_
 iterate 9 refine kO hT hC ?_
 refine kN ?_
 iterate 2 refine kO hT hC ?_
 refine kC hC [(16, 304), (17, 305)] Tryz.call37 h (fun _ => Yex) fun q2 h => ?_
 iterate 2 refine kO hT hC ?_
 refine Vc.nil ?_
 refine Xeg hm ?_
 iterate 6 refine kO hT hC ?_
 refine kD ?_
 refine Xah ?_
 obtain rfl := kj h
 exact Xbv (τ := ⟨[(4, .ptr 2000000 0), (5, .sv (.int .i64 q1.2.1)), (6, .ptr 2000002 0)], [(16, some (.ints .i64 q2.Cols)), (17, some (.ints .i64 q2.Rows)), (2000000, some (.box [.sv (.bool q1.1.HasSeq), .sv (.bool q1.1.HasPar), .sv (.bool q1.1.HasRef), .sv (.int .i64 q2.Level), .sv (.int .i64 q2.Bits), .own 16, .own 17, .sv (.int .i64 q1.1.Par.Qp), .sv (.bool q1.1.Par.Large), .sv (.bool q1.1.Par.Exact), .sv (.bool q1.1.Par.Confined), .sv (.int .i64 q1.1.Frame), .sv (.int .i64 q1.1.Got), .sv (.int .i64 q1.1.Now.Wide), .sv (.int .i64 q1.1.Now.High), .sv (.str q1.1.Now.Dots), .sv (.int .i64 q1.1.Ref.Wide), .sv (.int .i64 q1.1.Ref.High), .sv (.str q1.1.Ref.Dots)])), (2000002, some (.box [.sv (.int .i64 q1.2.2.Wide), .sv (.int .i64 q1.2.2.High), .sv (.str q1.2.2.Dots)]))]⟩) (kW hC [(16, 304), (17, 305), (2000000, 64), (2000002, 96)]) rfl ⟨rfl, rfl, trivial⟩
def Xwz (r : (List Int)) : AV := .own 16
def Xwy (r : (List Int)) : Xa4 := [(16, .ints .i64 r)]
theorem Xll {p0 r} (h : Xee p0 = some r) : AC Tryz.prog 115 [.sv (.ints .i64 p0)] [] (Xwz r) (Xwy r) := by
 refine Xag hT Tryz.func115 rfl fun C hC => ?_
 unfold Xee at h
 refine Xab ?_
 refine kO hT hC ?_
 refine kN ?_
 iterate 2 refine kO hT hC ?_
 refine kT hT hC h fun h => ?_
 refine kO hT hC ?_
 refine Vc.nil ?_
 refine Xah ?_
 obtain rfl := kj h
 exact Xbv (τ := ⟨[(2, .own 16)], [(16, some (.ints .i64 (([] : List Int) ++ p0)))]⟩) (kW hC [(16, 80)]) rfl ⟨rfl, trivial⟩
def Xy9 (r : Seq) : AV := .agg [.sv (.int .i64 r.Level), .sv (.int .i64 r.Bits), .own 16, .own 17]
def Xy8 (r : Seq) : Xa4 := [(16, .ints .i64 r.Cols), (17, .ints .i64 r.Rows)]
theorem Yco {p0 r} (h : Xk4 p0 = some r) : AC Tryz.prog 74 [.agg [.sv (.int .i64 p0.Level), .sv (.int .i64 p0.Bits), .sv (.ints .i64 p0.Cols), .sv (.ints .i64 p0.Rows)]] [] (Xy9 r) (Xy8 r) := by
 refine Xag hT Tryz.func74 rfl fun C hC => ?_
 unfold Xk4 at h
 refine Xab ?_
 iterate 2 refine kO hT hC ?_
 refine kN ?_
 iterate 2 refine kO hT hC ?_
 refine kC hC [(16, 80)] Tryz.call115 h (fun _ => Xll) fun q1 h => ?_
 iterate 2 refine kO hT hC ?_
 refine kN ?_
 iterate 2 refine kO hT hC ?_
 refine kC hC [(16, 144)] Tryz.call115 h (fun _ => Xll) fun q2 h => ?_
 iterate 2 refine kO hT hC ?_
 refine kN ?_
 iterate 2 refine kO hT hC ?_
 refine Vc.nil ?_
 refine Xah ?_
 obtain rfl := kj h
 exact Xbv (τ := ⟨[(2, .ptr 2000000 0)], [(16, some (.ints .i64 q1)), (17, some (.ints .i64 q2)), (2000000, some (.box [.sv (.int .i64 p0.Level), .sv (.int .i64 p0.Bits), .own 16, .own 17]))]⟩) (kW hC [(16, 80), (17, 144), (2000000, 32)]) rfl ⟨rfl, rfl, trivial⟩
def Xrw (r : Decoder) : AV := .agg [.sv (.bool r.HasSeq), .sv (.bool r.HasPar), .sv (.bool r.HasRef), .sv (.int .i64 r.Seq.Level), .sv (.int .i64 r.Seq.Bits), .own 16, .own 17, .sv (.int .i64 r.Par.Qp), .sv (.bool r.Par.Large), .sv (.bool r.Par.Exact), .sv (.bool r.Par.Confined), .sv (.int .i64 r.Frame), .sv (.int .i64 r.Got), .sv (.int .i64 r.Now.Wide), .sv (.int .i64 r.Now.High), .sv (.str r.Now.Dots), .sv (.int .i64 r.Ref.Wide), .sv (.int .i64 r.Ref.High), .sv (.str r.Ref.Dots)]
def Xrv (r : Decoder) : Xa4 := [(16, .ints .i64 r.Seq.Cols), (17, .ints .i64 r.Seq.Rows)]
theorem Xtl {p0 r} (h : Xfq p0 = some r) : AC Tryz.prog 41 [.agg [.sv (.bool p0.HasSeq), .sv (.bool p0.HasPar), .sv (.bool p0.HasRef), .sv (.int .i64 p0.Seq.Level), .sv (.int .i64 p0.Seq.Bits), .sv (.ints .i64 p0.Seq.Cols), .sv (.ints .i64 p0.Seq.Rows), .sv (.int .i64 p0.Par.Qp), .sv (.bool p0.Par.Large), .sv (.bool p0.Par.Exact), .sv (.bool p0.Par.Confined), .sv (.int .i64 p0.Frame), .sv (.int .i64 p0.Got), .sv (.int .i64 p0.Now.Wide), .sv (.int .i64 p0.Now.High), .sv (.str p0.Now.Dots), .sv (.int .i64 p0.Ref.Wide), .sv (.int .i64 p0.Ref.High), .sv (.str p0.Ref.Dots)]] [] (Xrw r) (Xrv r) := by
 refine Xag hT Tryz.func41 rfl fun C hC => ?_
 unfold Xfq at h
 refine Xab ?_
 iterate 2 refine kO hT hC ?_
 refine kN ?_
 iterate 2 refine kO hT hC ?_
 refine kC hC [(16, 80), (17, 81)] Tryz.call74 h (fun _ => Yco) fun q1 h => ?_
 iterate 2 refine kO hT hC ?_
 refine kN ?_
 iterate 2 refine kO hT hC ?_
 refine Vc.nil ?_
 refine Xah ?_
 obtain rfl := kj h
 exact Xbv (τ := ⟨[(2, .ptr 2000000 0)], [(16, some (.ints .i64 q1.Cols)), (17, some (.ints .i64 q1.Rows)), (2000000, some (.box [.sv (.bool p0.HasSeq), .sv (.bool p0.HasPar), .sv (.bool p0.HasRef), .sv (.int .i64 q1.Level), .sv (.int .i64 q1.Bits), .own 16, .own 17, .sv (.int .i64 p0.Par.Qp), .sv (.bool p0.Par.Large), .sv (.bool p0.Par.Exact), .sv (.bool p0.Par.Confined), .sv (.int .i64 p0.Frame), .sv (.int .i64 p0.Got), .sv (.int .i64 p0.Now.Wide), .sv (.int .i64 p0.Now.High), .sv (.str p0.Now.Dots), .sv (.int .i64 p0.Ref.Wide), .sv (.int .i64 p0.Ref.High), .sv (.str p0.Ref.Dots)]))]⟩) (kW hC [(16, 80), (17, 81), (2000000, 32)]) rfl ⟨rfl, rfl, trivial⟩
def Xzb (r : Bool) : AV := .sv (.bool r)
def Xza (r : Bool) : Xa4 := []
theorem Yct {p0 r} (h : Xk5 p0 = some r) : AC Tryz.prog 61 [.agg [.sv (.int .i64 p0.Level), .sv (.int .i64 p0.Bits), .sv (.ints .i64 p0.Cols), .sv (.ints .i64 p0.Rows)]] [] (Xzb r) (Xza r) := by
 refine Xag hT Tryz.func61 rfl fun C hC => ?_
 unfold Xk5 at h
 refine Xab ?_
 iterate 2 refine kO hT hC ?_
 refine Vc.nil ?_
 refine kL [1,2] [16] [_,_] [_] ?_
 refine kA h (fun v1 => ([(2, .sv (.bool v1)), (1, .any)], [(16, none)])) (fun v1 h => ?_) fun v1 h => ?_
 refine Xac ?_
 iterate 4 refine kO hT hC ?_
 refine kS h ?_ ?_ <;> intro b1 h
 iterate 3 refine kI hT hC b1 ?_
 refine kP hC true b1 ?_
 refine kO hT hC ?_
 refine kS h ?_ ?_ <;> intro b2 h
 iterate 4 refine kI hT hC b2 ?_
 refine kP hC true b2 ?_
 refine kO hT hC ?_
 refine kS h ?_ ?_ <;> intro b3 h
 iterate 4 refine kI hT hC b3 ?_
 refine kP hC true b3 ?_
 refine kO hT hC ?_
 refine Vc.nil ?_
 exact kM
 iterate 4 refine kF hC b3 ?_
 refine kP hC false b3 ?_
 refine kO hT hC ?_
 refine Vc.nil ?_
 exact kM
 iterate 4 refine kF hC b2 ?_
 refine kP hC false b2 ?_
 refine kO hT hC ?_
 iterate 4 refine kF hC rfl ?_
 iterate 2 refine kO hT hC ?_
 refine Vc.nil ?_
 exact kM
 iterate 3 refine kF hC b1 ?_
 refine kP hC false b1 ?_
 refine kO hT hC ?_
 iterate 4 refine kF hC rfl ?_
 iterate 2 refine kO hT hC ?_
 iterate 4 refine kF hC rfl ?_
 iterate 2 refine kO hT hC ?_
 refine Vc.nil ?_
 exact kM
 refine Xah ?_
 exact kR
def Yc5 (r : Bool) : AV := .sv (.bool r)
def Yc4 (r : Bool) : Xa4 := []
theorem Xam {p0 p1 p2 r} (h : Xar p0 p1 p2 = some r) : AC Tryz.prog 64 [.sv (.int .i64 p0), .sv (.int .i64 p1), .sv (.int .i64 p2)] [] (Yc5 r) (Yc4 r) := by
 refine Xag hT Tryz.func64 rfl fun C hC => ?_
 unfold Xar at h
 refine Xab ?_
 refine kO hT hC ?_
 refine Vc.nil ?_
 refine kL [0,1,2,6] [] [_,_,_,_] [] ?_
 refine kA h (fun v1 => ([(6, .sv (.bool v1)), (0, .any), (1, .any), (2, .any)], [])) (fun v1 h => ?_) fun v1 h => ?_
 refine Xac ?_
 iterate 4 refine kO hT hC ?_
 refine kS h ?_ ?_ <;> intro b1 h
 iterate 3 refine kI hT hC b1 ?_
 refine kP hC true b1 ?_
 refine kO hT hC ?_
 refine Vc.nil ?_
 exact kM
 iterate 3 refine kF hC b1 ?_
 refine kP hC false b1 ?_
 refine kO hT hC ?_
 refine Vc.nil ?_
 exact kM
 refine Xah ?_
 exact kR
def Ygg (r : Int) : AV := .sv (.int .i64 r)
def Ygf (r : Int) : Xa4 := []
theorem Xef {p0 r} (h : Xb5 p0 = some r) : AC Tryz.prog 121 [.sv (.ints .i64 p0)] [] (Ygg r) (Ygf r) := by
 refine Xag hT Tryz.func121 rfl fun C hC => ?_
 unfold Xb5 at h
 refine Xab ?_
 refine kO hT hC ?_
 refine kN ?_
 refine kO hT hC ?_
 refine Vc.nil ?_
 refine Xao ?_
 refine Xab ?_
 iterate 3 refine kO hT hC ?_
 refine Vc.nil ?_
 refine kL [3,6,7,8] [] [_,_,_,_] [] ?_
 refine kX h (fun v2 => ([(3, .sv (.int .i64 v2.1)), (8, .sv (.int .i64 v2.2))], [])) (fun v4 => ([(3, .sv (.int .i64 v4)), (6, .any), (7, .any), (8, .any)], [])) (kW hC []) (fun v2 s h => ?_) fun v4 h => ?_
 unfold Xdi at h
 refine Xab ?_
 refine kO hT hC ?_
 refine Vc.nil ?_
 refine Xao ?_
 refine kS h ?_ ?_ <;> intro b3 h
 refine kt b3 ?_
 refine Xaf ?_
 refine Xae ?_
 refine Xao ?_
 refine Xaq ?_
 refine Xab ?_
 refine kQ hT hC h fun h => ?_
 iterate 2 refine kO hT hC ?_
 refine Vc.nil ?_
 refine Xac ?_
 iterate 4 refine kO hT hC ?_
 refine Vc.nil ?_
 refine Xat ?_
 refine Xae ?_
 refine Xac ?_
 iterate 2 refine kO hT hC ?_
 refine Vc.nil ?_
 exact kG
 refine kf b3 ?_
 refine Xau ?_
 refine Xaz ?_
 exact ku
 refine Xae ?_
 refine Xab ?_
 iterate 2 refine kO hT hC ?_
 refine Vc.nil ?_
 refine Xah ?_
 exact kR
def Xi6 (r : Int) : AV := .sv (.int .i64 r)
def Xi5 (r : Int) : Xa4 := []
theorem Xwu {p0 r} (h : Xhu p0 = some r) : AC Tryz.prog 95 [.agg [.sv (.int .i64 p0.Level), .sv (.int .i64 p0.Bits), .sv (.ints .i64 p0.Cols), .sv (.ints .i64 p0.Rows)]] [] (Xi6 r) (Xi5 r) := by
 refine Xag hT Tryz.func95 rfl fun C hC => ?_
 unfold Xhu at h
 refine Xab ?_
 iterate 2 refine kO hT hC ?_
 refine Vc.nil ?_
 refine Xao ?_
 refine Xab ?_
 iterate 7 refine kO hT hC ?_
 refine Vc.nil ?_
 refine kL [1,11,12,13] [16,176] [_,_,_,_] [_,_] ?_
 obtain ⟨o32, hl, h⟩ := Xa7 h
 refine Xen (fun v11 => ([(13, .sv (.int .i64 v11))], [])) (fun v22 => ([(11, .any), (12, .any), (13, .any)], [(176, none)])) (fun r => Xmc C T Tryz.f95.results.toList (Xi6 r) (Xi5 r)) hl ?_ ?_ ?_ ?_
 apply Xbz hC []
 exact co
 rfl
 decide
 rfl
 intro v11 s hs
 have h := hs
 unfold Xdb at h
 refine Xab ?_
 refine kO hT hC ?_
 refine Vc.nil ?_
 refine Xao ?_
 refine kS h ?_ ?_ <;> intro b17 h
 refine kt b17 ?_
 refine Xaf ?_
 refine Xae ?_
 refine Xao ?_
 refine Xaq ?_
 refine Xab ?_
 iterate 2 refine kQ hT hC h fun h => ?_
 refine kO hT hC ?_
 refine Vc.nil ?_
 refine Xao ?_
 refine Xab ?_
 iterate 2 refine kO hT hC ?_
 refine kC hC [] Tryz.call64 h (fun _ => Xam) fun q23 h => ?_
 refine kO hT hC ?_
 refine Vc.nil ?_
 refine kS h ?_ ?_ <;> intro b18 h
 refine kt b18 ?_
 refine Xab ?_
 refine kO hT hC ?_
 refine Vc.nil ?_
 refine Xah ?_
 refine Xal ?_
 refine Xcs ?_
 refine Xal ?_
 obtain rfl := kj h
 refine Xmq ?_
 refine Xmo ?_
 exact Xbv (Xhl.refl _) rfl trivial
 refine kf b18 ?_
 refine Xaf ?_
 refine Xae ?_
 refine Xab ?_
 iterate 3 refine kO hT hC ?_
 refine Vc.nil ?_
 refine kL [1,11,12,13,21,22,23] [16,176] [_,_,_,_,_,_,_] [_,_] ?_
 obtain ⟨o31, hl, h⟩ := Xa7 h
 refine Xen (fun v26 => ([(23, .sv (.int .i64 v26))], [])) (fun v29 => ([(21, .any), (22, .any), (23, .any)], [])) (fun r => Xmc C T Tryz.f95.results.toList (Xi6 r) (Xi5 r)) hl ?_ ?_ ?_ ?_
 apply Xbz hC []
 exact co
 rfl
 decide
 rfl
 intro v26 s hs
 have h := hs
 unfold Xcc at h
 refine Xab ?_
 refine kO hT hC ?_
 refine Vc.nil ?_
 refine Xao ?_
 refine kS h ?_ ?_ <;> intro b23 h
 refine kt b23 ?_
 refine Xaf ?_
 refine Xae ?_
 refine Xao ?_
 refine Xaq ?_
 refine Xab ?_
 refine kQ hT hC h fun h => ?_
 iterate 2 refine kO hT hC ?_
 refine kN ?_
 refine kO hT hC ?_
 refine kC hC [] Tryz.call64 h (fun _ => Xam) fun q30 h => ?_
 refine kO hT hC ?_
 refine Vc.nil ?_
 refine kS h ?_ ?_ <;> intro b24 h
 refine kt b24 ?_
 refine Xab ?_
 refine kO hT hC ?_
 refine Vc.nil ?_
 refine Xah ?_
 refine Xcs ?_
 refine Xal ?_
 obtain rfl := kj h
 refine Xmq ?_
 refine Xmo ?_
 exact Xbv (Xhl.refl _) rfl trivial
 refine kf b24 ?_
 refine Xaf ?_
 refine Xat ?_
 refine Xae ?_
 refine Xac ?_
 iterate 2 refine kO hT hC ?_
 refine Vc.nil ?_
 exact kG
 refine kf b23 ?_
 refine Xau ?_
 refine Xaz ?_
 exact kb
 intro v29 e
 subst e
 refine Xat ?_
 refine Xae ?_
 refine Xac ?_
 iterate 2 refine kO hT hC ?_
 refine Vc.nil ?_
 exact kG
 intro r' σ' e hE
 subst e
 obtain rfl := kj h
 refine Xcs ?_
 refine Xal ?_
 refine Xmq ?_
 refine Xmo ?_
 exact hE
 refine kf b17 ?_
 refine Xau ?_
 refine Xaz ?_
 exact kb
 intro v22 e
 subst e
 refine Xae ?_
 refine Xeg hm ?_
 iterate 2 refine kO hT hC ?_
 refine kC hC [] Tryz.call121 h (fun _ => Xef) fun q33 h => ?_
 iterate 2 refine kO hT hC ?_
 refine kC hC [] Tryz.call121 h (fun _ => Xef) fun q34 h => ?_
 iterate 2 refine kO hT hC ?_
 refine kD ?_
 refine Xah ?_
 exact kR
 intro r' σ' e hE
 subst e
 obtain rfl := kj h
 refine Xal ?_
 exact hE
def Xqh (r : Int) : AV := .sv (.int .i64 r)
def Xqg (r : Int) : Xa4 := []
theorem Xrr {p0 r} (h : Xew p0 = some r) : AC Tryz.prog 96 [.sv (.int .i64 p0)] [] (Xqh r) (Xqg r) := by
 refine Xag hT Tryz.func96 rfl fun C hC => ?_
 unfold Xew at h
 refine Xab ?_
 refine kO hT hC ?_
 refine Vc.nil ?_
 refine Xao ?_
 refine Xab ?_
 refine kO hT hC ?_
 refine kC hC [] Tryz.call64 h (fun _ => Xam) fun q1 h => ?_
 refine kO hT hC ?_
 refine Vc.nil ?_
 refine kS h ?_ ?_ <;> intro b1 h
 refine kt b1 ?_
 refine Xab ?_
 refine kO hT hC ?_
 refine Vc.nil ?_
 refine Xah ?_
 refine Xal ?_
 exact kR
 refine kf b1 ?_
 refine Xaf ?_
 refine Xae ?_
 refine Xab ?_
 iterate 3 refine kO hT hC ?_
 iterate 2 refine kQ hT hC h fun h => ?_
 refine kO hT hC ?_
 refine Vc.nil ?_
 refine Xah ?_
 exact kR
def Yf5 (r : Bool) : AV := .sv (.bool r)
def Yf4 (r : Bool) : Xa4 := []
theorem Xgy {p0 r} (h : Xfy p0 = some r) : AC Tryz.prog 62 [.agg [.sv (.int .i64 p0.Level), .sv (.int .i64 p0.Bits), .sv (.ints .i64 p0.Cols), .sv (.ints .i64 p0.Rows)]] [] (Yf5 r) (Yf4 r) := by
 refine Xag hT Tryz.func62 rfl fun C hC => ?_
 unfold Xfy at h
 refine Xab ?_
 iterate 2 refine kO hT hC ?_
 refine Vc.nil ?_
 refine kL [1,2] [16] [_,_] [_] ?_
 refine kA h (fun v1 => ([(2, .sv (.bool v1)), (1, .any)], [(16, none)])) (fun v1 h => ?_) fun v1 h => ?_
 refine Xcn hm ?_
 refine kO hT hC ?_
 refine kC hC [] Tryz.call95 h (fun _ => Xwu) fun q2 h => ?_
 iterate 2 refine kO hT hC ?_
 refine kC hC [] Tryz.call96 h (fun _ => Xrr) fun q3 h => ?_
 refine kC hC [] Tryz.call64 h (fun _ => Xam) fun q4 h => ?_
 refine kO hT hC ?_
 refine kS h ?_ ?_ <;> intro b1 h
 iterate 2 refine kI hT hC b1 ?_
 refine kE hC b1 [] Tryz.call64 h (fun _ => Xam) fun q5 h => ?_
 refine kP hC true b1 ?_
 refine kO hT hC ?_
 refine kD ?_
 exact kM
 iterate 3 refine kF hC b1 ?_
 refine kP hC false b1 ?_
 refine kO hT hC ?_
 refine kD ?_
 exact kM
 refine Xah ?_
 exact kR
def Yf0 (r : Bool) : AV := .sv (.bool r)
def Yfz (r : Bool) : Xa4 := []
theorem Xlx {p0 r} (h : Xij p0 = some r) : AC Tryz.prog 63 [.agg [.sv (.int .i64 p0.Qp), .sv (.bool p0.Large), .sv (.bool p0.Exact), .sv (.bool p0.Confined)]] [] (Yf0 r) (Yfz r) := by
 refine Xag hT Tryz.func63 rfl fun C hC => ?_
 unfold Xij at h
 refine Xab ?_
 iterate 2 refine kO hT hC ?_
 refine Vc.nil ?_
 refine kL [1,2] [16] [_,_] [_] ?_
 refine kA h (fun v1 => ([(2, .sv (.bool v1)), (1, .any)], [(16, none)])) (fun v1 h => ?_) fun v1 h => ?_
 refine Xac ?_
 iterate 2 refine kO hT hC ?_
 refine kC hC [] Tryz.call64 h (fun _ => Xam) fun q2 h => ?_
 refine kO hT hC ?_
 refine kS h ?_ ?_ <;> intro b1 h
 iterate 3 refine kI hT hC b1 ?_
 refine kS h ?_ ?_ <;> intro b2 h
 iterate 2 refine kI hT hC b2 ?_
 refine Xa0 hC rfl rfl rfl rfl b1 rfl rfl (b := true) b2 rfl rfl rfl trivial ?_
 refine kI hT hC b1 ?_
 refine kP hC true b1 ?_
 refine kO hT hC ?_
 refine Vc.nil ?_
 exact kM
 iterate 2 refine kF hC b2 ?_
 refine Xa0 hC rfl rfl rfl rfl b1 rfl rfl (b := false) b2 rfl rfl rfl trivial ?_
 refine kI hT hC b1 ?_
 refine kP hC true b1 ?_
 refine kO hT hC ?_
 refine Vc.nil ?_
 exact kM
 iterate 3 refine kF hC b1 ?_
 iterate 2 refine Xdh hC rfl rfl rfl rfl rfl rfl ?_
 iterate 2 refine kF hC b1 ?_
 refine kP hC false b1 ?_
 refine kO hT hC ?_
 refine Vc.nil ?_
 exact kM
 refine Xah ?_
 exact kR
def Xy7 (r : Int) : AV := .sv (.int .i64 r)
def Xy6 (r : Int) : Xa4 := []
theorem Xi8 {p0 r} (h : Xfa p0 = some r) : AC Tryz.prog 65 [.agg [.sv (.int .i64 p0.Level), .sv (.int .i64 p0.Bits), .sv (.ints .i64 p0.Cols), .sv (.ints .i64 p0.Rows)]] [] (Xy7 r) (Xy6 r) := by
 refine Xag hT Tryz.func65 rfl fun C hC => ?_
 unfold Xfa at h
 refine Xab ?_
 iterate 2 refine kO hT hC ?_
 refine Vc.nil ?_
 refine Xao ?_
 refine Xab ?_
 refine kO hT hC ?_
 refine kC hC [] Tryz.call62 h (fun _ => Xgy) fun q1 h => ?_
 refine kO hT hC ?_
 refine Vc.nil ?_
 refine kS h ?_ ?_ <;> intro b1 h
 refine kt b1 ?_
 refine Xab ?_
 refine kO hT hC ?_
 refine Vc.nil ?_
 refine Xah ?_
 refine Xal ?_
 exact kR
 refine kf b1 ?_
 refine Xaf ?_
 refine Xae ?_
 refine Xab ?_
 iterate 8 refine kO hT hC ?_
 refine Vc.nil ?_
 refine Xah ?_
 exact kR
def Yci (r : (Int × Int)) : AV := .tup [.sv (.int .i64 r.1), .sv (.int .i64 r.2)]
def Ych (r : (Int × Int)) : Xa4 := []
theorem Xsd {p0 r} (h : Xic p0 = some r) : AC Tryz.prog 87 [.agg [.sv (.int .i64 p0.Level), .sv (.int .i64 p0.Bits), .sv (.ints .i64 p0.Cols), .sv (.ints .i64 p0.Rows)]] [] (Yci r) (Ych r) := by
 refine Xag hT Tryz.func87 rfl fun C hC => ?_
 unfold Xic at h
 refine Xab ?_
 iterate 3 refine kO hT hC ?_
 refine Vc.nil ?_
 refine Xao ?_
 refine Xab ?_
 refine kO hT hC ?_
 refine kC hC [] Tryz.call62 h (fun _ => Xgy) fun q1 h => ?_
 refine kO hT hC ?_
 refine Vc.nil ?_
 refine kS h ?_ ?_ <;> intro b1 h
 refine kt b1 ?_
 refine Xab ?_
 iterate 2 refine kO hT hC ?_
 refine Vc.nil ?_
 refine Xah ?_
 refine Xal ?_
 exact kR
 refine kf b1 ?_
 refine Xaf ?_
 refine Xae ?_
 refine Xeg hm ?_
 iterate 2 refine kO hT hC ?_
 refine kC hC [] Tryz.call121 h (fun _ => Xef) fun q2 h => ?_
 iterate 3 refine kO hT hC ?_
 refine kC hC [] Tryz.call121 h (fun _ => Xef) fun q3 h => ?_
 iterate 3 refine kO hT hC ?_
 refine kD ?_
 refine Xah ?_
 exact kR
def Yf3 (r : Bool) : AV := .sv (.bool r)
def Yf2 (r : Bool) : Xa4 := []
theorem Xea {p0 r} (h : Xdr p0 = some r) : AC Tryz.prog 55 [.agg [.sv (.int .i64 p0.Wide), .sv (.int .i64 p0.High), .sv (.str p0.Dots)]] [] (Yf3 r) (Yf2 r) := by
 refine Xag hT Tryz.func55 rfl fun C hC => ?_
 unfold Xdr at h
 refine Xab ?_
 iterate 2 refine kO hT hC ?_
 refine Vc.nil ?_
 refine kL [1,2] [16] [_,_] [_] ?_
 refine kA h (fun v1 => ([(2, .sv (.bool v1)), (1, .any)], [(16, none)])) (fun v1 h => ?_) fun v1 h => ?_
 refine Xac ?_
 iterate 2 refine kO hT hC ?_
 refine kC hC [] Tryz.call64 h (fun _ => Xam) fun q2 h => ?_
 refine kO hT hC ?_
 refine kS h ?_ ?_ <;> intro b1 h
 iterate 2 refine kI hT hC b1 ?_
 refine kE hC b1 [] Tryz.call64 h (fun _ => Xam) fun q3 h => ?_
 refine kP hC true b1 ?_
 refine kO hT hC ?_
 refine kS h ?_ ?_ <;> intro b2 h
 iterate 9 refine kI hT hC b2 ?_
 refine kP hC true b2 ?_
 refine kO hT hC ?_
 refine Vc.nil ?_
 exact kM
 iterate 9 refine kF hC b2 ?_
 refine kP hC false b2 ?_
 refine kO hT hC ?_
 refine Vc.nil ?_
 exact kM
 iterate 3 refine kF hC b1 ?_
 refine kP hC false b1 ?_
 refine kO hT hC ?_
 iterate 9 refine kF hC rfl ?_
 iterate 2 refine kO hT hC ?_
 refine Vc.nil ?_
 exact kM
 refine Xah ?_
 exact kR
def Yjo (r : Bool) : AV := .sv (.bool r)
def Yjn (r : Bool) : Xa4 := []
theorem Xyb {p0 p1 r} (h : Xn2 p0 p1 = some r) : AC Tryz.prog 66 [.agg [.sv (.int .i64 p0.Wide), .sv (.int .i64 p0.High), .sv (.str p0.Dots)], .agg [.sv (.int .i64 p1.Level), .sv (.int .i64 p1.Bits), .sv (.ints .i64 p1.Cols), .sv (.ints .i64 p1.Rows)]] [] (Yjo r) (Yjn r) := by
 refine Xag hT Tryz.func66 rfl fun C hC => ?_
 unfold Xn2 at h
 refine Xab ?_
 iterate 3 refine kO hT hC ?_
 refine kN ?_
 refine kO hT hC ?_
 refine kC hC [] Tryz.call87 h (fun _ => Xsd) fun q1 h => ?_
 iterate 5 refine kO hT hC ?_
 refine Vc.nil ?_
 refine kL [2,4,5,6] [32] [_,_,_,_] [_] ?_
 refine kA h (fun v2 => ([(4, .sv (.bool v2)), (2, .any), (5, .any), (6, .any)], [(32, none)])) (fun v2 h => ?_) fun v2 h => ?_
 refine Xac ?_
 refine kO hT hC ?_
 refine kC hC [] Tryz.call55 h (fun _ => Xea) fun q3 h => ?_
 refine kO hT hC ?_
 refine kS h ?_ ?_ <;> intro b1 h
 iterate 4 refine kI hT hC b1 ?_
 refine kP hC true b1 ?_
 refine kO hT hC ?_
 refine kS h ?_ ?_ <;> intro b2 h
 iterate 4 refine kI hT hC b2 ?_
 refine kP hC true b2 ?_
 refine kO hT hC ?_
 refine Vc.nil ?_
 exact kM
 iterate 4 refine kF hC b2 ?_
 refine kP hC false b2 ?_
 refine kO hT hC ?_
 refine Vc.nil ?_
 exact kM
 iterate 4 refine kF hC b1 ?_
 refine kP hC false b1 ?_
 refine kO hT hC ?_
 iterate 4 refine kF hC rfl ?_
 iterate 2 refine kO hT hC ?_
 refine Vc.nil ?_
 exact kM
 refine Xah ?_
 exact kR
def Yfu (r : Bool) : AV := .sv (.bool r)
def Yft (r : Bool) : Xa4 := []
theorem Yje {p0 r} (h : Xnt p0 = some r) : AC Tryz.prog 33 [.agg [.sv (.bool p0.HasSeq), .sv (.bool p0.HasPar), .sv (.bool p0.HasRef), .sv (.int .i64 p0.Seq.Level), .sv (.int .i64 p0.Seq.Bits), .sv (.ints .i64 p0.Seq.Cols), .sv (.ints .i64 p0.Seq.Rows), .sv (.int .i64 p0.Par.Qp), .sv (.bool p0.Par.Large), .sv (.bool p0.Par.Exact), .sv (.bool p0.Par.Confined), .sv (.int .i64 p0.Frame), .sv (.int .i64 p0.Got), .sv (.int .i64 p0.Now.Wide), .sv (.int .i64 p0.Now.High), .sv (.str p0.Now.Dots), .sv (.int .i64 p0.Ref.Wide), .sv (.int .i64 p0.Ref.High), .sv (.str p0.Ref.Dots)]] [] (Yfu r) (Yft r) := by
 refine Xag hT Tryz.func33 rfl fun C hC => ?_
 unfold Xnt at h
 refine Xab ?_
 iterate 2 refine kO hT hC ?_
 refine Vc.nil ?_
 refine Xao ?_
 refine Xab ?_
 iterate 3 refine kO hT hC ?_
 refine Vc.nil ?_
 refine kS h ?_ ?_ <;> intro b1 h
 refine kt b1 ?_
 refine kL [1,2] [16] [_,_] [_] ?_
 refine kA h (fun v1 => ([(2, .sv (.bool v1)), (1, .any)], [(16, none)])) (fun v1 h => ?_) fun v1 h => ?_
 refine Xac ?_
 iterate 4 refine kO hT hC ?_
 refine kS h ?_ ?_ <;> intro b2 h
 iterate 3 refine kF hC (kn b2) ?_
 refine kP hC false (kn b2) ?_
 refine kO hT hC ?_
 iterate 3 refine kF hC rfl ?_
 iterate 2 refine kO hT hC ?_
 iterate 4 refine kF hC rfl ?_
 iterate 2 refine kO hT hC ?_
 iterate 3 refine kF hC rfl ?_
 iterate 2 refine kO hT hC ?_
 iterate 3 refine kF hC rfl ?_
 iterate 2 refine kO hT hC ?_
 iterate 4 refine kF hC rfl ?_
 iterate 2 refine kO hT hC ?_
 iterate 4 refine kF hC rfl ?_
 iterate 2 refine kO hT hC ?_
 refine Vc.nil ?_
 exact kM
 iterate 3 refine kI hT hC (kn b2) ?_
 refine kP hC true (kn b2) ?_
 refine kO hT hC ?_
 refine kS h ?_ ?_ <;> intro b3 h
 iterate 3 refine kF hC (kn b3) ?_
 refine kP hC false (kn b3) ?_
 refine kO hT hC ?_
 iterate 4 refine kF hC rfl ?_
 iterate 2 refine kO hT hC ?_
 iterate 3 refine kF hC rfl ?_
 iterate 2 refine kO hT hC ?_
 iterate 3 refine kF hC rfl ?_
 iterate 2 refine kO hT hC ?_
 iterate 4 refine kF hC rfl ?_
 iterate 2 refine kO hT hC ?_
 iterate 4 refine kF hC rfl ?_
 iterate 2 refine kO hT hC ?_
 refine Vc.nil ?_
 exact kM
 iterate 2 refine kI hT hC (kn b3) ?_
 refine kE hC (kn b3) [] Tryz.call61 h (fun _ => Yct) fun q2 h => ?_
 refine kP hC true (kn b3) ?_
 refine kO hT hC ?_
 refine kS h ?_ ?_ <;> intro b4 h
 iterate 3 refine kI hT hC b4 ?_
 refine Xra hC rfl rfl rfl rfl b4 rfl rfl rfl Yok rfl rfl ?_
 refine kP hC true b4 ?_
 refine kO hT hC ?_
 refine kS h ?_ ?_ <;> intro b5 h
 iterate 3 refine kI hT hC b5 ?_
 refine kP hC true b5 ?_
 refine kO hT hC ?_
 refine kS h ?_ ?_ <;> intro b6 h
 iterate 3 refine kI hT hC b6 ?_
 refine kP hC true b6 ?_
 refine kO hT hC ?_
 refine kS h ?_ ?_ <;> intro b7 h
 iterate 3 refine kI hT hC b7 ?_
 refine Xra hC rfl rfl rfl rfl b7 rfl rfl rfl Ylq rfl rfl ?_
 refine kP hC true b7 ?_
 refine kO hT hC ?_
 refine kS h ?_ ?_ <;> intro b8 h
 iterate 3 refine kI hT hC b8 ?_
 refine Xra hC rfl rfl rfl rfl b8 rfl rfl rfl Ylq rfl rfl ?_
 refine kP hC true b8 ?_
 refine kO hT hC ?_
 refine Vc.nil ?_
 exact kM
 iterate 4 refine kF hC b8 ?_
 refine kP hC false b8 ?_
 refine kO hT hC ?_
 refine Vc.nil ?_
 exact kM
 iterate 4 refine kF hC b7 ?_
 refine kP hC false b7 ?_
 refine kO hT hC ?_
 iterate 4 refine kF hC rfl ?_
 iterate 2 refine kO hT hC ?_
 refine Vc.nil ?_
 exact kM
 iterate 3 refine kF hC b6 ?_
 refine kP hC false b6 ?_
 refine kO hT hC ?_
 iterate 4 refine kF hC rfl ?_
 iterate 2 refine kO hT hC ?_
 iterate 4 refine kF hC rfl ?_
 iterate 2 refine kO hT hC ?_
 refine Vc.nil ?_
 exact kM
 iterate 3 refine kF hC b5 ?_
 refine kP hC false b5 ?_
 refine kO hT hC ?_
 iterate 3 refine kF hC rfl ?_
 iterate 2 refine kO hT hC ?_
 iterate 4 refine kF hC rfl ?_
 iterate 2 refine kO hT hC ?_
 iterate 4 refine kF hC rfl ?_
 iterate 2 refine kO hT hC ?_
 refine Vc.nil ?_
 exact kM
 iterate 4 refine kF hC b4 ?_
 refine kP hC false b4 ?_
 refine kO hT hC ?_
 iterate 3 refine kF hC rfl ?_
 iterate 2 refine kO hT hC ?_
 iterate 3 refine kF hC rfl ?_
 iterate 2 refine kO hT hC ?_
 iterate 4 refine kF hC rfl ?_
 iterate 2 refine kO hT hC ?_
 iterate 4 refine kF hC rfl ?_
 iterate 2 refine kO hT hC ?_
 refine Vc.nil ?_
 exact kM
 refine Xah ?_
 refine Xal ?_
 exact kR
 refine kf b1 ?_
 refine Xaf ?_
 refine Xae ?_
 refine Xao ?_
 refine kL [1] [16] [_] [_] ?_
 refine kA h (fun v3 => ([(80, .sv (.bool v3))], [])) (fun v3 h => ?_) fun v3 h => ?_
 refine Xac ?_
 iterate 2 refine kO hT hC ?_
 refine kC hC [] Tryz.call62 h (fun _ => Xgy) fun q4 h => ?_
 iterate 2 refine kO hT hC ?_
 refine kS h ?_ ?_ <;> intro b9 h
 iterate 3 refine kI hT hC (kn b9) ?_
 refine kS h ?_ ?_ <;> intro b10 h
 iterate 2 refine kI hT hC b10 ?_
 refine kE hC b10 [] Tryz.call63 h (fun _ => Xlx) fun q5 h => ?_
 refine kI hT hC b10 ?_
 refine Xa0 hC rfl rfl rfl rfl (kn b9) rfl rfl (b := true) b10 rfl rfl rfl trivial ?_
 refine kP hC false (kn b9) ?_
 refine kO hT hC ?_
 refine kS h ?_ ?_ <;> intro b11 h
 iterate 4 refine kI hT hC (kn b11) ?_
 iterate 5 refine kF hC (kn b10) ?_
 iterate 3 refine Xdh hC rfl rfl rfl rfl rfl rfl ?_
 iterate 2 refine kF hC (kn b10) ?_
 iterate 2 refine Xdh hC rfl rfl rfl rfl rfl rfl ?_
 refine kF hC (kn b10) ?_
 refine Xa0 hC rfl rfl rfl rfl (kn b11) rfl rfl (b := false) (kn b10) rfl rfl rfl trivial ?_
 refine kP hC false (kn b11) ?_
 refine Vc.nil ?_
 exact kM
 iterate 4 refine kF hC (kn b11) ?_
 iterate 13 refine Xdh hC rfl rfl rfl rfl rfl rfl ?_
 refine kF hC (kn b11) ?_
 refine kP hC true (kn b11) ?_
 refine Vc.nil ?_
 exact kM
 iterate 4 refine kF hC b10 ?_
 refine Xa0 hC rfl rfl rfl rfl (kn b9) rfl rfl (b := false) b10 rfl rfl rfl trivial ?_
 refine kP hC false (kn b9) ?_
 refine kO hT hC ?_
 iterate 4 refine kI hT hC rfl ?_
 iterate 3 refine kI hT hC (kn b10) ?_
 refine Xra hC rfl rfl rfl rfl (kn b10) rfl rfl rfl Yok rfl rfl ?_
 refine kI hT hC (kn b10) ?_
 refine kS h ?_ ?_ <;> intro b12 h
 iterate 3 refine kF hC b12 ?_
 refine Xa0 hC rfl rfl rfl rfl (kn b10) rfl rfl (b := true) b12 rfl rfl rfl trivial ?_
 refine kI hT hC (kn b10) ?_
 iterate 2 refine kF hC rfl ?_
 refine Xa0 hC rfl rfl rfl rfl (kn b10) rfl rfl (b := true) rfl rfl rfl rfl trivial ?_
 refine Xa0 hC rfl rfl rfl rfl rfl rfl rfl (b := true) (kn b10) rfl rfl rfl trivial ?_
 refine kO hT hC ?_
 refine Vc.nil ?_
 exact kM
 iterate 3 refine kI hT hC b12 ?_
 refine Xa0 hC rfl rfl rfl rfl (kn b10) rfl rfl (b := false) b12 rfl rfl rfl trivial ?_
 refine kI hT hC (kn b10) ?_
 refine kS h ?_ ?_ <;> intro b13 h
 iterate 2 refine kF hC b13 ?_
 refine Xa0 hC rfl rfl rfl rfl (kn b10) rfl rfl (b := true) b13 rfl rfl rfl trivial ?_
 refine Xa0 hC rfl rfl rfl rfl rfl rfl rfl (b := true) (kn b10) rfl rfl rfl trivial ?_
 refine kO hT hC ?_
 refine Vc.nil ?_
 exact kM
 iterate 2 refine kI hT hC b13 ?_
 refine Xa0 hC rfl rfl rfl rfl (kn b10) rfl rfl (b := false) b13 rfl rfl rfl trivial ?_
 refine Xa0 hC rfl rfl rfl rfl rfl rfl rfl (b := true) (kn b10) rfl rfl rfl trivial ?_
 refine kO hT hC ?_
 refine Vc.nil ?_
 exact kM
 iterate 3 refine kF hC (kn b9) ?_
 iterate 4 refine Xdh hC rfl rfl rfl rfl rfl rfl ?_
 refine kF hC (kn b9) ?_
 refine kP hC true (kn b9) ?_
 refine kO hT hC ?_
 iterate 4 refine kF hC rfl ?_
 iterate 13 refine Xdh hC rfl rfl rfl rfl rfl rfl ?_
 refine kF hC rfl ?_
 refine kO hT hC ?_
 refine Vc.nil ?_
 exact kM
 refine kS h ?_ ?_ <;> intro b14 h
 refine kt b14 ?_
 refine Xab ?_
 refine kO hT hC ?_
 refine Vc.nil ?_
 refine Xah ?_
 refine Xal ?_
 exact kR
 refine kf b14 ?_
 refine Xaf ?_
 refine Xae ?_
 refine Xao ?_
 refine kL [1] [16] [_] [_] ?_
 refine kA h (fun v6 => ([(99, .sv (.bool v6))], [])) (fun v6 h => ?_) fun v6 h => ?_
 refine Xcn hm ?_
 iterate 5 refine kO hT hC ?_
 refine kQ hT hC h fun h => ?_
 refine kO hT hC ?_
 refine kC hC [] Tryz.call64 h (fun _ => Xam) fun q7 h => ?_
 iterate 2 refine kO hT hC ?_
 refine kS h ?_ ?_ <;> intro b15 h
 iterate 4 refine kI hT hC (kn b15) ?_
 refine kE hC (kn b15) [] Tryz.call65 h (fun _ => Xi8) fun q8 h => ?_
 refine kI hT hC (kn b15) ?_
 refine kE hC (kn b15) [] Tryz.call64 h (fun _ => Xam) fun q9 h => ?_
 refine kI hT hC (kn b15) ?_
 refine kP hC false (kn b15) ?_
 refine kD ?_
 exact kM
 iterate 8 refine kF hC (kn b15) ?_
 refine kP hC true (kn b15) ?_
 refine kD ?_
 exact kM
 refine kS h ?_ ?_ <;> intro b16 h
 refine kt b16 ?_
 refine Xab ?_
 refine kO hT hC ?_
 refine Vc.nil ?_
 refine Xah ?_
 refine Xal ?_
 exact kR
 refine kf b16 ?_
 refine Xaf ?_
 refine Xae ?_
 refine Xao ?_
 refine kL [1] [16] [_] [_] ?_
 refine kA h (fun v10 => ([(126, .sv (.bool v10))], [])) (fun v10 h => ?_) fun v10 h => ?_
 refine Xac ?_
 iterate 4 refine kO hT hC ?_
 refine kS h ?_ ?_ <;> intro b17 h
 iterate 4 refine kI hT hC b17 ?_
 refine kS h ?_ ?_ <;> intro b18 h
 iterate 6 refine kF hC b18 ?_
 refine Xa0 hC rfl rfl rfl rfl b17 rfl rfl (b := true) b18 rfl rfl rfl trivial ?_
 refine kP hC true b17 ?_
 refine kO hT hC ?_
 iterate 4 refine kF hC rfl ?_
 iterate 4 refine Xdh hC rfl rfl rfl rfl rfl rfl ?_
 refine kF hC rfl ?_
 refine kO hT hC ?_
 refine Vc.nil ?_
 exact kM
 iterate 4 refine kI hT hC b18 ?_
 refine kE hC b18 [] Tryz.call66 h (fun _ => Xyb) fun q11 h => ?_
 refine kI hT hC b18 ?_
 refine Xa0 hC rfl rfl rfl rfl b17 rfl rfl (b := false) b18 rfl rfl rfl trivial ?_
 refine kP hC true b17 ?_
 refine kO hT hC ?_
 refine kS h ?_ ?_ <;> intro b19 h
 iterate 4 refine kI hT hC (kn b19) ?_
 refine kS h ?_ ?_ <;> intro b20 h
 iterate 3 refine kI hT hC b20 ?_
 refine Xra hC rfl rfl rfl rfl b20 rfl rfl rfl Ylq rfl rfl ?_
 refine Xa0 hC rfl rfl rfl rfl (kn b19) rfl rfl (b := true) b20 rfl rfl rfl trivial ?_
 refine kP hC false (kn b19) ?_
 refine Vc.nil ?_
 exact kM
 iterate 4 refine kF hC b20 ?_
 refine Xa0 hC rfl rfl rfl rfl (kn b19) rfl rfl (b := false) b20 rfl rfl rfl trivial ?_
 refine kP hC false (kn b19) ?_
 refine Vc.nil ?_
 exact kM
 iterate 4 refine kF hC (kn b19) ?_
 iterate 4 refine Xdh hC rfl rfl rfl rfl rfl rfl ?_
 refine kF hC (kn b19) ?_
 refine kP hC true (kn b19) ?_
 refine Vc.nil ?_
 exact kM
 iterate 4 refine kF hC b17 ?_
 iterate 6 refine Xdh hC rfl rfl rfl rfl rfl rfl ?_
 refine kF hC b17 ?_
 refine kP hC false b17 ?_
 refine kO hT hC ?_
 iterate 4 refine kI hT hC rfl ?_
 refine kS h ?_ ?_ <;> intro b21 h
 iterate 3 refine kI hT hC b21 ?_
 refine Xra hC rfl rfl rfl rfl b21 rfl rfl rfl Ylq rfl rfl ?_
 refine Xa0 hC rfl rfl rfl rfl rfl rfl rfl (b := true) b21 rfl rfl rfl trivial ?_
 refine kO hT hC ?_
 refine Vc.nil ?_
 exact kM
 iterate 4 refine kF hC b21 ?_
 refine Xa0 hC rfl rfl rfl rfl rfl rfl rfl (b := false) b21 rfl rfl rfl trivial ?_
 refine kO hT hC ?_
 refine Vc.nil ?_
 exact kM
 refine kS h ?_ ?_ <;> intro b22 h
 refine kt b22 ?_
 refine Xab ?_
 refine kO hT hC ?_
 refine Vc.nil ?_
 refine Xah ?_
 refine Xal ?_
 exact kR
 refine kf b22 ?_
 refine Xaf ?_
 refine Xae ?_
 refine Xao ?_
 refine Xab ?_
 iterate 2 refine kO hT hC ?_
 refine Vc.nil ?_
 refine kS h ?_ ?_ <;> intro b23 h
 refine kt b23 ?_
 refine Xab ?_
 iterate 4 refine kO hT hC ?_
 refine kC hC [] Tryz.call66 h (fun _ => Xyb) fun q12 h => ?_
 refine kO hT hC ?_
 refine Vc.nil ?_
 refine Xah ?_
 refine Xal ?_
 exact kR
 refine kf b23 ?_
 refine Xaf ?_
 refine Xae ?_
 refine Xab ?_
 iterate 3 refine kO hT hC ?_
 refine Yx1 hC rfl rfl rfl rfl Ylq rfl rfl ?_
 refine kO hT hC ?_
 refine Vc.nil ?_
 refine Xah ?_
 exact kR
def Ycs (r : Bool) : AV := .sv (.bool r)
def Ycr (r : Bool) : Xa4 := []
theorem Ygd {p0 r} (h : Xmi p0 = some r) : AC Tryz.prog 75 [.sv (.int .i64 p0)] [] (Ycs r) (Ycr r) := by
 refine Xag hT Tryz.func75 rfl fun C hC => ?_
 unfold Xmi at h
 refine Xab ?_
 refine kO hT hC ?_
 refine Vc.nil ?_
 refine kL [0,2] [] [_,_] [] ?_
 refine kA h (fun v1 => ([(2, .sv (.bool v1)), (0, .any)], [])) (fun v1 h => ?_) fun v1 h => ?_
 refine Xac ?_
 iterate 3 refine kO hT hC ?_
 refine kS h ?_ ?_ <;> intro b1 h
 iterate 2 refine kF hC b1 ?_
 refine kP hC true b1 ?_
 refine kO hT hC ?_
 iterate 2 refine kF hC rfl ?_
 iterate 2 refine kO hT hC ?_
 iterate 2 refine kF hC rfl ?_
 iterate 2 refine kO hT hC ?_
 refine Vc.nil ?_
 exact kM
 iterate 2 refine kI hT hC b1 ?_
 refine kP hC false b1 ?_
 refine kO hT hC ?_
 refine kS h ?_ ?_ <;> intro b2 h
 iterate 2 refine kF hC b2 ?_
 refine kP hC true b2 ?_
 refine kO hT hC ?_
 iterate 2 refine kF hC rfl ?_
 iterate 2 refine kO hT hC ?_
 refine Vc.nil ?_
 exact kM
 iterate 2 refine kI hT hC b2 ?_
 refine kP hC false b2 ?_
 refine kO hT hC ?_
 refine kS h ?_ ?_ <;> intro b3 h
 iterate 2 refine kF hC b3 ?_
 refine kP hC true b3 ?_
 refine kO hT hC ?_
 refine Vc.nil ?_
 exact kM
 iterate 2 refine kI hT hC b3 ?_
 refine kP hC false b3 ?_
 refine kO hT hC ?_
 refine Vc.nil ?_
 exact kM
 refine Xah ?_
 exact kR
def Xwk (r : (ByteArray × Bool)) : AV := .tup [.sv (.str r.1), .sv (.bool r.2)]
def Xwj (r : (ByteArray × Bool)) : Xa4 := []
theorem Xyn {p0 r} (h : Xgv p0 = some r) : AC Tryz.prog 76 [.sv (.str p0)] [] (Xwk r) (Xwj r) := by
 refine Xag hT Tryz.func76 rfl fun C hC => ?_
 unfold Xgv at h
 refine Xab ?_
 iterate 2 refine kO hT hC ?_
 refine kN ?_
 iterate 4 refine kO hT hC ?_
 refine Vc.nil ?_
 refine Xao ?_
 refine kL [0,4] [] [_,_] [] ?_
 refine kA h (fun v1 => ([(23, .sv (.bool v1))], [])) (fun v1 h => ?_) fun v1 h => ?_
 refine Xac ?_
 iterate 3 refine kO hT hC ?_
 refine kS h ?_ ?_ <;> intro b1 h
 iterate 6 refine kF hC b1 ?_
 refine kP hC true b1 ?_
 refine kO hT hC ?_
 iterate 2 refine kF hC rfl ?_
 refine kO hT hC ?_
 refine Vc.nil ?_
 exact kM
 iterate 4 refine kI hT hC b1 ?_
 refine kJ hT hC b1 h fun h => ?_
 refine kI hT hC b1 ?_
 refine kP hC false b1 ?_
 refine kO hT hC ?_
 refine kS h ?_ ?_ <;> intro b2 h
 iterate 2 refine kF hC b2 ?_
 refine kP hC true b2 ?_
 refine Vc.nil ?_
 exact kM
 iterate 2 refine kI hT hC b2 ?_
 refine kP hC false b2 ?_
 refine Vc.nil ?_
 exact kM
 refine kS h ?_ ?_ <;> intro b3 h
 refine kt b3 ?_
 refine Xab ?_
 iterate 2 refine kO hT hC ?_
 refine Vc.nil ?_
 refine Xah ?_
 refine Xal ?_
 exact kR
 refine kf b3 ?_
 refine Xaf ?_
 refine Xae ?_
 refine Xab ?_
 refine kO hT hC ?_
 obtain ⟨hq, h⟩ := Xa5 h
 refine Yh5 hT hC rfl rfl rfl rfl ⟨hq.1, hq.2.1, hq.2.2, by decide⟩ ?_
 refine kO hT hC ?_
 refine Vc.nil ?_
 refine Xao ?_
 refine Xab ?_
 refine kO hT hC ?_
 refine Vc.nil ?_
 refine kL [0,4,5,6] [400] [_,_,_,_] [_] ?_
 refine kX h (fun v3 => ([(6, .sv (.int .i64 v3.1))], [(400, some (.ints .u8 v3.2))])) (fun v5 => ([(0, .any), (6, .any)], [(400, some (.ints .u8 v5))])) (kW hC []) (fun v3 s h => ?_) fun v5 h => ?_
 unfold Xd2 at h
 refine Xao ?_
 refine Xab ?_
 iterate 3 refine kO hT hC ?_
 refine Vc.nil ?_
 refine kS h ?_ ?_ <;> intro b6 h
 refine kt b6 ?_
 refine Xaf ?_
 refine Xae ?_
 refine Xao ?_
 refine Xaq ?_
 refine Xac ?_
 iterate 3 refine kO hT hC ?_
 iterate 2 refine kQ hT hC h fun h => ?_
 refine kO hT hC ?_
 refine kQ hT hC h fun h => ?_
 refine kO hT hC ?_
 refine kQ hT hC h fun h => ?_
 iterate 3 refine kO hT hC ?_
 refine kT hT hC h fun h => ?_
 refine kO hT hC ?_
 refine Vc.nil ?_
 refine Xat ?_
 refine Xae ?_
 refine Xac ?_
 iterate 3 refine kO hT hC ?_
 refine Vc.nil ?_
 obtain rfl := kj h
 exact Ygx (kW hC [(400, 688)])
 refine kf b6 ?_
 refine Xau ?_
 refine Xaz ?_
 exact ku
 refine Xae ?_
 refine Xao ?_
 refine kL [4,5] [400] [_,_] [_] ?_
 refine kX h (fun v8 => ([(4, .sv (.int .i64 v8))], [])) (fun v10 => ([(4, .sv (.int .i64 v10))], [])) (kW hC []) (fun v8 s h => ?_) fun v10 h => ?_
 unfold Xd3 at h
 refine Xao ?_
 refine Xab ?_
 iterate 3 refine kO hT hC ?_
 iterate 2 refine kQ hT hC h fun h => ?_
 refine kO hT hC ?_
 refine Vc.nil ?_
 refine kS h ?_ ?_ <;> intro b9 h
 refine kt b9 ?_
 refine Xaf ?_
 refine Xae ?_
 refine Xaq ?_
 refine Xac ?_
 iterate 3 refine kO hT hC ?_
 refine Vc.nil ?_
 refine Xat ?_
 exact kG
 refine kf b9 ?_
 refine Xau ?_
 refine Xaz ?_
 exact ku
 refine Xae ?_
 refine Xao ?_
 refine Xab ?_
 iterate 3 refine kO hT hC ?_
 refine Vc.nil ?_
 refine kS h ?_ ?_ <;> intro b10 h
 refine kt b10 ?_
 refine Xab ?_
 iterate 2 refine kO hT hC ?_
 refine Vc.nil ?_
 refine Xah ?_
 refine Xal ?_
 exact kR
 refine kf b10 ?_
 refine Xaf ?_
 refine Xae ?_
 refine Xab ?_
 iterate 3 refine kO hT hC ?_
 iterate 2 refine kQ hT hC h fun h => ?_
 iterate 2 refine kO hT hC ?_
 refine Vc.nil ?_
 refine Xah ?_
 exact kR
def Ycm (r : (Int × ByteArray × Bool)) : AV := .tup [.sv (.int .i64 r.1), .sv (.str r.2.1), .sv (.bool r.2.2)]
def Ycl (r : (Int × ByteArray × Bool)) : Xa4 := []
theorem Yf8 {p0 r} (h : Xj2 p0 = some r) : AC Tryz.prog 42 [.sv (.str p0)] [] (Ycm r) (Ycl r) := by
 refine Xag hT Tryz.func42 rfl fun C hC => ?_
 unfold Xj2 at h
 refine Xab ?_
 iterate 3 refine kO hT hC ?_
 refine Vc.nil ?_
 refine Xao ?_
 refine kL [0] [] [_] [] ?_
 refine kA h (fun v1 => ([(15, .sv (.bool v1))], [])) (fun v1 h => ?_) fun v1 h => ?_
 refine Xac ?_
 iterate 3 refine kO hT hC ?_
 refine kS h ?_ ?_ <;> intro b1 h
 iterate 5 refine kF hC b1 ?_
 refine kP hC true b1 ?_
 refine Vc.nil ?_
 exact kM
 refine kI hT hC b1 ?_
 refine kJ hT hC b1 h fun h => ?_
 refine kI hT hC b1 ?_
 refine kE hC b1 [] Tryz.call75 h (fun _ => Ygd) fun q2 h => ?_
 refine kI hT hC b1 ?_
 refine kP hC false b1 ?_
 refine Vc.nil ?_
 exact kM
 refine kS h ?_ ?_ <;> intro b2 h
 refine kt b2 ?_
 refine Xab ?_
 iterate 3 refine kO hT hC ?_
 refine Vc.nil ?_
 refine Xah ?_
 refine Xal ?_
 exact kR
 refine kf b2 ?_
 refine Xaf ?_
 refine Xae ?_
 refine Xab ?_
 refine kO hT hC ?_
 refine kQ hT hC h fun h => ?_
 refine kC hC [] Tryz.call76 h (fun _ => Xyn) fun q3 h => ?_
 iterate 5 refine kO hT hC ?_
 refine Vc.nil ?_
 refine Xao ?_
 refine Xab ?_
 iterate 2 refine kO hT hC ?_
 refine Vc.nil ?_
 refine kS h ?_ ?_ <;> intro b3 h
 refine kt b3 ?_
 refine Xab ?_
 iterate 3 refine kO hT hC ?_
 refine Vc.nil ?_
 refine Xah ?_
 refine Xal ?_
 exact kR
 refine kf b3 ?_
 refine Xaf ?_
 refine Xae ?_
 refine Xab ?_
 refine kO hT hC ?_
 refine kQ hT hC h fun h => ?_
 iterate 5 refine kO hT hC ?_
 refine Vc.nil ?_
 refine Xah ?_
 exact kR
def Xsb (r : Bool) : AV := .sv (.bool r)
def Xsa (r : Bool) : Xa4 := []
theorem Yji {p0 r} (h : Xim p0 = some r) : AC Tryz.prog 116 [.sv (.str p0)] [] (Xsb r) (Xsa r) := by
 refine Xag hT Tryz.func116 rfl fun C hC => ?_
 unfold Xim at h
 refine Xab ?_
 refine kO hT hC ?_
 refine Vc.nil ?_
 refine Xao ?_
 refine Xab ?_
 iterate 3 refine kO hT hC ?_
 refine Vc.nil ?_
 refine kS h ?_ ?_ <;> intro b1 h
 refine kt b1 ?_
 refine Xab ?_
 refine kO hT hC ?_
 refine Vc.nil ?_
 refine Xah ?_
 refine Xal ?_
 exact kR
 refine kf b1 ?_
 refine Xaf ?_
 refine Xae ?_
 refine Xao ?_
 refine Xab ?_
 refine kO hT hC ?_
 refine Vc.nil ?_
 refine kL [0,3] [] [_,_] [] ?_
 obtain ⟨o8, hl, h⟩ := Xa7 h
 refine Xen (fun v3 => ([(3, .sv (.int .i64 v3))], [])) (fun v6 => ([(0, .any), (3, .any)], [])) (fun r => Xmc C T Tryz.f116.results.toList (Xsb r) (Xsa r)) hl ?_ ?_ ?_ ?_
 apply Xbz hC []
 exact co
 rfl
 decide
 rfl
 intro v3 s hs
 have h := hs
 unfold Xgx at h
 refine Xao ?_
 refine Xab ?_
 iterate 4 refine kO hT hC ?_
 refine Vc.nil ?_
 refine kS h ?_ ?_ <;> intro b8 h
 refine kt b8 ?_
 refine Xaf ?_
 refine Xae ?_
 refine Xao ?_
 refine Xaq ?_
 refine kL [0,3] [] [_,_] [] ?_
 refine kA h (fun v7 => ([(22, .sv (.bool v7))], [])) (fun v7 h => ?_) fun v7 h => ?_
 refine Xac ?_
 iterate 2 refine kO hT hC ?_
 refine kQ hT hC h fun h => ?_
 iterate 2 refine kO hT hC ?_
 refine kS h ?_ ?_ <;> intro b9 h
 iterate 2 refine kI hT hC b9 ?_
 refine kJ hT hC b9 h fun h => ?_
 refine kI hT hC b9 ?_
 refine kP hC true b9 ?_
 refine Vc.nil ?_
 exact kM
 iterate 4 refine kF hC b9 ?_
 refine kP hC false b9 ?_
 refine Vc.nil ?_
 exact kM
 refine kS h ?_ ?_ <;> intro b10 h
 refine kt b10 ?_
 refine Xab ?_
 refine kO hT hC ?_
 refine Vc.nil ?_
 refine Xah ?_
 refine Xcs ?_
 refine Xal ?_
 obtain rfl := kj h
 refine Xmq ?_
 refine Xmo ?_
 exact Xbv (Xhl.refl _) rfl trivial
 refine kf b10 ?_
 refine Xaf ?_
 refine Xat ?_
 refine Xae ?_
 refine Xac ?_
 iterate 3 refine kO hT hC ?_
 refine Vc.nil ?_
 exact kG
 refine kf b8 ?_
 refine Xau ?_
 refine Xaz ?_
 exact kb
 intro v6 e
 subst e
 refine Xae ?_
 refine Xab ?_
 refine kO hT hC ?_
 refine Vc.nil ?_
 refine Xah ?_
 exact kR
 intro r' σ' e hE
 subst e
 obtain rfl := kj h
 refine Xal ?_
 exact hE
def Ycz (r : Xjv) : AV := .ptr 16 0
def Ycy (r : Xjv) : Xa4 := [(16, .box [.sv (.str r.row_), .sv (.int .i64 r.at_), .sv (.bool r.bad_)])]
theorem Xks {p0 p1 r} (h : Xem p0 p1 = some r) : AC Tryz.prog 77 [.sv (.str p0), .sv (.int .i64 p1)] [] (Ycz r) (Ycy r) := by
 refine Xag hT Tryz.func77 rfl fun C hC => ?_
 unfold Xem at h
 refine Xab ?_
 refine kO hT hC ?_
 refine Vc.nil ?_
 refine kL [0,1] [] [_,_] [] ?_
 refine kA h (fun v1 => ([(4, .ptr 321 0), (0, .any), (1, .any)], [(321, some (.box [.sv (.str p0), .sv (.int .i64 p1), .sv (.bool v1)]))])) (fun v1 h => ?_) fun v1 h => ?_
 refine Xac ?_
 iterate 3 refine kO hT hC ?_
 refine kC hC [] Tryz.call116 h (fun _ => Yji) fun q2 h => ?_
 iterate 2 refine kO hT hC ?_
 refine kS h ?_ ?_ <;> intro b1 h
 iterate 3 refine kI hT hC (kn b1) ?_
 refine kE hC (kn b1) [] Tryz.call64 h (fun _ => Xam) fun q3 h => ?_
 refine kI hT hC (kn b1) ?_
 refine kP hC false (kn b1) ?_
 iterate 3 refine kO hT hC ?_
 refine Vc.nil ?_
 obtain rfl := kj h
 exact Xip (kW hC [(321, 288)])
 iterate 5 refine kF hC (kn b1) ?_
 refine kP hC true (kn b1) ?_
 iterate 3 refine kO hT hC ?_
 refine Vc.nil ?_
 obtain rfl := kj h
 exact Xip (kW hC [(321, 288)])
 refine Xah ?_
 obtain rfl := kj h
 exact Xbv (τ := ⟨[(4, .ptr 16 0)], [(16, some (.box [.sv (.str p0), .sv (.int .i64 p1), .sv (.bool v1)]))]⟩) (kW hC [(16, 321)]) rfl ⟨rfl, trivial⟩
def Xw3 (r : (Int × Xjv)) : AV := .sv (.int .i64 r.1)
def Xw2 (r : (Int × Xjv)) : Xa4 := [(0, .box [.sv (.str r.2.row_), .sv (.int .i64 r.2.at_), .sv (.bool r.2.bad_)])]
theorem Xdd {p0 p1 r} (h : Xa1 p0 p1 = some r) : AC Tryz.prog 79 [.ptr 0 0, .sv (.int .i64 p1)] [(0, .box [.sv (.str p0.row_), .sv (.int .i64 p0.at_), .sv (.bool p0.bad_)])] (Xw3 r) (Xw2 r) := by
 refine Xag hT Tryz.func79 rfl fun C hC => ?_
 unfold Xa1 at h
 refine Xab ?_
 refine kO hT hC ?_
 refine Vc.nil ?_
 refine Xao ?_
 refine kL [0,1] [0] [_,_] [_] ?_
 refine kA h (fun v1 => ([(24, .sv (.bool v1))], [])) (fun v1 h => ?_) fun v1 h => ?_
 refine Xcn hm ?_
 iterate 5 refine kO hT hC ?_
 refine kS h ?_ ?_ <;> intro b1 h
 iterate 12 refine kF hC b1 ?_
 refine kP hC true b1 ?_
 refine kD ?_
 exact kM
 iterate 12 refine kI hT hC b1 ?_
 refine kP hC false b1 ?_
 refine kD ?_
 exact kM
 refine kS h ?_ ?_ <;> intro b2 h
 refine kt b2 ?_
 refine Xab ?_
 iterate 4 refine kO hT hC ?_
 refine kN ?_
 refine kO hT hC ?_
 refine Vc.nil ?_
 refine Xah ?_
 refine Xal ?_
 obtain rfl := kj h
 exact Xbv (Xhl.refl _) rfl ⟨rfl, trivial⟩
 refine kf b2 ?_
 refine Xaf ?_
 refine Xae ?_
 refine Xab ?_
 refine kO hT hC ?_
 refine Vc.nil ?_
 refine Xao ?_
 refine Xab ?_
 refine kO hT hC ?_
 refine Vc.nil ?_
 refine kL [0,1,5,6] [0] [_,_,_,_] [_] ?_
 refine kX h (fun v3 => ([(5, .sv (.int .i64 v3.1)), (6, .sv (.int .i64 v3.2))], [])) (fun v5 => ([(5, .sv (.int .i64 v5)), (6, .any)], [])) (kW hC []) (fun v3 s h => ?_) fun v5 h => ?_
 unfold Xfr at h
 refine Xao ?_
 refine Xab ?_
 iterate 3 refine kO hT hC ?_
 refine Vc.nil ?_
 refine kS h ?_ ?_ <;> intro b5 h
 refine kt b5 ?_
 refine Xaf ?_
 refine Xae ?_
 refine Xao ?_
 refine Xaq ?_
 refine Xcn hm ?_
 refine kO hT hC ?_
 refine kQ hT hC h fun h => ?_
 iterate 10 refine kO hT hC ?_
 refine kQ hT hC h fun h => ?_
 iterate 4 refine kO hT hC ?_
 refine kD ?_
 refine Xat ?_
 refine Xae ?_
 refine Xac ?_
 iterate 3 refine kO hT hC ?_
 refine Vc.nil ?_
 exact kG
 refine kf b5 ?_
 refine Xau ?_
 refine Xaz ?_
 exact ku
 refine Xae ?_
 refine Xab ?_
 iterate 10 refine kO hT hC ?_
 refine kN ?_
 iterate 2 refine kO hT hC ?_
 refine Vc.nil ?_
 refine Xah ?_
 obtain rfl := kj h
 exact Xbv (Xhl.refl _) rfl ⟨rfl, trivial⟩
def Xzi (r : (Int × Xjv)) : AV := .sv (.int .i64 r.1)
def Xzh (r : (Int × Xjv)) : Xa4 := [(0, .box [.sv (.str r.2.row_), .sv (.int .i64 r.2.at_), .sv (.bool r.2.bad_)])]
theorem Xcd {p0 r} (h : Xbh p0 = some r) : AC Tryz.prog 78 [.ptr 0 0] [(0, .box [.sv (.str p0.row_), .sv (.int .i64 p0.at_), .sv (.bool p0.bad_)])] (Xzi r) (Xzh r) := by
 refine Xag hT Tryz.func78 rfl fun C hC => ?_
 unfold Xbh at h
 refine Xab ?_
 refine kO hT hC ?_
 refine kN ?_
 refine kO hT hC ?_
 refine Vc.nil ?_
 refine Xao ?_
 refine kL [0,3] [0] [_,_] [_] ?_
 refine kX h (fun v3 => ([(3, .sv (.int .i64 v3))], [])) (fun v6 => ([(3, .sv (.int .i64 v6))], [])) (kW hC []) (fun v3 s h => ?_) fun v6 h => ?_
 unfold Xdw at h
 refine Xao ?_
 refine kL [0,3] [0] [_,_] [_] ?_
 refine kA h (fun v7 => ([(37, .sv (.bool v7))], [])) (fun v7 h => ?_) fun v7 h => ?_
 refine Xcn hm ?_
 iterate 6 refine kO hT hC ?_
 refine kS h ?_ ?_ <;> intro b7 h
 iterate 12 refine kF hC (kn b7) ?_
 refine kP hC false (kn b7) ?_
 refine kO hT hC ?_
 iterate 12 refine kF hC rfl ?_
 refine kO hT hC ?_
 refine kD ?_
 exact kM
 iterate 12 refine kI hT hC (kn b7) ?_
 refine kP hC true (kn b7) ?_
 refine kO hT hC ?_
 refine kS h ?_ ?_ <;> intro b8 h
 iterate 10 refine kI hT hC b8 ?_
 refine kJ hT hC b8 h fun h => ?_
 refine kI hT hC b8 ?_
 refine kP hC true b8 ?_
 refine kD ?_
 exact kM
 iterate 12 refine kF hC b8 ?_
 refine kP hC false b8 ?_
 refine kD ?_
 exact kM
 refine kS h ?_ ?_ <;> intro b9 h
 refine kt b9 ?_
 refine Xaf ?_
 refine Xae ?_
 refine Xaq ?_
 refine Xac ?_
 iterate 3 refine kO hT hC ?_
 refine Vc.nil ?_
 refine Xat ?_
 exact kG
 refine kf b9 ?_
 refine Xau ?_
 refine Xaz ?_
 exact ku
 refine Xae ?_
 refine kL [0,3] [0] [_,_] [_] ?_
 refine kA h (fun v9 => ([], [(0, some (.box [.sv (.str p0.row_), .sv (.int .i64 p0.at_), .sv (.bool v9)]))])) (fun v9 h => ?_) fun v9 h => ?_
 refine Xab ?_
 iterate 2 refine kO hT hC ?_
 refine Vc.nil ?_
 refine kS h ?_ ?_ <;> intro b10 h
 refine kt b10 ?_
 refine Xac ?_
 iterate 4 refine kO hT hC ?_
 refine Vc.nil ?_
 exact kM
 refine kf b10 ?_
 refine Xaf ?_
 exact kM
 refine Xab ?_
 iterate 4 refine kO hT hC ?_
 refine kC hC [(0, 0)] Tryz.call79 h (fun _ => Xdd) fun q10 h => ?_
 iterate 2 refine kO hT hC ?_
 refine Vc.nil ?_
 refine Xao ?_
 refine kL [0,4] [0] [_,_] [_] ?_
 refine kA h (fun v11 => ([(58, .sv (.bool v11))], [])) (fun v11 h => ?_) fun v11 h => ?_
 refine Xac ?_
 iterate 5 refine kO hT hC ?_
 refine kS h ?_ ?_ <;> intro b11 h
 iterate 2 refine kF hC b11 ?_
 refine kP hC true b11 ?_
 refine Vc.nil ?_
 exact kM
 iterate 2 refine kI hT hC b11 ?_
 refine kP hC false b11 ?_
 refine Vc.nil ?_
 exact kM
 refine kS h ?_ ?_ <;> intro b12 h
 refine kt b12 ?_
 refine Xab ?_
 iterate 4 refine kO hT hC ?_
 refine kN ?_
 refine kO hT hC ?_
 refine Vc.nil ?_
 refine Xah ?_
 refine Xal ?_
 obtain rfl := kj h
 exact Xbv (Xhl.refl _) rfl ⟨rfl, trivial⟩
 refine kf b12 ?_
 refine Xaf ?_
 refine Xae ?_
 refine Xab ?_
 iterate 2 refine kO hT hC ?_
 refine Vc.nil ?_
 refine Xah ?_
 obtain rfl := kj h
 exact Xbv (Xhl.refl _) rfl ⟨rfl, trivial⟩
def Xu0 (r : ((List Int) × Xjv)) : AV := .own 16
def Xuz (r : ((List Int) × Xjv)) : Xa4 := [(16, .ints .i64 r.1), (0, .box [.sv (.str r.2.row_), .sv (.int .i64 r.2.at_), .sv (.bool r.2.bad_)])]
theorem Xn3 {p0 r} (h : Xcu p0 = some r) : AC Tryz.prog 80 [.ptr 0 0] [(0, .box [.sv (.str p0.row_), .sv (.int .i64 p0.at_), .sv (.bool p0.bad_)])] (Xu0 r) (Xuz r) := by
 refine Xag hT Tryz.func80 rfl fun C hC => ?_
 unfold Xcu at h
 refine Xab ?_
 refine kO hT hC ?_
 refine kN ?_
 iterate 2 refine kO hT hC ?_
 refine kN ?_
 refine kO hT hC ?_
 refine kC hC [(0, 0)] Tryz.call78 h (fun _ => Xcd) fun q1 h => ?_
 refine kO hT hC ?_
 refine Vc.nil ?_
 refine kL [0,3,4] [0,96] [_,_,_] [_,_] ?_
 refine kA h (fun v2 => ([], [(0, some (.box [.sv (.str q1.2.row_), .sv (.int .i64 q1.2.at_), .sv (.bool v2)]))])) (fun v2 h => ?_) fun v2 h => ?_
 refine Xab ?_
 iterate 2 refine kO hT hC ?_
 refine Vc.nil ?_
 refine kS h ?_ ?_ <;> intro b1 h
 refine kt b1 ?_
 refine Xac ?_
 iterate 4 refine kO hT hC ?_
 refine Vc.nil ?_
 exact kM
 refine kf b1 ?_
 refine Xaf ?_
 exact kM
 refine Xao ?_
 refine Xab ?_
 refine kO hT hC ?_
 refine Vc.nil ?_
 refine kL [0,3,4,5] [0,96] [_,_,_,_] [_,_] ?_
 refine kX h (fun v6 => ([(5, .sv (.int .i64 v6.1))], [(0, some (.box [.sv (.str v6.2.1), .sv (.int .i64 v6.2.2.1), .sv (.bool v6.2.2.2.1)])), (96, some (.ints .i64 v6.2.2.2.2))])) (fun v10 => ([(0, .any), (4, .any), (5, .any)], [(0, some (.box [.sv (.str v10.2.1), .sv (.int .i64 v10.2.2.1), .sv (.bool v10.2.2.2)])), (96, some (.ints .i64 v10.1))])) (kW hC []) (fun v6 s h => ?_) fun v10 h => ?_
 unfold Xa2 at h
 refine Xao ?_
 refine kL [0,3,4,5] [0,96] [_,_,_,_] [_,_] ?_
 refine kA h (fun v11 => ([(23, .sv (.bool v11))], [])) (fun v11 h => ?_) fun v11 h => ?_
 refine Xac ?_
 iterate 4 refine kO hT hC ?_
 refine kS h ?_ ?_ <;> intro b6 h
 iterate 5 refine kI hT hC b6 ?_
 refine kP hC true b6 ?_
 refine Vc.nil ?_
 exact kM
 iterate 5 refine kF hC b6 ?_
 refine kP hC false b6 ?_
 refine Vc.nil ?_
 exact kM
 refine kS h ?_ ?_ <;> intro b7 h
 refine kt b7 ?_
 refine Xaf ?_
 refine Xae ?_
 refine Xao ?_
 refine Xaq ?_
 refine Xac ?_
 iterate 2 refine kO hT hC ?_
 refine kC hC [(0, 0)] Tryz.call78 h (fun _ => Xcd) fun q12 h => ?_
 refine kO hT hC ?_
 refine kT hT hC h fun h => ?_
 refine kO hT hC ?_
 refine Vc.nil ?_
 refine Xat ?_
 refine Xae ?_
 refine Xac ?_
 iterate 3 refine kO hT hC ?_
 refine Vc.nil ?_
 obtain rfl := kj h
 exact Ygx (kW hC [(96, 480)])
 refine kf b7 ?_
 refine Xau ?_
 refine Xaz ?_
 exact ku
 refine Xae ?_
 refine Xab ?_
 iterate 2 refine kO hT hC ?_
 refine Vc.nil ?_
 refine Xah ?_
 obtain rfl := kj h
 exact Xbv (τ := ⟨[(2, .own 16)], [(16, some (.ints .i64 v10.1)), (0, some (.box [.sv (.str v10.2.1), .sv (.int .i64 v10.2.2.1), .sv (.bool v10.2.2.2)]))]⟩) (kW hC [(16, 96)]) rfl ⟨rfl, rfl, trivial⟩
def Xy1 (r : (Seq × Int × Bool)) : AV := .tup [.agg [.sv (.int .i64 r.1.Level), .sv (.int .i64 r.1.Bits), .own 16, .own 17], .sv (.int .i64 r.2.1), .sv (.bool r.2.2)]
def Xy0 (r : (Seq × Int × Bool)) : Xa4 := [(16, .ints .i64 r.1.Cols), (17, .ints .i64 r.1.Rows)]
theorem Ycd {p0 p1 r} (h : Xil p0 p1 = some r) : AC Tryz.prog 43 [.sv (.str p0), .sv (.int .i64 p1)] [] (Xy1 r) (Xy0 r) := by
 refine Xag hT Tryz.func43 rfl fun C hC => ?_
 unfold Xil at h
 refine Xab ?_
 iterate 3 refine kO hT hC ?_
 refine kN ?_
 iterate 2 refine kO hT hC ?_
 refine kC hC [(16, 176)] Tryz.call77 h (fun _ => Xks) fun q1 h => ?_
 refine kO hT hC ?_
 refine kN ?_
 iterate 3 refine kO hT hC ?_
 refine kN ?_
 refine kO hT hC ?_
 refine kC hC [(0, 176)] Tryz.call78 h (fun _ => Xcd) fun q2 h => ?_
 iterate 2 refine kO hT hC ?_
 refine kN ?_
 refine kO hT hC ?_
 refine kC hC [(0, 176)] Tryz.call79 h (fun _ => Xdd) fun q3 h => ?_
 iterate 2 refine kO hT hC ?_
 refine kN ?_
 refine kO hT hC ?_
 refine kC hC [(16, 320), (0, 176)] Tryz.call80 h (fun _ => Xn3) fun q4 h => ?_
 iterate 2 refine kO hT hC ?_
 refine kN ?_
 refine kO hT hC ?_
 refine kC hC [(16, 368), (0, 176)] Tryz.call80 h (fun _ => Xn3) fun q5 h => ?_
 iterate 2 refine kO hT hC ?_
 refine Vc.nil ?_
 refine Xao ?_
 refine kL [4,7,8] [64,128,176,320,368] [_,_,_] [_,_,_,_,_] ?_
 refine kA h (fun v6 => ([(33, .sv (.bool v6))], [])) (fun v6 h => ?_) fun v6 h => ?_
 refine Xac ?_
 iterate 5 refine kO hT hC ?_
 refine kS h ?_ ?_ <;> intro b1 h
 iterate 3 refine kF hC b1 ?_
 refine kP hC true b1 ?_
 refine Vc.nil ?_
 exact kM
 refine kI hT hC b1 ?_
 refine kE hC b1 [] Tryz.call62 h (fun _ => Xgy) fun q7 h => ?_
 refine kI hT hC b1 ?_
 refine kP hC false b1 ?_
 refine Vc.nil ?_
 exact kM
 refine kS h ?_ ?_ <;> intro b2 h
 refine kt b2 ?_
 refine Xab ?_
 iterate 4 refine kO hT hC ?_
 refine Vc.nil ?_
 refine Xah ?_
 refine Xal ?_
 obtain rfl := kj h
 refine Xbv (τ := ⟨[(4, .ptr 2000000 0), (5, .sv (.int .i64 0)), (6, .sv (.bool false))], [(16, some (.ints .i64 [])), (17, some (.ints .i64 [])), (2000000, some (.box [.sv (.int .i64 0), .sv (.int .i64 0), .own 16, .own 17]))]⟩) ?_ rfl ⟨rfl, rfl, trivial⟩
 refine Xfw hC 64 2 657 (.ints .i64 []) rfl rfl rfl rfl rfl trivial ?_
 refine Xfw hC 64 3 658 (.ints .i64 []) rfl rfl rfl rfl rfl trivial ?_
 apply Xbz hC [(16, 657), (17, 658), (2000000, 64)]
 exact co
 rfl
 decide
 rfl
 refine kf b2 ?_
 refine Xaf ?_
 refine Xae ?_
 refine Xeg hm ?_
 iterate 8 refine kO hT hC ?_
 refine kD ?_
 refine Xah ?_
 obtain rfl := kj h
 exact Xbv (τ := ⟨[(4, .ptr 2000000 0), (5, .sv (.int .i64 q5.2.at_)), (6, .sv (.bool true))], [(16, some (.ints .i64 q4.1)), (17, some (.ints .i64 q5.1)), (2000000, some (.box [.sv (.int .i64 q2.1), .sv (.int .i64 q3.1), .own 16, .own 17]))]⟩) (kW hC [(16, 320), (17, 368), (2000000, 64)]) rfl ⟨rfl, rfl, trivial⟩
def Yby (r : Decoder) : AV := .agg [.sv (.bool r.HasSeq), .sv (.bool r.HasPar), .sv (.bool r.HasRef), .sv (.int .i64 r.Seq.Level), .sv (.int .i64 r.Seq.Bits), .sv (.ints .i64 r.Seq.Cols), .sv (.ints .i64 r.Seq.Rows), .sv (.int .i64 r.Par.Qp), .sv (.bool r.Par.Large), .sv (.bool r.Par.Exact), .sv (.bool r.Par.Confined), .sv (.int .i64 r.Frame), .sv (.int .i64 r.Got), .sv (.int .i64 r.Now.Wide), .sv (.int .i64 r.Now.High), .sv (.str r.Now.Dots), .sv (.int .i64 r.Ref.Wide), .sv (.int .i64 r.Ref.High), .sv (.str r.Ref.Dots)]
def Ybx (r : Decoder) : Xa4 := []
theorem Yfs {r} (h : Xta = some r) : AC Tryz.prog 44 [] [] (Yby r) (Ybx r) := by
 refine Xag hT Tryz.func44 rfl fun C hC => ?_
 unfold Xta at h
 refine Xab ?_
 refine kO hT hC ?_
 refine kN ?_
 iterate 2 refine kO hT hC ?_
 refine Vc.nil ?_
 refine Xah ?_
 obtain rfl := kj h
 exact Xbv (τ := ⟨[(0, .ptr 2000000 0)], [(2000000, some (.box [.sv (.bool false), .sv (.bool false), .sv (.bool false), .sv (.int .i64 0), .sv (.int .i64 0), .sv (.ints .i64 []), .sv (.ints .i64 []), .sv (.int .i64 0), .sv (.bool false), .sv (.bool false), .sv (.bool false), .sv (.int .i64 (-1)), .sv (.int .i64 0), .sv (.int .i64 0), .sv (.int .i64 0), .sv (.str ⟨#[]⟩), .sv (.int .i64 0), .sv (.int .i64 0), .sv (.str ⟨#[]⟩)]))]⟩) (kW hC [(2000000, 0)]) rfl trivial
def Xyz (r : (Par × Int × Bool)) : AV := .tup [.agg [.sv (.int .i64 r.1.Qp), .sv (.bool r.1.Large), .sv (.bool r.1.Exact), .sv (.bool r.1.Confined)], .sv (.int .i64 r.2.1), .sv (.bool r.2.2)]
def Xyy (r : (Par × Int × Bool)) : Xa4 := []
theorem Ycc {p0 p1 r} (h : Xik p0 p1 = some r) : AC Tryz.prog 45 [.sv (.str p0), .sv (.int .i64 p1)] [] (Xyz r) (Xyy r) := by
 refine Xag hT Tryz.func45 rfl fun C hC => ?_
 unfold Xik at h
 refine Xab ?_
 iterate 3 refine kO hT hC ?_
 refine kN ?_
 iterate 2 refine kO hT hC ?_
 refine kC hC [(16, 176)] Tryz.call77 h (fun _ => Xks) fun q1 h => ?_
 refine kO hT hC ?_
 refine kN ?_
 refine kO hT hC ?_
 refine kC hC [(0, 176)] Tryz.call79 h (fun _ => Xdd) fun q2 h => ?_
 iterate 3 refine kO hT hC ?_
 refine kN ?_
 refine kO hT hC ?_
 refine kC hC [(0, 176)] Tryz.call79 h (fun _ => Xdd) fun q3 h => ?_
 iterate 3 refine kO hT hC ?_
 refine kN ?_
 refine kO hT hC ?_
 refine kC hC [(0, 176)] Tryz.call79 h (fun _ => Xdd) fun q4 h => ?_
 iterate 3 refine kO hT hC ?_
 refine kN ?_
 refine kO hT hC ?_
 refine kC hC [(0, 176)] Tryz.call79 h (fun _ => Xdd) fun q5 h => ?_
 iterate 3 refine kO hT hC ?_
 refine Vc.nil ?_
 refine Xao ?_
 refine kL [4,7,8] [64,128,176] [_,_,_] [_,_,_] ?_
 refine kA h (fun v6 => ([(35, .sv (.bool v6))], [])) (fun v6 h => ?_) fun v6 h => ?_
 refine Xac ?_
 iterate 5 refine kO hT hC ?_
 refine kS h ?_ ?_ <;> intro b1 h
 iterate 3 refine kF hC b1 ?_
 refine kP hC true b1 ?_
 refine Vc.nil ?_
 exact kM
 refine kI hT hC b1 ?_
 refine kE hC b1 [] Tryz.call63 h (fun _ => Xlx) fun q7 h => ?_
 refine kI hT hC b1 ?_
 refine kP hC false b1 ?_
 refine Vc.nil ?_
 exact kM
 refine kS h ?_ ?_ <;> intro b2 h
 refine kt b2 ?_
 refine Xab ?_
 iterate 4 refine kO hT hC ?_
 refine Vc.nil ?_
 refine Xah ?_
 refine Xal ?_
 exact kR
 refine kf b2 ?_
 refine Xaf ?_
 refine Xae ?_
 refine Xeg hm ?_
 iterate 8 refine kO hT hC ?_
 refine kD ?_
 refine Xah ?_
 exact kR
def Yb9 (r : (Int × Bool)) : AV := .tup [.sv (.int .i64 r.1), .sv (.bool r.2)]
def Yb8 (r : (Int × Bool)) : Xa4 := []
theorem Yfy {p0 r} (h : Xmg p0 = some r) : AC Tryz.prog 155 [.sv (.int .i64 p0)] [] (Yb9 r) (Yb8 r) := by
 refine Xag hT Tryz.func155 rfl fun C hC => ?_
 unfold Xmg at h
 refine Xab ?_
 iterate 2 refine kO hT hC ?_
 refine Vc.nil ?_
 refine Xao ?_
 refine Xaq ?_
 refine Xab ?_
 refine kO hT hC ?_
 refine kC hC [] Tryz.call64 h (fun _ => Xam) fun q1 h => ?_
 iterate 2 refine kO hT hC ?_
 refine Vc.nil ?_
 refine kS h ?_ ?_ <;> intro b1 h
 refine kt b1 ?_
 refine Xab ?_
 iterate 2 refine kO hT hC ?_
 refine Vc.nil ?_
 refine Xah ?_
 refine Xcs ?_
 refine Xal ?_
 exact kR
 refine kf b1 ?_
 refine Xab ?_
 refine kO hT hC ?_
 refine kQ hT hC h fun h => ?_
 iterate 2 refine kO hT hC ?_
 refine Vc.nil ?_
 refine kS h ?_ ?_ <;> intro b2 h
 refine kt b2 ?_
 refine Xab ?_
 iterate 2 refine kO hT hC ?_
 refine kQ hT hC h fun h => ?_
 iterate 2 refine kO hT hC ?_
 refine Vc.nil ?_
 refine Xah ?_
 refine Xcs ?_
 refine Xal ?_
 exact kR
 refine kf b2 ?_
 refine Xaf ?_
 refine Xat ?_
 refine Xae ?_
 refine Xab ?_
 iterate 2 refine kO hT hC ?_
 refine kQ hT hC h fun h => ?_
 iterate 2 refine kO hT hC ?_
 refine Vc.nil ?_
 refine Xah ?_
 exact kR
def Xzg (r : (Int × Xjv)) : AV := .sv (.int .i64 r.1)
def Xzf (r : (Int × Xjv)) : Xa4 := [(0, .box [.sv (.str r.2.row_), .sv (.int .i64 r.2.at_), .sv (.bool r.2.bad_)])]
theorem Xjc {p0 r} (h : Xbx p0 = some r) : AC Tryz.prog 117 [.ptr 0 0] [(0, .box [.sv (.str p0.row_), .sv (.int .i64 p0.at_), .sv (.bool p0.bad_)])] (Xzg r) (Xzf r) := by
 refine Xag hT Tryz.func117 rfl fun C hC => ?_
 unfold Xbx at h
 refine Xab ?_
 refine kO hT hC ?_
 refine kN ?_
 refine kO hT hC ?_
 refine kC hC [(0, 0)] Tryz.call78 h (fun _ => Xcd) fun q1 h => ?_
 refine kC hC [] Tryz.call155 h (fun _ => Yfy) fun q2 h => ?_
 iterate 5 refine kO hT hC ?_
 refine Vc.nil ?_
 refine kL [0,3,4] [0] [_,_,_] [_] ?_
 refine kA h (fun v3 => ([(0, .any), (4, .any)], [(0, some (.box [.sv (.str q1.2.row_), .sv (.int .i64 q1.2.at_), .sv (.bool v3)]))])) (fun v3 h => ?_) fun v3 h => ?_
 refine Xac ?_
 iterate 6 refine kO hT hC ?_
 refine kS h ?_ ?_ <;> intro b1 h
 iterate 2 refine kF hC b1 ?_
 refine kP hC true b1 ?_
 iterate 3 refine kO hT hC ?_
 refine Vc.nil ?_
 exact kM
 iterate 2 refine kI hT hC b1 ?_
 refine kP hC false b1 ?_
 iterate 3 refine kO hT hC ?_
 refine Vc.nil ?_
 exact kM
 refine Xab ?_
 iterate 2 refine kO hT hC ?_
 refine Vc.nil ?_
 refine Xah ?_
 obtain rfl := kj h
 exact Xbv (Xhl.refl _) rfl ⟨rfl, trivial⟩
def Yb3 (r : Bool) : AV := .sv (.bool r)
def Yb2 (r : Bool) : Xa4 := []
theorem Yfv {p0 p1 p2 r} (h : Xmf p0 p1 p2 = some r) : AC Tryz.prog 118 [.agg [.sv (.int .i64 p0.Level), .sv (.int .i64 p0.Bits), .sv (.ints .i64 p0.Cols), .sv (.ints .i64 p0.Rows)], .agg [.sv (.int .i64 p1.Qp), .sv (.bool p1.Large), .sv (.bool p1.Exact), .sv (.bool p1.Confined)], .agg [.sv (.int .i64 p2.Tile), .sv (.int .i64 p2.Frame), .sv (.int .i64 p2.Qp)]] [] (Yb3 r) (Yb2 r) := by
 refine Xag hT Tryz.func118 rfl fun C hC => ?_
 unfold Xmf at h
 refine Xab ?_
 iterate 4 refine kO hT hC ?_
 refine Vc.nil ?_
 refine kL [3,4,5,6] [48,64,80] [_,_,_,_] [_,_,_] ?_
 refine kA h (fun v1 => ([(6, .sv (.bool v1)), (3, .any), (4, .any), (5, .any)], [(48, none), (64, none), (80, none)])) (fun v1 h => ?_) fun v1 h => ?_
 refine Xcn hm ?_
 refine kO hT hC ?_
 refine kC hC [] Tryz.call62 h (fun _ => Xgy) fun q2 h => ?_
 refine kO hT hC ?_
 refine kS h ?_ ?_ <;> intro b1 h
 refine kI hT hC b1 ?_
 refine kE hC b1 [] Tryz.call63 h (fun _ => Xlx) fun q3 h => ?_
 refine kP hC true b1 ?_
 refine kO hT hC ?_
 refine kS h ?_ ?_ <;> intro b2 h
 iterate 3 refine kI hT hC b2 ?_
 refine kE hC b2 [] Tryz.call65 h (fun _ => Xi8) fun q4 h => ?_
 refine kI hT hC b2 ?_
 refine kE hC b2 [] Tryz.call64 h (fun _ => Xam) fun q5 h => ?_
 refine kP hC true b2 ?_
 refine kO hT hC ?_
 refine kS h ?_ ?_ <;> intro b3 h
 iterate 4 refine kI hT hC b3 ?_
 refine kJ hT hC b3 h fun h => ?_
 refine kI hT hC b3 ?_
 refine kE hC b3 [] Tryz.call64 h (fun _ => Xam) fun q6 h => ?_
 refine kP hC true b3 ?_
 refine kO hT hC ?_
 refine kS h ?_ ?_ <;> intro b4 h
 iterate 2 refine kI hT hC b4 ?_
 refine kE hC b4 [] Tryz.call64 h (fun _ => Xam) fun q7 h => ?_
 refine kP hC true b4 ?_
 refine kO hT hC ?_
 refine kD ?_
 exact kM
 iterate 3 refine kF hC b4 ?_
 refine kP hC false b4 ?_
 refine kO hT hC ?_
 refine kD ?_
 exact kM
 iterate 7 refine kF hC b3 ?_
 refine kP hC false b3 ?_
 refine kO hT hC ?_
 iterate 3 refine kF hC rfl ?_
 iterate 2 refine kO hT hC ?_
 refine kD ?_
 exact kM
 iterate 6 refine kF hC b2 ?_
 refine kP hC false b2 ?_
 refine kO hT hC ?_
 iterate 7 refine kF hC rfl ?_
 iterate 2 refine kO hT hC ?_
 iterate 3 refine kF hC rfl ?_
 iterate 2 refine kO hT hC ?_
 refine kD ?_
 exact kM
 iterate 2 refine kF hC b1 ?_
 refine kP hC false b1 ?_
 refine kO hT hC ?_
 iterate 6 refine kF hC rfl ?_
 iterate 2 refine kO hT hC ?_
 iterate 7 refine kF hC rfl ?_
 iterate 2 refine kO hT hC ?_
 iterate 3 refine kF hC rfl ?_
 iterate 2 refine kO hT hC ?_
 refine kD ?_
 exact kM
 refine Xah ?_
 exact kR
def Xwq (r : (Yfi × Int × Bool)) : AV := .tup [.agg [.sv (.int .i64 r.1.Tile), .sv (.int .i64 r.1.Frame), .sv (.int .i64 r.1.Qp)], .sv (.int .i64 r.2.1), .sv (.bool r.2.2)]
def Xwp (r : (Yfi × Int × Bool)) : Xa4 := []
theorem Xyx {p0 p1 p2 r} (h : Xgw p0 p1 p2 = some r) : AC Tryz.prog 81 [.agg [.sv (.int .i64 p0.Level), .sv (.int .i64 p0.Bits), .sv (.ints .i64 p0.Cols), .sv (.ints .i64 p0.Rows)], .agg [.sv (.int .i64 p1.Qp), .sv (.bool p1.Large), .sv (.bool p1.Exact), .sv (.bool p1.Confined)], .sv (.str p2)] [] (Xwq r) (Xwp r) := by
 refine Xag hT Tryz.func81 rfl fun C hC => ?_
 unfold Xgw at h
 refine Xab ?_
 iterate 5 refine kO hT hC ?_
 refine kN ?_
 refine kO hT hC ?_
 refine kC hC [(16, 192)] Tryz.call77 h (fun _ => Xks) fun q1 h => ?_
 refine kO hT hC ?_
 refine Vc.nil ?_
 refine Xao ?_
 refine kL [3,4,6,9] [48,64,96,192] [_,_,_,_] [_,_,_,_] ?_
 refine kA h (fun v2 => ([(20, .sv (.bool v2))], [])) (fun v2 h => ?_) fun v2 h => ?_
 refine Xac ?_
 refine kO hT hC ?_
 refine kC hC [] Tryz.call62 h (fun _ => Xgy) fun q3 h => ?_
 iterate 2 refine kO hT hC ?_
 refine kS h ?_ ?_ <;> intro b1 h
 refine kI hT hC (kn b1) ?_
 refine kE hC (kn b1) [] Tryz.call63 h (fun _ => Xlx) fun q4 h => ?_
 refine kI hT hC (kn b1) ?_
 refine kP hC false (kn b1) ?_
 refine Vc.nil ?_
 exact kM
 iterate 3 refine kF hC (kn b1) ?_
 refine kP hC true (kn b1) ?_
 refine Vc.nil ?_
 exact kM
 refine kS h ?_ ?_ <;> intro b2 h
 refine kt b2 ?_
 refine Xab ?_
 iterate 4 refine kO hT hC ?_
 refine Vc.nil ?_
 refine Xah ?_
 refine Xal ?_
 exact kR
 refine kf b2 ?_
 refine Xaf ?_
 refine Xae ?_
 refine Xab ?_
 refine kO hT hC ?_
 refine kC hC [(0, 192)] Tryz.call78 h (fun _ => Xcd) fun q5 h => ?_
 iterate 3 refine kO hT hC ?_
 refine kN ?_
 iterate 3 refine kO hT hC ?_
 refine kC hC [(0, 192)] Tryz.call79 h (fun _ => Xdd) fun q6 h => ?_
 iterate 2 refine kO hT hC ?_
 refine kN ?_
 refine kO hT hC ?_
 refine kC hC [(0, 192)] Tryz.call117 h (fun _ => Xjc) fun q7 h => ?_
 iterate 2 refine kO hT hC ?_
 refine kN ?_
 iterate 7 refine kO hT hC ?_
 refine Vc.nil ?_
 refine Xao ?_
 refine kL [3,4,6,9,10] [48,64,96,160,192] [_,_,_,_,_] [_,_,_,_,_] ?_
 refine kA h (fun v8 => ([(49, .sv (.bool v8)), (3, .any), (4, .any)], [(48, none), (64, none)])) (fun v8 h => ?_) fun v8 h => ?_
 refine Xac ?_
 iterate 5 refine kO hT hC ?_
 refine kS h ?_ ?_ <;> intro b3 h
 iterate 5 refine kF hC b3 ?_
 refine kP hC true b3 ?_
 refine Vc.nil ?_
 exact kM
 iterate 3 refine kI hT hC b3 ?_
 refine kE hC b3 [] Tryz.call118 h (fun _ => Yfv) fun q9 h => ?_
 refine kI hT hC b3 ?_
 refine kP hC false b3 ?_
 refine Vc.nil ?_
 exact kM
 refine kS h ?_ ?_ <;> intro b4 h
 refine kt b4 ?_
 refine Xab ?_
 iterate 4 refine kO hT hC ?_
 refine Vc.nil ?_
 refine Xah ?_
 refine Xal ?_
 exact kR
 refine kf b4 ?_
 refine Xaf ?_
 refine Xae ?_
 refine Xeg hm ?_
 iterate 8 refine kO hT hC ?_
 refine kD ?_
 refine Xah ?_
 exact kR
def Xwx (r : (Xoq × Bool)) : AV := .tup [.agg [.sv (.int .i64 r.1.Left), .sv (.int .i64 r.1.Top), .sv (.int .i64 r.1.Wide), .sv (.int .i64 r.1.High)], .sv (.bool r.2)]
def Xww (r : (Xoq × Bool)) : Xa4 := []
theorem Xpm {p0 p1 r} (h : Xg0 p0 p1 = some r) : AC Tryz.prog 84 [.agg [.sv (.int .i64 p0.Level), .sv (.int .i64 p0.Bits), .sv (.ints .i64 p0.Cols), .sv (.ints .i64 p0.Rows)], .sv (.int .i64 p1)] [] (Xwx r) (Xww r) := by
 refine Xag hT Tryz.func84 rfl fun C hC => ?_
 unfold Xg0 at h
 refine Xab ?_
 iterate 3 refine kO hT hC ?_
 refine Vc.nil ?_
 refine Xao ?_
 refine Xab ?_
 iterate 2 refine kO hT hC ?_
 refine kC hC [] Tryz.call65 h (fun _ => Xi8) fun q1 h => ?_
 refine kO hT hC ?_
 refine kC hC [] Tryz.call64 h (fun _ => Xam) fun q2 h => ?_
 refine kO hT hC ?_
 refine Vc.nil ?_
 refine kS h ?_ ?_ <;> intro b1 h
 refine kt b1 ?_
 refine Xab ?_
 iterate 3 refine kO hT hC ?_
 refine Vc.nil ?_
 refine Xah ?_
 refine Xal ?_
 exact kR
 refine kf b1 ?_
 refine Xaf ?_
 refine Xae ?_
 refine Xeg hm ?_
 iterate 4 refine kO hT hC ?_
 refine kQ hT hC h fun h => ?_
 iterate 4 refine kO hT hC ?_
 refine kQ hT hC h fun h => ?_
 iterate 2 refine kO hT hC ?_
 refine kD ?_
 refine Xeg hm ?_
 iterate 3 refine kO hT hC ?_
 refine kQ hT hC h fun h => ?_
 refine kC hC [] Tryz.call121 h (fun _ => Xef) fun q3 h => ?_
 iterate 4 refine kO hT hC ?_
 refine kQ hT hC h fun h => ?_
 refine kC hC [] Tryz.call121 h (fun _ => Xef) fun q4 h => ?_
 iterate 4 refine kO hT hC ?_
 refine kQ hT hC h fun h => ?_
 iterate 5 refine kO hT hC ?_
 refine kQ hT hC h fun h => ?_
 iterate 5 refine kO hT hC ?_
 refine kD ?_
 refine Xah ?_
 exact kR
def Xru (r : Int) : AV := .sv (.int .i64 r)
def Xrt (r : Int) : Xa4 := []
theorem Xtk {p0 p1 r} (h : Xfp p0 p1 = some r) : AC Tryz.prog 83 [.agg [.sv (.int .i64 p0.Level), .sv (.int .i64 p0.Bits), .sv (.ints .i64 p0.Cols), .sv (.ints .i64 p0.Rows)], .sv (.int .i64 p1)] [] (Xru r) (Xrt r) := by
 refine Xag hT Tryz.func83 rfl fun C hC => ?_
 unfold Xfp at h
 refine Xab ?_
 iterate 2 refine kO hT hC ?_
 refine kN ?_
 iterate 2 refine kO hT hC ?_
 refine kC hC [] Tryz.call84 h (fun _ => Xpm) fun q1 h => ?_
 iterate 6 refine kO hT hC ?_
 refine kN ?_
 iterate 2 refine kO hT hC ?_
 refine kQ hT hC h fun h => ?_
 iterate 2 refine kO hT hC ?_
 refine kQ hT hC h fun h => ?_
 iterate 2 refine kO hT hC ?_
 refine Vc.nil ?_
 refine Xah ?_
 exact kR
def Ybw (r : Bool) : AV := .sv (.bool r)
def Ybv (r : Bool) : Xa4 := []
theorem Xkp {p0 r} (h : Xf7 p0 = some r) : AC Tryz.prog 119 [.agg [.sv (.bool p0.Key), .sv (.int .i64 p0.Qp), .sv (.bool p0.Large), .sv (.bool p0.Exact)]] [] (Ybw r) (Ybv r) := by
 refine Xag hT Tryz.func119 rfl fun C hC => ?_
 unfold Xf7 at h
 refine Xab ?_
 iterate 2 refine kO hT hC ?_
 refine Vc.nil ?_
 refine kL [1,2] [16] [_,_] [_] ?_
 refine kA h (fun v1 => ([(2, .sv (.bool v1)), (1, .any)], [(16, none)])) (fun v1 h => ?_) fun v1 h => ?_
 refine Xac ?_
 iterate 2 refine kO hT hC ?_
 refine kC hC [] Tryz.call64 h (fun _ => Xam) fun q2 h => ?_
 refine kO hT hC ?_
 refine kS h ?_ ?_ <;> intro b1 h
 iterate 3 refine kI hT hC b1 ?_
 refine kS h ?_ ?_ <;> intro b2 h
 iterate 2 refine kI hT hC b2 ?_
 refine Xa0 hC rfl rfl rfl rfl b1 rfl rfl (b := true) b2 rfl rfl rfl trivial ?_
 refine kI hT hC b1 ?_
 refine kP hC true b1 ?_
 refine kO hT hC ?_
 refine Vc.nil ?_
 exact kM
 iterate 2 refine kF hC b2 ?_
 refine Xa0 hC rfl rfl rfl rfl b1 rfl rfl (b := false) b2 rfl rfl rfl trivial ?_
 refine kI hT hC b1 ?_
 refine kP hC true b1 ?_
 refine kO hT hC ?_
 refine Vc.nil ?_
 exact kM
 iterate 3 refine kF hC b1 ?_
 iterate 2 refine Xdh hC rfl rfl rfl rfl rfl rfl ?_
 iterate 2 refine kF hC b1 ?_
 refine kP hC false b1 ?_
 refine kO hT hC ?_
 refine Vc.nil ?_
 exact kM
 refine Xah ?_
 exact kR
def Xu2 (r : ((List Int) × Xjv)) : AV := .own 16
def Xu1 (r : ((List Int) × Xjv)) : Xa4 := [(16, .ints .i64 r.1), (0, .box [.sv (.str r.2.row_), .sv (.int .i64 r.2.at_), .sv (.bool r.2.bad_)])]
theorem Xn4 {p0 p1 r} (h : Xcv p0 p1 = some r) : AC Tryz.prog 183 [.ptr 0 0, .sv (.int .i64 p1)] [(0, .box [.sv (.str p0.row_), .sv (.int .i64 p0.at_), .sv (.bool p0.bad_)])] (Xu2 r) (Xu1 r) := by
 refine Xag hT Tryz.func183 rfl fun C hC => ?_
 unfold Xcv at h
 refine Xab ?_
 refine kO hT hC ?_
 refine kN ?_
 refine kO hT hC ?_
 obtain ⟨hq, h⟩ := Xa5 h
 refine Yh5 hT hC rfl rfl rfl rfl ⟨hq.1, hq.2.1, hq.2.2, by decide⟩ ?_
 refine kO hT hC ?_
 refine kN ?_
 refine kO hT hC ?_
 refine Vc.nil ?_
 refine Xao ?_
 refine Xab ?_
 refine kO hT hC ?_
 refine kC hC [(0, 0)] Tryz.call78 h (fun _ => Xcd) fun q1 h => ?_
 refine kO hT hC ?_
 refine Vc.nil ?_
 refine kL [0,1,5,6,7] [0,160] [_,_,_,_,_] [_,_] ?_
 refine kX h (fun v8 => ([(6, .sv (.int .i64 v8.1)), (7, .sv (.int .i64 v8.2.1))], [(0, some (.box [.sv (.str v8.2.2.1), .sv (.int .i64 v8.2.2.2.1), .sv (.bool v8.2.2.2.2.1)])), (160, some (.ints .i64 v8.2.2.2.2.2))])) (fun v15 => ([(0, .any), (1, .any), (6, .any), (7, .any)], [(0, some (.box [.sv (.str v15.2.1), .sv (.int .i64 v15.2.2.1), .sv (.bool v15.2.2.2)])), (160, some (.ints .i64 v15.1))])) (kW hC []) (fun v8 s h => ?_) fun v15 h => ?_
 unfold Xbc at h
 refine Xao ?_
 refine kL [0,1,5,6,7] [0,160] [_,_,_,_,_] [_,_] ?_
 refine kA h (fun v16 => ([(21, .sv (.bool v16))], [])) (fun v16 h => ?_) fun v16 h => ?_
 refine Xac ?_
 iterate 3 refine kO hT hC ?_
 refine kS h ?_ ?_ <;> intro b11 h
 iterate 5 refine kI hT hC b11 ?_
 refine kP hC true b11 ?_
 refine Vc.nil ?_
 exact kM
 iterate 5 refine kF hC b11 ?_
 refine kP hC false b11 ?_
 refine Vc.nil ?_
 exact kM
 refine kS h ?_ ?_ <;> intro b12 h
 refine kt b12 ?_
 refine Xaf ?_
 refine Xae ?_
 refine Xao ?_
 refine Xaq ?_
 refine Xab ?_
 iterate 2 refine kO hT hC ?_
 refine kC hC [(0, 0)] Tryz.call78 h (fun _ => Xcd) fun q17 h => ?_
 iterate 2 refine kO hT hC ?_
 refine kN ?_
 refine kO hT hC ?_
 refine kC hC [(0, 0)] Tryz.call117 h (fun _ => Xjc) fun q18 h => ?_
 refine kO hT hC ?_
 refine Vc.nil ?_
 refine Xao ?_
 refine kL [0,1,5,6,7,8] [0,160] [_,_,_,_,_,_] [_,_] ?_
 refine kA h (fun v19 => ([(41, .sv (.bool v19))], [])) (fun v19 h => ?_) fun v19 h => ?_
 refine Xac ?_
 iterate 4 refine kO hT hC ?_
 refine kS h ?_ ?_ <;> intro b13 h
 iterate 2 refine kF hC b13 ?_
 refine kP hC true b13 ?_
 refine kO hT hC ?_
 iterate 3 refine kF hC rfl ?_
 refine kO hT hC ?_
 refine Vc.nil ?_
 exact kM
 iterate 2 refine kI hT hC b13 ?_
 refine kP hC false b13 ?_
 refine kO hT hC ?_
 refine kS h ?_ ?_ <;> intro b14 h
 iterate 3 refine kF hC b14 ?_
 refine kP hC true b14 ?_
 refine Vc.nil ?_
 exact kM
 refine kI hT hC b14 ?_
 refine kE hC b14 [] Tryz.call64 h (fun _ => Xam) fun q20 h => ?_
 refine kI hT hC b14 ?_
 refine kP hC false b14 ?_
 refine Vc.nil ?_
 exact kM
 refine kS h ?_ ?_ <;> intro b15 h
 refine kt b15 ?_
 refine Xab ?_
 iterate 4 refine kO hT hC ?_
 refine Vc.nil ?_
 refine Xau ?_
 refine Xaz ?_
 refine Yuu rfl ?_
 refine Xaz ?_
 exact ku
 refine kf b15 ?_
 refine Xaf ?_
 refine Xae ?_
 refine Xab ?_
 iterate 3 refine kO hT hC ?_
 iterate 2 refine kQ hT hC h fun h => ?_
 refine Vc.nil ?_
 refine Xac ?_
 iterate 3 refine kO hT hC ?_
 refine Vc.nil ?_
 refine Xat ?_
 refine Xae ?_
 refine Xac ?_
 iterate 3 refine kO hT hC ?_
 refine Vc.nil ?_
 exact kG
 refine kf b12 ?_
 refine Xau ?_
 refine Xaz ?_
 exact ku
 refine Xae ?_
 refine Xab ?_
 iterate 2 refine kO hT hC ?_
 refine Vc.nil ?_
 refine Xah ?_
 obtain rfl := kj h
 exact Xbv (τ := ⟨[(4, .own 16)], [(16, some (.ints .i64 v15.1)), (0, some (.box [.sv (.str v15.2.1), .sv (.int .i64 v15.2.2.1), .sv (.bool v15.2.2.2)]))]⟩) (kW hC [(16, 160)]) rfl ⟨rfl, rfl, trivial⟩
def Xry (r : ((List Int) × Xjv)) : AV := .own 16
def Xrx (r : ((List Int) × Xjv)) : Xa4 := [(16, .ints .i64 r.1), (0, .box [.sv (.str r.2.row_), .sv (.int .i64 r.2.at_), .sv (.bool r.2.bad_)])]
theorem Xmj {p0 p1 r} (h : Xbk p0 p1 = some r) : AC Tryz.prog 156 [.ptr 0 0, .agg [.sv (.bool p1.Key), .sv (.int .i64 p1.Qp), .sv (.bool p1.Large), .sv (.bool p1.Exact)]] [(0, .box [.sv (.str p0.row_), .sv (.int .i64 p0.at_), .sv (.bool p0.bad_)])] (Xry r) (Xrx r) := by
 refine Xag hT Tryz.func156 rfl fun C hC => ?_
 unfold Xbk at h
 refine Xab ?_
 iterate 2 refine kO hT hC ?_
 refine Vc.nil ?_
 refine Xao ?_
 refine kL [0,3] [0,48] [_,_] [_,_] ?_
 refine kA h (fun v1 => ([(11, .sv (.bool v1)), (3, .any)], [(48, none)])) (fun v1 h => ?_) fun v1 h => ?_
 refine Xac ?_
 iterate 3 refine kO hT hC ?_
 refine kS h ?_ ?_ <;> intro b1 h
 iterate 2 refine kF hC b1 ?_
 refine kP hC true b1 ?_
 refine Vc.nil ?_
 exact kM
 iterate 2 refine kI hT hC b1 ?_
 refine kP hC false b1 ?_
 refine Vc.nil ?_
 exact kM
 refine kS h ?_ ?_ <;> intro b2 h
 refine kt b2 ?_
 refine Xab ?_
 refine kO hT hC ?_
 refine kC hC [(16, 208), (0, 0)] Tryz.call183 h (fun _ => Xn4) fun q2 h => ?_
 refine kO hT hC ?_
 refine Vc.nil ?_
 refine Xah ?_
 refine Xal ?_
 obtain rfl := kj h
 exact Xbv (τ := ⟨[(4, .own 16)], [(16, some (.ints .i64 q2.1)), (0, some (.box [.sv (.str q2.2.row_), .sv (.int .i64 q2.2.at_), .sv (.bool q2.2.bad_)]))]⟩) (kW hC [(16, 208)]) rfl ⟨rfl, rfl, trivial⟩
 refine kf b2 ?_
 refine Xaf ?_
 refine Xae ?_
 refine Xab ?_
 iterate 2 refine kO hT hC ?_
 refine Vc.nil ?_
 refine Xao ?_
 refine Xab ?_
 refine kO hT hC ?_
 refine Vc.nil ?_
 refine kL [0,5,15] [0,224] [_,_,_] [_,_] ?_
 refine kX h (fun v5 => ([(15, .sv (.int .i64 v5.1))], [(0, some (.box [.sv (.str v5.2.1), .sv (.int .i64 v5.2.2.1), .sv (.bool v5.2.2.2.1)])), (224, some (.ints .i64 v5.2.2.2.2))])) (fun v8 => ([(0, .any), (15, .any)], [(0, some (.box [.sv (.str v8.2.1), .sv (.int .i64 v8.2.2.1), .sv (.bool v8.2.2.2)])), (224, some (.ints .i64 v8.1))])) (kW hC []) (fun v5 s h => ?_) fun v8 h => ?_
 unfold Xba at h
 refine Xab ?_
 refine kO hT hC ?_
 refine Vc.nil ?_
 refine Xao ?_
 refine kS h ?_ ?_ <;> intro b5 h
 refine kt b5 ?_
 refine Xaf ?_
 refine Xae ?_
 refine Xao ?_
 refine Xaq ?_
 refine Xac ?_
 iterate 2 refine kO hT hC ?_
 refine kC hC [(16, 304), (0, 0)] Tryz.call183 h (fun _ => Xn4) fun q9 h => ?_
 refine kT hT hC h fun h => ?_
 refine kO hT hC ?_
 refine Vc.nil ?_
 refine Xat ?_
 refine Xae ?_
 refine Xac ?_
 iterate 2 refine kO hT hC ?_
 refine Vc.nil ?_
 obtain rfl := kj h
 exact Ygx (kW hC [(224, 320)])
 refine kf b5 ?_
 refine Xau ?_
 refine Xaz ?_
 exact ku
 refine Xae ?_
 refine Xab ?_
 iterate 2 refine kO hT hC ?_
 refine Vc.nil ?_
 refine Xah ?_
 obtain rfl := kj h
 exact Xbv (τ := ⟨[(4, .own 16)], [(16, some (.ints .i64 v8.1)), (0, some (.box [.sv (.str v8.2.1), .sv (.int .i64 v8.2.2.1), .sv (.bool v8.2.2.2)]))]⟩) (kW hC [(16, 224)]) rfl ⟨rfl, rfl, trivial⟩
def Xsg (r : Bool) : AV := .sv (.bool r)
def Xsf (r : Bool) : Xa4 := []
theorem Xg2 {p0 p1 p2 p3 r} (h : Xds p0 p1 p2 p3 = some r) : AC Tryz.prog 192 [.sv (.ints .i64 p0), .sv (.int .i64 p1), .sv (.int .i64 p2), .sv (.int .i64 p3)] [] (Xsg r) (Xsf r) := by
 refine Xag hT Tryz.func192 rfl fun C hC => ?_
 unfold Xds at h
 refine Xab ?_
 refine kO hT hC ?_
 refine Vc.nil ?_
 refine Xao ?_
 refine Xab ?_
 iterate 3 refine kO hT hC ?_
 refine Vc.nil ?_
 refine kL [0,1,2,3,11,12,13] [] [_,_,_,_,_,_,_] [] ?_
 obtain ⟨o8, hl, h⟩ := Xa7 h
 refine Xen (fun v3 => ([(13, .sv (.int .i64 v3))], [])) (fun v6 => ([(2, .any), (3, .any), (11, .any), (12, .any), (13, .any)], [])) (fun r => Xmc C T Tryz.f192.results.toList (Xsg r) (Xsf r)) hl ?_ ?_ ?_ ?_
 apply Xbz hC []
 exact co
 rfl
 decide
 rfl
 intro v3 s hs
 have h := hs
 unfold Xja at h
 refine Xab ?_
 refine kO hT hC ?_
 refine Vc.nil ?_
 refine Xao ?_
 refine kS h ?_ ?_ <;> intro b5 h
 refine kt b5 ?_
 refine Xaf ?_
 refine Xae ?_
 refine Xao ?_
 refine Xaq ?_
 refine Xab ?_
 refine kQ hT hC h fun h => ?_
 iterate 2 refine kO hT hC ?_
 refine kN ?_
 iterate 3 refine kO hT hC ?_
 refine kC hC [] Tryz.call64 h (fun _ => Xam) fun q7 h => ?_
 refine kO hT hC ?_
 refine Vc.nil ?_
 refine kS h ?_ ?_ <;> intro b6 h
 refine kt b6 ?_
 refine Xab ?_
 refine kO hT hC ?_
 refine Vc.nil ?_
 refine Xah ?_
 refine Xcs ?_
 refine Xal ?_
 obtain rfl := kj h
 refine Xmq ?_
 refine Xmo ?_
 exact Xbv (Xhl.refl _) rfl trivial
 refine kf b6 ?_
 refine Xaf ?_
 refine Xat ?_
 refine Xae ?_
 refine Xac ?_
 iterate 2 refine kO hT hC ?_
 refine Vc.nil ?_
 exact kG
 refine kf b5 ?_
 refine Xau ?_
 refine Xaz ?_
 exact kb
 intro v6 e
 subst e
 refine Xae ?_
 refine Xab ?_
 iterate 5 refine kO hT hC ?_
 refine Vc.nil ?_
 refine Xah ?_
 exact kR
 intro r' σ' e hE
 subst e
 obtain rfl := kj h
 refine Xal ?_
 exact hE
def Xuv (r : Bool) : AV := .sv (.bool r)
def Xuu (r : Bool) : Xa4 := []
theorem Xj4 {p0 r} (h : Xel p0 = some r) : AC Tryz.prog 184 [.sv (.ints .i64 p0)] [] (Xuv r) (Xuu r) := by
 refine Xag hT Tryz.func184 rfl fun C hC => ?_
 unfold Xel at h
 refine Xab ?_
 refine kO hT hC ?_
 refine kN ?_
 refine kO hT hC ?_
 refine kC hC [] Tryz.call192 h (fun _ => Xg2) fun q1 h => ?_
 refine kO hT hC ?_
 refine Vc.nil ?_
 refine Xah ?_
 exact kR
def Xwt (r : Bool) : AV := .sv (.bool r)
def Xws (r : Bool) : Xa4 := []
theorem Xpl {p0 r} (h : Xfi p0 = some r) : AC Tryz.prog 157 [.agg [.sv (.int .i64 p0.Kind), .sv (.int .i64 p0.Mode), .sv (.int .i64 p0.Dx), .sv (.int .i64 p0.Dy), .sv (.ints .i64 p0.Levels)]] [] (Xwt r) (Xws r) := by
 refine Xag hT Tryz.func157 rfl fun C hC => ?_
 unfold Xfi at h
 refine Xab ?_
 iterate 2 refine kO hT hC ?_
 refine Vc.nil ?_
 refine Xao ?_
 refine Xab ?_
 iterate 2 refine kO hT hC ?_
 refine Vc.nil ?_
 refine Xaq ?_
 refine Xab ?_
 iterate 2 refine kO hT hC ?_
 refine Vc.nil ?_
 refine kS h ?_ ?_ <;> intro b1 h
 refine kt b1 ?_
 refine kL [1,2] [16] [_,_] [_] ?_
 refine kA h (fun v1 => ([(2, .sv (.bool v1)), (1, .any)], [(16, none)])) (fun v1 h => ?_) fun v1 h => ?_
 refine Xac ?_
 iterate 4 refine kO hT hC ?_
 refine kS h ?_ ?_ <;> intro b2 h
 iterate 3 refine kI hT hC b2 ?_
 refine kP hC true b2 ?_
 refine kO hT hC ?_
 refine kS h ?_ ?_ <;> intro b3 h
 iterate 3 refine kI hT hC b3 ?_
 refine kP hC true b3 ?_
 refine kO hT hC ?_
 refine kS h ?_ ?_ <;> intro b4 h
 iterate 4 refine kI hT hC b4 ?_
 refine kP hC true b4 ?_
 refine kO hT hC ?_
 refine Vc.nil ?_
 exact kM
 iterate 4 refine kF hC b4 ?_
 refine kP hC false b4 ?_
 refine kO hT hC ?_
 refine Vc.nil ?_
 exact kM
 iterate 3 refine kF hC b3 ?_
 refine kP hC false b3 ?_
 refine kO hT hC ?_
 iterate 4 refine kF hC rfl ?_
 iterate 2 refine kO hT hC ?_
 refine Vc.nil ?_
 exact kM
 iterate 3 refine kF hC b2 ?_
 refine kP hC false b2 ?_
 refine kO hT hC ?_
 iterate 3 refine kF hC rfl ?_
 iterate 2 refine kO hT hC ?_
 iterate 4 refine kF hC rfl ?_
 iterate 2 refine kO hT hC ?_
 refine Vc.nil ?_
 exact kM
 refine Xah ?_
 refine Xcs ?_
 refine Xal ?_
 exact kR
 refine kf b1 ?_
 refine Xab ?_
 iterate 2 refine kO hT hC ?_
 refine Vc.nil ?_
 refine kS h ?_ ?_ <;> intro b5 h
 refine kt b5 ?_
 refine kL [1,2] [16] [_,_] [_] ?_
 refine kA h (fun v2 => ([(2, .sv (.bool v2)), (1, .any)], [(16, none)])) (fun v2 h => ?_) fun v2 h => ?_
 refine Xac ?_
 iterate 4 refine kO hT hC ?_
 refine kS h ?_ ?_ <;> intro b6 h
 iterate 2 refine kI hT hC b6 ?_
 refine kE hC b6 [] Tryz.call64 h (fun _ => Xam) fun q3 h => ?_
 refine kP hC true b6 ?_
 refine kO hT hC ?_
 refine kS h ?_ ?_ <;> intro b7 h
 iterate 2 refine kI hT hC b7 ?_
 refine kE hC b7 [] Tryz.call64 h (fun _ => Xam) fun q4 h => ?_
 refine kP hC true b7 ?_
 refine kO hT hC ?_
 refine kS h ?_ ?_ <;> intro b8 h
 iterate 2 refine kI hT hC b8 ?_
 refine kE hC b8 [] Tryz.call184 h (fun _ => Xj4) fun q5 h => ?_
 refine kP hC true b8 ?_
 refine kO hT hC ?_
 refine Vc.nil ?_
 exact kM
 iterate 3 refine kF hC b8 ?_
 refine kP hC false b8 ?_
 refine kO hT hC ?_
 refine Vc.nil ?_
 exact kM
 iterate 3 refine kF hC b7 ?_
 refine kP hC false b7 ?_
 refine kO hT hC ?_
 iterate 3 refine kF hC rfl ?_
 iterate 2 refine kO hT hC ?_
 refine Vc.nil ?_
 exact kM
 iterate 3 refine kF hC b6 ?_
 refine kP hC false b6 ?_
 refine kO hT hC ?_
 iterate 3 refine kF hC rfl ?_
 iterate 2 refine kO hT hC ?_
 iterate 3 refine kF hC rfl ?_
 iterate 2 refine kO hT hC ?_
 refine Vc.nil ?_
 exact kM
 refine Xah ?_
 refine Xcs ?_
 refine Xal ?_
 exact kR
 refine kf b5 ?_
 refine Xab ?_
 iterate 2 refine kO hT hC ?_
 refine Vc.nil ?_
 refine kS h ?_ ?_ <;> intro b9 h
 refine kt b9 ?_
 refine kL [1,2] [16] [_,_] [_] ?_
 refine kA h (fun v6 => ([(2, .sv (.bool v6)), (1, .any)], [(16, none)])) (fun v6 h => ?_) fun v6 h => ?_
 refine Xac ?_
 iterate 2 refine kO hT hC ?_
 refine kC hC [] Tryz.call64 h (fun _ => Xam) fun q7 h => ?_
 refine kO hT hC ?_
 refine kS h ?_ ?_ <;> intro b10 h
 iterate 3 refine kI hT hC b10 ?_
 refine kP hC true b10 ?_
 refine kO hT hC ?_
 refine kS h ?_ ?_ <;> intro b11 h
 iterate 3 refine kI hT hC b11 ?_
 refine kP hC true b11 ?_
 refine kO hT hC ?_
 refine kS h ?_ ?_ <;> intro b12 h
 iterate 2 refine kI hT hC b12 ?_
 refine kE hC b12 [] Tryz.call184 h (fun _ => Xj4) fun q8 h => ?_
 refine kP hC true b12 ?_
 refine kO hT hC ?_
 refine Vc.nil ?_
 exact kM
 iterate 3 refine kF hC b12 ?_
 refine kP hC false b12 ?_
 refine kO hT hC ?_
 refine Vc.nil ?_
 exact kM
 iterate 3 refine kF hC b11 ?_
 refine kP hC false b11 ?_
 refine kO hT hC ?_
 iterate 3 refine kF hC rfl ?_
 iterate 2 refine kO hT hC ?_
 refine Vc.nil ?_
 exact kM
 iterate 3 refine kF hC b10 ?_
 refine kP hC false b10 ?_
 refine kO hT hC ?_
 iterate 3 refine kF hC rfl ?_
 iterate 2 refine kO hT hC ?_
 iterate 3 refine kF hC rfl ?_
 iterate 2 refine kO hT hC ?_
 refine Vc.nil ?_
 exact kM
 refine Xah ?_
 refine Xcs ?_
 refine Xal ?_
 exact kR
 refine kf b9 ?_
 refine Xaf ?_
 refine Xat ?_
 refine Xae ?_
 refine Xab ?_
 refine kO hT hC ?_
 refine Vc.nil ?_
 refine Xah ?_
 exact kR
def Xr0 (r : (Xay × Xjv)) : AV := .agg [.sv (.int .i64 r.1.Kind), .sv (.int .i64 r.1.Mode), .sv (.int .i64 r.1.Dx), .sv (.int .i64 r.1.Dy), .own 16]
def Xrz (r : (Xay × Xjv)) : Xa4 := [(16, .ints .i64 r.1.Levels), (0, .box [.sv (.str r.2.row_), .sv (.int .i64 r.2.at_), .sv (.bool r.2.bad_)])]
theorem Xtm {p0 p1 r} (h : Xci p0 p1 = some r) : AC Tryz.prog 120 [.ptr 0 0, .agg [.sv (.bool p1.Key), .sv (.int .i64 p1.Qp), .sv (.bool p1.Large), .sv (.bool p1.Exact)]] [(0, .box [.sv (.str p0.row_), .sv (.int .i64 p0.at_), .sv (.bool p0.bad_)])] (Xr0 r) (Xrz r) := by
 refine Xag hT Tryz.func120 rfl fun C hC => ?_
 unfold Xci at h
 refine Xab ?_
 iterate 2 refine kO hT hC ?_
 refine kN ?_
 iterate 3 refine kO hT hC ?_
 refine Vc.nil ?_
 refine kL [0,3,4,5] [0,48,64,80] [_,_,_,_] [_,_,_,_] ?_
 refine kA h (fun v1 => ([], [(0, some (.box [.sv (.str v1.1), .sv (.int .i64 v1.2.1), .sv (.bool v1.2.2.1)])), (80, some (.box [.sv (.int .i64 v1.2.2.2), .sv (.int .i64 0), .sv (.int .i64 0), .sv (.int .i64 0), .sv .nil]))])) (fun v1 h => ?_) fun v1 h => ?_
 refine Xab ?_
 iterate 3 refine kO hT hC ?_
 refine Vc.nil ?_
 refine kS h ?_ ?_ <;> intro b1 h
 refine kt b1 ?_
 refine Xac ?_
 refine kO hT hC ?_
 refine kC hC [(0, 0)] Tryz.call78 h (fun _ => Xcd) fun q2 h => ?_
 iterate 2 refine kO hT hC ?_
 refine Vc.nil ?_
 exact kM
 refine kf b1 ?_
 refine Xaf ?_
 exact kM
 refine kL [0,3,4,5] [0,48,64,80] [_,_,_,_] [_,_,_,_] ?_
 refine kA h (fun v3 => ([(3, .any)], [(0, some (.box [.sv (.str v3.1), .sv (.int .i64 v3.2.1), .sv (.bool v3.2.2.1)])), (80, some (.box [.sv (.int .i64 v1.2.2.2), .sv (.int .i64 v3.2.2.2.1), .sv (.int .i64 v3.2.2.2.2.1), .sv (.int .i64 v3.2.2.2.2.2.1), .own 913])), (913, some (.ints .i64 v3.2.2.2.2.2.2)), (48, none)])) (fun v3 h => ?_) fun v3 h => ?_
 refine Xaq ?_
 refine Xab ?_
 iterate 5 refine kO hT hC ?_
 refine Vc.nil ?_
 refine kS h ?_ ?_ <;> intro b2 h
 refine kt b2 ?_
 refine Xaf ?_
 refine Xat ?_
 obtain rfl := kj h
 refine Xip ?_
 refine Xfw hC 80 4 914 (.ints .i64 []) rfl rfl rfl rfl rfl trivial ?_
 try dsimp only
 apply Xbz hC [(913, 914)]
 exact co
 rfl
 decide
 rfl
 refine kf b2 ?_
 refine Xab ?_
 iterate 4 refine kO hT hC ?_
 refine Vc.nil ?_
 refine kS h ?_ ?_ <;> intro b3 h
 refine kt b3 ?_
 refine Xab ?_
 refine kO hT hC ?_
 refine kC hC [(0, 0)] Tryz.call117 h (fun _ => Xjc) fun q4 h => ?_
 iterate 2 refine kO hT hC ?_
 refine kN ?_
 refine kO hT hC ?_
 refine kC hC [(0, 0)] Tryz.call117 h (fun _ => Xjc) fun q5 h => ?_
 iterate 2 refine kO hT hC ?_
 refine Vc.nil ?_
 refine Xac ?_
 iterate 2 refine kO hT hC ?_
 refine kC hC [(16, 480), (0, 0)] Tryz.call156 h (fun _ => Xmj) fun q6 h => ?_
 iterate 2 refine kO hT hC ?_
 refine Vc.nil ?_
 refine Xat ?_
 obtain rfl := kj h
 exact Xip (kW hC [(913, 480)])
 refine kf b3 ?_
 refine Xab ?_
 iterate 4 refine kO hT hC ?_
 refine Vc.nil ?_
 refine kS h ?_ ?_ <;> intro b4 h
 refine kt b4 ?_
 refine Xab ?_
 refine kO hT hC ?_
 refine kC hC [(0, 0)] Tryz.call78 h (fun _ => Xcd) fun q7 h => ?_
 iterate 2 refine kO hT hC ?_
 refine Vc.nil ?_
 refine Xac ?_
 iterate 2 refine kO hT hC ?_
 refine kC hC [(16, 656), (0, 0)] Tryz.call156 h (fun _ => Xmj) fun q8 h => ?_
 iterate 2 refine kO hT hC ?_
 refine Vc.nil ?_
 refine Xat ?_
 obtain rfl := kj h
 exact Xip (kW hC [(913, 656)])
 refine kf b4 ?_
 refine Xaf ?_
 refine Xat ?_
 obtain rfl := kj h
 refine Xip ?_
 refine Xfw hC 80 4 915 (.ints .i64 []) rfl rfl rfl rfl rfl trivial ?_
 try dsimp only
 apply Xbz hC [(913, 915)]
 exact co
 rfl
 decide
 rfl
 refine kL [0,4,5] [0,64,80,913] [_,_,_] [_,_,_,_] ?_
 refine kA h (fun v9 => ([(0, .any)], [(0, some (.box [.sv (.str v3.1), .sv (.int .i64 v3.2.1), .sv (.bool v9)]))])) (fun v9 h => ?_) fun v9 h => ?_
 refine Xac ?_
 iterate 6 refine kO hT hC ?_
 refine kS h ?_ ?_ <;> intro b5 h
 iterate 3 refine kF hC b5 ?_
 refine kP hC true b5 ?_
 iterate 3 refine kO hT hC ?_
 refine Vc.nil ?_
 exact kM
 refine kI hT hC b5 ?_
 refine kE hC b5 [] Tryz.call157 h (fun _ => Xpl) fun q10 h => ?_
 refine kI hT hC b5 ?_
 refine kP hC false b5 ?_
 iterate 3 refine kO hT hC ?_
 refine Vc.nil ?_
 exact kM
 refine Xab ?_
 iterate 2 refine kO hT hC ?_
 refine Vc.nil ?_
 refine Xah ?_
 obtain rfl := kj h
 exact Xbv (τ := ⟨[(4, .ptr 2000000 0)], [(16, some (.ints .i64 v3.2.2.2.2.2.2)), (0, some (.box [.sv (.str v3.1), .sv (.int .i64 v3.2.1), .sv (.bool v9)])), (2000000, some (.box [.sv (.int .i64 v1.2.2.2), .sv (.int .i64 v3.2.2.2.1), .sv (.int .i64 v3.2.2.2.2.1), .sv (.int .i64 v3.2.2.2.2.2.1), .own 16]))]⟩) (kW hC [(16, 913), (2000000, 64)]) rfl ⟨rfl, rfl, trivial⟩
def Xnx (r : ((List Xay) × Bool)) : AV := .tup [.own 16, .sv (.bool r.2)]
def Xnw (r : ((List Xay) × Bool)) : Xa4 := [(16, .row Xdc r.1)]
theorem Xy2 {p0 p1 p2 p3 r} (h : Xi4 p0 p1 p2 p3 = some r) : AC Tryz.prog 82 [.sv (.str p0), .sv (.int .i64 p1), .sv (.int .i64 p2), .agg [.sv (.bool p3.Key), .sv (.int .i64 p3.Qp), .sv (.bool p3.Large), .sv (.bool p3.Exact)]] [] (Xnx r) (Xnw r) := by
 refine Xag hT Tryz.func82 rfl fun C hC => ?_
 unfold Xi4 at h
 refine Xab ?_
 iterate 3 refine kO hT hC ?_
 refine kN ?_
 iterate 2 refine kO hT hC ?_
 refine kC hC [(16, 224)] Tryz.call77 h (fun _ => Xks) fun q1 h => ?_
 refine kO hT hC ?_
 refine kN ?_
 iterate 2 refine kO hT hC ?_
 refine Vc.nil ?_
 refine Xao ?_
 refine kL [0,2,7,10,11] [112,224,240] [_,_,_,_,_] [_,_,_] ?_
 refine kA h (fun v2 => ([(23, .sv (.bool v2))], [])) (fun v2 h => ?_) fun v2 h => ?_
 refine Xac ?_
 refine kO hT hC ?_
 refine kC hC [] Tryz.call64 h (fun _ => Xam) fun q3 h => ?_
 iterate 2 refine kO hT hC ?_
 refine kS h ?_ ?_ <;> intro b1 h
 refine kI hT hC (kn b1) ?_
 refine kE hC (kn b1) [] Tryz.call119 h (fun _ => Xkp) fun q4 h => ?_
 refine kI hT hC (kn b1) ?_
 refine kP hC false (kn b1) ?_
 refine Vc.nil ?_
 exact kM
 iterate 3 refine kF hC (kn b1) ?_
 refine kP hC true (kn b1) ?_
 refine Vc.nil ?_
 exact kM
 refine kS h ?_ ?_ <;> intro b2 h
 refine kt b2 ?_
 refine Xab ?_
 iterate 3 refine kO hT hC ?_
 refine Vc.nil ?_
 refine Xah ?_
 refine Xal ?_
 obtain rfl := kj h
 exact Xbv (τ := ⟨[(8, .own 16), (9, .sv (.bool false))], [(16, some (.row Xdc ([] : List Xay)))]⟩) (kW hC [(16, 240)]) rfl ⟨rfl, trivial⟩
 refine kf b2 ?_
 refine Xaf ?_
 refine Xae ?_
 refine Xao ?_
 refine Xab ?_
 iterate 2 refine kO hT hC ?_
 refine Vc.nil ?_
 refine kL [0,7,10,11,25,26] [112,224,240] [_,_,_,_,_,_] [_,_,_] ?_
 obtain ⟨o12, hl, h⟩ := Xa7 h
 refine Xen (fun v7 => ([(26, .sv (.int .i64 v7.1))], [(224, some (.box [.sv (.str v7.2.1), .sv (.int .i64 v7.2.2.1), .sv (.bool v7.2.2.2.1)])), (240, some (.row Xdc v7.2.2.2.2))])) (fun v10 => ([(7, .any), (25, .any), (26, .any)], [(224, some (.box [.sv (.str v10.1), .sv (.int .i64 v10.2.1), .sv (.bool v10.2.2.1)])), (240, some (.row Xdc v10.2.2.2)), (112, none)])) (fun r => Xmc C T Tryz.f82.results.toList (Xnx r) (Xnw r)) hl ?_ ?_ ?_ ?_
 try dsimp only
 apply Xbz hC []
 exact co
 rfl
 decide
 rfl
 intro v7 s hs
 have h := hs
 unfold Xa8 at h
 refine Xab ?_
 refine kO hT hC ?_
 refine Vc.nil ?_
 refine Xao ?_
 refine kS h ?_ ?_ <;> intro b7 h
 refine kt b7 ?_
 refine Xaf ?_
 refine Xae ?_
 refine Xao ?_
 refine Xaq ?_
 refine Xab ?_
 iterate 3 refine kO hT hC ?_
 refine kC hC [(16, 496), (0, 224)] Tryz.call120 h (fun _ => Xtm) fun q11 h => ?_
 refine kO hT hC ?_
 obtain ⟨hq, h⟩ := Xa5 h
 refine Yh5 hT hC rfl rfl rfl rfl ⟨fun _ _ => rfl, by rw [Xrd]; exact hq⟩ ?_
 rw [Xrd]
 refine kO hT hC ?_
 refine kN ?_
 iterate 4 refine kO hT hC ?_
 refine Vc.nil ?_
 refine kS h ?_ ?_ <;> intro b8 h
 refine kt b8 ?_
 refine Xab ?_
 iterate 3 refine kO hT hC ?_
 refine Vc.nil ?_
 refine Xah ?_
 refine Xcs ?_
 refine Xal ?_
 obtain rfl := kj h
 refine Xmq ?_
 refine Xmo ?_
 refine Xbv (τ := ⟨[(8, .own 16), (9, .sv (.bool false))], [(16, some (.row Xdc ([] : List Xay)))]⟩) ?_ rfl ⟨rfl, trivial⟩
 apply Xbz hC [(16, 608)]
 exact co
 rfl
 decide
 rfl
 refine kf b8 ?_
 refine Xaf ?_
 refine Xat ?_
 refine Xae ?_
 refine Xac ?_
 iterate 2 refine kO hT hC ?_
 refine Vc.nil ?_
 obtain rfl := kj h
 exact Ygx (kW hC [(240, 528)])
 refine kf b7 ?_
 refine Xau ?_
 refine Xaz ?_
 exact kb
 intro v10 e
 subst e
 refine Xae ?_
 refine Xao ?_
 refine Xab ?_
 iterate 7 refine kO hT hC ?_
 refine Vc.nil ?_
 refine kS h ?_ ?_ <;> intro b9 h
 refine kt b9 ?_
 refine Xab ?_
 iterate 3 refine kO hT hC ?_
 refine Vc.nil ?_
 refine Xah ?_
 refine Xal ?_
 obtain rfl := kj h
 exact Xbv (τ := ⟨[(8, .own 16), (9, .sv (.bool false))], [(16, some (.row Xdc ([] : List Xay)))]⟩) (kW hC [(16, 752)]) rfl ⟨rfl, trivial⟩
 refine kf b9 ?_
 refine Xaf ?_
 refine Xae ?_
 refine Xab ?_
 iterate 3 refine kO hT hC ?_
 refine Vc.nil ?_
 refine Xah ?_
 obtain rfl := kj h
 exact Xbv (τ := ⟨[(8, .own 16), (9, .sv (.bool true))], [(16, some (.row Xdc v10.2.2.2))]⟩) (kW hC [(16, 240)]) rfl ⟨rfl, trivial⟩
 intro r' σ' e hE
 subst e
 obtain rfl := kj h
 refine Xal ?_
 exact hE
def Ycw (r : Bool) : AV := .sv (.bool r)
def Ycv (r : Bool) : Xa4 := []
theorem Xsh {p0 r} (h : Xj5 p0 = some r) : AC Tryz.prog 122 [.sv (.int .i64 p0)] [] (Ycw r) (Ycv r) := by
 refine Xag hT Tryz.func122 rfl fun C hC => ?_
 unfold Xj5 at h
 refine Xab ?_
 refine kO hT hC ?_
 refine Vc.nil ?_
 refine kL [0,2] [] [_,_] [] ?_
 refine kA h (fun v1 => ([(2, .sv (.bool v1)), (0, .any)], [])) (fun v1 h => ?_) fun v1 h => ?_
 refine Xac ?_
 refine kO hT hC ?_
 refine kQ hT hC h fun h => ?_
 iterate 2 refine kO hT hC ?_
 refine kS h ?_ ?_ <;> intro b1 h
 refine kI hT hC b1 ?_
 refine kE hC b1 [] Tryz.call64 h (fun _ => Xam) fun q2 h => ?_
 refine kP hC true b1 ?_
 refine kO hT hC ?_
 refine Vc.nil ?_
 exact kM
 iterate 2 refine kF hC b1 ?_
 refine kP hC false b1 ?_
 refine kO hT hC ?_
 refine Vc.nil ?_
 exact kM
 refine Xah ?_
 exact kR
def Xun (r : Bool) : AV := .sv (.bool r)
def Xum (r : Bool) : Xa4 := []
theorem Xjz {p0 p1 r} (h : Xdl p0 p1 = some r) : AC Tryz.prog 123 [.agg [.sv (.int .i64 p0.Wide), .sv (.int .i64 p0.High), .sv (.str p0.Dots)], .agg [.sv (.int .i64 p1.Left), .sv (.int .i64 p1.Top), .sv (.int .i64 p1.Wide), .sv (.int .i64 p1.High)]] [] (Xun r) (Xum r) := by
 refine Xag hT Tryz.func123 rfl fun C hC => ?_
 unfold Xdl at h
 refine Xab ?_
 iterate 3 refine kO hT hC ?_
 refine Vc.nil ?_
 refine kL [2,3,4] [32,48] [_,_,_] [_,_] ?_
 refine kA h (fun v1 => ([(4, .sv (.bool v1)), (2, .any), (3, .any)], [(32, none), (48, none)])) (fun v1 h => ?_) fun v1 h => ?_
 refine Xac ?_
 iterate 4 refine kO hT hC ?_
 refine kC hC [] Tryz.call64 h (fun _ => Xam) fun q2 h => ?_
 refine kO hT hC ?_
 refine kS h ?_ ?_ <;> intro b1 h
 iterate 4 refine kI hT hC b1 ?_
 refine kE hC b1 [] Tryz.call64 h (fun _ => Xam) fun q3 h => ?_
 refine kP hC true b1 ?_
 refine kO hT hC ?_
 refine kS h ?_ ?_ <;> intro b2 h
 iterate 7 refine kI hT hC b2 ?_
 refine kE hC b2 [] Tryz.call64 h (fun _ => Xam) fun q4 h => ?_
 refine kP hC true b2 ?_
 refine kO hT hC ?_
 refine kS h ?_ ?_ <;> intro b3 h
 iterate 7 refine kI hT hC b3 ?_
 refine kE hC b3 [] Tryz.call64 h (fun _ => Xam) fun q5 h => ?_
 refine kP hC true b3 ?_
 refine kO hT hC ?_
 refine Vc.nil ?_
 exact kM
 iterate 8 refine kF hC b3 ?_
 refine kP hC false b3 ?_
 refine kO hT hC ?_
 refine Vc.nil ?_
 exact kM
 iterate 8 refine kF hC b2 ?_
 refine kP hC false b2 ?_
 refine kO hT hC ?_
 iterate 8 refine kF hC rfl ?_
 iterate 2 refine kO hT hC ?_
 refine Vc.nil ?_
 exact kM
 iterate 5 refine kF hC b1 ?_
 refine kP hC false b1 ?_
 refine kO hT hC ?_
 iterate 8 refine kF hC rfl ?_
 iterate 2 refine kO hT hC ?_
 iterate 8 refine kF hC rfl ?_
 iterate 2 refine kO hT hC ?_
 refine Vc.nil ?_
 exact kM
 refine Xah ?_
 exact kR
def Yfr (r : (Pic × Bool)) : AV := .tup [.agg [.sv (.int .i64 r.1.Wide), .sv (.int .i64 r.1.High), .sv (.str r.1.Dots)], .sv (.bool r.2)]
def Yfq (r : (Pic × Bool)) : Xa4 := []
theorem Yjc {p0 p1 r} (h : Xl8 p0 p1 = some r) : AC Tryz.prog 124 [.agg [.sv (.int .i64 p0.Wide), .sv (.int .i64 p0.High), .sv (.str p0.Dots)], .agg [.sv (.int .i64 p1.Left), .sv (.int .i64 p1.Top), .sv (.int .i64 p1.Wide), .sv (.int .i64 p1.High)]] [] (Yfr r) (Yfq r) := by
 refine Xag hT Tryz.func124 rfl fun C hC => ?_
 unfold Xl8 at h
 refine Xab ?_
 iterate 4 refine kO hT hC ?_
 refine Vc.nil ?_
 refine Xao ?_
 refine kL [2,3,4] [32,48,64] [_,_,_] [_,_,_] ?_
 refine kA h (fun v1 => ([(16, .sv (.bool v1))], [])) (fun v1 h => ?_) fun v1 h => ?_
 refine Xac ?_
 refine kO hT hC ?_
 refine kC hC [] Tryz.call55 h (fun _ => Xea) fun q2 h => ?_
 iterate 2 refine kO hT hC ?_
 refine kS h ?_ ?_ <;> intro b1 h
 iterate 2 refine kI hT hC (kn b1) ?_
 refine kE hC (kn b1) [] Tryz.call123 h (fun _ => Xjz) fun q3 h => ?_
 refine kI hT hC (kn b1) ?_
 refine kP hC false (kn b1) ?_
 refine Vc.nil ?_
 exact kM
 iterate 4 refine kF hC (kn b1) ?_
 refine kP hC true (kn b1) ?_
 refine Vc.nil ?_
 exact kM
 refine kS h ?_ ?_ <;> intro b2 h
 refine kt b2 ?_
 refine Xab ?_
 iterate 3 refine kO hT hC ?_
 refine Vc.nil ?_
 refine Xah ?_
 refine Xal ?_
 exact kR
 refine kf b2 ?_
 refine Xaf ?_
 refine Xae ?_
 refine Xab ?_
 iterate 5 refine kO hT hC ?_
 obtain ⟨hq, h⟩ := Xa5 h
 refine Yh5 hT hC rfl rfl rfl rfl ⟨hq.1, hq.2.1, hq.2.2, by decide⟩ ?_
 refine kO hT hC ?_
 refine Vc.nil ?_
 refine Xao ?_
 refine Xab ?_
 iterate 3 refine kO hT hC ?_
 refine Vc.nil ?_
 refine kL [2,3,4,6,7] [32,48,64,368] [_,_,_,_,_] [_,_,_,_] ?_
 refine kX h (fun v5 => ([(7, .sv (.int .i64 v5.1))], [(368, some (.ints .u8 v5.2))])) (fun v7 => ([(2, .any), (7, .any)], [(368, some (.ints .u8 v7)), (32, none)])) (kW hC []) (fun v5 s h => ?_) fun v7 h => ?_
 unfold Xoy at h
 refine Xao ?_
 refine Xab ?_
 iterate 7 refine kO hT hC ?_
 refine Vc.nil ?_
 refine kS h ?_ ?_ <;> intro b5 h
 refine kt b5 ?_
 refine Xaf ?_
 refine Xae ?_
 refine Xao ?_
 refine Xaq ?_
 refine Xac ?_
 iterate 20 refine kO hT hC ?_
 refine kQ hT hC h fun h => ?_
 refine kT hT hC h fun h => ?_
 refine kO hT hC ?_
 refine Vc.nil ?_
 refine Xat ?_
 refine Xae ?_
 refine Xac ?_
 iterate 3 refine kO hT hC ?_
 refine Vc.nil ?_
 obtain rfl := kj h
 exact Ygx (kW hC [(368, 896)])
 refine kf b5 ?_
 refine Xau ?_
 refine Xaz ?_
 exact ku
 refine Xae ?_
 refine Xab ?_
 iterate 9 refine kO hT hC ?_
 refine Vc.nil ?_
 refine Xah ?_
 exact kR
def Yjh (r : Pic) : AV := .agg [.sv (.int .i64 r.Wide), .sv (.int .i64 r.High), .sv (.str r.Dots)]
def Yjg (r : Pic) : Xa4 := []
theorem Xx8 {p0 p1 r} (h : Xme p0 p1 = some r) : AC Tryz.prog 86 [.sv (.int .i64 p0), .sv (.int .i64 p1)] [] (Yjh r) (Yjg r) := by
 refine Xag hT Tryz.func86 rfl fun C hC => ?_
 unfold Xme at h
 refine Xab ?_
 refine kO hT hC ?_
 refine Vc.nil ?_
 refine Xao ?_
 refine kL [0,1,4] [64] [_,_,_] [_] ?_
 refine kA h (fun v1 => ([(14, .sv (.bool v1))], [])) (fun v1 h => ?_) fun v1 h => ?_
 refine Xac ?_
 refine kO hT hC ?_
 refine kC hC [] Tryz.call64 h (fun _ => Xam) fun q2 h => ?_
 iterate 2 refine kO hT hC ?_
 refine kS h ?_ ?_ <;> intro b1 h
 refine kI hT hC (kn b1) ?_
 refine kE hC (kn b1) [] Tryz.call64 h (fun _ => Xam) fun q3 h => ?_
 refine kI hT hC (kn b1) ?_
 refine kP hC false (kn b1) ?_
 refine Vc.nil ?_
 exact kM
 iterate 3 refine kF hC (kn b1) ?_
 refine kP hC true (kn b1) ?_
 refine Vc.nil ?_
 exact kM
 refine kS h ?_ ?_ <;> intro b2 h
 refine kt b2 ?_
 refine Xab ?_
 iterate 2 refine kO hT hC ?_
 refine Vc.nil ?_
 refine Xah ?_
 refine Xal ?_
 exact kR
 refine kf b2 ?_
 refine Xaf ?_
 refine Xae ?_
 refine Xab ?_
 iterate 3 refine kO hT hC ?_
 obtain ⟨hq, h⟩ := Xa5 h
 refine Yh5 hT hC rfl rfl rfl rfl ⟨hq.1, hq.2.1, hq.2.2, by decide⟩ ?_
 refine kO hT hC ?_
 refine Vc.nil ?_
 refine Xao ?_
 refine Xab ?_
 iterate 3 refine kO hT hC ?_
 refine Vc.nil ?_
 refine kL [0,1,4,5,21,22] [64,304] [_,_,_,_,_,_] [_,_] ?_
 refine kX h (fun v5 => ([(22, .sv (.int .i64 v5.1))], [(304, some (.ints .u8 v5.2))])) (fun v7 => ([(21, .any), (22, .any)], [(304, some (.ints .u8 v7))])) (kW hC []) (fun v5 s h => ?_) fun v7 h => ?_
 unfold Xk2 at h
 refine Xab ?_
 refine kO hT hC ?_
 refine Vc.nil ?_
 refine Xao ?_
 refine kS h ?_ ?_ <;> intro b5 h
 refine kt b5 ?_
 refine Xaf ?_
 refine Xae ?_
 refine Xao ?_
 refine Xaq ?_
 refine Xab ?_
 iterate 2 refine kO hT hC ?_
 refine Vc.nil ?_
 refine Xac ?_
 iterate 2 refine kO hT hC ?_
 iterate 2 refine kQ hT hC h fun h => ?_
 refine Vc.nil ?_
 refine Xat ?_
 refine Xae ?_
 refine Xac ?_
 iterate 2 refine kO hT hC ?_
 refine Vc.nil ?_
 exact kG
 refine kf b5 ?_
 refine Xau ?_
 refine Xaz ?_
 exact ku
 refine Xae ?_
 refine Xab ?_
 iterate 6 refine kO hT hC ?_
 refine Vc.nil ?_
 refine Xah ?_
 exact kR
def Xqj (r : Bool) : AV := .sv (.bool r)
def Xqi (r : Bool) : Xa4 := []
theorem Xls {p0 p1 p2 r} (h : Xcq p0 p1 p2 = some r) : AC Tryz.prog 158 [.agg [.sv (.int .i64 p0.Wide), .sv (.int .i64 p0.High), .sv (.str p0.Dots)], .sv (.int .i64 p1), .sv (.int .i64 p2)] [] (Xqj r) (Xqi r) := by
 refine Xag hT Tryz.func158 rfl fun C hC => ?_
 unfold Xcq at h
 refine Xab ?_
 iterate 2 refine kO hT hC ?_
 refine Vc.nil ?_
 refine kL [1,2,3,6] [48] [_,_,_,_] [_] ?_
 refine kA h (fun v1 => ([(6, .sv (.bool v1)), (1, .any), (2, .any), (3, .any)], [(48, none)])) (fun v1 h => ?_) fun v1 h => ?_
 refine Xac ?_
 refine kO hT hC ?_
 refine kQ hT hC h fun h => ?_
 iterate 2 refine kO hT hC ?_
 refine kS h ?_ ?_ <;> intro b1 h
 refine kI hT hC b1 ?_
 refine kJ hT hC b1 h fun h => ?_
 refine kI hT hC b1 ?_
 refine kP hC true b1 ?_
 refine kO hT hC ?_
 refine kS h ?_ ?_ <;> intro b2 h
 iterate 4 refine kI hT hC b2 ?_
 refine kE hC b2 [] Tryz.call64 h (fun _ => Xam) fun q2 h => ?_
 refine kP hC true b2 ?_
 refine kO hT hC ?_
 refine kS h ?_ ?_ <;> intro b3 h
 iterate 4 refine kI hT hC b3 ?_
 refine kE hC b3 [] Tryz.call64 h (fun _ => Xam) fun q3 h => ?_
 refine kP hC true b3 ?_
 refine kO hT hC ?_
 refine Vc.nil ?_
 exact kM
 iterate 5 refine kF hC b3 ?_
 refine kP hC false b3 ?_
 refine kO hT hC ?_
 refine Vc.nil ?_
 exact kM
 iterate 5 refine kF hC b2 ?_
 refine kP hC false b2 ?_
 refine kO hT hC ?_
 iterate 5 refine kF hC rfl ?_
 iterate 2 refine kO hT hC ?_
 refine Vc.nil ?_
 exact kM
 iterate 3 refine kF hC b1 ?_
 refine kP hC false b1 ?_
 refine kO hT hC ?_
 iterate 5 refine kF hC rfl ?_
 iterate 2 refine kO hT hC ?_
 iterate 5 refine kF hC rfl ?_
 iterate 2 refine kO hT hC ?_
 refine Vc.nil ?_
 exact kM
 refine Xah ?_
 exact kR
def Xtj (r : Bool) : AV := .sv (.bool r)
def Xti (r : Bool) : Xa4 := []
theorem Xur {p0 p1 r} (h : Xf9 p0 p1 = some r) : AC Tryz.prog 159 [.agg [.sv (.int .i64 p0.Kind), .sv (.int .i64 p0.Mode), .sv (.int .i64 p0.Dx), .sv (.int .i64 p0.Dy), .sv (.ints .i64 p0.Levels)], .agg [.sv (.bool p1.Key), .sv (.int .i64 p1.Qp), .sv (.bool p1.Large), .sv (.bool p1.Exact)]] [] (Xtj r) (Xti r) := by
 refine Xag hT Tryz.func159 rfl fun C hC => ?_
 unfold Xf9 at h
 refine Xab ?_
 iterate 3 refine kO hT hC ?_
 refine Vc.nil ?_
 refine kL [2,3,4] [32,48] [_,_,_] [_,_] ?_
 refine kA h (fun v1 => ([(4, .sv (.bool v1)), (2, .any), (3, .any)], [(32, none), (48, none)])) (fun v1 h => ?_) fun v1 h => ?_
 refine Xac ?_
 iterate 4 refine kO hT hC ?_
 refine kS h ?_ ?_ <;> intro b1 h
 iterate 3 refine kI hT hC (kn b1) ?_
 refine kP hC false (kn b1) ?_
 refine kO hT hC ?_
 refine Vc.nil ?_
 exact kM
 iterate 3 refine kF hC (kn b1) ?_
 refine kP hC true (kn b1) ?_
 refine kO hT hC ?_
 refine Vc.nil ?_
 exact kM
 refine Xah ?_
 exact kR
def Xym (r : Int) : AV := .sv (.int .i64 r)
def Xyl (r : Int) : Xa4 := []
theorem Xiz {p0 p1 p2 r} (h : Xd8 p0 p1 p2 = some r) : AC Tryz.prog 193 [.sv (.int .i64 p0), .sv (.int .i64 p1), .sv (.int .i64 p2)] [] (Xym r) (Xyl r) := by
 refine Xag hT Tryz.func193 rfl fun C hC => ?_
 unfold Xd8 at h
 refine Xab ?_
 refine kO hT hC ?_
 refine kN ?_
 iterate 6 refine kO hT hC ?_
 refine Vc.nil ?_
 refine Xah ?_
 exact kR
def Xyw (r : Int) : AV := .sv (.int .i64 r)
def Xyv (r : Int) : Xa4 := []
theorem Xi3 {p0 p1 p2 r} (h : Xed p0 p1 p2 = some r) : AC Tryz.prog 185 [.agg [.sv (.int .i64 p0.Wide), .sv (.int .i64 p0.High), .sv (.str p0.Dots)], .sv (.int .i64 p1), .sv (.int .i64 p2)] [] (Xyw r) (Xyv r) := by
 refine Xag hT Tryz.func185 rfl fun C hC => ?_
 unfold Xed at h
 refine Xab ?_
 iterate 2 refine kO hT hC ?_
 refine Vc.nil ?_
 refine Xeg hm ?_
 iterate 6 refine kO hT hC ?_
 refine kC hC [] Tryz.call193 h (fun _ => Xiz) fun q1 h => ?_
 iterate 7 refine kO hT hC ?_
 refine kC hC [] Tryz.call193 h (fun _ => Xiz) fun q2 h => ?_
 refine kO hT hC ?_
 refine kQ hT hC h fun h => ?_
 iterate 2 refine kO hT hC ?_
 refine kD ?_
 refine Xah ?_
 exact kR
def Xul (r : (List Int)) : AV := .own 16
def Xuk (r : (List Int)) : Xa4 := [(16, .ints .i64 r)]
theorem Xnv {p0 p1 p2 r} (h : Xfx p0 p1 p2 = some r) : AC Tryz.prog 160 [.agg [.sv (.int .i64 p0.Wide), .sv (.int .i64 p0.High), .sv (.str p0.Dots)], .sv (.int .i64 p1), .sv (.int .i64 p2)] [] (Xul r) (Xuk r) := by
 refine Xag hT Tryz.func160 rfl fun C hC => ?_
 unfold Xfx at h
 refine Xab ?_
 iterate 2 refine kO hT hC ?_
 refine kN ?_
 obtain ⟨hq, h⟩ := Xa5 h
 refine Yh5 hT hC rfl rfl rfl rfl ⟨hq.1, hq.2.1, hq.2.2, by decide⟩ ?_
 refine kO hT hC ?_
 refine Vc.nil ?_
 refine Xao ?_
 refine Xab ?_
 refine kO hT hC ?_
 refine Vc.nil ?_
 refine kL [1,2,3,7,11] [48,160] [_,_,_,_,_] [_,_] ?_
 refine kX h (fun v10 => ([(11, .sv (.int .i64 v10.1))], [(160, some (.ints .i64 v10.2))])) (fun v20 => ([(1, .any), (2, .any), (3, .any), (11, .any)], [(160, some (.ints .i64 v20)), (48, none)])) (kW hC []) (fun v10 s h => ?_) fun v20 h => ?_
 unfold Xeb at h
 refine Xab ?_
 refine kO hT hC ?_
 refine Vc.nil ?_
 refine Xao ?_
 refine kS h ?_ ?_ <;> intro b9 h
 refine kt b9 ?_
 refine Xaf ?_
 refine Xae ?_
 refine Xao ?_
 refine Xaq ?_
 refine Xab ?_
 iterate 2 refine kO hT hC ?_
 refine kN ?_
 refine kO hT hC ?_
 refine Vc.nil ?_
 refine kL [1,2,3,7,8,11,14] [48,160] [_,_,_,_,_,_,_] [_,_] ?_
 refine kX h (fun v23 => ([(14, .sv (.int .i64 v23.1))], [(160, some (.ints .i64 v23.2))])) (fun v26 => ([(8, .any), (14, .any)], [(160, some (.ints .i64 v26))])) (kW hC []) (fun v23 s h => ?_) fun v26 h => ?_
 unfold Xec at h
 refine Xab ?_
 refine kO hT hC ?_
 refine Vc.nil ?_
 refine Xao ?_
 refine kS h ?_ ?_ <;> intro b12 h
 refine kt b12 ?_
 refine Xaf ?_
 refine Xae ?_
 refine Xao ?_
 refine Xaq ?_
 refine Xab ?_
 iterate 2 refine kO hT hC ?_
 refine Vc.nil ?_
 refine Xac ?_
 iterate 8 refine kO hT hC ?_
 refine kC hC [] Tryz.call185 h (fun _ => Xi3) fun q27 h => ?_
 refine kO hT hC ?_
 refine kT hT hC h fun h => ?_
 refine kO hT hC ?_
 refine Vc.nil ?_
 refine Xat ?_
 refine Xae ?_
 refine Xac ?_
 iterate 2 refine kO hT hC ?_
 refine Vc.nil ?_
 obtain rfl := kj h
 exact Ygx (kW hC [(160, 432)])
 refine kf b12 ?_
 refine Xau ?_
 refine Xaz ?_
 exact ku
 refine Xat ?_
 refine Xae ?_
 refine Xac ?_
 iterate 2 refine kO hT hC ?_
 refine Vc.nil ?_
 exact kG
 refine kf b9 ?_
 refine Xau ?_
 refine Xaz ?_
 exact ku
 refine Xae ?_
 refine Xab ?_
 iterate 2 refine kO hT hC ?_
 refine Vc.nil ?_
 refine Xah ?_
 obtain rfl := kj h
 exact Xbv (τ := ⟨[(6, .own 16)], [(16, some (.ints .i64 v20))]⟩) (kW hC [(16, 160)]) rfl ⟨rfl, trivial⟩
def Xuy (r : (List Int)) : AV := .own 16
def Xux (r : (List Int)) : Xa4 := [(16, .ints .i64 r)]
theorem Xw0 {p0 r} (h : Xhv p0 = some r) : AC Tryz.prog 212 [.sv (.int .i64 p0)] [] (Xuy r) (Xux r) := by
 refine Xag hT Tryz.func212 rfl fun C hC => ?_
 unfold Xhv at h
 refine Xab ?_
 refine kO hT hC ?_
 refine kN ?_
 iterate 2 refine kO hT hC ?_
 refine Vc.nil ?_
 refine Xao ?_
 refine Xab ?_
 refine kO hT hC ?_
 refine Vc.nil ?_
 refine kL [0,3,4] [128] [_,_,_] [_] ?_
 refine kX h (fun v16 => ([(4, .sv (.int .i64 v16.1))], [(128, some (.ints .i64 v16.2))])) (fun v32 => ([(0, .any), (4, .any)], [(128, some (.ints .i64 v32))])) (kW hC []) (fun v16 s h => ?_) fun v32 h => ?_
 unfold Xf4 at h
 refine Xao ?_
 refine Xab ?_
 iterate 5 refine kO hT hC ?_
 refine Vc.nil ?_
 refine kS h ?_ ?_ <;> intro b27 h
 refine kt b27 ?_
 refine Xaf ?_
 refine Xae ?_
 refine Xao ?_
 refine Xaq ?_
 refine Xab ?_
 refine kO hT hC ?_
 refine Vc.nil ?_
 refine kL [0,3,4,5] [128] [_,_,_,_] [_] ?_
 refine kX h (fun v37 => ([(5, .sv (.int .i64 v37.1))], [(128, some (.ints .i64 v37.2))])) (fun v42 => ([(5, .any)], [(128, some (.ints .i64 v42))])) (kW hC []) (fun v37 s h => ?_) fun v42 h => ?_
 unfold Xjb at h
 refine Xao ?_
 refine Xab ?_
 iterate 3 refine kO hT hC ?_
 refine Vc.nil ?_
 refine kS h ?_ ?_ <;> intro b36 h
 refine kt b36 ?_
 refine Xaf ?_
 refine Xae ?_
 refine kL [0,3,4,5] [128] [_,_,_,_] [_] ?_
 refine kA h (fun v43 => ([], [(128, some (.ints .i64 v43))])) (fun v43 h => ?_) fun v43 h => ?_
 refine Xaq ?_
 refine Xab ?_
 iterate 2 refine kO hT hC ?_
 refine Vc.nil ?_
 refine kL [0,3,4,5,6] [128] [_,_,_,_,_] [_] ?_
 refine kA h (fun v44 => ([(6, .sv (.int .i64 v44))], [])) (fun v44 h => ?_) fun v44 h => ?_
 refine Xab ?_
 refine kO hT hC ?_
 refine kQ hT hC h fun h => ?_
 refine kO hT hC ?_
 refine Vc.nil ?_
 refine kS h ?_ ?_ <;> intro b37 h
 refine kt b37 ?_
 refine Xac ?_
 iterate 4 refine kO hT hC ?_
 refine Vc.nil ?_
 exact kM
 refine kf b37 ?_
 refine Xaf ?_
 exact kM
 refine Xab ?_
 iterate 4 refine kO hT hC ?_
 refine Vc.nil ?_
 refine kL [0,3,4,5,6,7] [128] [_,_,_,_,_,_] [_] ?_
 refine kA h (fun v45 => ([(38, .sv (.bool v45))], [])) (fun v45 h => ?_) fun v45 h => ?_
 refine Xac ?_
 iterate 4 refine kO hT hC ?_
 refine kS h ?_ ?_ <;> intro b38 h
 iterate 3 refine kI hT hC b38 ?_
 refine kP hC true b38 ?_
 refine Vc.nil ?_
 exact kM
 iterate 3 refine kF hC b38 ?_
 refine kP hC false b38 ?_
 refine Vc.nil ?_
 exact kM
 refine kS h ?_ ?_ <;> intro b39 h
 refine kt b39 ?_
 refine Xac ?_
 iterate 7 refine kO hT hC ?_
 refine kT hT hC h fun h => ?_
 refine kO hT hC ?_
 refine Vc.nil ?_
 refine Xat ?_
 obtain rfl := kj h
 exact Xip (kW hC [(128, 736)])
 refine kf b39 ?_
 refine Xaf ?_
 refine Xat ?_
 exact kM
 refine Xac ?_
 iterate 3 refine kO hT hC ?_
 refine Vc.nil ?_
 exact kG
 refine kf b36 ?_
 refine Xau ?_
 refine Xaz ?_
 exact ku
 refine Xat ?_
 refine Xae ?_
 refine Xac ?_
 iterate 3 refine kO hT hC ?_
 refine Vc.nil ?_
 exact kG
 refine kf b27 ?_
 refine Xau ?_
 refine Xaz ?_
 exact ku
 refine Xae ?_
 refine Xab ?_
 iterate 2 refine kO hT hC ?_
 refine Vc.nil ?_
 refine Xah ?_
 obtain rfl := kj h
 exact Xbv (τ := ⟨[(2, .own 16)], [(16, some (.ints .i64 v32))]⟩) (kW hC [(16, 128)]) rfl ⟨rfl, trivial⟩
def Xut (r : ((List Int) × Bool)) : AV := .tup [.own 16, .sv (.bool r.2)]
def Xus (r : ((List Int) × Bool)) : Xa4 := [(16, .ints .i64 r.1)]
theorem Xj3 {p0 p1 r} (h : Xek p0 p1 = some r) : AC Tryz.prog 186 [.sv (.int .i64 p0), .sv (.ints .i64 p1)] [] (Xut r) (Xus r) := by
 refine Xag hT Tryz.func186 rfl fun C hC => ?_
 unfold Xek at h
 refine Xab ?_
 iterate 2 refine kO hT hC ?_
 refine Vc.nil ?_
 refine Xao ?_
 refine kL [0,1] [] [_,_] [] ?_
 refine kA h (fun v1 => ([(22, .sv (.bool v1))], [])) (fun v1 h => ?_) fun v1 h => ?_
 refine Xac ?_
 iterate 3 refine kO hT hC ?_
 refine kS h ?_ ?_ <;> intro b1 h
 iterate 2 refine kI hT hC b1 ?_
 refine kP hC true b1 ?_
 refine kO hT hC ?_
 refine kS h ?_ ?_ <;> intro b2 h
 iterate 6 refine kF hC b2 ?_
 refine kP hC true b2 ?_
 refine Vc.nil ?_
 exact kM
 iterate 6 refine kI hT hC b2 ?_
 refine kP hC false b2 ?_
 refine Vc.nil ?_
 exact kM
 iterate 2 refine kF hC b1 ?_
 refine kP hC false b1 ?_
 refine kO hT hC ?_
 iterate 6 refine kI hT hC rfl ?_
 refine kO hT hC ?_
 refine Vc.nil ?_
 exact kM
 refine kS h ?_ ?_ <;> intro b3 h
 refine kt b3 ?_
 refine Xab ?_
 iterate 3 refine kO hT hC ?_
 refine Vc.nil ?_
 refine Xah ?_
 refine Xal ?_
 obtain rfl := kj h
 exact Xbv (τ := ⟨[(4, .own 16), (5, .sv (.bool false))], [(16, some (.ints .i64 ([] : List Int)))]⟩) (kW hC [(16, 368)]) rfl ⟨rfl, trivial⟩
 refine kf b3 ?_
 refine Xaf ?_
 refine Xae ?_
 refine Xab ?_
 iterate 2 refine kO hT hC ?_
 obtain ⟨hq, h⟩ := Xa5 h
 refine Yh5 hT hC rfl rfl rfl rfl ⟨hq.1, hq.2.1, hq.2.2, by decide⟩ ?_
 refine kO hT hC ?_
 refine Vc.nil ?_
 refine Xao ?_
 refine Xab ?_
 refine kO hT hC ?_
 refine kC hC [(16, 448)] Tryz.call212 h (fun _ => Xw0) fun q2 h => ?_
 iterate 2 refine kO hT hC ?_
 refine Vc.nil ?_
 refine kL [1,6,28,29,30] [416,448] [_,_,_,_,_] [_,_] ?_
 refine kX h (fun v4 => ([(30, .sv (.int .i64 v4.1))], [(416, some (.ints .i64 v4.2))])) (fun v6 => ([(1, .any), (28, .any), (29, .any), (30, .any)], [(416, some (.ints .i64 v6)), (448, none)])) (kW hC []) (fun v4 s h => ?_) fun v6 h => ?_
 unfold Xg1 at h
 refine Xab ?_
 refine kO hT hC ?_
 refine Vc.nil ?_
 refine Xao ?_
 refine kS h ?_ ?_ <;> intro b6 h
 refine kt b6 ?_
 refine Xaf ?_
 refine Xae ?_
 refine Xao ?_
 refine Xaq ?_
 refine Xab ?_
 refine kO hT hC ?_
 iterate 2 refine kQ hT hC h fun h => ?_
 iterate 2 refine kO hT hC ?_
 refine Vc.nil ?_
 refine Xac ?_
 iterate 4 refine kO hT hC ?_
 refine kQ hT hC h fun h => ?_
 refine kO hT hC ?_
 iterate 2 refine kQ hT hC h fun h => ?_
 refine Vc.nil ?_
 refine Xat ?_
 refine Xae ?_
 refine Xac ?_
 iterate 2 refine kO hT hC ?_
 refine Vc.nil ?_
 exact kG
 refine kf b6 ?_
 refine Xau ?_
 refine Xaz ?_
 exact ku
 refine Xae ?_
 refine Xab ?_
 iterate 3 refine kO hT hC ?_
 refine Vc.nil ?_
 refine Xah ?_
 obtain rfl := kj h
 exact Xbv (τ := ⟨[(4, .own 16), (5, .sv (.bool true))], [(16, some (.ints .i64 v6))]⟩) (kW hC [(16, 416)]) rfl ⟨rfl, trivial⟩
def Yck (r : Int) : AV := .sv (.int .i64 r)
def Ycj (r : Int) : Xa4 := []
theorem Yf6 {p0 r} (h : Xj1 p0 = some r) : AC Tryz.prog 213 [.sv (.int .i64 p0)] [] (Yck r) (Ycj r) := by
 refine Xag hT Tryz.func213 rfl fun C hC => ?_
 unfold Xj1 at h
 refine Xab ?_
 refine kO hT hC ?_
 refine Vc.nil ?_
 refine Xao ?_
 refine Xab ?_
 refine kO hT hC ?_
 refine kC hC [] Tryz.call64 h (fun _ => Xam) fun q1 h => ?_
 refine kO hT hC ?_
 refine Vc.nil ?_
 refine kS h ?_ ?_ <;> intro b1 h
 refine kt b1 ?_
 refine Xab ?_
 refine kO hT hC ?_
 refine Vc.nil ?_
 refine Xah ?_
 refine Xal ?_
 exact kR
 refine kf b1 ?_
 refine Xaf ?_
 refine Xae ?_
 refine Xab ?_
 iterate 2 refine kO hT hC ?_
 iterate 3 refine kQ hT hC h fun h => ?_
 refine kO hT hC ?_
 iterate 2 refine kQ hT hC h fun h => ?_
 refine kO hT hC ?_
 refine Vc.nil ?_
 refine Xah ?_
 exact kR
def Xui (r : Int) : AV := .sv (.int .i64 r)
def Xuh (r : Int) : Xa4 := []
theorem Xwo {p0 p1 r} (h : Xhs p0 p1 = some r) : AC Tryz.prog 187 [.sv (.int .i64 p0), .sv (.int .i64 p1)] [] (Xui r) (Xuh r) := by
 refine Xag hT Tryz.func187 rfl fun C hC => ?_
 unfold Xhs at h
 refine Xab ?_
 refine kO hT hC ?_
 refine Vc.nil ?_
 refine Xao ?_
 refine Xab ?_
 refine kO hT hC ?_
 refine kC hC [] Tryz.call64 h (fun _ => Xam) fun q1 h => ?_
 refine kO hT hC ?_
 refine Vc.nil ?_
 refine kS h ?_ ?_ <;> intro b1 h
 refine kt b1 ?_
 refine Xab ?_
 refine kO hT hC ?_
 refine Vc.nil ?_
 refine Xah ?_
 refine Xal ?_
 exact kR
 refine kf b1 ?_
 refine Xaf ?_
 refine Xae ?_
 refine Xab ?_
 iterate 2 refine kO hT hC ?_
 refine kC hC [] Tryz.call213 h (fun _ => Yf6) fun q2 h => ?_
 iterate 2 refine kO hT hC ?_
 refine Vc.nil ?_
 refine Xah ?_
 exact kR
def Ycg (r : Int) : AV := .sv (.int .i64 r)
def Ycf (r : Int) : Xa4 := []
theorem Xsc {p0 p1 r} (h : Xj0 p0 p1 = some r) : AC Tryz.prog 231 [.sv (.int .i64 p0), .sv (.int .i64 p1)] [] (Ycg r) (Ycf r) := by
 refine Xag hT Tryz.func231 rfl fun C hC => ?_
 unfold Xj0 at h
 refine Xab ?_
 refine kO hT hC ?_
 refine Vc.nil ?_
 refine Xao ?_
 refine kL [0,1] [] [_,_] [] ?_
 refine kA h (fun v1 => ([(13, .sv (.bool v1))], [])) (fun v1 h => ?_) fun v1 h => ?_
 refine Xac ?_
 refine kO hT hC ?_
 refine kC hC [] Tryz.call64 h (fun _ => Xam) fun q2 h => ?_
 iterate 2 refine kO hT hC ?_
 refine kS h ?_ ?_ <;> intro b1 h
 refine kI hT hC (kn b1) ?_
 refine kE hC (kn b1) [] Tryz.call64 h (fun _ => Xam) fun q3 h => ?_
 refine kI hT hC (kn b1) ?_
 refine kP hC false (kn b1) ?_
 refine Vc.nil ?_
 exact kM
 iterate 3 refine kF hC (kn b1) ?_
 refine kP hC true (kn b1) ?_
 refine Vc.nil ?_
 exact kM
 refine kS h ?_ ?_ <;> intro b2 h
 refine kt b2 ?_
 refine Xab ?_
 refine kO hT hC ?_
 refine Vc.nil ?_
 refine Xah ?_
 refine Xal ?_
 exact kR
 refine kf b2 ?_
 refine Xaf ?_
 refine Xae ?_
 refine Xab ?_
 iterate 4 refine kO hT hC ?_
 refine Vc.nil ?_
 refine Xao ?_
 refine Xab ?_
 iterate 3 refine kO hT hC ?_
 refine kQ hT hC h fun h => ?_
 iterate 3 refine kO hT hC ?_
 refine kQ hT hC h fun h => ?_
 iterate 2 refine kO hT hC ?_
 refine kQ hT hC h fun h => ?_
 refine kO hT hC ?_
 refine Vc.nil ?_
 refine kS h ?_ ?_ <;> intro b3 h
 refine kt b3 ?_
 refine Xab ?_
 refine kO hT hC ?_
 refine Vc.nil ?_
 refine Xah ?_
 refine Xal ?_
 exact kR
 refine kf b3 ?_
 refine Xaf ?_
 refine Xae ?_
 refine Xab ?_
 refine kO hT hC ?_
 refine Vc.nil ?_
 refine Xah ?_
 exact kR
def Yjs (r : (List Int)) : AV := .own 16
def Yjr (r : (List Int)) : Xa4 := [(16, .ints .i64 r)]
theorem Yl4 {p0 r} (h : Xql p0 = some r) : AC Tryz.prog 215 [.sv (.ints .i64 p0)] [] (Yjs r) (Yjr r) := by
 refine Xag hT Tryz.func215 rfl fun C hC => ?_
 unfold Xql at h
 refine Xab ?_
 refine kO hT hC ?_
 refine kN ?_
 obtain ⟨hq, h⟩ := Xa5 h
 refine Yh5 hT hC rfl rfl rfl rfl ⟨hq.1, hq.2.1, hq.2.2, by decide⟩ ?_
 refine kO hT hC ?_
 refine Vc.nil ?_
 refine Xao ?_
 refine Xab ?_
 refine kO hT hC ?_
 refine Vc.nil ?_
 refine kL [0,3,12] [176] [_,_,_] [_] ?_
 refine kX h (fun v31 => ([(12, .sv (.int .i64 v31.1))], [(176, some (.ints .i64 v31.2))])) (fun v62 => ([(0, .any), (12, .any)], [(176, some (.ints .i64 v62))])) (kW hC []) (fun v31 s h => ?_) fun v62 h => ?_
 unfold Xo2 at h
 refine Xab ?_
 refine kO hT hC ?_
 refine Vc.nil ?_
 refine Xao ?_
 refine kS h ?_ ?_ <;> intro b27 h
 refine kt b27 ?_
 refine Xaf ?_
 refine Xae ?_
 refine Xao ?_
 refine Xaq ?_
 refine Xab ?_
 iterate 2 refine kO hT hC ?_
 refine kN ?_
 refine kO hT hC ?_
 refine Vc.nil ?_
 refine kL [0,3,4,12,15] [176] [_,_,_,_,_] [_] ?_
 refine kX h (fun v72 => ([(15, .sv (.int .i64 v72.1))], [(176, some (.ints .i64 v72.2))])) (fun v82 => ([(4, .any), (15, .any)], [(176, some (.ints .i64 v82))])) (kW hC []) (fun v72 s h => ?_) fun v82 h => ?_
 unfold Xo3 at h
 refine Xab ?_
 refine kO hT hC ?_
 refine Vc.nil ?_
 refine Xao ?_
 refine kS h ?_ ?_ <;> intro b36 h
 refine kt b36 ?_
 refine Xaf ?_
 refine Xae ?_
 refine Xao ?_
 refine Xaq ?_
 refine Xab ?_
 iterate 2 refine kO hT hC ?_
 refine kN ?_
 refine kO hT hC ?_
 refine Vc.nil ?_
 refine kL [0,3,4,5,12,15,18] [176] [_,_,_,_,_,_,_] [_] ?_
 refine kX h (fun v85 => ([(18, .sv (.int .i64 v85.1))], [(176, some (.ints .i64 v85.2))])) (fun v88 => ([(5, .any), (18, .any)], [(176, some (.ints .i64 v88))])) (kW hC []) (fun v85 s h => ?_) fun v88 h => ?_
 unfold Xjd at h
 refine Xab ?_
 refine kO hT hC ?_
 refine Vc.nil ?_
 refine Xao ?_
 refine kS h ?_ ?_ <;> intro b39 h
 refine kt b39 ?_
 refine Xaf ?_
 refine Xae ?_
 refine Xao ?_
 refine Xaq ?_
 refine Xab ?_
 iterate 2 refine kO hT hC ?_
 refine Vc.nil ?_
 refine Xcn hm ?_
 iterate 10 refine kO hT hC ?_
 iterate 2 refine kQ hT hC h fun h => ?_
 iterate 2 refine kO hT hC ?_
 refine kC hC [] Tryz.call231 h (fun _ => Xsc) fun q89 h => ?_
 iterate 5 refine kO hT hC ?_
 refine kQ hT hC h fun h => ?_
 iterate 3 refine kO hT hC ?_
 iterate 2 refine kQ hT hC h fun h => ?_
 refine kD ?_
 refine Xat ?_
 refine Xae ?_
 refine Xac ?_
 iterate 2 refine kO hT hC ?_
 refine Vc.nil ?_
 exact kG
 refine kf b39 ?_
 refine Xau ?_
 refine Xaz ?_
 exact ku
 refine Xat ?_
 refine Xae ?_
 refine Xac ?_
 iterate 2 refine kO hT hC ?_
 refine Vc.nil ?_
 exact kG
 refine kf b36 ?_
 refine Xau ?_
 refine Xaz ?_
 exact ku
 refine Xat ?_
 refine Xae ?_
 refine Xac ?_
 iterate 2 refine kO hT hC ?_
 refine Vc.nil ?_
 exact kG
 refine kf b27 ?_
 refine Xau ?_
 refine Xaz ?_
 exact ku
 refine Xae ?_
 refine Xab ?_
 obtain ⟨hq, h⟩ := Xa5 h
 refine Yh5 hT hC rfl rfl rfl rfl ⟨hq.1, hq.2.1, hq.2.2, by decide⟩ ?_
 refine kO hT hC ?_
 refine Vc.nil ?_
 refine Xao ?_
 refine Xab ?_
 refine kO hT hC ?_
 refine Vc.nil ?_
 refine kL [3,7,50] [176,784] [_,_,_] [_,_] ?_
 refine kX h (fun v123 => ([(50, .sv (.int .i64 v123.1))], [(784, some (.ints .i64 v123.2))])) (fun v154 => ([(3, .any), (50, .any)], [(784, some (.ints .i64 v154)), (176, none)])) (kW hC []) (fun v123 s h => ?_) fun v154 h => ?_
 unfold Xni at h
 refine Xab ?_
 refine kO hT hC ?_
 refine Vc.nil ?_
 refine Xao ?_
 refine kS h ?_ ?_ <;> intro b66 h
 refine kt b66 ?_
 refine Xaf ?_
 refine Xae ?_
 refine Xao ?_
 refine Xaq ?_
 refine Xab ?_
 iterate 2 refine kO hT hC ?_
 refine kN ?_
 refine kO hT hC ?_
 refine Vc.nil ?_
 refine kL [3,7,8,50,53] [176,784] [_,_,_,_,_] [_,_] ?_
 refine kX h (fun v164 => ([(53, .sv (.int .i64 v164.1))], [(784, some (.ints .i64 v164.2))])) (fun v174 => ([(8, .any), (53, .any)], [(784, some (.ints .i64 v174))])) (kW hC []) (fun v164 s h => ?_) fun v174 h => ?_
 unfold Xnj at h
 refine Xab ?_
 refine kO hT hC ?_
 refine Vc.nil ?_
 refine Xao ?_
 refine kS h ?_ ?_ <;> intro b75 h
 refine kt b75 ?_
 refine Xaf ?_
 refine Xae ?_
 refine Xao ?_
 refine Xaq ?_
 refine Xab ?_
 iterate 2 refine kO hT hC ?_
 refine kN ?_
 refine kO hT hC ?_
 refine Vc.nil ?_
 refine kL [3,7,8,9,50,53,56] [176,784] [_,_,_,_,_,_,_] [_,_] ?_
 refine kX h (fun v177 => ([(56, .sv (.int .i64 v177.1))], [(784, some (.ints .i64 v177.2))])) (fun v180 => ([(9, .any), (56, .any)], [(784, some (.ints .i64 v180))])) (kW hC []) (fun v177 s h => ?_) fun v180 h => ?_
 unfold Xhw at h
 refine Xab ?_
 refine kO hT hC ?_
 refine Vc.nil ?_
 refine Xao ?_
 refine kS h ?_ ?_ <;> intro b78 h
 refine kt b78 ?_
 refine Xaf ?_
 refine Xae ?_
 refine Xao ?_
 refine Xaq ?_
 refine Xab ?_
 iterate 2 refine kO hT hC ?_
 refine Vc.nil ?_
 refine Xcn hm ?_
 iterate 10 refine kO hT hC ?_
 iterate 2 refine kQ hT hC h fun h => ?_
 iterate 2 refine kO hT hC ?_
 refine kC hC [] Tryz.call231 h (fun _ => Xsc) fun q181 h => ?_
 iterate 5 refine kO hT hC ?_
 iterate 2 refine kQ hT hC h fun h => ?_
 iterate 2 refine kO hT hC ?_
 iterate 2 refine kQ hT hC h fun h => ?_
 refine kD ?_
 refine Xat ?_
 refine Xae ?_
 refine Xac ?_
 iterate 2 refine kO hT hC ?_
 refine Vc.nil ?_
 exact kG
 refine kf b78 ?_
 refine Xau ?_
 refine Xaz ?_
 exact ku
 refine Xat ?_
 refine Xae ?_
 refine Xac ?_
 iterate 2 refine kO hT hC ?_
 refine Vc.nil ?_
 exact kG
 refine kf b75 ?_
 refine Xau ?_
 refine Xaz ?_
 exact ku
 refine Xat ?_
 refine Xae ?_
 refine Xac ?_
 iterate 2 refine kO hT hC ?_
 refine Vc.nil ?_
 exact kG
 refine kf b66 ?_
 refine Xau ?_
 refine Xaz ?_
 exact ku
 refine Xae ?_
 refine Xab ?_
 iterate 2 refine kO hT hC ?_
 refine Vc.nil ?_
 refine Xah ?_
 obtain rfl := kj h
 exact Xbv (τ := ⟨[(2, .own 16)], [(16, some (.ints .i64 v154))]⟩) (kW hC [(16, 784)]) rfl ⟨rfl, trivial⟩
def Ygc (r : Int) : AV := .sv (.int .i64 r)
def Ygb (r : Int) : Xa4 := []
theorem Xoz {p0 p1 r} (h : Xl9 p0 p1 = some r) : AC Tryz.prog 219 [.sv (.int .i64 p0), .sv (.int .i64 p1)] [] (Ygc r) (Ygb r) := by
 refine Xag hT Tryz.func219 rfl fun C hC => ?_
 unfold Xl9 at h
 refine Xab ?_
 refine kO hT hC ?_
 refine kN ?_
 iterate 2 refine kO hT hC ?_
 refine kQ hT hC h fun h => ?_
 refine kO hT hC ?_
 refine Vc.nil ?_
 refine kL [0,1,5] [] [_,_,_] [] ?_
 refine kA h (fun v1 => ([(5, .sv (.int .i64 v1)), (0, .any), (1, .any)], [])) (fun v1 h => ?_) fun v1 h => ?_
 refine Xab ?_
 iterate 2 refine kO hT hC ?_
 refine kQ hT hC h fun h => ?_
 refine kO hT hC ?_
 refine Vc.nil ?_
 refine kS h ?_ ?_ <;> intro b1 h
 refine kt b1 ?_
 refine Xac ?_
 iterate 3 refine kO hT hC ?_
 refine Vc.nil ?_
 exact kM
 refine kf b1 ?_
 refine Xaf ?_
 exact kM
 refine Xab ?_
 iterate 2 refine kO hT hC ?_
 refine Vc.nil ?_
 refine Xah ?_
 exact kR
def Xzk (r : ((List Int) × (List Int))) : AV := .own 0
def Xzj (r : ((List Int) × (List Int))) : Xa4 := [(0, .ints .i64 r.2)]
theorem Xqk {p0 r} (h : Xin p0 = some r) : AC Tryz.prog 214 [.own 0] [(0, .ints .i64 p0)] (Xzk r) (Xzj r) := by
 refine Xag hT Tryz.func214 rfl fun C hC => ?_
 unfold Xin at h
 refine Xab ?_
 refine kO hT hC ?_
 refine Vc.nil ?_
 refine Xao ?_
 refine Xab ?_
 iterate 3 refine kO hT hC ?_
 refine Vc.nil ?_
 refine kL [0,5,6,7] [0] [_,_,_,_] [_] ?_
 refine kX h (fun v3 => ([(7, .sv (.int .i64 v3.1))], [(0, some (.ints .i64 v3.2))])) (fun v6 => ([(5, .any), (6, .any), (7, .any)], [(0, some (.ints .i64 v6))])) (kW hC []) (fun v3 s h => ?_) fun v6 h => ?_
 unfold Xmk at h
 refine Xab ?_
 refine kO hT hC ?_
 refine Vc.nil ?_
 refine Xao ?_
 refine kS h ?_ ?_ <;> intro b3 h
 refine kt b3 ?_
 refine Xaf ?_
 refine Xae ?_
 refine Xao ?_
 refine Xaq ?_
 refine Xab ?_
 refine kO hT hC ?_
 iterate 2 refine kQ hT hC h fun h => ?_
 iterate 2 refine kO hT hC ?_
 refine Vc.nil ?_
 refine Xac ?_
 iterate 4 refine kO hT hC ?_
 refine kC hC [] Tryz.call219 h (fun _ => Xoz) fun q7 h => ?_
 iterate 2 refine kQ hT hC h fun h => ?_
 refine Vc.nil ?_
 refine Xat ?_
 refine Xae ?_
 refine Xac ?_
 iterate 2 refine kO hT hC ?_
 refine Vc.nil ?_
 exact kG
 refine kf b3 ?_
 refine Xau ?_
 refine Xaz ?_
 exact ku
 refine Xae ?_
 refine Xab ?_
 iterate 2 refine kO hT hC ?_
 refine Vc.nil ?_
 refine Xah ?_
 obtain rfl := kj h
 exact Xbv (Xhl.refl _) rfl ⟨rfl, trivial⟩
def Xuf (r : (List Int)) : AV := .own 16
def Xue (r : (List Int)) : Xa4 := [(16, .ints .i64 r)]
theorem Xwl {p0 r} (h : Xhr p0 = some r) : AC Tryz.prog 188 [.sv (.ints .i64 p0)] [] (Xuf r) (Xue r) := by
 refine Xag hT Tryz.func188 rfl fun C hC => ?_
 unfold Xhr at h
 refine Xab ?_
 refine kO hT hC ?_
 refine Vc.nil ?_
 refine Xao ?_
 refine Xab ?_
 refine kO hT hC ?_
 refine kC hC [] Tryz.call192 h (fun _ => Xg2) fun q1 h => ?_
 refine kO hT hC ?_
 refine Vc.nil ?_
 refine kS h ?_ ?_ <;> intro b1 h
 refine kt b1 ?_
 refine Xab ?_
 iterate 2 refine kO hT hC ?_
 refine Vc.nil ?_
 refine Xah ?_
 refine Xal ?_
 obtain rfl := kj h
 exact Xbv (τ := ⟨[(2, .own 16)], [(16, some (.ints .i64 ([] : List Int)))]⟩) (kW hC [(16, 96)]) rfl ⟨rfl, trivial⟩
 refine kf b1 ?_
 refine Xaf ?_
 refine Xae ?_
 refine Xab ?_
 refine kO hT hC ?_
 refine kC hC [(16, 128)] Tryz.call215 h (fun _ => Yl4) fun q2 h => ?_
 refine kC hC [(0, 128)] Tryz.call214 h (fun _ => Xqk) fun q3 h => ?_
 refine kO hT hC ?_
 refine Vc.nil ?_
 refine Xah ?_
 obtain rfl := kj h
 exact Xbv (τ := ⟨[(2, .own 16)], [(16, some (.ints .i64 q3.2))]⟩) (kW hC [(16, 128)]) rfl ⟨rfl, trivial⟩
def Yb7 (r : Int) : AV := .sv (.int .i64 r)
def Yb6 (r : Int) : Xa4 := []
theorem Yfx {p0 r} (h : Xtd p0 = some r) : AC Tryz.prog 232 [.sv (.int .i64 p0)] [] (Yb7 r) (Yb6 r) := by
 refine Xag hT Tryz.func232 rfl fun C hC => ?_
 unfold Xtd at h
 refine Xab ?_
 refine kO hT hC ?_
 refine Vc.nil ?_
 refine Xao ?_
 refine Xab ?_
 refine kO hT hC ?_
 refine kC hC [] Tryz.call64 h (fun _ => Xam) fun q1 h => ?_
 refine kO hT hC ?_
 refine Vc.nil ?_
 refine kS h ?_ ?_ <;> intro b1 h
 refine kt b1 ?_
 refine Xab ?_
 refine kO hT hC ?_
 refine Vc.nil ?_
 refine Xah ?_
 refine Xal ?_
 exact kR
 refine kf b1 ?_
 refine Xaf ?_
 refine Xae ?_
 refine Xab ?_
 refine kO hT hC ?_
 iterate 2 refine kQ hT hC h fun h => ?_
 refine kO hT hC ?_
 iterate 2 refine kQ hT hC h fun h => ?_
 iterate 2 refine kO hT hC ?_
 refine Vc.nil ?_
 refine Xao ?_
 refine Xaq ?_
 refine kL [3,4] [] [_,_] [] ?_
 refine kA h (fun v2 => ([(14, .sv (.bool v2))], [])) (fun v2 h => ?_) fun v2 h => ?_
 refine Xac ?_
 iterate 3 refine kO hT hC ?_
 refine kS h ?_ ?_ <;> intro b2 h
 iterate 2 refine kI hT hC b2 ?_
 refine kP hC true b2 ?_
 refine kO hT hC ?_
 refine Vc.nil ?_
 exact kM
 iterate 2 refine kF hC b2 ?_
 refine kP hC false b2 ?_
 refine kO hT hC ?_
 refine Vc.nil ?_
 exact kM
 refine kS h ?_ ?_ <;> intro b3 h
 refine kt b3 ?_
 refine Xab ?_
 refine kO hT hC ?_
 refine Vc.nil ?_
 refine Xah ?_
 refine Xcs ?_
 refine Xal ?_
 exact kR
 refine kf b3 ?_
 refine kL [3,4] [] [_,_] [] ?_
 refine kA h (fun v3 => ([(21, .sv (.bool v3)), (3, .any), (4, .any)], [])) (fun v3 h => ?_) fun v3 h => ?_
 refine Xac ?_
 iterate 3 refine kO hT hC ?_
 refine kS h ?_ ?_ <;> intro b4 h
 iterate 2 refine kI hT hC b4 ?_
 refine kP hC true b4 ?_
 refine kO hT hC ?_
 refine Vc.nil ?_
 exact kM
 iterate 2 refine kF hC b4 ?_
 refine kP hC false b4 ?_
 refine kO hT hC ?_
 refine Vc.nil ?_
 exact kM
 refine kS h ?_ ?_ <;> intro b5 h
 refine kt b5 ?_
 refine Xab ?_
 refine kO hT hC ?_
 refine Vc.nil ?_
 refine Xah ?_
 refine Xcs ?_
 refine Xal ?_
 exact kR
 refine kf b5 ?_
 refine Xaf ?_
 refine Xat ?_
 refine Xae ?_
 refine Xab ?_
 refine kO hT hC ?_
 refine Vc.nil ?_
 refine Xah ?_
 exact kR
def Xy4 (r : Int) : AV := .sv (.int .i64 r)
def Xy3 (r : Int) : Xa4 := []
theorem Yce {p0 p1 r} (h : Xk3 p0 p1 = some r) : AC Tryz.prog 216 [.sv (.int .i64 p0), .sv (.int .i64 p1)] [] (Xy4 r) (Xy3 r) := by
 refine Xag hT Tryz.func216 rfl fun C hC => ?_
 unfold Xk3 at h
 refine Xab ?_
 refine kO hT hC ?_
 refine Vc.nil ?_
 refine Xao ?_
 refine kL [0,1] [] [_,_] [] ?_
 refine kA h (fun v1 => ([(13, .sv (.bool v1))], [])) (fun v1 h => ?_) fun v1 h => ?_
 refine Xac ?_
 refine kO hT hC ?_
 refine kC hC [] Tryz.call64 h (fun _ => Xam) fun q2 h => ?_
 iterate 2 refine kO hT hC ?_
 refine kS h ?_ ?_ <;> intro b1 h
 refine kI hT hC (kn b1) ?_
 refine kE hC (kn b1) [] Tryz.call64 h (fun _ => Xam) fun q3 h => ?_
 refine kI hT hC (kn b1) ?_
 refine kP hC false (kn b1) ?_
 refine Vc.nil ?_
 exact kM
 iterate 3 refine kF hC (kn b1) ?_
 refine kP hC true (kn b1) ?_
 refine Vc.nil ?_
 exact kM
 refine kS h ?_ ?_ <;> intro b2 h
 refine kt b2 ?_
 refine Xab ?_
 refine kO hT hC ?_
 refine Vc.nil ?_
 refine Xah ?_
 refine Xal ?_
 exact kR
 refine kf b2 ?_
 refine Xaf ?_
 refine Xae ?_
 refine Xab ?_
 iterate 9 refine kO hT hC ?_
 refine Vc.nil ?_
 refine Xeg hm ?_
 refine kO hT hC ?_
 refine kQ hT hC h fun h => ?_
 refine kO hT hC ?_
 refine kC hC [] Tryz.call232 h (fun _ => Yfx) fun q4 h => ?_
 iterate 2 refine kQ hT hC h fun h => ?_
 obtain ⟨hq, h⟩ := Xa5 h
 refine Yxl hT hC rfl rfl rfl rfl rfl rfl hq ?_
 refine kO hT hC ?_
 iterate 2 refine kQ hT hC h fun h => ?_
 refine kO hT hC ?_
 refine kD ?_
 refine Xah ?_
 exact kR
def Xup (r : Int) : AV := .sv (.int .i64 r)
def Xuo (r : Int) : Xa4 := []
theorem Xwr {p0 p1 p2 r} (h : Xht p0 p1 p2 = some r) : AC Tryz.prog 189 [.sv (.int .i64 p0), .sv (.int .i64 p1), .sv (.int .i64 p2)] [] (Xup r) (Xuo r) := by
 refine Xag hT Tryz.func189 rfl fun C hC => ?_
 unfold Xht at h
 refine Xab ?_
 refine kO hT hC ?_
 refine Vc.nil ?_
 refine Xao ?_
 refine Xab ?_
 refine kO hT hC ?_
 refine kC hC [] Tryz.call64 h (fun _ => Xam) fun q1 h => ?_
 refine kO hT hC ?_
 refine Vc.nil ?_
 refine kS h ?_ ?_ <;> intro b1 h
 refine kt b1 ?_
 refine Xab ?_
 refine kO hT hC ?_
 refine Vc.nil ?_
 refine Xah ?_
 refine Xal ?_
 exact kR
 refine kf b1 ?_
 refine Xaf ?_
 refine Xae ?_
 refine Xab ?_
 iterate 3 refine kO hT hC ?_
 refine kC hC [] Tryz.call216 h (fun _ => Yce) fun q2 h => ?_
 iterate 2 refine kO hT hC ?_
 refine Vc.nil ?_
 refine Xah ?_
 exact kR
def Xtc (r : (Int × Int × Int × Int)) : AV := .agg [.sv (.int .i64 r.1), .sv (.int .i64 r.2.1), .sv (.int .i64 r.2.2.1), .sv (.int .i64 r.2.2.2)]
def Xtb (r : (Int × Int × Int × Int)) : Xa4 := []
theorem Xm5 {p0 p1 p2 p3 r} (h : Xdu p0 p1 p2 p3 = some r) : AC Tryz.prog 218 [.sv (.int .i64 p0), .sv (.int .i64 p1), .sv (.int .i64 p2), .sv (.int .i64 p3)] [] (Xtc r) (Xtb r) := by
 refine Xag hT Tryz.func218 rfl fun C hC => ?_
 unfold Xdu at h
 refine Xab ?_
 refine kO hT hC ?_
 refine kN ?_
 iterate 7 refine kO hT hC ?_
 refine kC hC [] Tryz.call219 h (fun _ => Xoz) fun q1 h => ?_
 iterate 4 refine kO hT hC ?_
 refine kC hC [] Tryz.call219 h (fun _ => Xoz) fun q2 h => ?_
 iterate 5 refine kO hT hC ?_
 refine kN ?_
 iterate 14 refine kO hT hC ?_
 refine Vc.nil ?_
 refine Xah ?_
 exact kR
def Xj8 (r : (List Int)) : AV := .own 16
def Xj7 (r : (List Int)) : Xa4 := [(16, .ints .i64 r)]
theorem Xk7 {p0 r} (h : Xce p0 = some r) : AC Tryz.prog 217 [.sv (.ints .i64 p0), .fn 218 []] [] (Xj8 r) (Xj7 r) := by
 refine Xag hT Tryz.func217 rfl fun C hC => ?_
 unfold Xce at h
 refine Xab ?_
 refine kO hT hC ?_
 refine kN ?_
 refine kO hT hC ?_
 refine kC hC [(16, 208)] Tryz.call115 h (fun _ => Xll) fun q1 h => ?_
 refine kO hT hC ?_
 refine Vc.nil ?_
 refine Xao ?_
 refine Xab ?_
 refine kO hT hC ?_
 refine Vc.nil ?_
 refine kL [1,5,6] [208] [_,_,_] [_] ?_
 refine kX h (fun v4 => ([(6, .sv (.int .i64 v4.1))], [(208, some (.ints .i64 v4.2))])) (fun v7 => ([(6, .any)], [(208, some (.ints .i64 v7))])) (kW hC []) (fun v4 s h => ?_) fun v7 h => ?_
 unfold Xfb at h
 refine Xao ?_
 refine Xab ?_
 iterate 2 refine kO hT hC ?_
 refine Vc.nil ?_
 refine kS h ?_ ?_ <;> intro b3 h
 refine kt b3 ?_
 refine Xaf ?_
 refine Xae ?_
 refine Xao ?_
 refine Xaq ?_
 refine Xeg hm ?_
 iterate 3 refine kO hT hC ?_
 iterate 2 refine kQ hT hC h fun h => ?_
 iterate 3 refine kO hT hC ?_
 iterate 2 refine kQ hT hC h fun h => ?_
 iterate 3 refine kO hT hC ?_
 iterate 2 refine kQ hT hC h fun h => ?_
 iterate 3 refine kO hT hC ?_
 iterate 2 refine kQ hT hC h fun h => ?_
 refine kC hC [] Tryz.call218 h (fun _ => Xm5) fun q8 h => ?_
 iterate 2 refine kO hT hC ?_
 refine kD ?_
 refine Xcn hm ?_
 iterate 4 refine kO hT hC ?_
 refine kQ hT hC h fun h => ?_
 refine Yxi hT hC rfl rfl rfl rfl rfl rfl rfl rfl rfl ?_
 obtain ⟨hq, h⟩ := Xa5 h
 refine Yun hT hC rfl rfl rfl rfl rfl rfl rfl rfl rfl ⟨⟨trivial, hq.1⟩, hq.2⟩ ?_
 refine kD ?_
 refine Xat ?_
 refine Xae ?_
 refine Xac ?_
 iterate 3 refine kO hT hC ?_
 refine Vc.nil ?_
 exact kG
 refine kf b3 ?_
 refine Xau ?_
 refine Xaz ?_
 exact ku
 refine Xae ?_
 refine Xao ?_
 refine Xab ?_
 refine kO hT hC ?_
 refine Vc.nil ?_
 refine kL [1,5,46] [208] [_,_,_] [_] ?_
 refine kX h (fun v17 => ([(46, .sv (.int .i64 v17.1))], [(208, some (.ints .i64 v17.2))])) (fun v25 => ([(1, .any), (46, .any)], [(208, some (.ints .i64 v25))])) (kW hC []) (fun v17 s h => ?_) fun v25 h => ?_
 unfold Xex at h
 refine Xab ?_
 refine kO hT hC ?_
 refine Vc.nil ?_
 refine Xao ?_
 refine kS h ?_ ?_ <;> intro b12 h
 refine kt b12 ?_
 refine Xaf ?_
 refine Xae ?_
 refine Xao ?_
 refine Xaq ?_
 refine Xab ?_
 iterate 2 refine kO hT hC ?_
 refine Vc.nil ?_
 refine Xeg hm ?_
 iterate 3 refine kO hT hC ?_
 iterate 2 refine kQ hT hC h fun h => ?_
 iterate 3 refine kO hT hC ?_
 iterate 2 refine kQ hT hC h fun h => ?_
 iterate 3 refine kO hT hC ?_
 iterate 2 refine kQ hT hC h fun h => ?_
 iterate 3 refine kO hT hC ?_
 iterate 2 refine kQ hT hC h fun h => ?_
 refine kC hC [] Tryz.call218 h (fun _ => Xm5) fun q26 h => ?_
 iterate 2 refine kO hT hC ?_
 refine kD ?_
 refine Xab ?_
 iterate 2 refine kO hT hC ?_
 refine Vc.nil ?_
 refine kL [1,5,8,46,70,71] [208] [_,_,_,_,_,_] [_] ?_
 refine kX h (fun v28 => ([(71, .sv (.int .i64 v28.1))], [(208, some (.ints .i64 v28.2))])) (fun v30 => ([(8, .any), (70, .any), (71, .any)], [(208, some (.ints .i64 v30))])) (kW hC []) (fun v28 s h => ?_) fun v30 h => ?_
 unfold Xey at h
 refine Xab ?_
 refine kO hT hC ?_
 refine Vc.nil ?_
 refine Xao ?_
 refine kS h ?_ ?_ <;> intro b15 h
 refine kt b15 ?_
 refine Xaf ?_
 refine Xae ?_
 refine Xao ?_
 refine Xaq ?_
 refine Xab ?_
 refine kO hT hC ?_
 obtain ⟨hq, h⟩ := Xa5 h
 refine Yxj hT hC rfl rfl rfl rfl rfl rfl rfl hq ?_
 iterate 2 refine kO hT hC ?_
 refine Vc.nil ?_
 refine Xac ?_
 iterate 6 refine kO hT hC ?_
 iterate 2 refine kQ hT hC h fun h => ?_
 refine Vc.nil ?_
 refine Xat ?_
 refine Xae ?_
 refine Xac ?_
 iterate 2 refine kO hT hC ?_
 refine Vc.nil ?_
 exact kG
 refine kf b15 ?_
 refine Xau ?_
 refine Xaz ?_
 exact ku
 refine Xat ?_
 refine Xae ?_
 refine Xac ?_
 iterate 2 refine kO hT hC ?_
 refine Vc.nil ?_
 exact kG
 refine kf b12 ?_
 refine Xau ?_
 refine Xaz ?_
 exact ku
 refine Xae ?_
 refine Xab ?_
 iterate 2 refine kO hT hC ?_
 refine Vc.nil ?_
 refine Xah ?_
 obtain rfl := kj h
 exact Xbv (τ := ⟨[(4, .own 16)], [(16, some (.ints .i64 v25))]⟩) (kW hC [(16, 208)]) rfl ⟨rfl, trivial⟩
def Xwn (r : (List Int)) : AV := .own 16
def Xwm (r : (List Int)) : Xa4 := [(16, .ints .i64 r)]
theorem Xys {p0 r} (h : Xi2 p0 = some r) : AC Tryz.prog 190 [.sv (.ints .i64 p0)] [] (Xwn r) (Xwm r) := by
 refine Xag hT Tryz.func190 rfl fun C hC => ?_
 unfold Xi2 at h
 refine Xab ?_
 refine kO hT hC ?_
 refine Vc.nil ?_
 refine Xao ?_
 refine Xab ?_
 refine kO hT hC ?_
 refine kC hC [] Tryz.call192 h (fun _ => Xg2) fun q1 h => ?_
 refine kO hT hC ?_
 refine Vc.nil ?_
 refine kS h ?_ ?_ <;> intro b1 h
 refine kt b1 ?_
 refine Xab ?_
 iterate 2 refine kO hT hC ?_
 refine Vc.nil ?_
 refine Xah ?_
 refine Xal ?_
 obtain rfl := kj h
 exact Xbv (τ := ⟨[(2, .own 16)], [(16, some (.ints .i64 ([] : List Int)))]⟩) (kW hC [(16, 96)]) rfl ⟨rfl, trivial⟩
 refine kf b1 ?_
 refine Xaf ?_
 refine Xae ?_
 refine Xab ?_
 refine kO hT hC ?_
 refine kC hC [(16, 128)] Tryz.call217 h (fun _ => Xk7) fun q2 h => ?_
 refine kC hC [(0, 128)] Tryz.call214 h (fun _ => Xqk) fun q3 h => ?_
 refine kO hT hC ?_
 refine Vc.nil ?_
 refine Xah ?_
 obtain rfl := kj h
 exact Xbv (τ := ⟨[(2, .own 16)], [(16, some (.ints .i64 q3.2))]⟩) (kW hC [(16, 128)]) rfl ⟨rfl, trivial⟩
def Xze (r : (List Int)) : AV := .own 16
def Xzd (r : (List Int)) : Xa4 := [(16, .ints .i64 r)]
theorem Yc2 {p0 r} (h : Xk6 p0 = some r) : AC Tryz.prog 191 [.sv (.int .i64 p0)] [] (Xze r) (Xzd r) := by
 refine Xag hT Tryz.func191 rfl fun C hC => ?_
 unfold Xk6 at h
 refine Xab ?_
 refine kO hT hC ?_
 refine kN ?_
 iterate 2 refine kO hT hC ?_
 refine Vc.nil ?_
 refine Xao ?_
 refine Xab ?_
 refine kO hT hC ?_
 refine Vc.nil ?_
 refine kL [0,3,7] [96] [_,_,_] [_] ?_
 refine kX h (fun v7 => ([(7, .sv (.int .i64 v7.1))], [(96, some (.ints .i64 v7.2))])) (fun v14 => ([(0, .any), (7, .any)], [(96, some (.ints .i64 v14))])) (kW hC []) (fun v7 s h => ?_) fun v14 h => ?_
 unfold Xh6 at h
 refine Xab ?_
 refine kO hT hC ?_
 refine Vc.nil ?_
 refine Xao ?_
 refine kS h ?_ ?_ <;> intro b9 h
 refine kt b9 ?_
 refine Xaf ?_
 refine Xae ?_
 refine Xao ?_
 refine Xaq ?_
 refine Xab ?_
 iterate 2 refine kO hT hC ?_
 refine kN ?_
 refine kO hT hC ?_
 refine Vc.nil ?_
 refine kL [0,3,4,7,10] [96] [_,_,_,_,_] [_] ?_
 refine kX h (fun v16 => ([(10, .sv (.int .i64 v16.1))], [(96, some (.ints .i64 v16.2))])) (fun v18 => ([(4, .any), (10, .any)], [(96, some (.ints .i64 v18))])) (kW hC []) (fun v16 s h => ?_) fun v18 h => ?_
 unfold Xlm at h
 refine Xab ?_
 refine kO hT hC ?_
 refine Vc.nil ?_
 refine Xao ?_
 refine kS h ?_ ?_ <;> intro b12 h
 refine kt b12 ?_
 refine Xaf ?_
 refine Xae ?_
 refine Xao ?_
 refine Xaq ?_
 refine Xab ?_
 iterate 2 refine kO hT hC ?_
 refine Vc.nil ?_
 refine Xac ?_
 iterate 3 refine kO hT hC ?_
 refine kQ hT hC h fun h => ?_
 iterate 6 refine kO hT hC ?_
 refine kQ hT hC h fun h => ?_
 iterate 3 refine kO hT hC ?_
 refine kT hT hC h fun h => ?_
 refine kO hT hC ?_
 refine Vc.nil ?_
 refine Xat ?_
 refine Xae ?_
 refine Xac ?_
 iterate 2 refine kO hT hC ?_
 refine Vc.nil ?_
 obtain rfl := kj h
 exact Ygx (kW hC [(96, 432)])
 refine kf b12 ?_
 refine Xau ?_
 refine Xaz ?_
 exact ku
 refine Xat ?_
 refine Xae ?_
 refine Xac ?_
 iterate 2 refine kO hT hC ?_
 refine Vc.nil ?_
 exact kG
 refine kf b9 ?_
 refine Xau ?_
 refine Xaz ?_
 exact ku
 refine Xae ?_
 refine Xab ?_
 iterate 2 refine kO hT hC ?_
 refine Vc.nil ?_
 refine Xah ?_
 obtain rfl := kj h
 exact Xbv (τ := ⟨[(2, .own 16)], [(16, some (.ints .i64 v14))]⟩) (kW hC [(16, 96)]) rfl ⟨rfl, trivial⟩
end
end Go.Proofs.YtjgbfopmjpkkhaaGreat.A
