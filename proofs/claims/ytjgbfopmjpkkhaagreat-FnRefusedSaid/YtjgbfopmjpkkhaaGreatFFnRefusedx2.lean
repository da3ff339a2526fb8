/- Contracts of the functions that the law FnRefused reaches, part 2: each comes to what its pure function tells. Written by a program of this session. Conditions: as each statement tells. -/
import Derived.Test.YtjgbfopmjpkkhaaGreatFFnRefusedx1
namespace Go.Proofs.YtjgbfopmjpkkhaaGreat.A
open Go Go.Proofs Go.Proofs.YtjgbfopmjpkkhaaGreatAL Go.RowKit
set_option linter.unusedVariables false
set_option linter.unusedSimpArgs false
set_option maxRecDepth 100000
set_option maxHeartbeats 2000000
noncomputable section
def Yc8 (r : (Xl6 × Bool)) : AV := .tup [.agg [.own 16, .own 17, .sv (.int .i64 r.1.Corner)], .sv (.bool r.2)]
def Yc7 (r : (Xl6 × Bool)) : Xbb := [(16, .ints .i64 r.1.Above), (17, .ints .i64 r.1.Left)]
theorem Yg4 {p0 p1 p2 r} (h : Xm8 p0 p1 p2 = some r) : AC Tryz.prog 163 [.agg [.sv (.int .i64 p0.Wide), .sv (.int .i64 p0.High), .sv (.str p0.Dots)], .sv (.int .i64 p1), .sv (.int .i64 p2)] [] (Yc8 r) (Yc7 r) := by
 refine Xaf hT Tryz.func163 rfl fun C hC => ?_
 unfold Xm8 at h
 refine Xad ?_
 iterate 3 refine kO hT hC ?_
 refine Vc.nil (Xap ?_)
 refine kL [1,2,3,6] [48,96] [_,_,_,_] [_,_] ?_
 refine kA h (fun v1 => ([(19, .sv (.bool v1))], [])) (fun v1 h => ?_) fun v1 h => ?_
 refine Xac ?_
 refine kO hT hC ?_
 refine kC hC [] Tryz.call55 h (fun _ => Xfa) fun q2 h => ?_
 iterate 2 refine kO hT hC ?_
 refine kS h ?_ ?_ <;> intro b1 h
 iterate 3 refine kI hT hC (kn b1) ?_
 refine kE hC (kn b1) [] Tryz.call158 h (fun _ => Xn3) fun q3 h => ?_
 refine kI hT hC (kn b1) ?_
 refine kP hC false (kn b1) ?_
 exact Vc.nil kM
 iterate 5 refine kF hC (kn b1) ?_
 refine kP hC true (kn b1) ?_
 exact Vc.nil kM
 refine kS h ?_ ?_ <;> intro b2 h
 refine kt b2 (Xad ?_)
 iterate 3 refine kO hT hC ?_
 refine Vc.nil (Xah (Xao ?_))
 obtain rfl := kj h
 refine Xb8 (τ := ⟨[(6, .ptr 2000000 0), (7, .sv (.bool false))], [(16, some (.ints .i64 [])), (17, some (.ints .i64 [])), (2000000, some (.box [.own 16, .own 17, .sv (.int .i64 0)]))]⟩) ?_ rfl ⟨rfl, rfl, trivial⟩
 refine Xgs hC 96 0 1105 (.ints .i64 []) rfl rfl rfl rfl rfl trivial ?_
 refine Xgs hC 96 1 1106 (.ints .i64 []) rfl rfl rfl rfl rfl trivial ?_
 apply Xcj hC [(16, 1105), (17, 1106), (2000000, 96)]
 exact co
 rfl
 decide
 rfl
 refine kf b2 (Xag (Xae (Xad ?_)))
 iterate 3 refine kO hT hC ?_
 refine Vc.nil (Xap (Xad ?_))
 refine kO hT hC ?_
 refine Vc.nil ?_
 refine kL [1,2,3,6,8,22] [48,96,128] [_,_,_,_,_,_] [_,_,_] ?_
 obtain ⟨v15, hl, h⟩ := Xbo h
 refine Yyh (fun v9 => ([(22, .sv (.int .i64 v9.1))], [(128, some (.box [.own 1129, .own 1130, .sv (.int .i64 (-1))])), (1129, some (.ints .i64 v9.2.1)), (1130, some (.ints .i64 v9.2.2))])) (fun v15 => ([(22, .any)], [(128, some (.box [.own 1133, .own 1134, .sv (.int .i64 (-1))])), (1133, some (.ints .i64 v15.1)), (1134, some (.ints .i64 v15.2))])) hl ?_ ?_ ?_
 refine Xgs hC 128 0 1135 (.ints .i64 []) rfl rfl rfl rfl rfl trivial ?_
 refine Xgs hC 128 1 1136 (.ints .i64 []) rfl rfl rfl rfl rfl trivial ?_
 try dsimp only
 apply Xcj hC [(1129, 1135), (1130, 1136)]
 exact co
 rfl
 decide
 rfl
 intro v9 s hs
 have h := hs
 unfold Xlb at h
 refine Xad ?_
 refine kO hT hC ?_
 refine Vc.nil (Xap ?_)
 refine kS h ?_ ?_ <;> intro b9 h
 refine kt b9 (Xag (Xae ?_))
 refine kL [1,2,3,6,8,22] [48,96,128,1129,1130] [_,_,_,_,_,_] [_,_,_,_,_] ?_
 refine kA h (fun v16 => ([], [(1129, some (.ints .i64 v16.1)), (1130, some (.ints .i64 v16.2))])) (fun v16 h => ?_) fun v16 h => ?_
 refine Xan (Xad ?_)
 iterate 2 refine kO hT hC ?_
 refine Vc.nil ?_
 refine kL [1,2,3,6,8,9,22] [48,96,128,1129,1130] [_,_,_,_,_,_,_] [_,_,_,_,_] ?_
 refine kA h (fun v17 => ([], [(1129, some (.ints .i64 v17))])) (fun v17 h => ?_) fun v17 h => ?_
 refine Xad ?_
 iterate 2 refine kO hT hC ?_
 refine Vc.nil ?_
 refine kS h ?_ ?_ <;> intro b10 h
 refine kt b10 ?_
 refine Xcu hm ?_
 iterate 8 refine kO hT hC ?_
 refine kC hC [] Tryz.call185 h (fun _ => Xld) fun q18 h => ?_
 refine kO hT hC ?_
 refine kT hT hC h fun h => ?_
 iterate 2 refine kO hT hC ?_
 refine kD ?_
 obtain rfl := kj h
 exact Xgo (kW hC [(1129, 592)])
 exact kf b10 (Xag kM)
 refine Xad ?_
 iterate 2 refine kO hT hC ?_
 refine Vc.nil ?_
 refine kS h ?_ ?_ <;> intro b11 h
 refine kt b11 ?_
 refine Xcu hm ?_
 iterate 8 refine kO hT hC ?_
 refine kC hC [] Tryz.call185 h (fun _ => Xld) fun q19 h => ?_
 refine kO hT hC ?_
 refine kT hT hC h fun h => ?_
 iterate 2 refine kO hT hC ?_
 refine kD (Xaq ?_)
 obtain rfl := kj h
 exact Xgo (kW hC [(1130, 816)])
 exact kf b11 (Xag (Xaq kM))
 refine Xac ?_
 iterate 2 refine kO hT hC ?_
 exact Vc.nil kG
 refine kf b9 (Xas (Xaz ?_))
 obtain rfl := kj h
 exact Yu4 (Zb3 (kW hC [(1133, 1129), (1134, 1130)]))
 refine Xae ?_
 refine kL [1,2,3,6,8] [48,96,128,1133,1134] [_,_,_,_,_] [_,_,_,_,_] ?_
 refine kA h (fun v21 => ([(1, .any), (2, .any), (3, .any)], [(128, some (.box [.own 1133, .own 1134, .sv (.int .i64 v21)])), (48, none)])) (fun v21 h => ?_) fun v21 h => ?_
 refine kL [1,2,3,6,8] [48,96,128,1133,1134] [_,_,_,_,_] [_,_,_,_,_] ?_
 refine kA h (fun v22 => ([(59, .sv (.bool v22))], [])) (fun v22 h => ?_) fun v22 h => ?_
 refine Xac ?_
 iterate 3 refine kO hT hC ?_
 refine kS h ?_ ?_ <;> intro b12 h
 iterate 2 refine kI hT hC b12 ?_
 refine kP hC true b12 ?_
 exact Vc.nil kM
 iterate 2 refine kF hC b12 ?_
 refine kP hC false b12 ?_
 exact Vc.nil kM
 refine kS h ?_ ?_ <;> intro b13 h
 refine kt b13 (Xac ?_)
 iterate 5 refine kO hT hC ?_
 refine kC hC [] Tryz.call185 h (fun _ => Xld) fun q23 h => ?_
 iterate 2 refine kO hT hC ?_
 exact Vc.nil kM
 exact kf b13 (Xag kM)
 refine Xad ?_
 iterate 3 refine kO hT hC ?_
 refine Vc.nil (Xah ?_)
 obtain rfl := kj h
 exact Xb8 (τ := ⟨[(6, .ptr 2000000 0), (7, .sv (.bool true))], [(16, some (.ints .i64 v15.1)), (17, some (.ints .i64 v15.2)), (2000000, some (.box [.own 16, .own 17, .sv (.int .i64 v21)]))]⟩) (kW hC [(16, 1133), (17, 1134), (2000000, 96)]) rfl ⟨rfl, rfl, trivial⟩
def Xr7 (r : Bool) : AV := .sv (.bool r)
def Xr6 (r : Bool) : Xbb := []
theorem Yg5 {p0 r} (h : Xm9 p0 = some r) : AC Tryz.prog 194 [.agg [.sv (.ints .i64 p0.Above), .sv (.ints .i64 p0.Left), .sv (.int .i64 p0.Corner)]] [] (Xr7 r) (Xr6 r) := by
 refine Xaf hT Tryz.func194 rfl fun C hC => ?_
 unfold Xm9 at h
 refine Xad ?_
 iterate 2 refine kO hT hC ?_
 refine Vc.nil (Xap (Xad ?_))
 iterate 7 refine kO hT hC ?_
 refine Vc.nil ?_
 refine kL [1,9,10,11] [16,144] [_,_,_,_] [_,_] ?_
 obtain ⟨o11, hl, h⟩ := Xbo h
 refine Xf6 (fun v4 => ([(11, .sv (.int .i64 v4))], [])) (fun v8 => ([(9, .any), (10, .any), (11, .any)], [(144, none)])) (fun r => Xpi C T Tryz.f194.results.toList (Xr7 r) (Xr6 r)) hl ?_ ?_ ?_ ?_
 apply Xcj hC []
 exact co
 rfl
 decide
 rfl
 intro v4 s hs
 have h := hs
 unfold Xf2 at h
 refine Xad ?_
 refine kO hT hC ?_
 refine Vc.nil (Xap ?_)
 refine kS h ?_ ?_ <;> intro b7 h
 refine kt b7 (Xag (Xae (Xap (Xan (Xad ?_)))))
 iterate 2 refine kQ hT hC h fun h => ?_
 refine kO hT hC ?_
 refine Vc.nil ?_
 refine kL [1,4,9,10,11] [16,144] [_,_,_,_,_] [_,_] ?_
 refine kA h (fun v9 => ([(22, .sv (.bool v9)), (4, .any)], [])) (fun v9 h => ?_) fun v9 h => ?_
 refine Xac ?_
 iterate 4 refine kO hT hC ?_
 refine kS h ?_ ?_ <;> intro b8 h
 refine kI hT hC b8 ?_
 refine kE hC b8 [] Tryz.call192 h (fun _ => Xi6) fun q10 h => ?_
 refine kI hT hC b8 ?_
 refine kP hC true b8 ?_
 exact Vc.nil kM
 iterate 3 refine kF hC b8 ?_
 refine kP hC false b8 ?_
 exact Vc.nil kM
 refine kS h ?_ ?_ <;> intro b9 h
 refine kt b9 (Xad ?_)
 refine kO hT hC ?_
 refine Vc.nil (Xah (Xdj (Xao ?_)))
 obtain rfl := kj h
 refine Xpk (Xpj ?_)
 exact Xb8 (Xiz.refl _) rfl trivial
 refine kf b9 (Xag (Xaq (Xae (Xac ?_))))
 iterate 2 refine kO hT hC ?_
 exact Vc.nil kG
 exact kf b7 (Xas (Xaz kb))
 intro v8 e
 subst e
 refine Xae (Xad ?_)
 iterate 2 refine kO hT hC ?_
 refine kC hC [] Tryz.call64 h (fun _ => Xal) fun q12 h => ?_
 refine kO hT hC ?_
 exact Vc.nil (Xah kR)
 intro r' σ' e hE
 subst e
 obtain rfl := kj h
 refine Xao ?_
 exact hE
def Yh6 (r : (List Int)) : AV := .sv (.ints .i64 r)
def Yh5 (r : (List Int)) : Xbb := []
theorem Xvl {p0 r} (h : Xme p0 = some r) : AC Tryz.prog 195 [.sv (.ints .i64 p0)] [] (Yh6 r) (Yh5 r) := by
 refine Xaf hT Tryz.func195 rfl fun C hC => ?_
 unfold Xme at h
 refine Xad ?_
 refine kO hT hC ?_
 refine Vc.nil (Xap (Xad ?_))
 iterate 3 refine kO hT hC ?_
 refine Vc.nil ?_
 refine kS h ?_ ?_ <;> intro b1 h
 refine kt b1 (Xad ?_)
 iterate 2 refine kO hT hC ?_
 refine Vc.nil (Xah (Xao ?_))
 obtain rfl := kj h
 exact Xb8 (τ := ⟨[(2, .sv (.ints .i64 ([128, 128, 128, 128, 128, 128, 128, 128])))], []⟩) (kW hC []) rfl trivial
 refine kf b1 (Xag (Xae (Xad ?_)))
 iterate 2 refine kO hT hC ?_
 exact Vc.nil (Xah kR)
def Ydb (r : (List Int)) : AV := .own 16
def Yda (r : (List Int)) : Xbb := [(16, .ints .i64 r)]
theorem Yg6 {p0 p1 r} (h : Xko p0 p1 = some r) : AC Tryz.prog 164 [.sv (.int .i64 p0), .agg [.sv (.ints .i64 p1.Above), .sv (.ints .i64 p1.Left), .sv (.int .i64 p1.Corner)]] [] (Ydb r) (Yda r) := by
 refine Xaf hT Tryz.func164 rfl fun C hC => ?_
 unfold Xko at h
 refine Xad ?_
 iterate 2 refine kO hT hC ?_
 refine kN ?_
 iterate 2 refine kO hT hC ?_
 refine Vc.nil (Xap ?_)
 refine kL [0,3,5] [48,208] [_,_,_] [_,_] ?_
 refine kA h (fun v1 => ([(21, .sv (.bool v1))], [])) (fun v1 h => ?_) fun v1 h => ?_
 refine Xac ?_
 refine kO hT hC ?_
 refine kC hC [] Tryz.call194 h (fun _ => Yg5) fun q2 h => ?_
 iterate 2 refine kO hT hC ?_
 refine kS h ?_ ?_ <;> intro b1 h
 refine kI hT hC (kn b1) ?_
 refine kE hC (kn b1) [] Tryz.call64 h (fun _ => Xal) fun q3 h => ?_
 refine kI hT hC (kn b1) ?_
 refine kP hC false (kn b1) ?_
 exact Vc.nil kM
 iterate 3 refine kF hC (kn b1) ?_
 refine kP hC true (kn b1) ?_
 exact Vc.nil kM
 refine kS h ?_ ?_ <;> intro b2 h
 refine kt b2 (Xad ?_)
 iterate 2 refine kO hT hC ?_
 refine Vc.nil (Xah (Xao ?_))
 obtain rfl := kj h
 exact Xb8 (τ := ⟨[(4, .own 16)], [(16, some (.ints .i64 ([] : List Int)))]⟩) (kW hC [(16, 208)]) rfl ⟨rfl, trivial⟩
 refine kf b2 (Xag (Xae (Xad ?_)))
 refine kO hT hC ?_
 refine Vc.nil ?_
 refine kL [0,3,5,6] [48,208] [_,_,_,_] [_,_] ?_
 refine kA h (fun v4 => ([(6, .sv (.int .i64 v4))], [])) (fun v4 h => ?_) fun v4 h => ?_
 refine Xad ?_
 iterate 8 refine kO hT hC ?_
 refine kN ?_
 iterate 2 refine kO hT hC ?_
 refine Vc.nil ?_
 refine kS h ?_ ?_ <;> intro b3 h
 refine kt b3 ?_
 refine Xcu hm ?_
 iterate 2 refine kO hT hC ?_
 refine kC hC [] Tryz.call121 h (fun _ => Xfi) fun q5 h => ?_
 iterate 2 refine kO hT hC ?_
 refine kC hC [] Tryz.call121 h (fun _ => Xfi) fun q6 h => ?_
 iterate 2 refine kO hT hC ?_
 refine kQ hT hC h fun h => ?_
 iterate 2 refine kO hT hC ?_
 refine kQ hT hC h fun h => ?_
 refine kO hT hC ?_
 exact kD kM
 exact kf b3 (Xag kM)
 refine Xcq hm ?_
 iterate 2 refine kO hT hC ?_
 refine kC hC [] Tryz.call195 h (fun _ => Xvl) fun q7 h => ?_
 iterate 2 refine kO hT hC ?_
 refine kC hC [] Tryz.call195 h (fun _ => Xvl) fun q8 h => ?_
 iterate 5 refine kO hT hC ?_
 refine kD ?_
 refine kL [0,5,6,8,9,10] [208] [_,_,_,_,_,_] [_] ?_
 refine kA h (fun v9 => ([(10, .sv (.int .i64 v9))], [])) (fun v9 h => ?_) fun v9 h => ?_
 refine Xad ?_
 iterate 2 refine kO hT hC ?_
 refine Vc.nil ?_
 refine kS h ?_ ?_ <;> intro b4 h
 refine kt b4 (Xac ?_)
 refine kO hT hC ?_
 exact Vc.nil kM
 exact kf b4 (Xag kM)
 refine Xap (Xad ?_)
 refine kO hT hC ?_
 refine Vc.nil ?_
 refine kL [0,5,6,8,9,10,54] [208] [_,_,_,_,_,_,_] [_] ?_
 refine kX h (fun v22 => ([(54, .sv (.int .i64 v22.1))], [(208, some (.ints .i64 v22.2))])) (fun v35 => ([(0, .any), (6, .any), (8, .any), (9, .any), (10, .any), (54, .any)], [(208, some (.ints .i64 v35))])) (kW hC []) (fun v22 s h => ?_) fun v35 h => ?_
 unfold Xnu at h
 refine Xad ?_
 refine kO hT hC ?_
 refine Vc.nil (Xap ?_)
 refine kS h ?_ ?_ <;> intro b31 h
 refine kt b31 (Xag (Xae (Xap (Xan (Xad ?_)))))
 iterate 2 refine kO hT hC ?_
 refine kN ?_
 refine kO hT hC ?_
 refine Vc.nil ?_
 refine kL [0,5,6,8,9,10,11,54,57] [208] [_,_,_,_,_,_,_,_,_] [_] ?_
 refine kX h (fun v39 => ([(57, .sv (.int .i64 v39.1))], [(208, some (.ints .i64 v39.2))])) (fun v43 => ([(11, .any), (57, .any)], [(208, some (.ints .i64 v43))])) (kW hC []) (fun v39 s h => ?_) fun v43 h => ?_
 unfold Xg4 at h
 refine Xad ?_
 refine kO hT hC ?_
 refine Vc.nil (Xap ?_)
 refine kS h ?_ ?_ <;> intro b40 h
 refine kt b40 (Xag (Xae ?_))
 refine kL [0,5,6,8,9,10,11,54,57] [208] [_,_,_,_,_,_,_,_,_] [_] ?_
 refine kA h (fun v44 => ([(5, .own 1700)], [(1700, some (.ints .i64 v44)), (208, none)])) (fun v44 h => ?_) fun v44 h => ?_
 refine Xan (Xad ?_)
 iterate 2 refine kO hT hC ?_
 refine kN ?_
 refine kO hT hC ?_
 refine Vc.nil (Xan (Xad ?_))
 iterate 2 refine kO hT hC ?_
 refine Vc.nil ?_
 refine kS h ?_ ?_ <;> intro b41 h
 refine kt b41 (Xac ?_)
 iterate 3 refine kO hT hC ?_
 refine kT hT hC h fun h => ?_
 refine kO hT hC ?_
 refine Vc.nil ?_
 iterate 2 refine Xaq ?_
 obtain rfl := kj h
 exact Xgo (kW hC [(1700, 1296)])
 refine kf b41 (Xad ?_)
 iterate 2 refine kO hT hC ?_
 refine Vc.nil ?_
 refine kS h ?_ ?_ <;> intro b42 h
 refine kt b42 (Xac ?_)
 iterate 3 refine kO hT hC ?_
 refine kQ hT hC h fun h => ?_
 iterate 2 refine kO hT hC ?_
 refine kT hT hC h fun h => ?_
 refine kO hT hC ?_
 refine Vc.nil ?_
 iterate 2 refine Xaq ?_
 obtain rfl := kj h
 exact Xgo (kW hC [(1700, 1440)])
 refine kf b42 (Xad ?_)
 iterate 2 refine kO hT hC ?_
 refine Vc.nil ?_
 refine kS h ?_ ?_ <;> intro b43 h
 refine kt b43 (Xac ?_)
 iterate 3 refine kO hT hC ?_
 refine kQ hT hC h fun h => ?_
 iterate 2 refine kO hT hC ?_
 refine kT hT hC h fun h => ?_
 refine kO hT hC ?_
 refine Vc.nil ?_
 iterate 2 refine Xaq ?_
 obtain rfl := kj h
 exact Xgo (kW hC [(1700, 1584)])
 refine kf b43 ?_
 refine Xcu hm ?_
 iterate 3 refine kO hT hC ?_
 refine kQ hT hC h fun h => ?_
 iterate 3 refine kO hT hC ?_
 refine kQ hT hC h fun h => ?_
 iterate 4 refine kO hT hC ?_
 refine kC hC [] Tryz.call193 h (fun _ => Xk9) fun q45 h => ?_
 refine kO hT hC ?_
 refine kT hT hC h fun h => ?_
 refine kO hT hC ?_
 refine kD ?_
 iterate 2 refine Xaq ?_
 obtain rfl := kj h
 exact Xgo (kW hC [(1700, 1200)])
 refine Xac ?_
 iterate 2 refine kO hT hC ?_
 refine Vc.nil ?_
 obtain rfl := kj h
 exact Xy0 (kW hC [(208, 1700)])
 exact kf b40 (Xas (Xaz ku))
 refine Xaq (Xae (Xac ?_))
 iterate 2 refine kO hT hC ?_
 exact Vc.nil kG
 exact kf b31 (Xas (Xaz ku))
 refine Xae (Xad ?_)
 iterate 2 refine kO hT hC ?_
 refine Vc.nil (Xah ?_)
 obtain rfl := kj h
 exact Xb8 (τ := ⟨[(4, .own 16)], [(16, some (.ints .i64 v35))]⟩) (kW hC [(16, 208)]) rfl ⟨rfl, trivial⟩
def Xwp (r : ((List Int) × Bool)) : AV := .tup [.own 16, .sv (.bool r.2)]
def Xwo (r : ((List Int) × Bool)) : Xbb := [(16, .ints .i64 r.1)]
theorem Xyd {p0 p1 p2 p3 p4 p5 p6 p7 r} (h : Xdw p0 p1 p2 p3 p4 p5 p6 p7 = some r) : AC Tryz.prog 125 [.agg [.sv (.int .i64 p0.Wide), .sv (.int .i64 p0.High), .sv (.str p0.Dots)], .agg [.sv (.int .i64 p1.Wide), .sv (.int .i64 p1.High), .sv (.str p1.Dots)], .sv (.int .i64 p2), .sv (.int .i64 p3), .agg [.sv (.bool p4.Key), .sv (.int .i64 p4.Qp), .sv (.bool p4.Large), .sv (.bool p4.Exact)], .sv (.int .i64 p5), .sv (.int .i64 p6), .agg [.sv (.int .i64 p7.Kind), .sv (.int .i64 p7.Mode), .sv (.int .i64 p7.Dx), .sv (.int .i64 p7.Dy), .sv (.ints .i64 p7.Levels)]] [] (Xwp r) (Xwo r) := by
 refine Xaf hT Tryz.func125 rfl fun C hC => ?_
 unfold Xdw at h
 refine Xad ?_
 iterate 6 refine kO hT hC ?_
 refine Vc.nil (Xap ?_)
 refine kL [2,3,5,6,8,9,12,15] [128,144,192,240] [_,_,_,_,_,_,_,_] [_,_,_,_] ?_
 refine kA h (fun v1 => ([(67, .sv (.bool v1))], [])) (fun v1 h => ?_) fun v1 h => ?_
 refine Xac ?_
 refine kO hT hC ?_
 refine kC hC [] Tryz.call55 h (fun _ => Xfa) fun q2 h => ?_
 iterate 2 refine kO hT hC ?_
 refine kS h ?_ ?_ <;> intro b1 h
 iterate 3 refine kI hT hC (kn b1) ?_
 refine kE hC (kn b1) [] Tryz.call158 h (fun _ => Xn3) fun q3 h => ?_
 refine kI hT hC (kn b1) ?_
 refine kP hC false (kn b1) ?_
 refine kO hT hC ?_
 refine kS h ?_ ?_ <;> intro b2 h
 refine kI hT hC (kn b2) ?_
 refine kE hC (kn b2) [] Tryz.call64 h (fun _ => Xal) fun q4 h => ?_
 refine kI hT hC (kn b2) ?_
 refine kP hC false (kn b2) ?_
 refine kO hT hC ?_
 refine kS h ?_ ?_ <;> intro b3 h
 refine kI hT hC (kn b3) ?_
 refine kE hC (kn b3) [] Tryz.call64 h (fun _ => Xal) fun q5 h => ?_
 refine kI hT hC (kn b3) ?_
 refine kP hC false (kn b3) ?_
 refine kO hT hC ?_
 refine kS h ?_ ?_ <;> intro b4 h
 refine kI hT hC (kn b4) ?_
 refine kE hC (kn b4) [] Tryz.call157 h (fun _ => Xr8) fun q6 h => ?_
 refine kI hT hC (kn b4) ?_
 refine kP hC false (kn b4) ?_
 refine kO hT hC ?_
 refine kS h ?_ ?_ <;> intro b5 h
 refine kI hT hC (kn b5) ?_
 refine kE hC (kn b5) [] Tryz.call119 h (fun _ => Xmt) fun q7 h => ?_
 refine kI hT hC (kn b5) ?_
 refine kP hC false (kn b5) ?_
 refine kO hT hC ?_
 refine kS h ?_ ?_ <;> intro b6 h
 iterate 2 refine kI hT hC (kn b6) ?_
 refine kE hC (kn b6) [] Tryz.call159 h (fun _ => Xye) fun q8 h => ?_
 refine kI hT hC (kn b6) ?_
 refine kP hC false (kn b6) ?_
 refine kO hT hC ?_
 refine kS h ?_ ?_ <;> intro b7 h
 iterate 4 refine kI hT hC (kn b7) ?_
 refine kS h ?_ ?_ <;> intro b8 h
 refine kI hT hC b8 ?_
 refine kE hC b8 [] Tryz.call55 h (fun _ => Xfa) fun q9 h => ?_
 refine kI hT hC b8 ?_
 refine Xa1 hC rfl rfl rfl rfl (kn b7) rfl rfl (b := true) b8 rfl rfl rfl trivial ?_
 refine kP hC false (kn b7) ?_
 exact Vc.nil kM
 iterate 3 refine kF hC b8 ?_
 refine Xa1 hC rfl rfl rfl rfl (kn b7) rfl rfl (b := false) b8 rfl rfl rfl trivial ?_
 refine kP hC false (kn b7) ?_
 exact Vc.nil kM
 iterate 4 refine kF hC (kn b7) ?_
 iterate 3 refine Xd7 hC rfl rfl rfl rfl rfl rfl ?_
 refine kF hC (kn b7) ?_
 refine kP hC true (kn b7) ?_
 exact Vc.nil kM
 iterate 4 refine kF hC (kn b6) ?_
 refine kP hC true (kn b6) ?_
 refine kO hT hC ?_
 iterate 4 refine kF hC rfl ?_
 iterate 3 refine Xd7 hC rfl rfl rfl rfl rfl rfl ?_
 refine kF hC rfl ?_
 refine kO hT hC ?_
 exact Vc.nil kM
 iterate 3 refine kF hC (kn b5) ?_
 refine kP hC true (kn b5) ?_
 refine kO hT hC ?_
 iterate 4 refine kF hC rfl ?_
 iterate 2 refine kO hT hC ?_
 iterate 4 refine kF hC rfl ?_
 iterate 3 refine Xd7 hC rfl rfl rfl rfl rfl rfl ?_
 refine kF hC rfl ?_
 refine kO hT hC ?_
 exact Vc.nil kM
 iterate 3 refine kF hC (kn b4) ?_
 refine kP hC true (kn b4) ?_
 refine kO hT hC ?_
 iterate 3 refine kF hC rfl ?_
 iterate 2 refine kO hT hC ?_
 iterate 4 refine kF hC rfl ?_
 iterate 2 refine kO hT hC ?_
 iterate 4 refine kF hC rfl ?_
 iterate 3 refine Xd7 hC rfl rfl rfl rfl rfl rfl ?_
 refine kF hC rfl ?_
 refine kO hT hC ?_
 exact Vc.nil kM
 iterate 3 refine kF hC (kn b3) ?_
 refine kP hC true (kn b3) ?_
 refine kO hT hC ?_
 iterate 3 refine kF hC rfl ?_
 iterate 2 refine kO hT hC ?_
 iterate 3 refine kF hC rfl ?_
 iterate 2 refine kO hT hC ?_
 iterate 4 refine kF hC rfl ?_
 iterate 2 refine kO hT hC ?_
 iterate 4 refine kF hC rfl ?_
 iterate 3 refine Xd7 hC rfl rfl rfl rfl rfl rfl ?_
 refine kF hC rfl ?_
 refine kO hT hC ?_
 exact Vc.nil kM
 iterate 3 refine kF hC (kn b2) ?_
 refine kP hC true (kn b2) ?_
 refine kO hT hC ?_
 iterate 3 refine kF hC rfl ?_
 iterate 2 refine kO hT hC ?_
 iterate 3 refine kF hC rfl ?_
 iterate 2 refine kO hT hC ?_
 iterate 3 refine kF hC rfl ?_
 iterate 2 refine kO hT hC ?_
 iterate 4 refine kF hC rfl ?_
 iterate 2 refine kO hT hC ?_
 iterate 4 refine kF hC rfl ?_
 iterate 3 refine Xd7 hC rfl rfl rfl rfl rfl rfl ?_
 refine kF hC rfl ?_
 refine kO hT hC ?_
 exact Vc.nil kM
 iterate 5 refine kF hC (kn b1) ?_
 refine kP hC true (kn b1) ?_
 refine kO hT hC ?_
 iterate 3 refine kF hC rfl ?_
 iterate 2 refine kO hT hC ?_
 iterate 3 refine kF hC rfl ?_
 iterate 2 refine kO hT hC ?_
 iterate 3 refine kF hC rfl ?_
 iterate 2 refine kO hT hC ?_
 iterate 3 refine kF hC rfl ?_
 iterate 2 refine kO hT hC ?_
 iterate 4 refine kF hC rfl ?_
 iterate 2 refine kO hT hC ?_
 iterate 4 refine kF hC rfl ?_
 iterate 3 refine Xd7 hC rfl rfl rfl rfl rfl rfl ?_
 refine kF hC rfl ?_
 refine kO hT hC ?_
 exact Vc.nil kM
 refine kS h ?_ ?_ <;> intro b9 h
 refine kt b9 (Xad ?_)
 iterate 3 refine kO hT hC ?_
 refine Vc.nil (Xah (Xao ?_))
 obtain rfl := kj h
 exact Xb8 (τ := ⟨[(16, .own 16), (17, .sv (.bool false))], [(16, some (.ints .i64 ([] : List Int)))]⟩) (kW hC [(16, 1088)]) rfl ⟨rfl, trivial⟩
 refine kf b9 (Xag (Xae (Xap (Xad ?_))))
 iterate 3 refine kO hT hC ?_
 refine Vc.nil ?_
 refine kS h ?_ ?_ <;> intro b10 h
 refine kt b10 (Xad ?_)
 iterate 7 refine kO hT hC ?_
 refine kC hC [(16, 1264)] Tryz.call160 h (fun _ => Xqg) fun q10 h => ?_
 iterate 2 refine kO hT hC ?_
 refine Vc.nil (Xah (Xao ?_))
 obtain rfl := kj h
 exact Xb8 (τ := ⟨[(16, .own 16), (17, .sv (.bool true))], [(16, some (.ints .i64 q10))]⟩) (kW hC [(16, 1264)]) rfl ⟨rfl, trivial⟩
 refine kf b10 (Xag (Xae (Xad ?_)))
 iterate 3 refine kO hT hC ?_
 refine kC hC [(16, 1344)] Tryz.call161 h (fun _ => Xx6) fun q11 h => ?_
 iterate 5 refine kO hT hC ?_
 refine Vc.nil (Xap (Xad ?_))
 iterate 3 refine kO hT hC ?_
 refine Vc.nil ?_
 refine kS h ?_ ?_ <;> intro b11 h
 refine kt b11 (Xad ?_)
 iterate 13 refine kO hT hC ?_
 refine kC hC [(16, 1648)] Tryz.call160 h (fun _ => Xqg) fun q12 h => ?_
 refine kO hT hC ?_
 refine kC hC [(16, 1680)] Tryz.call162 h (fun _ => Xva) fun q13 h => ?_
 iterate 2 refine kO hT hC ?_
 refine Vc.nil (Xah (Xao ?_))
 obtain rfl := kj h
 exact Xb8 (τ := ⟨[(16, .own 16), (17, .sv (.bool true))], [(16, some (.ints .i64 q13))]⟩) (kW hC [(16, 1680)]) rfl ⟨rfl, trivial⟩
 refine kf b11 (Xag (Xae (Xad ?_)))
 iterate 3 refine kO hT hC ?_
 refine kC hC [(16, 1760), (17, 1761)] Tryz.call163 h (fun _ => Yg4) fun q14 h => ?_
 iterate 6 refine kO hT hC ?_
 refine kN ?_
 iterate 3 refine kO hT hC ?_
 refine kC hC [(16, 1856)] Tryz.call164 h (fun _ => Yg6) fun q15 h => ?_
 refine kO hT hC ?_
 refine kC hC [(16, 1888)] Tryz.call162 h (fun _ => Xva) fun q16 h => ?_
 iterate 2 refine kO hT hC ?_
 refine Vc.nil (Xah ?_)
 obtain rfl := kj h
 exact Xb8 (τ := ⟨[(16, .own 16), (17, .sv (.bool true))], [(16, some (.ints .i64 q16))]⟩) (kW hC [(16, 1888)]) rfl ⟨rfl, trivial⟩
def Yo5 (r : (List Int)) : AV := .own 16
def Yo4 (r : (List Int)) : Xbb := [(16, .ints .u8 r)]
theorem Ycp {p0 r} (h : Xqm p0 = some r) : AC Tryz.prog 127 [.agg [.sv (.int .i64 p0.Wide), .sv (.int .i64 p0.High), .sv (.str p0.Dots)]] [] (Yo5 r) (Yo4 r) := by
 refine Xaf hT Tryz.func127 rfl fun C hC => ?_
 unfold Xqm at h
 refine Xad ?_
 iterate 2 refine kO hT hC ?_
 refine kN ?_
 iterate 2 refine kO hT hC ?_
 refine kQ hT hC h fun h => ?_
 refine kO hT hC ?_
 refine Vc.nil (Xah ?_)
 obtain rfl := kj h
 exact Xb8 (τ := ⟨[(2, .own 16)], [(16, some (.ints .u8 (Xa0 p0.Dots)))]⟩) (kW hC [(16, 80)]) rfl ⟨rfl, trivial⟩
def Yrn (r : Pic) : AV := .agg [.sv (.int .i64 r.Wide), .sv (.int .i64 r.High), .sv (.str r.Dots)]
def Yrm (r : Pic) : Xbb := []
theorem Yti {p0 p1 p2 p3 r} (h : Xt7 p0 p1 p2 p3 = some r) : AC Tryz.prog 126 [.agg [.sv (.int .i64 p0.Wide), .sv (.int .i64 p0.High), .sv (.str p0.Dots)], .sv (.int .i64 p1), .sv (.int .i64 p2), .sv (.ints .i64 p3)] [] (Yrn r) (Yrm r) := by
 refine Xaf hT Tryz.func126 rfl fun C hC => ?_
 unfold Xt7 at h
 refine Xad ?_
 iterate 2 refine kO hT hC ?_
 refine kN ?_
 refine kO hT hC ?_
 refine kC hC [(16, 208)] Tryz.call127 h (fun _ => Ycp) fun q1 h => ?_
 refine kO hT hC ?_
 refine Vc.nil (Xap (Xad ?_))
 iterate 3 refine kO hT hC ?_
 refine Vc.nil ?_
 refine kL [1,2,4,8,9,14,15,16] [64,128,208] [_,_,_,_,_,_,_,_] [_,_,_] ?_
 refine kX h (fun v3 => ([(16, .sv (.int .i64 v3.1))], [(208, some (.ints .u8 v3.2))])) (fun v5 => ([(1, .any), (2, .any), (14, .any), (15, .any), (16, .any)], [(208, some (.ints .u8 v5))])) (kW hC []) (fun v3 s h => ?_) fun v5 h => ?_
 unfold Xrl at h
 refine Xad ?_
 refine kO hT hC ?_
 refine Vc.nil (Xap ?_)
 refine kS h ?_ ?_ <;> intro b3 h
 refine kt b3 (Xag (Xae (Xap (Xan (Xad ?_)))))
 refine kO hT hC ?_
 refine kQ hT hC h fun h => ?_
 iterate 3 refine kO hT hC ?_
 refine Vc.nil (Xac ?_)
 iterate 3 refine kO hT hC ?_
 refine kQ hT hC h fun h => ?_
 iterate 7 refine kO hT hC ?_
 refine kQ hT hC h fun h => ?_
 iterate 3 refine kO hT hC ?_
 iterate 2 refine kQ hT hC h fun h => ?_
 refine Vc.nil (Xaq (Xae (Xac ?_)))
 iterate 2 refine kO hT hC ?_
 exact Vc.nil kG
 exact kf b3 (Xas (Xaz ku))
 refine Xae (Xad ?_)
 iterate 4 refine kO hT hC ?_
 refine kN ?_
 iterate 2 refine kO hT hC ?_
 exact Vc.nil (Xah kR)
def Xqk (r : (Pic × Bool)) : AV := .tup [.agg [.sv (.int .i64 r.1.Wide), .sv (.int .i64 r.1.High), .sv (.str r.1.Dots)], .sv (.bool r.2)]
def Xqj (r : (Pic × Bool)) : Xbb := []
theorem Ydm {p0 p1 p2 p3 p4 r} (h : Xlg p0 p1 p2 p3 p4 = some r) : AC Tryz.prog 85 [.agg [.sv (.int .i64 p0.Wide), .sv (.int .i64 p0.High), .sv (.str p0.Dots)], .agg [.sv (.int .i64 p1.Left), .sv (.int .i64 p1.Top), .sv (.int .i64 p1.Wide), .sv (.int .i64 p1.High)], .agg [.sv (.bool p2.Key), .sv (.int .i64 p2.Qp), .sv (.bool p2.Large), .sv (.bool p2.Exact)], .sv (.bool p3), .sv (Xc2.sv p4)] [] (Xqk r) (Xqj r) := by
 refine Xaf hT Tryz.func85 rfl fun C hC => ?_
 unfold Xlg at h
 refine Xad ?_
 iterate 5 refine kO hT hC ?_
 refine Vc.nil (Xap ?_)
 refine kL [3,4,5,6,7,10] [80,96,112,160] [_,_,_,_,_,_] [_,_,_,_] ?_
 refine kA h (fun v1 => ([(59, .sv (.bool v1))], [])) (fun v1 h => ?_) fun v1 h => ?_
 refine Xac ?_
 iterate 2 refine kO hT hC ?_
 refine kC hC [] Tryz.call122 h (fun _ => Xvj) fun q2 h => ?_
 iterate 2 refine kO hT hC ?_
 refine kS h ?_ ?_ <;> intro b1 h
 iterate 2 refine kI hT hC (kn b1) ?_
 refine kE hC (kn b1) [] Tryz.call122 h (fun _ => Xvj) fun q3 h => ?_
 refine kI hT hC (kn b1) ?_
 refine kP hC false (kn b1) ?_
 refine kO hT hC ?_
 refine kS h ?_ ?_ <;> intro b2 h
 iterate 2 refine kI hT hC (kn b2) ?_
 refine kE hC (kn b2) [] Tryz.call64 h (fun _ => Xal) fun q4 h => ?_
 refine kI hT hC (kn b2) ?_
 refine kP hC false (kn b2) ?_
 refine kO hT hC ?_
 refine kS h ?_ ?_ <;> intro b3 h
 iterate 2 refine kI hT hC (kn b3) ?_
 refine kE hC (kn b3) [] Tryz.call64 h (fun _ => Xal) fun q5 h => ?_
 refine kI hT hC (kn b3) ?_
 refine kP hC false (kn b3) ?_
 refine kO hT hC ?_
 refine kS h ?_ ?_ <;> intro b4 h
 refine kI hT hC (kn b4) ?_
 refine kE hC (kn b4) [] Tryz.call119 h (fun _ => Xmt) fun q6 h => ?_
 refine kI hT hC (kn b4) ?_
 refine kP hC false (kn b4) ?_
 refine kO hT hC ?_
 refine kS h ?_ ?_ <;> intro b5 h
 iterate 4 refine kI hT hC (kn b5) ?_
 refine kJ hT hC (kn b5) h fun h => ?_
 iterate 2 refine kI hT hC (kn b5) ?_
 refine kJ hT hC (kn b5) h fun h => ?_
 iterate 2 refine kI hT hC (kn b5) ?_
 refine kP hC false (kn b5) ?_
 exact Vc.nil kM
 iterate 10 refine kF hC (kn b5) ?_
 refine kP hC true (kn b5) ?_
 exact Vc.nil kM
 iterate 3 refine kF hC (kn b4) ?_
 refine kP hC true (kn b4) ?_
 refine kO hT hC ?_
 iterate 10 refine kF hC rfl ?_
 refine kO hT hC ?_
 exact Vc.nil kM
 iterate 4 refine kF hC (kn b3) ?_
 refine kP hC true (kn b3) ?_
 refine kO hT hC ?_
 iterate 3 refine kF hC rfl ?_
 iterate 2 refine kO hT hC ?_
 iterate 10 refine kF hC rfl ?_
 refine kO hT hC ?_
 exact Vc.nil kM
 iterate 4 refine kF hC (kn b2) ?_
 refine kP hC true (kn b2) ?_
 refine kO hT hC ?_
 iterate 4 refine kF hC rfl ?_
 iterate 2 refine kO hT hC ?_
 iterate 3 refine kF hC rfl ?_
 iterate 2 refine kO hT hC ?_
 iterate 10 refine kF hC rfl ?_
 refine kO hT hC ?_
 exact Vc.nil kM
 iterate 4 refine kF hC (kn b1) ?_
 refine kP hC true (kn b1) ?_
 refine kO hT hC ?_
 iterate 4 refine kF hC rfl ?_
 iterate 2 refine kO hT hC ?_
 iterate 4 refine kF hC rfl ?_
 iterate 2 refine kO hT hC ?_
 iterate 3 refine kF hC rfl ?_
 iterate 2 refine kO hT hC ?_
 iterate 10 refine kF hC rfl ?_
 refine kO hT hC ?_
 exact Vc.nil kM
 refine kS h ?_ ?_ <;> intro b6 h
 refine kt b6 (Xad ?_)
 iterate 3 refine kO hT hC ?_
 exact Vc.nil (Xah (Xao kR))
 refine kf b6 (Xag (Xae (Xap ?_)))
 refine kL [3,4,5,6,7,10] [80,96,112,160] [_,_,_,_,_,_] [_,_,_,_] ?_
 refine kA h (fun v7 => ([(74, .sv (.bool v7))], [])) (fun v7 h => ?_) fun v7 h => ?_
 refine Xac ?_
 iterate 4 refine kO hT hC ?_
 refine kS h ?_ ?_ <;> intro b7 h
 iterate 4 refine kF hC (kn b7) ?_
 iterate 4 refine Xd7 hC rfl rfl rfl rfl rfl rfl ?_
 refine kF hC (kn b7) ?_
 refine kP hC false (kn b7) ?_
 exact Vc.nil kM
 refine kI hT hC (kn b7) ?_
 refine kE hC (kn b7) [] Tryz.call55 h (fun _ => Xfa) fun q8 h => ?_
 iterate 2 refine kI hT hC (kn b7) ?_
 refine kS h ?_ ?_ <;> intro b8 h
 iterate 2 refine kI hT hC (kn b8) ?_
 refine kE hC (kn b8) [] Tryz.call123 h (fun _ => Xl8) fun q9 h => ?_
 refine kI hT hC (kn b8) ?_
 refine Xa1 hC rfl rfl rfl rfl (kn b7) rfl rfl (b := false) (kn b8) rfl rfl rfl trivial ?_
 refine kP hC true (kn b7) ?_
 exact Vc.nil kM
 iterate 4 refine kF hC (kn b8) ?_
 refine Xa1 hC rfl rfl rfl rfl (kn b7) rfl rfl (b := true) (kn b8) rfl rfl rfl trivial ?_
 refine kP hC true (kn b7) ?_
 exact Vc.nil kM
 refine kS h ?_ ?_ <;> intro b9 h
 refine kt b9 (Xad ?_)
 iterate 3 refine kO hT hC ?_
 exact Vc.nil (Xah (Xao kR))
 refine kf b9 (Xag (Xae ?_))
 refine Xcq hm ?_
 iterate 6 refine kO hT hC ?_
 refine kD ?_
 refine kL [3,4,5,6,7,10,12,13] [80,96,112,160] [_,_,_,_,_,_,_,_] [_,_,_,_] ?_
 refine kA h (fun v10 => ([(12, .sv (.int .i64 v10.1)), (13, .sv (.int .i64 v10.2.1)), (3, .any)], [(80, some (.box [.sv (.int .i64 v10.2.2.1), .sv (.int .i64 v10.2.2.2.1), .sv (.str v10.2.2.2.2)]))])) (fun v10 h => ?_) fun v10 h => ?_
 refine Xad ?_
 refine kO hT hC ?_
 refine Vc.nil ?_
 refine kS h ?_ ?_ <;> intro b10 h
 refine kt b10 (Xad ?_)
 iterate 2 refine kO hT hC ?_
 refine kN ?_
 iterate 3 refine kO hT hC ?_
 refine Vc.nil ?_
 refine kS h ?_ ?_ <;> intro b11 h
 refine kt b11 (Xac ?_)
 iterate 2 refine kO hT hC ?_
 refine kC hC [] Tryz.call124 h (fun _ => Yox) fun q11 h => ?_
 iterate 4 refine kO hT hC ?_
 exact Vc.nil kM
 exact kf b11 (Xag kM)
 exact kf b10 (Xag kM)
 refine Xad ?_
 iterate 4 refine kO hT hC ?_
 refine kC hC [] Tryz.call86 h (fun _ => Ycn) fun q12 h => ?_
 iterate 2 refine kO hT hC ?_
 refine Vc.nil (Xap (Xad ?_))
 iterate 3 refine kO hT hC ?_
 refine Vc.nil ?_
 refine kL [5,6,7,10,12,13,14,95,96,97] [80,96,112,160,224] [_,_,_,_,_,_,_,_,_,_] [_,_,_,_,_] ?_
 obtain ⟨o23, hl, h⟩ := Xbo h
 refine Xf6 (fun v16 => ([(97, .sv (.int .i64 v16.1))], [(224, some (.box [.sv (.int .i64 v16.2.1), .sv (.int .i64 v16.2.2.1), .sv (.str v16.2.2.2)]))])) (fun v20 => ([(5, .any), (6, .any), (7, .any), (12, .any), (13, .any), (95, .any), (96, .any), (97, .any)], [(224, some (.box [.sv (.int .i64 v20.1), .sv (.int .i64 v20.2.1), .sv (.str v20.2.2)])), (80, none), (96, none), (112, none)])) (fun r => Xpi C T Tryz.f85.results.toList (Xqk r) (Xqj r)) hl ?_ ?_ ?_ ?_
 try dsimp only
 apply Xcj hC []
 exact co
 rfl
 decide
 rfl
 intro v16 s hs
 have h := hs
 unfold Xb5 at h
 refine Xad ?_
 refine kO hT hC ?_
 refine Vc.nil (Xap ?_)
 refine kS h ?_ ?_ <;> intro b16 h
 refine kt b16 (Xag (Xae (Xap (Xan (Xad ?_)))))
 refine kO hT hC ?_
 refine kQ hT hC h fun h => ?_
 iterate 4 refine kO hT hC ?_
 refine Vc.nil ?_
 refine Xcq hm ?_
 iterate 3 refine kO hT hC ?_
 iterate 2 refine kQ hT hC h fun h => ?_
 iterate 4 refine kO hT hC ?_
 iterate 2 refine kQ hT hC h fun h => ?_
 iterate 3 refine kO hT hC ?_
 refine kD (Xad ?_)
 iterate 8 refine kO hT hC ?_
 refine kC hC [(16, 1968)] Tryz.call125 h (fun _ => Xyd) fun q21 h => ?_
 iterate 5 refine kO hT hC ?_
 refine Vc.nil (Xap (Xad ?_))
 iterate 2 refine kO hT hC ?_
 refine Vc.nil ?_
 refine kS h ?_ ?_ <;> intro b17 h
 refine kt b17 (Xad ?_)
 iterate 3 refine kO hT hC ?_
 refine Vc.nil (Xah (Xao (Xdj (Xao ?_))))
 obtain rfl := kj h
 refine Xpk (Xpj ?_)
 exact Xb8 (Xiz.refl _) rfl trivial
 refine kf b17 (Xag (Xae (Xac ?_)))
 iterate 4 refine kO hT hC ?_
 refine kC hC [] Tryz.call126 h (fun _ => Yti) fun q22 h => ?_
 refine kO hT hC ?_
 refine Vc.nil (Xaq (Xae (Xac ?_)))
 iterate 2 refine kO hT hC ?_
 exact Vc.nil kG
 exact kf b16 (Xas (Xaz kb))
 intro v20 e
 subst e
 refine Xae (Xad ?_)
 iterate 3 refine kO hT hC ?_
 exact Vc.nil (Xah kR)
 intro r' σ' e hE
 subst e
 obtain rfl := kj h
 refine Xao ?_
 exact hE
def Yhg (r : (Pic × Bool)) : AV := .tup [.agg [.sv (.int .i64 r.1.Wide), .sv (.int .i64 r.1.High), .sv (.str r.1.Dots)], .sv (.bool r.2)]
def Yhf (r : (Pic × Bool)) : Xbb := []
theorem Ylf {p0 p1 p2 p3 r} (h : Xou p0 p1 p2 p3 = some r) : AC Tryz.prog 88 [.agg [.sv (.int .i64 p0.Wide), .sv (.int .i64 p0.High), .sv (.str p0.Dots)], .agg [.sv (.int .i64 p1.Wide), .sv (.int .i64 p1.High), .sv (.str p1.Dots)], .sv (.int .i64 p2), .sv (.int .i64 p3)] [] (Yhg r) (Yhf r) := by
 refine Xaf hT Tryz.func88 rfl fun C hC => ?_
 unfold Xou at h
 refine Xad ?_
 iterate 4 refine kO hT hC ?_
 refine Vc.nil (Xap ?_)
 refine kL [2,3,4,5,8] [64,80,128] [_,_,_,_,_] [_,_,_] ?_
 refine kA h (fun v1 => ([(31, .sv (.bool v1))], [])) (fun v1 h => ?_) fun v1 h => ?_
 refine Xac ?_
 refine kO hT hC ?_
 refine kC hC [] Tryz.call55 h (fun _ => Xfa) fun q2 h => ?_
 iterate 2 refine kO hT hC ?_
 refine kS h ?_ ?_ <;> intro b1 h
 refine kI hT hC (kn b1) ?_
 refine kE hC (kn b1) [] Tryz.call55 h (fun _ => Xfa) fun q3 h => ?_
 refine kI hT hC (kn b1) ?_
 refine kP hC false (kn b1) ?_
 refine kO hT hC ?_
 refine kS h ?_ ?_ <;> intro b2 h
 iterate 8 refine kI hT hC (kn b2) ?_
 refine kE hC (kn b2) [] Tryz.call123 h (fun _ => Xl8) fun q4 h => ?_
 refine kI hT hC (kn b2) ?_
 refine kP hC false (kn b2) ?_
 exact Vc.nil kM
 iterate 10 refine kF hC (kn b2) ?_
 refine kP hC true (kn b2) ?_
 exact Vc.nil kM
 iterate 3 refine kF hC (kn b1) ?_
 refine kP hC true (kn b1) ?_
 refine kO hT hC ?_
 iterate 10 refine kF hC rfl ?_
 refine kO hT hC ?_
 exact Vc.nil kM
 refine kS h ?_ ?_ <;> intro b3 h
 refine kt b3 (Xad ?_)
 iterate 3 refine kO hT hC ?_
 exact Vc.nil (Xah (Xao kR))
 refine kf b3 (Xag (Xae (Xad ?_)))
 refine kO hT hC ?_
 refine kC hC [(16, 544)] Tryz.call127 h (fun _ => Ycp) fun q5 h => ?_
 refine kO hT hC ?_
 refine Vc.nil (Xap (Xad ?_))
 iterate 3 refine kO hT hC ?_
 refine Vc.nil ?_
 refine kL [2,3,4,5,8,10,36,37] [64,80,128,544] [_,_,_,_,_,_,_,_] [_,_,_,_] ?_
 refine kX h (fun v7 => ([(37, .sv (.int .i64 v7.1))], [(544, some (.ints .u8 v7.2))])) (fun v9 => ([(2, .any), (3, .any), (5, .any), (36, .any), (37, .any)], [(544, some (.ints .u8 v9)), (80, none)])) (kW hC []) (fun v7 s h => ?_) fun v9 h => ?_
 unfold Xmv at h
 refine Xad ?_
 refine kO hT hC ?_
 refine Vc.nil (Xap ?_)
 refine kS h ?_ ?_ <;> intro b6 h
 refine kt b6 (Xag (Xae (Xap (Xan (Xad ?_)))))
 iterate 2 refine kO hT hC ?_
 refine Vc.nil ?_
 refine Xcu hm ?_
 iterate 9 refine kO hT hC ?_
 refine kQ hT hC h fun h => ?_
 iterate 11 refine kO hT hC ?_
 refine kQ hT hC h fun h => ?_
 obtain ⟨hq, h⟩ := Xba h
 refine Zbd hT hC rfl rfl rfl rfl rfl rfl rfl rfl rfl ⟨⟨trivial, hq.1⟩, hq.2⟩ ?_
 refine kD (Xaq (Xae (Xac ?_)))
 iterate 2 refine kO hT hC ?_
 exact Vc.nil kG
 exact kf b6 (Xas (Xaz ku))
 refine Xae (Xad ?_)
 iterate 4 refine kO hT hC ?_
 refine kN ?_
 iterate 3 refine kO hT hC ?_
 exact Vc.nil (Xah kR)
def Ylo (r : Int) : AV := .sv (.int .i64 r)
def Yln (r : Int) : Xbb := []
theorem Yo3 {p0 p1 r} (h : Xt6 p0 p1 = some r) : AC Tryz.prog 89 [.sv (.int .i64 p0), .sv (.int .i64 p1)] [] (Ylo r) (Yln r) := by
 refine Xaf hT Tryz.func89 rfl fun C hC => ?_
 unfold Xt6 at h
 refine Xad ?_
 refine kO hT hC ?_
 refine kN ?_
 iterate 3 refine kO hT hC ?_
 iterate 2 refine kQ hT hC h fun h => ?_
 refine kO hT hC ?_
 exact Vc.nil (Xah kR)
def Xpz (r : (Xak × Int × Pic × Xak)) : AV := .tup [.agg [.sv (.bool r.1.HasSeq), .sv (.bool r.1.HasPar), .sv (.bool r.1.HasRef), .sv (.int .i64 r.1.Seq.Level), .sv (.int .i64 r.1.Seq.Bits), .own 3, .own 4, .sv (.int .i64 r.1.Par.Qp), .sv (.bool r.1.Par.Large), .sv (.bool r.1.Par.Exact), .sv (.bool r.1.Par.Confined), .sv (.int .i64 r.1.Frame), .sv (.int .i64 r.1.Got), .sv (.int .i64 r.1.Now.Wide), .sv (.int .i64 r.1.Now.High), .sv (.str r.1.Now.Dots), .sv (.int .i64 r.1.Ref.Wide), .sv (.int .i64 r.1.Ref.High), .sv (.str r.1.Ref.Dots)], .sv (.int .i64 r.2.1), .agg [.sv (.int .i64 r.2.2.1.Wide), .sv (.int .i64 r.2.2.1.High), .sv (.str r.2.2.1.Dots)]]
def Xpy (r : (Xak × Int × Pic × Xak)) : Xbb := [(3, .ints .i64 r.2.2.2.Seq.Cols), (4, .ints .i64 r.2.2.2.Seq.Rows)]
theorem Xqf {p0 p1 p2 r} (h : Xdt p0 p1 p2 = some r) : AC Tryz.prog 46 [.agg [.sv (.bool p0.HasSeq), .sv (.bool p0.HasPar), .sv (.bool p0.HasRef), .sv (.int .i64 p0.Seq.Level), .sv (.int .i64 p0.Seq.Bits), .own 3, .own 4, .sv (.int .i64 p0.Par.Qp), .sv (.bool p0.Par.Large), .sv (.bool p0.Par.Exact), .sv (.bool p0.Par.Confined), .sv (.int .i64 p0.Frame), .sv (.int .i64 p0.Got), .sv (.int .i64 p0.Now.Wide), .sv (.int .i64 p0.Now.High), .sv (.str p0.Now.Dots), .sv (.int .i64 p0.Ref.Wide), .sv (.int .i64 p0.Ref.High), .sv (.str p0.Ref.Dots)], .sv (.bool p1), .sv (.str p2)] [(3, .ints .i64 p0.Seq.Cols), (4, .ints .i64 p0.Seq.Rows)] (Xpz r) (Xpy r) := by
 refine Xaf hT Tryz.func46 rfl fun C hC => ?_
 unfold Xdt at h
 refine Xad ?_
 iterate 4 refine kO hT hC ?_
 refine Vc.nil (Xap ?_)
 refine kL [1,2,3,6,8] [3,4,48,96,128] [_,_,_,_,_] [_,_,_,_,_] ?_
 refine kA h (fun v1 => ([(26, .sv (.bool v1))], [])) (fun v1 h => ?_) fun v1 h => ?_
 refine Xac ?_
 iterate 4 refine kO hT hC ?_
 refine kS h ?_ ?_ <;> intro b1 h
 iterate 3 refine kI hT hC (kn b1) ?_
 refine kP hC false (kn b1) ?_
 exact Vc.nil kM
 iterate 3 refine kF hC (kn b1) ?_
 refine kP hC true (kn b1) ?_
 exact Vc.nil kM
 refine kS h ?_ ?_ <;> intro b2 h
 refine kt b2 (Xad ?_)
 iterate 5 refine kO hT hC ?_
 refine Vc.nil (Xah (Xao ?_))
 obtain rfl := kj h
 exact Xb8 (Xiz.refl _) rfl ⟨rfl, rfl, trivial⟩
 refine kf b2 (Xag (Xae (Xad ?_)))
 iterate 5 refine kO hT hC ?_
 refine kC hC [] Tryz.call81 h (fun _ => Yde) fun q2 h => ?_
 iterate 8 refine kO hT hC ?_
 refine Vc.nil (Xap (Xan (Xad ?_)))
 iterate 3 refine kO hT hC ?_
 refine Vc.nil ?_
 refine kS h ?_ ?_ <;> intro b3 h
 refine kt b3 (Xad ?_)
 iterate 5 refine kO hT hC ?_
 refine Vc.nil (Xah (Xdj (Xao ?_)))
 obtain rfl := kj h
 exact Xb8 (Xiz.refl _) rfl ⟨rfl, rfl, trivial⟩
 refine kf b3 (Xad ?_)
 iterate 6 refine kO hT hC ?_
 refine Vc.nil ?_
 refine kS h ?_ ?_ <;> intro b4 h
 refine kt b4 (Xad ?_)
 iterate 5 refine kO hT hC ?_
 refine Vc.nil (Xah (Xdj (Xao ?_)))
 obtain rfl := kj h
 exact Xb8 (Xiz.refl _) rfl ⟨rfl, rfl, trivial⟩
 refine kf b4 ?_
 refine kL [1,2,3,6,8,9,10] [3,4,48,96,128,144] [_,_,_,_,_,_,_] [_,_,_,_,_,_] ?_
 refine kA h (fun v3 => ([(52, .sv (.bool v3))], [])) (fun v3 h => ?_) fun v3 h => ?_
 refine Xac ?_
 iterate 4 refine kO hT hC ?_
 refine kS h ?_ ?_ <;> intro b5 h
 iterate 5 refine kI hT hC b5 ?_
 refine kP hC true b5 ?_
 refine kO hT hC ?_
 exact Vc.nil kM
 iterate 5 refine kF hC b5 ?_
 refine kP hC false b5 ?_
 refine kO hT hC ?_
 exact Vc.nil kM
 refine kS h ?_ ?_ <;> intro b6 h
 refine kt b6 (Xad ?_)
 iterate 5 refine kO hT hC ?_
 refine Vc.nil (Xah (Xdj (Xao ?_)))
 obtain rfl := kj h
 exact Xb8 (Xiz.refl _) rfl ⟨rfl, rfl, trivial⟩
 refine kf b6 ?_
 refine kL [1,2,3,6,8,9,10] [3,4,48,96,128,144] [_,_,_,_,_,_,_] [_,_,_,_,_,_] ?_
 refine kA h (fun v4 => ([(65, .sv (.bool v4))], [])) (fun v4 h => ?_) fun v4 h => ?_
 refine Xac ?_
 iterate 3 refine kO hT hC ?_
 refine kS h ?_ ?_ <;> intro b7 h
 iterate 3 refine kF hC (kn b7) ?_
 refine kP hC false (kn b7) ?_
 refine kO hT hC ?_
 exact Vc.nil kM
 iterate 3 refine kI hT hC (kn b7) ?_
 refine kP hC true (kn b7) ?_
 refine kO hT hC ?_
 exact Vc.nil kM
 refine kS h ?_ ?_ <;> intro b8 h
 refine kt b8 (Xad ?_)
 iterate 5 refine kO hT hC ?_
 refine Vc.nil (Xah (Xdj (Xao ?_)))
 obtain rfl := kj h
 exact Xb8 (Xiz.refl _) rfl ⟨rfl, rfl, trivial⟩
 refine kf b8 (Xag (Xaq (Xae (Xad ?_))))
 iterate 12 refine kO hT hC ?_
 refine Vc.nil ?_
 refine Xcq hm ?_
 iterate 6 refine kO hT hC ?_
 refine kC hC [] Tryz.call83 h (fun _ => Xws) fun q5 h => ?_
 refine kO hT hC ?_
 refine kC hC [(16, 1504)] Tryz.call82 h (fun _ => Ydj) fun q6 h => ?_
 iterate 5 refine kO hT hC ?_
 refine kD (Xap (Xad ?_))
 iterate 2 refine kO hT hC ?_
 refine Vc.nil ?_
 refine kS h ?_ ?_ <;> intro b9 h
 refine kt b9 (Xad ?_)
 iterate 5 refine kO hT hC ?_
 refine Vc.nil (Xah (Xao ?_))
 obtain rfl := kj h
 exact Xb8 (Xiz.refl _) rfl ⟨rfl, rfl, trivial⟩
 refine kf b9 (Xag (Xae (Xad ?_)))
 iterate 4 refine kO hT hC ?_
 refine kC hC [] Tryz.call84 h (fun _ => Xr9) fun q7 h => ?_
 iterate 6 refine kO hT hC ?_
 refine kN ?_
 iterate 8 refine kO hT hC ?_
 refine kC hC [] Tryz.call85 h (fun _ => Ydm) fun q8 h => ?_
 iterate 6 refine kO hT hC ?_
 refine Vc.nil ?_
 refine kL [3,6,8,9,15,17] [3,4,48,96,128,144,240,272] [_,_,_,_,_,_] [_,_,_,_,_,_,_,_] ?_
 refine kA h (fun v9 => ([], [(48, some (.box [.sv (.bool p0.HasSeq), .sv (.bool p0.HasPar), .sv (.bool p0.HasRef), .sv (.int .i64 p0.Seq.Level), .sv (.int .i64 p0.Seq.Bits), .own 3, .own 4, .sv (.int .i64 p0.Par.Qp), .sv (.bool p0.Par.Large), .sv (.bool p0.Par.Exact), .sv (.bool p0.Par.Confined), .sv (.int .i64 p0.Frame), .sv (.int .i64 p0.Got), .sv (.int .i64 v9.1), .sv (.int .i64 v9.2.1), .sv (.str v9.2.2), .sv (.int .i64 p0.Ref.Wide), .sv (.int .i64 p0.Ref.High), .sv (.str p0.Ref.Dots)]))])) (fun v9 h => ?_) fun v9 h => ?_
 refine Xad ?_
 iterate 3 refine kO hT hC ?_
 refine Vc.nil ?_
 refine kS h ?_ ?_ <;> intro b10 h
 refine kt b10 (Xac ?_)
 iterate 2 refine kO hT hC ?_
 refine kC hC [] Tryz.call87 h (fun _ => Xve) fun q10 h => ?_
 iterate 2 refine kO hT hC ?_
 refine kC hC [] Tryz.call86 h (fun _ => Ycn) fun q11 h => ?_
 iterate 2 refine kO hT hC ?_
 exact Vc.nil kM
 exact kf b10 (Xag kM)
 refine Xad ?_
 iterate 7 refine kO hT hC ?_
 refine kC hC [] Tryz.call88 h (fun _ => Ylf) fun q12 h => ?_
 iterate 5 refine kO hT hC ?_
 refine kN ?_
 iterate 5 refine kO hT hC ?_
 refine kN ?_
 iterate 4 refine kO hT hC ?_
 refine Vc.nil (Xap ?_)
 refine Xcq hm ?_
 iterate 4 refine kO hT hC ?_
 refine kC hC [] Tryz.call65 h (fun _ => Xlh) fun q13 h => ?_
 refine kO hT hC ?_
 refine kD ?_
 refine kS h ?_ ?_ <;> intro b11 h
 refine kt b11 (Xad ?_)
 iterate 5 refine kO hT hC ?_
 refine Vc.nil (Xah (Xao ?_))
 obtain rfl := kj h
 exact Xb8 (Xiz.refl _) rfl ⟨rfl, rfl, trivial⟩
 refine kf b11 (Xag (Xae (Xad ?_)))
 iterate 4 refine kO hT hC ?_
 refine kN ?_
 iterate 2 refine kO hT hC ?_
 refine kN ?_
 iterate 3 refine kO hT hC ?_
 refine kN ?_
 iterate 2 refine kO hT hC ?_
 refine kN ?_
 iterate 5 refine kO hT hC ?_
 refine kC hC [] Tryz.call89 h (fun _ => Yo3) fun q14 h => ?_
 iterate 2 refine kO hT hC ?_
 refine Vc.nil ?_
 refine Xcq hm ?_
 iterate 6 refine kO hT hC ?_
 refine kD (Xah ?_)
 obtain rfl := kj h
 exact Xb8 (Xiz.refl _) rfl ⟨rfl, rfl, trivial⟩
def Yc6 (r : (Xak × Int × Pic)) : AV := .tup [.agg [.sv (.bool r.1.HasSeq), .sv (.bool r.1.HasPar), .sv (.bool r.1.HasRef), .sv (.int .i64 r.1.Seq.Level), .sv (.int .i64 r.1.Seq.Bits), .own 16, .own 17, .sv (.int .i64 r.1.Par.Qp), .sv (.bool r.1.Par.Large), .sv (.bool r.1.Par.Exact), .sv (.bool r.1.Par.Confined), .sv (.int .i64 r.1.Frame), .sv (.int .i64 r.1.Got), .sv (.int .i64 r.1.Now.Wide), .sv (.int .i64 r.1.Now.High), .sv (.str r.1.Now.Dots), .sv (.int .i64 r.1.Ref.Wide), .sv (.int .i64 r.1.Ref.High), .sv (.str r.1.Ref.Dots)], .sv (.int .i64 r.2.1), .agg [.sv (.int .i64 r.2.2.Wide), .sv (.int .i64 r.2.2.High), .sv (.str r.2.2.Dots)]]
def Yc5 (r : (Xak × Int × Pic)) : Xbb := [(16, .ints .i64 r.1.Seq.Cols), (17, .ints .i64 r.1.Seq.Rows)]
theorem Yg3 {p0 p1 r} (h : Xgl p0 p1 = some r) : AC Tryz.prog 10 [.agg [.sv (.bool p0.HasSeq), .sv (.bool p0.HasPar), .sv (.bool p0.HasRef), .sv (.int .i64 p0.Seq.Level), .sv (.int .i64 p0.Seq.Bits), .sv (.ints .i64 p0.Seq.Cols), .sv (.ints .i64 p0.Seq.Rows), .sv (.int .i64 p0.Par.Qp), .sv (.bool p0.Par.Large), .sv (.bool p0.Par.Exact), .sv (.bool p0.Par.Confined), .sv (.int .i64 p0.Frame), .sv (.int .i64 p0.Got), .sv (.int .i64 p0.Now.Wide), .sv (.int .i64 p0.Now.High), .sv (.str p0.Now.Dots), .sv (.int .i64 p0.Ref.Wide), .sv (.int .i64 p0.Ref.High), .sv (.str p0.Ref.Dots)], .sv (.str p1)] [] (Yc6 r) (Yc5 r) := by
 refine Xaf hT Tryz.func10 rfl fun C hC => ?_
 unfold Xgl at h
 refine Xad ?_
 iterate 4 refine kO hT hC ?_
 refine kN ?_
 refine kO hT hC ?_
 refine kC hC [(16, 272), (17, 273)] Tryz.call41 h (fun _ => Xwt) fun q1 h => ?_
 refine kO hT hC ?_
 refine Vc.nil (Xap (Xad ?_))
 refine kO hT hC ?_
 refine kC hC [] Tryz.call33 h (fun _ => Xxz) fun q2 h => ?_
 refine kO hT hC ?_
 refine Vc.nil ?_
 refine kS h ?_ ?_ <;> intro b1 h
 refine kt b1 (Xad ?_)
 iterate 5 refine kO hT hC ?_
 refine Vc.nil (Xah (Xao ?_))
 obtain rfl := kj h
 exact Xb8 (τ := ⟨[(4, .ptr 2000000 0), (5, .sv (.int .i64 1)), (6, .ptr 2000002 0)], [(16, some (.ints .i64 q1.Seq.Cols)), (17, some (.ints .i64 q1.Seq.Rows)), (2000000, some (.box [.sv (.bool q1.HasSeq), .sv (.bool q1.HasPar), .sv (.bool q1.HasRef), .sv (.int .i64 q1.Seq.Level), .sv (.int .i64 q1.Seq.Bits), .own 16, .own 17, .sv (.int .i64 q1.Par.Qp), .sv (.bool q1.Par.Large), .sv (.bool q1.Par.Exact), .sv (.bool q1.Par.Confined), .sv (.int .i64 q1.Frame), .sv (.int .i64 q1.Got), .sv (.int .i64 q1.Now.Wide), .sv (.int .i64 q1.Now.High), .sv (.str q1.Now.Dots), .sv (.int .i64 q1.Ref.Wide), .sv (.int .i64 q1.Ref.High), .sv (.str q1.Ref.Dots)])), (2000002, some (.box [.sv (.int .i64 0), .sv (.int .i64 0), .sv (.str ⟨#[]⟩)]))]⟩) (kW hC [(16, 272), (17, 273), (2000000, 64), (2000002, 96)]) rfl ⟨rfl, rfl, trivial⟩
 refine kf b1 (Xag (Xae (Xad ?_)))
 refine kO hT hC ?_
 refine kC hC [] Tryz.call42 h (fun _ => Ylm) fun q3 h => ?_
 iterate 7 refine kO hT hC ?_
 refine Vc.nil (Xap (Xad ?_))
 iterate 2 refine kO hT hC ?_
 refine Vc.nil ?_
 refine kS h ?_ ?_ <;> intro b2 h
 refine kt b2 (Xad ?_)
 iterate 5 refine kO hT hC ?_
 refine Vc.nil (Xah (Xao ?_))
 obtain rfl := kj h
 exact Xb8 (τ := ⟨[(4, .ptr 2000000 0), (5, .sv (.int .i64 2)), (6, .ptr 2000002 0)], [(16, some (.ints .i64 q1.Seq.Cols)), (17, some (.ints .i64 q1.Seq.Rows)), (2000000, some (.box [.sv (.bool q1.HasSeq), .sv (.bool q1.HasPar), .sv (.bool q1.HasRef), .sv (.int .i64 q1.Seq.Level), .sv (.int .i64 q1.Seq.Bits), .own 16, .own 17, .sv (.int .i64 q1.Par.Qp), .sv (.bool q1.Par.Large), .sv (.bool q1.Par.Exact), .sv (.bool q1.Par.Confined), .sv (.int .i64 q1.Frame), .sv (.int .i64 q1.Got), .sv (.int .i64 q1.Now.Wide), .sv (.int .i64 q1.Now.High), .sv (.str q1.Now.Dots), .sv (.int .i64 q1.Ref.Wide), .sv (.int .i64 q1.Ref.High), .sv (.str q1.Ref.Dots)])), (2000002, some (.box [.sv (.int .i64 0), .sv (.int .i64 0), .sv (.str ⟨#[]⟩)]))]⟩) (kW hC [(16, 272), (17, 273), (2000000, 64), (2000002, 96)]) rfl ⟨rfl, rfl, trivial⟩
 refine kf b2 (Xag (Xae (Xap (Xad ?_))))
 refine kO hT hC ?_
 refine Vc.nil (Xan (Xad ?_))
 iterate 2 refine kO hT hC ?_
 refine Vc.nil ?_
 refine kS h ?_ ?_ <;> intro b3 h
 refine kt b3 (Xad ?_)
 refine kO hT hC ?_
 refine kC hC [(16, 608), (17, 609)] Tryz.call43 h (fun _ => Yhi) fun q4 h => ?_
 iterate 8 refine kO hT hC ?_
 refine Vc.nil (Xap ?_)
 refine kL [2,4,6,8,10,11,12] [32,64,96,160,272,273,608,609] [_,_,_,_,_,_,_] [_,_,_,_,_,_,_,_] ?_
 refine kA h (fun v5 => ([(49, .sv (.bool v5)), (8, .any), (11, .any), (12, .any)], [])) (fun v5 h => ?_) fun v5 h => ?_
 refine Xac ?_
 iterate 3 refine kO hT hC ?_
 refine kS h ?_ ?_ <;> intro b4 h
 iterate 4 refine kI hT hC (kn b4) ?_
 refine kP hC false (kn b4) ?_
 exact Vc.nil kM
 iterate 4 refine kF hC (kn b4) ?_
 refine kP hC true (kn b4) ?_
 exact Vc.nil kM
 refine kS h ?_ ?_ <;> intro b5 h
 refine kt b5 (Xad ?_)
 iterate 5 refine kO hT hC ?_
 refine Vc.nil (Xah (Xao (Xdj (Xao ?_))))
 obtain rfl := kj h
 exact Xb8 (τ := ⟨[(4, .ptr 2000000 0), (5, .sv (.int .i64 3)), (6, .ptr 2000002 0)], [(16, some (.ints .i64 q1.Seq.Cols)), (17, some (.ints .i64 q1.Seq.Rows)), (2000000, some (.box [.sv (.bool q1.HasSeq), .sv (.bool q1.HasPar), .sv (.bool q1.HasRef), .sv (.int .i64 q1.Seq.Level), .sv (.int .i64 q1.Seq.Bits), .own 16, .own 17, .sv (.int .i64 q1.Par.Qp), .sv (.bool q1.Par.Large), .sv (.bool q1.Par.Exact), .sv (.bool q1.Par.Confined), .sv (.int .i64 q1.Frame), .sv (.int .i64 q1.Got), .sv (.int .i64 q1.Now.Wide), .sv (.int .i64 q1.Now.High), .sv (.str q1.Now.Dots), .sv (.int .i64 q1.Ref.Wide), .sv (.int .i64 q1.Ref.High), .sv (.str q1.Ref.Dots)])), (2000002, some (.box [.sv (.int .i64 0), .sv (.int .i64 0), .sv (.str ⟨#[]⟩)]))]⟩) (kW hC [(16, 272), (17, 273), (2000000, 64), (2000002, 96)]) rfl ⟨rfl, rfl, trivial⟩
 refine kf b5 (Xag (Xae (Xad ?_)))
 refine kC hC [] Tryz.call44 h (fun _ => Yk7) fun q6 h => ?_
 refine kO hT hC ?_
 refine kN ?_
 iterate 2 refine kO hT hC ?_
 refine kN ?_
 iterate 3 refine kO hT hC ?_
 refine kN ?_
 iterate 5 refine kO hT hC ?_
 refine Vc.nil (Xah (Xdj (Xao ?_)))
 obtain rfl := kj h
 exact Xb8 (τ := ⟨[(4, .ptr 2000000 0), (5, .sv (.int .i64 0)), (6, .ptr 2000002 0)], [(16, some (.ints .i64 q4.1.Cols)), (17, some (.ints .i64 q4.1.Rows)), (2000000, some (.box [.sv (.bool true), .sv (.bool q6.HasPar), .sv (.bool q6.HasRef), .sv (.int .i64 q4.1.Level), .sv (.int .i64 q4.1.Bits), .own 16, .own 17, .sv (.int .i64 q6.Par.Qp), .sv (.bool q6.Par.Large), .sv (.bool q6.Par.Exact), .sv (.bool q6.Par.Confined), .sv (.int .i64 q6.Frame), .sv (.int .i64 q6.Got), .sv (.int .i64 q6.Now.Wide), .sv (.int .i64 q6.Now.High), .sv (.str q6.Now.Dots), .sv (.int .i64 q6.Ref.Wide), .sv (.int .i64 q6.Ref.High), .sv (.str q6.Ref.Dots)])), (2000002, some (.box [.sv (.int .i64 0), .sv (.int .i64 0), .sv (.str ⟨#[]⟩)]))]⟩) (kW hC [(16, 608), (17, 609), (2000000, 64), (2000002, 96)]) rfl ⟨rfl, rfl, trivial⟩
 refine kf b3 (Xad ?_)
 iterate 2 refine kO hT hC ?_
 refine Vc.nil ?_
 refine kS h ?_ ?_ <;> intro b6 h
 refine kt b6 (Xad ?_)
 refine kO hT hC ?_
 refine kC hC [] Tryz.call45 h (fun _ => Yhh) fun q7 h => ?_
 iterate 8 refine kO hT hC ?_
 refine Vc.nil (Xap ?_)
 refine kL [2,4,6,8,13,14,15] [32,64,96,208,272,273] [_,_,_,_,_,_,_] [_,_,_,_,_,_] ?_
 refine kA h (fun v8 => ([(73, .sv (.bool v8)), (8, .any), (14, .any), (15, .any)], [])) (fun v8 h => ?_) fun v8 h => ?_
 refine Xac ?_
 iterate 3 refine kO hT hC ?_
 refine kS h ?_ ?_ <;> intro b7 h
 iterate 4 refine kI hT hC (kn b7) ?_
 refine kP hC false (kn b7) ?_
 exact Vc.nil kM
 iterate 4 refine kF hC (kn b7) ?_
 refine kP hC true (kn b7) ?_
 exact Vc.nil kM
 refine kS h ?_ ?_ <;> intro b8 h
 refine kt b8 (Xad ?_)
 iterate 5 refine kO hT hC ?_
 refine Vc.nil (Xah (Xao (Xdj (Xao ?_))))
 obtain rfl := kj h
 exact Xb8 (τ := ⟨[(4, .ptr 2000000 0), (5, .sv (.int .i64 3)), (6, .ptr 2000002 0)], [(16, some (.ints .i64 q1.Seq.Cols)), (17, some (.ints .i64 q1.Seq.Rows)), (2000000, some (.box [.sv (.bool q1.HasSeq), .sv (.bool q1.HasPar), .sv (.bool q1.HasRef), .sv (.int .i64 q1.Seq.Level), .sv (.int .i64 q1.Seq.Bits), .own 16, .own 17, .sv (.int .i64 q1.Par.Qp), .sv (.bool q1.Par.Large), .sv (.bool q1.Par.Exact), .sv (.bool q1.Par.Confined), .sv (.int .i64 q1.Frame), .sv (.int .i64 q1.Got), .sv (.int .i64 q1.Now.Wide), .sv (.int .i64 q1.Now.High), .sv (.str q1.Now.Dots), .sv (.int .i64 q1.Ref.Wide), .sv (.int .i64 q1.Ref.High), .sv (.str q1.Ref.Dots)])), (2000002, some (.box [.sv (.int .i64 0), .sv (.int .i64 0), .sv (.str ⟨#[]⟩)]))]⟩) (kW hC [(16, 272), (17, 273), (2000000, 64), (2000002, 96)]) rfl ⟨rfl, rfl, trivial⟩
 refine kf b8 (Xag (Xae (Xap ?_)))
 refine kL [2,4,6,13] [32,64,96,208,272,273] [_,_,_,_] [_,_,_,_,_,_] ?_
 refine kA h (fun v9 => ([(83, .sv (.bool v9))], [])) (fun v9 h => ?_) fun v9 h => ?_
 refine Xac ?_
 iterate 4 refine kO hT hC ?_
 refine kS h ?_ ?_ <;> intro b9 h
 iterate 3 refine kI hT hC (kn b9) ?_
 refine kP hC false (kn b9) ?_
 exact Vc.nil kM
 iterate 3 refine kF hC (kn b9) ?_
 refine kP hC true (kn b9) ?_
 exact Vc.nil kM
 refine kS h ?_ ?_ <;> intro b10 h
 refine kt b10 (Xad ?_)
 iterate 5 refine kO hT hC ?_
 refine Vc.nil (Xah (Xao (Xdj (Xao ?_))))
 obtain rfl := kj h
 exact Xb8 (τ := ⟨[(4, .ptr 2000000 0), (5, .sv (.int .i64 4)), (6, .ptr 2000002 0)], [(16, some (.ints .i64 q1.Seq.Cols)), (17, some (.ints .i64 q1.Seq.Rows)), (2000000, some (.box [.sv (.bool q1.HasSeq), .sv (.bool q1.HasPar), .sv (.bool q1.HasRef), .sv (.int .i64 q1.Seq.Level), .sv (.int .i64 q1.Seq.Bits), .own 16, .own 17, .sv (.int .i64 q1.Par.Qp), .sv (.bool q1.Par.Large), .sv (.bool q1.Par.Exact), .sv (.bool q1.Par.Confined), .sv (.int .i64 q1.Frame), .sv (.int .i64 q1.Got), .sv (.int .i64 q1.Now.Wide), .sv (.int .i64 q1.Now.High), .sv (.str q1.Now.Dots), .sv (.int .i64 q1.Ref.Wide), .sv (.int .i64 q1.Ref.High), .sv (.str q1.Ref.Dots)])), (2000002, some (.box [.sv (.int .i64 0), .sv (.int .i64 0), .sv (.str ⟨#[]⟩)]))]⟩) (kW hC [(16, 272), (17, 273), (2000000, 64), (2000002, 96)]) rfl ⟨rfl, rfl, trivial⟩
 refine kf b10 (Xag (Xae (Xad ?_)))
 iterate 2 refine kO hT hC ?_
 refine kN ?_
 iterate 3 refine kO hT hC ?_
 refine kN ?_
 iterate 5 refine kO hT hC ?_
 refine Vc.nil (Xah (Xdj (Xao ?_)))
 obtain rfl := kj h
 exact Xb8 (τ := ⟨[(4, .ptr 2000000 0), (5, .sv (.int .i64 0)), (6, .ptr 2000002 0)], [(16, some (.ints .i64 q1.Seq.Cols)), (17, some (.ints .i64 q1.Seq.Rows)), (2000000, some (.box [.sv (.bool q1.HasSeq), .sv (.bool true), .sv (.bool q1.HasRef), .sv (.int .i64 q1.Seq.Level), .sv (.int .i64 q1.Seq.Bits), .own 16, .own 17, .sv (.int .i64 q7.1.Qp), .sv (.bool q7.1.Large), .sv (.bool q7.1.Exact), .sv (.bool q7.1.Confined), .sv (.int .i64 q1.Frame), .sv (.int .i64 q1.Got), .sv (.int .i64 q1.Now.Wide), .sv (.int .i64 q1.Now.High), .sv (.str q1.Now.Dots), .sv (.int .i64 q1.Ref.Wide), .sv (.int .i64 q1.Ref.High), .sv (.str q1.Ref.Dots)])), (2000002, some (.box [.sv (.int .i64 0), .sv (.int .i64 0), .sv (.str ⟨#[]⟩)]))]⟩) (kW hC [(16, 272), (17, 273), (2000000, 64), (2000002, 96)]) rfl ⟨rfl, rfl, trivial⟩
 refine kf b6 (Xag (Xaq (Xae (Xad ?_))))
 iterate 4 refine kO hT hC ?_
 refine kC hC [(3, 272), (4, 273)] Tryz.call46 h (fun _ => Xqf) fun q11 h => ?_
 iterate 6 refine kO hT hC ?_
 refine Vc.nil (Xah ?_)
 obtain rfl := kj h
 exact Xb8 (τ := ⟨[(4, .ptr 2000000 0), (5, .sv (.int .i64 q11.2.1)), (6, .ptr 2000002 0)], [(16, some (.ints .i64 q11.2.2.2.Seq.Cols)), (17, some (.ints .i64 q11.2.2.2.Seq.Rows)), (2000000, some (.box [.sv (.bool q11.1.HasSeq), .sv (.bool q11.1.HasPar), .sv (.bool q11.1.HasRef), .sv (.int .i64 q11.1.Seq.Level), .sv (.int .i64 q11.1.Seq.Bits), .own 16, .own 17, .sv (.int .i64 q11.1.Par.Qp), .sv (.bool q11.1.Par.Large), .sv (.bool q11.1.Par.Exact), .sv (.bool q11.1.Par.Confined), .sv (.int .i64 q11.1.Frame), .sv (.int .i64 q11.1.Got), .sv (.int .i64 q11.1.Now.Wide), .sv (.int .i64 q11.1.Now.High), .sv (.str q11.1.Now.Dots), .sv (.int .i64 q11.1.Ref.Wide), .sv (.int .i64 q11.1.Ref.High), .sv (.str q11.1.Ref.Dots)])), (2000002, some (.box [.sv (.int .i64 q11.2.2.1.Wide), .sv (.int .i64 q11.2.2.1.High), .sv (.str q11.2.2.1.Dots)]))]⟩) (kW hC [(16, 272), (17, 273), (2000000, 64), (2000002, 96)]) rfl ⟨rfl, rfl, trivial⟩
def Yi3 (r : Xak) : AV := .agg [.sv (.bool r.HasSeq), .sv (.bool r.HasPar), .sv (.bool r.HasRef), .sv (.int .i64 r.Seq.Level), .sv (.int .i64 r.Seq.Bits), .sv (.ints .i64 r.Seq.Cols), .sv (.ints .i64 r.Seq.Rows), .sv (.int .i64 r.Par.Qp), .sv (.bool r.Par.Large), .sv (.bool r.Par.Exact), .sv (.bool r.Par.Confined), .sv (.int .i64 r.Frame), .sv (.int .i64 r.Got), .sv (.int .i64 r.Now.Wide), .sv (.int .i64 r.Now.High), .sv (.str r.Now.Dots), .sv (.int .i64 r.Ref.Wide), .sv (.int .i64 r.Ref.High), .sv (.str r.Ref.Dots)]
def Yi2 (r : Xak) : Xbb := []
theorem Yl3 {r} (h : Xry = some r) : AC Tryz.prog 51 [] [] (Yi3 r) (Yi2 r) := by
 refine Xaf hT Tryz.func51 rfl fun C hC => ?_
 unfold Xry at h
 refine Xad ?_
 refine kO hT hC ?_
 refine kN ?_
 iterate 2 refine kO hT hC ?_
 refine Vc.nil (Xah ?_)
 obtain rfl := kj h
 exact Xb8 (τ := ⟨[(0, .ptr 2000000 0)], [(2000000, some (.box [.sv (.bool false), .sv (.bool false), .sv (.bool false), .sv (.int .i64 0), .sv (.int .i64 0), .sv (.ints .i64 []), .sv (.ints .i64 []), .sv (.int .i64 0), .sv (.bool false), .sv (.bool false), .sv (.bool false), .sv (.int .i64 (-1)), .sv (.int .i64 0), .sv (.int .i64 0), .sv (.int .i64 0), .sv (.str ⟨#[]⟩), .sv (.int .i64 0), .sv (.int .i64 0), .sv (.str ⟨#[]⟩)]))]⟩) (kW hC [(2000000, 0)]) rfl trivial
def Yi1 (r : (Xak × (List Pic) × (List Int))) : AV := .tup [.agg [.sv (.bool r.1.HasSeq), .sv (.bool r.1.HasPar), .sv (.bool r.1.HasRef), .sv (.int .i64 r.1.Seq.Level), .sv (.int .i64 r.1.Seq.Bits), .own 16, .own 17, .sv (.int .i64 r.1.Par.Qp), .sv (.bool r.1.Par.Large), .sv (.bool r.1.Par.Exact), .sv (.bool r.1.Par.Confined), .sv (.int .i64 r.1.Frame), .sv (.int .i64 r.1.Got), .sv (.int .i64 r.1.Now.Wide), .sv (.int .i64 r.1.Now.High), .sv (.str r.1.Now.Dots), .sv (.int .i64 r.1.Ref.Wide), .sv (.int .i64 r.1.Ref.High), .sv (.str r.1.Ref.Dots)], .own 18, .own 19]
def Yi0 (r : (Xak × (List Pic) × (List Int))) : Xbb := [(16, .ints .i64 r.1.Seq.Cols), (17, .ints .i64 r.1.Seq.Rows), (18, .row Yud r.2.1), (19, .ints .i64 r.2.2)]
theorem Yl2 {p0 p1 r} (h : Xh9 p0 p1 = some r) : AC Tryz.prog 24 [.agg [.sv (.bool p0.HasSeq), .sv (.bool p0.HasPar), .sv (.bool p0.HasRef), .sv (.int .i64 p0.Seq.Level), .sv (.int .i64 p0.Seq.Bits), .sv (.ints .i64 p0.Seq.Cols), .sv (.ints .i64 p0.Seq.Rows), .sv (.int .i64 p0.Par.Qp), .sv (.bool p0.Par.Large), .sv (.bool p0.Par.Exact), .sv (.bool p0.Par.Confined), .sv (.int .i64 p0.Frame), .sv (.int .i64 p0.Got), .sv (.int .i64 p0.Now.Wide), .sv (.int .i64 p0.Now.High), .sv (.str p0.Now.Dots), .sv (.int .i64 p0.Ref.Wide), .sv (.int .i64 p0.Ref.High), .sv (.str p0.Ref.Dots)], .sv (Xcw.sv p1)] [] (Yi1 r) (Yi0 r) := by
 refine Xaf hT Tryz.func24 rfl fun C hC => ?_
 unfold Xh9 at h
 refine Xad ?_
 iterate 4 refine kO hT hC ?_
 refine kN ?_
 iterate 2 refine kO hT hC ?_
 refine kN ?_
 iterate 2 refine kO hT hC ?_
 refine kN ?_
 iterate 2 refine kO hT hC ?_
 refine kC hC [(16, 272), (17, 273)] Tryz.call37 h (fun _ => Xtk) fun q1 h => ?_
 iterate 2 refine kO hT hC ?_
 refine Vc.nil (Xap (Xad ?_))
 iterate 3 refine kO hT hC ?_
 refine Vc.nil ?_
 refine kS h ?_ ?_ <;> intro b1 h
 refine kt b1 (Xad ?_)
 iterate 6 refine kO hT hC ?_
 refine Vc.nil (Xah (Xao ?_))
 obtain rfl := kj h
 exact Xb8 (τ := ⟨[(4, .ptr 2000000 0), (5, .own 18), (6, .own 19)], [(16, some (.ints .i64 q1.Cols)), (17, some (.ints .i64 q1.Rows)), (18, some (.row Yud ([] : List Pic))), (19, some (.ints .i64 ([] : List Int))), (2000000, some (.box [.sv (.bool p0.HasSeq), .sv (.bool p0.HasPar), .sv (.bool p0.HasRef), .sv (.int .i64 q1.Level), .sv (.int .i64 q1.Bits), .own 16, .own 17, .sv (.int .i64 p0.Par.Qp), .sv (.bool p0.Par.Large), .sv (.bool p0.Par.Exact), .sv (.bool p0.Par.Confined), .sv (.int .i64 p0.Frame), .sv (.int .i64 p0.Got), .sv (.int .i64 p0.Now.Wide), .sv (.int .i64 p0.Now.High), .sv (.str p0.Now.Dots), .sv (.int .i64 p0.Ref.Wide), .sv (.int .i64 p0.Ref.High), .sv (.str p0.Ref.Dots)]))]⟩) (kW hC [(16, 272), (17, 273), (18, 208), (19, 224), (2000000, 64)]) rfl ⟨rfl, rfl, rfl, rfl, trivial⟩
 refine kf b1 (Xag (Xae (Xap (Xad ?_))))
 refine kO hT hC ?_
 refine Vc.nil ?_
 refine kL [1,2,4,7,8,9] [32,64,208,224,272,273] [_,_,_,_,_,_] [_,_,_,_,_,_] ?_
 refine kX h (fun v5 => ([(9, .sv (.int .i64 v5.1))], [(32, some (.box [.sv (.bool v5.2.1), .sv (.bool v5.2.2.1), .sv (.bool v5.2.2.2.1), .sv (.int .i64 v5.2.2.2.2.1), .sv (.int .i64 v5.2.2.2.2.2.1), .own 272, .own 273, .sv (.int .i64 v5.2.2.2.2.2.2.1), .sv (.bool v5.2.2.2.2.2.2.2.1), .sv (.bool v5.2.2.2.2.2.2.2.2.1), .sv (.bool v5.2.2.2.2.2.2.2.2.2.1), .sv (.int .i64 v5.2.2.2.2.2.2.2.2.2.2.1), .sv (.int .i64 v5.2.2.2.2.2.2.2.2.2.2.2.1), .sv (.int .i64 v5.2.2.2.2.2.2.2.2.2.2.2.2.1), .sv (.int .i64 v5.2.2.2.2.2.2.2.2.2.2.2.2.2.1), .sv (.str v5.2.2.2.2.2.2.2.2.2.2.2.2.2.2.1), .sv (.int .i64 v5.2.2.2.2.2.2.2.2.2.2.2.2.2.2.2.1), .sv (.int .i64 v5.2.2.2.2.2.2.2.2.2.2.2.2.2.2.2.2.1), .sv (.str v5.2.2.2.2.2.2.2.2.2.2.2.2.2.2.2.2.2.1)])), (208, some (.row Yud v5.2.2.2.2.2.2.2.2.2.2.2.2.2.2.2.2.2.2.1)), (224, some (.ints .i64 v5.2.2.2.2.2.2.2.2.2.2.2.2.2.2.2.2.2.2.2.1)), (272, some (.ints .i64 v5.2.2.2.2.2.2.2.2.2.2.2.2.2.2.2.2.2.2.2.2.1)), (273, some (.ints .i64 v5.2.2.2.2.2.2.2.2.2.2.2.2.2.2.2.2.2.2.2.2.2))])) (fun v9 => ([(1, .any), (9, .any)], [(32, some (.box [.sv (.bool v9.1), .sv (.bool v9.2.1), .sv (.bool v9.2.2.1), .sv (.int .i64 v9.2.2.2.1), .sv (.int .i64 v9.2.2.2.2.1), .own 272, .own 273, .sv (.int .i64 v9.2.2.2.2.2.1), .sv (.bool v9.2.2.2.2.2.2.1), .sv (.bool v9.2.2.2.2.2.2.2.1), .sv (.bool v9.2.2.2.2.2.2.2.2.1), .sv (.int .i64 v9.2.2.2.2.2.2.2.2.2.1), .sv (.int .i64 v9.2.2.2.2.2.2.2.2.2.2.1), .sv (.int .i64 v9.2.2.2.2.2.2.2.2.2.2.2.1), .sv (.int .i64 v9.2.2.2.2.2.2.2.2.2.2.2.2.1), .sv (.str v9.2.2.2.2.2.2.2.2.2.2.2.2.2.1), .sv (.int .i64 v9.2.2.2.2.2.2.2.2.2.2.2.2.2.2.1), .sv (.int .i64 v9.2.2.2.2.2.2.2.2.2.2.2.2.2.2.2.1), .sv (.str v9.2.2.2.2.2.2.2.2.2.2.2.2.2.2.2.2.1)])), (208, some (.row Yud v9.2.2.2.2.2.2.2.2.2.2.2.2.2.2.2.2.2.1)), (224, some (.ints .i64 v9.2.2.2.2.2.2.2.2.2.2.2.2.2.2.2.2.2.2.1)), (272, some (.ints .i64 v9.2.2.2.2.2.2.2.2.2.2.2.2.2.2.2.2.2.2.2.1)), (273, some (.ints .i64 v9.2.2.2.2.2.2.2.2.2.2.2.2.2.2.2.2.2.2.2.2))])) (kW hC []) (fun v5 s h => ?_) fun v9 h => ?_
 unfold Xc3 at h
 refine Xap (Xad ?_)
 iterate 4 refine kO hT hC ?_
 refine Vc.nil ?_
 refine kS h ?_ ?_ <;> intro b6 h
 refine kt b6 (Xag (Xae ?_))
 refine kL [1,2,4,7,8,9] [32,64,208,224,272,273] [_,_,_,_,_,_] [_,_,_,_,_,_] ?_
 refine kA h (fun v10 => ([(8, .own 928)], [(32, some (.box [.sv (.bool v10.1), .sv (.bool v10.2.1), .sv (.bool v10.2.2.1), .sv (.int .i64 v10.2.2.2.1), .sv (.int .i64 v10.2.2.2.2.1), .own 929, .own 930, .sv (.int .i64 v10.2.2.2.2.2.1), .sv (.bool v10.2.2.2.2.2.2.1), .sv (.bool v10.2.2.2.2.2.2.2.1), .sv (.bool v10.2.2.2.2.2.2.2.2.1), .sv (.int .i64 v10.2.2.2.2.2.2.2.2.2.1), .sv (.int .i64 v10.2.2.2.2.2.2.2.2.2.2.1), .sv (.int .i64 v10.2.2.2.2.2.2.2.2.2.2.2.1), .sv (.int .i64 v10.2.2.2.2.2.2.2.2.2.2.2.2.1), .sv (.str v10.2.2.2.2.2.2.2.2.2.2.2.2.2.1), .sv (.int .i64 v10.2.2.2.2.2.2.2.2.2.2.2.2.2.2.1), .sv (.int .i64 v10.2.2.2.2.2.2.2.2.2.2.2.2.2.2.2.1), .sv (.str v10.2.2.2.2.2.2.2.2.2.2.2.2.2.2.2.2.1)])), (208, some (.row Yud v10.2.2.2.2.2.2.2.2.2.2.2.2.2.2.2.2.2.1)), (928, some (.ints .i64 v10.2.2.2.2.2.2.2.2.2.2.2.2.2.2.2.2.2.2.1)), (929, some (.ints .i64 v10.2.2.2.2.2.2.2.2.2.2.2.2.2.2.2.2.2.2.2.1)), (930, some (.ints .i64 v10.2.2.2.2.2.2.2.2.2.2.2.2.2.2.2.2.2.2.2.2)), (224, none), (272, none), (273, none)])) (fun v10 h => ?_) fun v10 h => ?_
 refine Xan ?_
 refine Xcq hm ?_
 iterate 3 refine kO hT hC ?_
 refine kQ hT hC h fun h => ?_
 refine kO hT hC ?_
 obtain ⟨q11, hq, h⟩ := Xbo h
 refine Ysx hC [(16, 592), (17, 593)] rfl rfl rfl rfl Tryz.call8 (Xtc hq) rfl (by decide) trivial rfl (.inr ⟨rfl, ⟨trivial, trivial, trivial⟩⟩) rfl ?_
 iterate 9 refine kO hT hC ?_
 refine kD (Xad ?_)
 iterate 2 refine kO hT hC ?_
 refine kN ?_
 iterate 3 refine kO hT hC ?_
 refine kT hT hC h fun h => ?_
 refine kO hT hC ?_
 refine kN ?_
 iterate 3 refine kO hT hC ?_
 refine Vc.nil ?_
 refine kS h ?_ ?_ <;> intro b7 h
 refine kt b7 (Xac ?_)
 iterate 3 refine kO hT hC ?_
 obtain ⟨hq, h⟩ := Xba h
 refine Yf3 hT hC rfl rfl rfl rfl ⟨fun _ _ => rfl, by rw [Yw6]; exact hq⟩ ?_
 rw [Yw6]
 refine kO hT hC ?_
 refine Vc.nil (Xaq ?_)
 obtain rfl := kj h
 exact Xgo (kW hC [(208, 832), (928, 720), (929, 592), (930, 593)])
 refine kf b7 (Xag (Xaq ?_))
 obtain rfl := kj h
 exact Xgo (kW hC [(928, 720), (929, 592), (930, 593)])
 refine Xac ?_
 iterate 3 refine kO hT hC ?_
 refine Vc.nil ?_
 obtain rfl := kj h
 exact Xy0 (kW hC [(224, 928), (272, 929), (273, 930)])
 exact kf b6 (Xas (Xaz ku))
 refine Xae (Xad ?_)
 iterate 6 refine kO hT hC ?_
 refine Vc.nil (Xah ?_)
 obtain rfl := kj h
 exact Xb8 (τ := ⟨[(4, .ptr 2000000 0), (5, .own 18), (6, .own 19)], [(16, some (.ints .i64 v9.2.2.2.2.2.2.2.2.2.2.2.2.2.2.2.2.2.2.2.1)), (17, some (.ints .i64 v9.2.2.2.2.2.2.2.2.2.2.2.2.2.2.2.2.2.2.2.2)), (18, some (.row Yud v9.2.2.2.2.2.2.2.2.2.2.2.2.2.2.2.2.2.1)), (19, some (.ints .i64 v9.2.2.2.2.2.2.2.2.2.2.2.2.2.2.2.2.2.2.1)), (2000000, some (.box [.sv (.bool v9.1), .sv (.bool v9.2.1), .sv (.bool v9.2.2.1), .sv (.int .i64 v9.2.2.2.1), .sv (.int .i64 v9.2.2.2.2.1), .own 16, .own 17, .sv (.int .i64 v9.2.2.2.2.2.1), .sv (.bool v9.2.2.2.2.2.2.1), .sv (.bool v9.2.2.2.2.2.2.2.1), .sv (.bool v9.2.2.2.2.2.2.2.2.1), .sv (.int .i64 v9.2.2.2.2.2.2.2.2.2.1), .sv (.int .i64 v9.2.2.2.2.2.2.2.2.2.2.1), .sv (.int .i64 v9.2.2.2.2.2.2.2.2.2.2.2.1), .sv (.int .i64 v9.2.2.2.2.2.2.2.2.2.2.2.2.1), .sv (.str v9.2.2.2.2.2.2.2.2.2.2.2.2.2.1), .sv (.int .i64 v9.2.2.2.2.2.2.2.2.2.2.2.2.2.2.1), .sv (.int .i64 v9.2.2.2.2.2.2.2.2.2.2.2.2.2.2.2.1), .sv (.str v9.2.2.2.2.2.2.2.2.2.2.2.2.2.2.2.2.1)]))]⟩) (kW hC [(16, 272), (17, 273), (18, 208), (19, 224), (2000000, 64)]) rfl ⟨rfl, rfl, rfl, rfl, trivial⟩
def Yrw (r : Bool) : AV := .sv (.bool r)
def Yrv (r : Bool) : Xbb := []
theorem Ytn {p0 r} (h : Yf6 p0 = some r) : AC Tryz.prog 29 [.sv (.ints .u8 p0)] [] (Yrw r) (Yrv r) := by
 refine Xaf hT Tryz.func29 rfl fun C hC => ?_
 unfold Yf6 at h
 refine Xad ?_
 refine kO hT hC ?_
 refine kN ?_
 iterate 4 refine kO hT hC ?_
 exact Vc.nil (Xah kR)
def Yj0 (r : Xa7) : AV := .ptr 16 0
def Yjz (r : Xa7) : Xbb := [(16, .box [.sv (.ints .u8 r.b_), .sv (.int .i64 r.i_), .sv (.int .i64 r.h_)])]
theorem Xvz {p0 r} (h : Xmm p0 = some r) : AC Tryz.prog 57 [.sv (.ints .u8 p0)] [] (Yj0 r) (Yjz r) := by
 refine Xaf hT Tryz.func57 rfl fun C hC => ?_
 unfold Xmm at h
 refine Xad ?_
 refine kO hT hC ?_
 refine kN ?_
 iterate 4 refine kO hT hC ?_
 refine Vc.nil (Xap (Xad ?_))
 refine kO hT hC ?_
 refine Vc.nil ?_
 refine kL [0,3,4] [] [_,_,_] [] ?_
 refine kX h (fun v3 => ([(3, .sv (.int .i64 v3.1)), (4, .sv (.int .i64 v3.2))], [])) (fun v6 => ([(3, .sv (.int .i64 v6)), (4, .any)], [])) (kW hC []) (fun v3 s h => ?_) fun v6 h => ?_
 unfold Xm1 at h
 refine Xap ?_
 refine kL [0,3,4] [] [_,_,_] [] ?_
 refine kA h (fun v7 => ([(15, .sv (.bool v7))], [])) (fun v7 h => ?_) fun v7 h => ?_
 refine Xac ?_
 iterate 5 refine kO hT hC ?_
 refine kS h ?_ ?_ <;> intro b5 h
 iterate 2 refine kI hT hC b5 ?_
 refine kP hC true b5 ?_
 exact Vc.nil kM
 iterate 2 refine kF hC b5 ?_
 refine kP hC false b5 ?_
 exact Vc.nil kM
 refine kS h ?_ ?_ <;> intro b6 h
 refine kt b6 (Xag (Xae (Xap (Xan (Xac ?_)))))
 iterate 4 refine kO hT hC ?_
 refine kQ hT hC h fun h => ?_
 iterate 6 refine kO hT hC ?_
 refine Vc.nil (Xaq (Xae (Xac ?_)))
 iterate 3 refine kO hT hC ?_
 exact Vc.nil kG
 exact kf b6 (Xas (Xaz ku))
 refine Xae (Xad ?_)
 iterate 5 refine kO hT hC ?_
 refine Vc.nil (Xah ?_)
 obtain rfl := kj h
 exact Xb8 (τ := ⟨[(2, .ptr 16 0)], [(16, some (.box [.sv (.ints .u8 p0), .sv (.int .i64 0), .sv (.int .i64 v6)]))]⟩) (kW hC [(16, 496)]) rfl ⟨rfl, trivial⟩
def Yev (r : (Int × Xa7)) : AV := .sv (.int .i64 r.1)
def Yeu (r : (Int × Xa7)) : Xbb := [(0, .box [.sv (.ints .u8 r.2.b_), .sv (.int .i64 r.2.i_), .sv (.int .i64 r.2.h_)])]
theorem Xgd {p0 r} (h : Xek p0 = some r) : AC Tryz.prog 58 [.ptr 0 0] [(0, .box [.sv (.ints .u8 p0.b_), .sv (.int .i64 p0.i_), .sv (.int .i64 p0.h_)])] (Yev r) (Yeu r) := by
 refine Xaf hT Tryz.func58 rfl fun C hC => ?_
 unfold Xek at h
 refine Xad ?_
 refine kO hT hC ?_
 refine kN ?_
 iterate 10 refine kO hT hC ?_
 refine Vc.nil ?_
 refine Xcq hm ?_
 iterate 4 refine kO hT hC ?_
 refine kQ hT hC h fun h => ?_
 iterate 4 refine kO hT hC ?_
 refine kQ hT hC h fun h => ?_
 iterate 3 refine kO hT hC ?_
 refine kD ?_
 refine kL [0,3] [0] [_,_] [_] ?_
 refine kA h (fun v1 => ([(3, .sv (.int .i64 v1.1)), (0, .any)], [(0, some (.box [.sv (.ints .u8 p0.b_), .sv (.int .i64 v1.2), .sv (.int .i64 (Xaa .i64 ((Xaa .i64 (p0.h_ * 6364136223846793005)) + 1442695040888963407)))]))])) (fun v1 h => ?_) fun v1 h => ?_
 refine Xcq hm ?_
 iterate 10 refine kO hT hC ?_
 refine kD ?_
 refine kS h ?_ ?_ <;> intro b1 h
 refine kt b1 ?_
 refine Xcq hm ?_
 iterate 9 refine kO hT hC ?_
 refine kQ hT hC h fun h => ?_
 iterate 5 refine kO hT hC ?_
 refine kD (Xac ?_)
 iterate 9 refine kO hT hC ?_
 exact Vc.nil kM
 exact kf b1 (Xag kM)
 refine Xad ?_
 iterate 2 refine kO hT hC ?_
 refine Vc.nil (Xah ?_)
 obtain rfl := kj h
 exact Xb8 (Xiz.refl _) rfl ⟨rfl, trivial⟩
def Ybs (r : (Int × Xa7)) : AV := .sv (.int .i64 r.1)
def Ybr (r : (Int × Xa7)) : Xbb := [(0, .box [.sv (.ints .u8 r.2.b_), .sv (.int .i64 r.2.i_), .sv (.int .i64 r.2.h_)])]
theorem Xa2 {p0 p1 r} (h : Xay p0 p1 = some r) : AC Tryz.prog 59 [.ptr 0 0, .sv (.int .i64 p1)] [(0, .box [.sv (.ints .u8 p0.b_), .sv (.int .i64 p0.i_), .sv (.int .i64 p0.h_)])] (Ybs r) (Ybr r) := by
 refine Xaf hT Tryz.func59 rfl fun C hC => ?_
 unfold Xay at h
 refine Xad ?_
 refine kO hT hC ?_
 refine Vc.nil (Xap (Xad ?_))
 iterate 2 refine kO hT hC ?_
 refine Vc.nil ?_
 refine kS h ?_ ?_ <;> intro b1 h
 refine kt b1 (Xad ?_)
 refine kO hT hC ?_
 refine Vc.nil (Xah (Xao ?_))
 obtain rfl := kj h
 exact Xb8 (Xiz.refl _) rfl ⟨rfl, trivial⟩
 refine kf b1 (Xag (Xae (Xap (Xad ?_))))
 iterate 2 refine kO hT hC ?_
 refine Vc.nil ?_
 refine kS h ?_ ?_ <;> intro b2 h
 refine kt b2 (Xad ?_)
 refine kO hT hC ?_
 refine kC hC [(0, 0)] Tryz.call58 h (fun _ => Xgd) fun q1 h => ?_
 refine kO hT hC ?_
 refine kQ hT hC h fun h => ?_
 refine kO hT hC ?_
 refine Vc.nil (Xah (Xao ?_))
 obtain rfl := kj h
 exact Xb8 (Xiz.refl _) rfl ⟨rfl, trivial⟩
 refine kf b2 (Xag (Xae (Xad ?_)))
 refine kO hT hC ?_
 refine kC hC [(0, 0)] Tryz.call58 h (fun _ => Xgd) fun q2 h => ?_
 refine kO hT hC ?_
 refine kN ?_
 refine kO hT hC ?_
 refine kC hC [(0, 0)] Tryz.call58 h (fun _ => Xgd) fun q3 h => ?_
 refine kO hT hC ?_
 refine kN ?_
 refine kO hT hC ?_
 refine kC hC [(0, 0)] Tryz.call58 h (fun _ => Xgd) fun q4 h => ?_
 refine kO hT hC ?_
 refine kN ?_
 refine kO hT hC ?_
 refine kC hC [(0, 0)] Tryz.call58 h (fun _ => Xgd) fun q5 h => ?_
 refine kO hT hC ?_
 refine kN ?_
 iterate 11 refine kO hT hC ?_
 refine kQ hT hC h fun h => ?_
 refine kO hT hC ?_
 refine Vc.nil (Xah ?_)
 obtain rfl := kj h
 exact Xb8 (Xiz.refl _) rfl ⟨rfl, trivial⟩
def Yez (r : (Bool × Xa7)) : AV := .sv (.bool r.1)
def Yey (r : (Bool × Xa7)) : Xbb := [(0, .box [.sv (.ints .u8 r.2.b_), .sv (.int .i64 r.2.i_), .sv (.int .i64 r.2.h_)])]
theorem Xdb {p0 p1 r} (h : Xbt p0 p1 = some r) : AC Tryz.prog 130 [.ptr 0 0, .sv (.int .i64 p1)] [(0, .box [.sv (.ints .u8 p0.b_), .sv (.int .i64 p0.i_), .sv (.int .i64 p0.h_)])] (Yez r) (Yey r) := by
 refine Xaf hT Tryz.func130 rfl fun C hC => ?_
 unfold Xbt at h
 refine Xad ?_
 refine kO hT hC ?_
 refine kN ?_
 iterate 2 refine kO hT hC ?_
 refine kC hC [(0, 0)] Tryz.call59 h (fun _ => Xa2) fun q1 h => ?_
 iterate 2 refine kO hT hC ?_
 refine Vc.nil (Xah ?_)
 obtain rfl := kj h
 exact Xb8 (Xiz.refl _) rfl ⟨rfl, trivial⟩
def Xu7 (r : (Par × Xa7)) : AV := .agg [.sv (.int .i64 r.1.Qp), .sv (.bool r.1.Large), .sv (.bool r.1.Exact), .sv (.bool r.1.Confined)]
def Xu6 (r : (Par × Xa7)) : Xbb := [(0, .box [.sv (.ints .u8 r.2.b_), .sv (.int .i64 r.2.i_), .sv (.int .i64 r.2.h_)])]
theorem Xw8 {p0 r} (h : Xha p0 = some r) : AC Tryz.prog 131 [.ptr 0 0] [(0, .box [.sv (.ints .u8 p0.b_), .sv (.int .i64 p0.i_), .sv (.int .i64 p0.h_)])] (Xu7 r) (Xu6 r) := by
 refine Xaf hT Tryz.func131 rfl fun C hC => ?_
 unfold Xha at h
 refine Xad ?_
 refine kO hT hC ?_
 refine kN ?_
 refine kO hT hC ?_
 refine kC hC [(0, 0)] Tryz.call59 h (fun _ => Xa2) fun q1 h => ?_
 refine kO hT hC ?_
 refine kC hC [(0, 0)] Tryz.call130 h (fun _ => Xdb) fun q2 h => ?_
 iterate 4 refine kO hT hC ?_
 refine Vc.nil ?_
 refine kL [0,2,3] [0,32,48] [_,_,_] [_,_,_] ?_
 refine kA h (fun v3 => ([(0, .any)], [(0, some (.box [.sv (.ints .u8 v3.2.2.1), .sv (.int .i64 v3.2.2.2.1), .sv (.int .i64 v3.2.2.2.2)])), (48, some (.box [.sv (.int .i64 q1.1), .sv (.bool v3.1), .sv (.bool v3.2.1), .sv (.bool (!q2.1))]))])) (fun v3 h => ?_) fun v3 h => ?_
 refine Xad ?_
 refine kO hT hC ?_
 refine kC hC [(0, 0)] Tryz.call59 h (fun _ => Xa2) fun q4 h => ?_
 refine Vc.nil (Xan (Xad ?_))
 iterate 2 refine kO hT hC ?_
 refine Vc.nil ?_
 refine kS h ?_ ?_ <;> intro b1 h
 refine kt b1 (Xac ?_)
 iterate 2 refine kO hT hC ?_
 exact Vc.nil (Xaq kM)
 refine kf b1 (Xad ?_)
 iterate 2 refine kO hT hC ?_
 refine Vc.nil ?_
 refine kS h ?_ ?_ <;> intro b2 h
 refine kt b2 (Xac ?_)
 iterate 2 refine kO hT hC ?_
 exact Vc.nil (Xaq kM)
 exact kf b2 (Xag (Xaq kM))
 refine Xad ?_
 iterate 2 refine kO hT hC ?_
 refine Vc.nil (Xah ?_)
 obtain rfl := kj h
 exact Xb8 (Xiz.refl _) rfl ⟨rfl, trivial⟩
def Ymy (r : ByteArray) : AV := .sv (.str r)
def Ymx (r : ByteArray) : Xbb := []
theorem Xeg {p0 r} (h : Xd6 p0 = some r) : AC Tryz.prog 167 [.sv (.int .i64 p0)] [] (Ymy r) (Ymx r) := by
 refine Xaf hT Tryz.func167 rfl fun C hC => ?_
 unfold Xd6 at h
 refine Xad ?_
 refine kO hT hC ?_
 refine kN ?_
 iterate 3 refine kO hT hC ?_
 refine kN ?_
 refine kO hT hC ?_
 refine Vc.nil (Xap ?_)
 refine kL [3,4] [] [_,_] [] ?_
 refine kX h (fun v2 => ([(3, .sv (.int .i64 v2.1)), (4, .sv (.str v2.2))], [])) (fun v4 => ([(4, .sv (.str v4)), (3, .any)], [])) (kW hC []) (fun v2 s h => ?_) fun v4 h => ?_
 unfold Xjg at h
 refine Xap (Xad ?_)
 iterate 2 refine kO hT hC ?_
 refine Vc.nil ?_
 refine kS h ?_ ?_ <;> intro b3 h
 refine kt b3 (Xag (Xae (Xan (Xad ?_))))
 refine kO hT hC ?_
 refine kQ hT hC h fun h => ?_
 iterate 5 refine kO hT hC ?_
 refine kQ hT hC h fun h => ?_
 refine kO hT hC ?_
 refine Vc.nil (Xac ?_)
 refine kO hT hC ?_
 refine kQ hT hC h fun h => ?_
 refine kO hT hC ?_
 exact Vc.nil (Xaq kG)
 exact kf b3 (Xas (Xaz ku))
 refine Xae (Xad ?_)
 iterate 3 refine kO hT hC ?_
 refine kC hC [] Tryz.call154 h (fun _ => Xtg) fun q6 h => ?_
 refine kO hT hC ?_
 refine kQ hT hC h fun h => ?_
 refine kO hT hC ?_
 exact Vc.nil (Xah kR)
def Ye9 (r : ByteArray) : AV := .sv (.str r)
def Ye8 (r : ByteArray) : Xbb := []
theorem Xtl {p0 r} (h : Xk0 p0 = some r) : AC Tryz.prog 168 [.sv (.ints .i64 p0)] [] (Ye9 r) (Ye8 r) := by
 refine Xaf hT Tryz.func168 rfl fun C hC => ?_
 unfold Xk0 at h
 refine Xad ?_
 refine kO hT hC ?_
 refine kN ?_
 iterate 2 refine kO hT hC ?_
 refine kC hC [] Tryz.call167 h (fun _ => Xeg) fun q1 h => ?_
 refine kO hT hC ?_
 refine Vc.nil (Xap (Xad ?_))
 refine kO hT hC ?_
 refine Vc.nil ?_
 refine kL [0,3,4] [] [_,_,_] [] ?_
 refine kX h (fun v4 => ([(3, .sv (.str v4.1)), (4, .sv (.int .i64 v4.2))], [])) (fun v7 => ([(3, .sv (.str v7)), (0, .any), (4, .any)], [])) (kW hC []) (fun v4 s h => ?_) fun v7 h => ?_
 unfold Xin at h
 refine Xap (Xad ?_)
 iterate 4 refine kO hT hC ?_
 refine Vc.nil ?_
 refine kS h ?_ ?_ <;> intro b3 h
 refine kt b3 (Xag (Xae (Xap (Xan (Xac ?_)))))
 iterate 3 refine kO hT hC ?_
 refine kQ hT hC h fun h => ?_
 refine kO hT hC ?_
 refine kC hC [] Tryz.call167 h (fun _ => Xeg) fun q8 h => ?_
 refine kQ hT hC h fun h => ?_
 refine kO hT hC ?_
 refine Vc.nil (Xaq (Xae (Xac ?_)))
 iterate 3 refine kO hT hC ?_
 exact Vc.nil kG
 exact kf b3 (Xas (Xaz ku))
 refine Xae (Xad ?_)
 iterate 2 refine kO hT hC ?_
 exact Vc.nil (Xah kR)
def Yj6 (r : ByteArray) : AV := .sv (.str r)
def Yj5 (r : ByteArray) : Xbb := []
theorem Ym1 {p0 r} (h : Xpd p0 = some r) : AC Tryz.prog 133 [.agg [.sv (.int .i64 p0.Level), .sv (.int .i64 p0.Bits), .sv (.ints .i64 p0.Cols), .sv (.ints .i64 p0.Rows)]] [] (Yj6 r) (Yj5 r) := by
 refine Xaf hT Tryz.func133 rfl fun C hC => ?_
 unfold Xpd at h
 refine Xad ?_
 iterate 2 refine kO hT hC ?_
 refine Vc.nil ?_
 refine Xcq hm ?_
 iterate 2 refine kO hT hC ?_
 refine kC hC [] Tryz.call167 h (fun _ => Xeg) fun q1 h => ?_
 iterate 2 refine kO hT hC ?_
 refine kC hC [] Tryz.call140 h (fun _ => Xm2) fun q2 h => ?_
 refine kQ hT hC h fun h => ?_
 iterate 2 refine kO hT hC ?_
 refine kC hC [] Tryz.call168 h (fun _ => Xtl) fun q3 h => ?_
 refine kQ hT hC h fun h => ?_
 iterate 2 refine kO hT hC ?_
 refine kC hC [] Tryz.call168 h (fun _ => Xtl) fun q4 h => ?_
 refine kQ hT hC h fun h => ?_
 refine kO hT hC ?_
 exact kD (Xah kR)
def Ybu (r : ByteArray) : AV := .sv (.str r)
def Ybt (r : ByteArray) : Xbb := []
theorem Ye0 {p0 r} (h : Xlw p0 = some r) : AC Tryz.prog 166 [.sv (.str p0)] [] (Ybu r) (Ybt r) := by
 refine Xaf hT Tryz.func166 rfl fun C hC => ?_
 unfold Xlw at h
 refine Xad ?_
 refine kO hT hC ?_
 refine kN ?_
 refine kO hT hC ?_
 refine kQ hT hC h fun h => ?_
 refine kO hT hC ?_
 refine kT hT hC h fun h => ?_
 refine kO hT hC ?_
 refine Vc.nil (Xap ?_)
 refine kL [3] [176] [_] [_] ?_
 refine kX h (fun v2 => ([], [(176, some (.ints .u8 v2))])) (fun v4 => ([], [(176, some (.ints .u8 v4))])) (kW hC []) (fun v2 s h => ?_) fun v4 h => ?_
 unfold Xg9 at h
 refine Xap (Xad ?_)
 iterate 2 refine kO hT hC ?_
 refine kQ hT hC h fun h => ?_
 refine kO hT hC ?_
 refine Vc.nil ?_
 refine kS h ?_ ?_ <;> intro b3 h
 refine kt b3 (Xag (Xae (Xan (Xac ?_))))
 iterate 2 refine kO hT hC ?_
 refine kT hT hC h fun h => ?_
 refine kO hT hC ?_
 refine Vc.nil (Xaq ?_)
 obtain rfl := kj h
 exact Xy0 (kW hC [(176, 288)])
 exact kf b3 (Xas (Xaz ku))
 refine Xae (Xad ?_)
 iterate 2 refine kO hT hC ?_
 refine Vc.nil (Xap (Xad ?_))
 refine kO hT hC ?_
 refine Vc.nil ?_
 refine kL [3,4,5] [176,304] [_,_,_] [_,_] ?_
 refine kX h (fun v12 => ([(5, .sv (.int .i64 v12.1))], [(304, some (.ints .u8 v12.2))])) (fun v19 => ([(3, .any), (5, .any)], [(304, some (.ints .u8 v19)), (176, none)])) (kW hC []) (fun v12 s h => ?_) fun v19 h => ?_
 unfold Xge at h
 refine Xap (Xad ?_)
 iterate 4 refine kO hT hC ?_
 refine Vc.nil ?_
 refine kS h ?_ ?_ <;> intro b12 h
 refine kt b12 (Xag (Xae (Xap (Xan (Xad ?_)))))
 refine kO hT hC ?_
 refine Vc.nil (Xap (Xad ?_))
 refine kO hT hC ?_
 refine Vc.nil ?_
 refine kL [3,4,5,6,7] [176,304] [_,_,_,_,_] [_,_] ?_
 refine kX h (fun v21 => ([(6, .sv (.int .i64 v21.1)), (7, .sv (.int .i64 v21.2))], [])) (fun v23 => ([(6, .sv (.int .i64 v23)), (7, .any)], [])) (kW hC []) (fun v21 s h => ?_) fun v23 h => ?_
 unfold Xeq at h
 refine Xap (Xad ?_)
 iterate 2 refine kO hT hC ?_
 refine Vc.nil ?_
 refine kS h ?_ ?_ <;> intro b15 h
 refine kt b15 (Xag (Xae (Xap (Xan (Xac ?_)))))
 iterate 6 refine kO hT hC ?_
 iterate 2 refine kQ hT hC h fun h => ?_
 iterate 4 refine kO hT hC ?_
 refine Vc.nil (Xaq (Xae (Xac ?_)))
 iterate 3 refine kO hT hC ?_
 exact Vc.nil kG
 exact kf b15 (Xas (Xaz ku))
 refine Xae (Xac ?_)
 iterate 4 refine kO hT hC ?_
 refine kT hT hC h fun h => ?_
 refine kO hT hC ?_
 refine Vc.nil (Xaq (Xae (Xac ?_)))
 iterate 3 refine kO hT hC ?_
 refine Vc.nil ?_
 obtain rfl := kj h
 exact Xy0 (kW hC [(304, 720)])
 exact kf b12 (Xas (Xaz ku))
 refine Xae (Xad ?_)
 iterate 3 refine kO hT hC ?_
 exact Vc.nil (Xah kR)
def Yjy (r : (ByteArray × Bool)) : AV := .tup [.sv (.str r.1), .sv (.bool r.2)]
def Yjx (r : (ByteArray × Bool)) : Xbb := []
theorem Xp8 {p0 p1 r} (h : Xkk p0 p1 = some r) : AC Tryz.prog 132 [.sv (.int .i64 p0), .sv (.str p1)] [] (Yjy r) (Yjx r) := by
 refine Xaf hT Tryz.func132 rfl fun C hC => ?_
 unfold Xkk at h
 refine Xad ?_
 iterate 2 refine kO hT hC ?_
 refine Vc.nil (Xap ?_)
 refine kL [0,1] [] [_,_] [] ?_
 refine kA h (fun v1 => ([(13, .sv (.bool v1))], [])) (fun v1 h => ?_) fun v1 h => ?_
 refine Xac ?_
 refine kO hT hC ?_
 refine kC hC [] Tryz.call102 h (fun _ => Xtp) fun q2 h => ?_
 iterate 2 refine kO hT hC ?_
 refine kS h ?_ ?_ <;> intro b1 h
 refine kI hT hC (kn b1) ?_
 refine kE hC (kn b1) [] Tryz.call141 h (fun _ => Xrz) fun q3 h => ?_
 refine kI hT hC (kn b1) ?_
 refine kP hC false (kn b1) ?_
 exact Vc.nil kM
 iterate 3 refine kF hC (kn b1) ?_
 refine kP hC true (kn b1) ?_
 exact Vc.nil kM
 refine kS h ?_ ?_ <;> intro b2 h
 refine kt b2 (Xad ?_)
 iterate 2 refine kO hT hC ?_
 exact Vc.nil (Xah (Xao kR))
 refine kf b2 (Xag (Xae ?_))
 refine Xcq hm ?_
 iterate 5 refine kO hT hC ?_
 refine kC hC [] Tryz.call166 h (fun _ => Ye0) fun q4 h => ?_
 refine kQ hT hC h fun h => ?_
 iterate 2 refine kO hT hC ?_
 exact kD (Xah kR)
def Ye7 (r : ByteArray) : AV := .sv (.str r)
def Ye6 (r : ByteArray) : Xbb := []
theorem Xo9 {p0 r} (h : Xkz p0 = some r) : AC Tryz.prog 169 [.sv (.bool p0)] [] (Ye7 r) (Ye6 r) := by
 refine Xaf hT Tryz.func169 rfl fun C hC => ?_
 unfold Xkz at h
 refine Xad ?_
 refine kO hT hC ?_
 refine Vc.nil (Xap (Xad ?_))
 refine kO hT hC ?_
 refine Vc.nil ?_
 refine kS h ?_ ?_ <;> intro b1 h
 refine kt b1 (Xad ?_)
 refine kO hT hC ?_
 exact Vc.nil (Xah (Xao kR))
 refine kf b1 (Xag (Xae (Xad ?_)))
 refine kO hT hC ?_
 exact Vc.nil (Xah kR)
def Yj4 (r : ByteArray) : AV := .sv (.str r)
def Yj3 (r : ByteArray) : Xbb := []
theorem Ymz {p0 r} (h : Xpb p0 = some r) : AC Tryz.prog 134 [.agg [.sv (.int .i64 p0.Qp), .sv (.bool p0.Large), .sv (.bool p0.Exact), .sv (.bool p0.Confined)]] [] (Yj4 r) (Yj3 r) := by
 refine Xaf hT Tryz.func134 rfl fun C hC => ?_
 unfold Xpb at h
 refine Xad ?_
 iterate 2 refine kO hT hC ?_
 refine Vc.nil ?_
 refine Xcq hm ?_
 iterate 2 refine kO hT hC ?_
 refine kC hC [] Tryz.call140 h (fun _ => Xm2) fun q1 h => ?_
 iterate 2 refine kO hT hC ?_
 refine kC hC [] Tryz.call169 h (fun _ => Xo9) fun q2 h => ?_
 refine kQ hT hC h fun h => ?_
 iterate 2 refine kO hT hC ?_
 refine kC hC [] Tryz.call169 h (fun _ => Xo9) fun q3 h => ?_
 refine kQ hT hC h fun h => ?_
 iterate 2 refine kO hT hC ?_
 refine kC hC [] Tryz.call169 h (fun _ => Xo9) fun q4 h => ?_
 refine kQ hT hC h fun h => ?_
 refine kO hT hC ?_
 exact kD (Xah kR)
def Yi8 (r : (Int × Bool)) : AV := .tup [.sv (.int .i64 r.1), .sv (.bool r.2)]
def Yi7 (r : (Int × Bool)) : Xbb := []
theorem Yl9 {p0 r} (h : Xo2 p0 = some r) : AC Tryz.prog 220 [.sv (.int .i64 p0)] [] (Yi8 r) (Yi7 r) := by
 refine Xaf hT Tryz.func220 rfl fun C hC => ?_
 unfold Xo2 at h
 refine Xad ?_
 iterate 2 refine kO hT hC ?_
 refine Vc.nil (Xap (Xad ?_))
 refine kO hT hC ?_
 refine kC hC [] Tryz.call136 h (fun _ => Xat) fun q1 h => ?_
 refine kO hT hC ?_
 refine Vc.nil ?_
 refine kS h ?_ ?_ <;> intro b1 h
 refine kt b1 (Xad ?_)
 iterate 2 refine kO hT hC ?_
 exact Vc.nil (Xah (Xao kR))
 refine kf b1 (Xag (Xae (Xap (Xad ?_))))
 iterate 2 refine kO hT hC ?_
 refine Vc.nil ?_
 refine kS h ?_ ?_ <;> intro b2 h
 refine kt b2 (Xad ?_)
 iterate 5 refine kO hT hC ?_
 exact Vc.nil (Xah (Xao kR))
 refine kf b2 (Xag (Xae (Xad ?_)))
 iterate 4 refine kO hT hC ?_
 exact Vc.nil (Xah kR)
def Ymw (r : ByteArray) : AV := .sv (.str r)
def Ymv (r : ByteArray) : Xbb := []
theorem Xoh {p0 r} (h : Xky p0 = some r) : AC Tryz.prog 196 [.sv (.int .i64 p0)] [] (Ymw r) (Ymv r) := by
 refine Xaf hT Tryz.func196 rfl fun C hC => ?_
 unfold Xky at h
 refine Xad ?_
 refine kO hT hC ?_
 refine kN ?_
 refine kO hT hC ?_
 refine kC hC [] Tryz.call220 h (fun _ => Yl9) fun q1 h => ?_
 iterate 5 refine kO hT hC ?_
 refine kN ?_
 refine kO hT hC ?_
 refine kC hC [] Tryz.call167 h (fun _ => Xeg) fun q2 h => ?_
 refine kO hT hC ?_
 exact Vc.nil (Xah kR)
def Yem (r : (ByteArray × Bool)) : AV := .tup [.sv (.str r.1), .sv (.bool r.2)]
def Yel (r : (ByteArray × Bool)) : Xbb := []
theorem Yjd {p0 p1 p2 r} (h : Xno p0 p1 p2 = some r) : AC Tryz.prog 170 [.agg [.sv (.int .i64 p0.Level), .sv (.int .i64 p0.Bits), .sv (.ints .i64 p0.Cols), .sv (.ints .i64 p0.Rows)], .agg [.sv (.int .i64 p1.Qp), .sv (.bool p1.Large), .sv (.bool p1.Exact), .sv (.bool p1.Confined)], .agg [.sv (.int .i64 p2.Tile), .sv (.int .i64 p2.Frame), .sv (.int .i64 p2.Qp)]] [] (Yem r) (Yel r) := by
 refine Xaf hT Tryz.func170 rfl fun C hC => ?_
 unfold Xno at h
 refine Xad ?_
 iterate 5 refine kO hT hC ?_
 refine Vc.nil (Xap (Xad ?_))
 iterate 3 refine kO hT hC ?_
 refine kC hC [] Tryz.call143 h (fun _ => Xvq) fun q1 h => ?_
 refine kO hT hC ?_
 refine Vc.nil ?_
 refine kS h ?_ ?_ <;> intro b1 h
 refine kt b1 (Xad ?_)
 iterate 2 refine kO hT hC ?_
 exact Vc.nil (Xah (Xao kR))
 refine kf b1 (Xag (Xae ?_))
 refine Xcq hm ?_
 iterate 2 refine kO hT hC ?_
 refine kC hC [] Tryz.call167 h (fun _ => Xeg) fun q2 h => ?_
 iterate 4 refine kO hT hC ?_
 refine kC hC [] Tryz.call140 h (fun _ => Xm2) fun q3 h => ?_
 refine kQ hT hC h fun h => ?_
 iterate 5 refine kO hT hC ?_
 refine kC hC [] Tryz.call196 h (fun _ => Xoh) fun q4 h => ?_
 refine kQ hT hC h fun h => ?_
 iterate 2 refine kO hT hC ?_
 exact kD (Xah kR)
def Xzw (r : ((List Int) × Xa7)) : AV := .own 16
def Xzv (r : ((List Int) × Xa7)) : Xbb := [(16, .ints .i64 r.1), (0, .box [.sv (.ints .u8 r.2.b_), .sv (.int .i64 r.2.i_), .sv (.int .i64 r.2.h_)])]
theorem Xq2 {p0 p1 r} (h : Xhk p0 p1 = some r) : AC Tryz.prog 222 [.ptr 0 0, .sv (.int .i64 p1)] [(0, .box [.sv (.ints .u8 p0.b_), .sv (.int .i64 p0.i_), .sv (.int .i64 p0.h_)])] (Xzw r) (Xzv r) := by
 refine Xaf hT Tryz.func222 rfl fun C hC => ?_
 unfold Xhk at h
 refine Xad ?_
 refine kO hT hC ?_
 refine kN ?_
 refine kO hT hC ?_
 obtain ⟨hq, h⟩ := Xba h
 refine Yf3 hT hC rfl rfl rfl rfl ⟨hq.1, hq.2.1, hq.2.2, by decide⟩ ?_
 refine kO hT hC ?_
 refine Vc.nil (Xap (Xad ?_))
 refine kO hT hC ?_
 refine Vc.nil ?_
 refine kL [0,1,5,6] [0,144] [_,_,_,_] [_,_] ?_
 refine kX h (fun v11 => ([(6, .sv (.int .i64 v11.1))], [(0, some (.box [.sv (.ints .u8 v11.2.1), .sv (.int .i64 v11.2.2.1), .sv (.int .i64 v11.2.2.2.1)])), (144, some (.ints .i64 v11.2.2.2.2))])) (fun v22 => ([(0, .any), (1, .any), (6, .any)], [(0, some (.box [.sv (.ints .u8 v22.2.1), .sv (.int .i64 v22.2.2.1), .sv (.int .i64 v22.2.2.2)])), (144, some (.ints .i64 v22.1))])) (kW hC []) (fun v11 s h => ?_) fun v22 h => ?_
 unfold Xjh at h
 refine Xap ?_
 refine kL [0,1,5,6] [0,144] [_,_,_,_] [_,_] ?_
 refine kA h (fun v23 => ([(17, .sv (.bool v23.1))], [(0, some (.box [.sv (.ints .u8 v23.2.1), .sv (.int .i64 v23.2.2.1), .sv (.int .i64 v23.2.2.2)]))])) (fun v23 h => ?_) fun v23 h => ?_
 refine Xac ?_
 iterate 2 refine kO hT hC ?_
 refine kC hC [(0, 0)] Tryz.call59 h (fun _ => Xa2) fun q24 h => ?_
 iterate 2 refine kO hT hC ?_
 refine kS h ?_ ?_ <;> intro b9 h
 iterate 2 refine kI hT hC b9 ?_
 refine kP hC true b9 ?_
 exact Vc.nil kM
 iterate 2 refine kF hC b9 ?_
 refine kP hC false b9 ?_
 exact Vc.nil kM
 refine kS h ?_ ?_ <;> intro b10 h
 refine kt b10 (Xag (Xae ?_))
 refine kL [0,1,5,6] [0,144] [_,_,_,_] [_,_] ?_
 refine kA h (fun v25 => ([], [(0, some (.box [.sv (.ints .u8 v25.1), .sv (.int .i64 v25.2.1), .sv (.int .i64 v25.2.2.1)])), (144, some (.ints .i64 v25.2.2.2))])) (fun v25 h => ?_) fun v25 h => ?_
 refine Xan (Xad ?_)
 iterate 2 refine kO hT hC ?_
 refine kC hC [(0, 0)] Tryz.call59 h (fun _ => Xa2) fun q26 h => ?_
 refine kO hT hC ?_
 refine Vc.nil ?_
 refine kL [0,1,5,6,7] [0,144] [_,_,_,_,_] [_,_] ?_
 refine kA h (fun v27 => ([(7, .sv (.int .i64 v27.1))], [(0, some (.box [.sv (.ints .u8 v27.2.1), .sv (.int .i64 v27.2.2.1), .sv (.int .i64 v27.2.2.2)]))])) (fun v27 h => ?_) fun v27 h => ?_
 refine Xad ?_
 refine kO hT hC ?_
 refine kC hC [(0, 0)] Tryz.call130 h (fun _ => Xdb) fun q28 h => ?_
 refine Vc.nil ?_
 refine kS h ?_ ?_ <;> intro b11 h
 refine kt b11 (Xac ?_)
 refine kO hT hC ?_
 refine kQ hT hC h fun h => ?_
 refine kO hT hC ?_
 exact Vc.nil kM
 exact kf b11 (Xag kM)
 refine Xad ?_
 iterate 3 refine kO hT hC ?_
 refine kC hC [(0, 0)] Tryz.call59 h (fun _ => Xa2) fun q29 h => ?_
 refine kO hT hC ?_
 iterate 2 refine kQ hT hC h fun h => ?_
 refine kN ?_
 refine kO hT hC ?_
 refine kC hC [(0, 0)] Tryz.call130 h (fun _ => Xdb) fun q30 h => ?_
 refine Vc.nil ?_
 refine kS h ?_ ?_ <;> intro b12 h
 refine kt b12 (Xac ?_)
 iterate 3 refine kO hT hC ?_
 refine kC hC [(0, 0)] Tryz.call59 h (fun _ => Xa2) fun q31 h => ?_
 refine kO hT hC ?_
 iterate 2 refine kQ hT hC h fun h => ?_
 exact Vc.nil (Xaq kM)
 exact kf b12 (Xag (Xaq kM))
 refine Xac ?_
 iterate 3 refine kO hT hC ?_
 exact Vc.nil kG
 exact kf b10 (Xas (Xaz ku))
 refine Xae (Xad ?_)
 iterate 2 refine kO hT hC ?_
 refine Vc.nil (Xah ?_)
 obtain rfl := kj h
 exact Xb8 (τ := ⟨[(4, .own 16)], [(16, some (.ints .i64 v22.1)), (0, some (.box [.sv (.ints .u8 v22.2.1), .sv (.int .i64 v22.2.2.1), .sv (.int .i64 v22.2.2.2)]))]⟩) (kW hC [(16, 144)]) rfl ⟨rfl, rfl, trivial⟩
def Xz2 (r : (Xar × Xa7)) : AV := .agg [.sv (.int .i64 r.1.Kind), .sv (.int .i64 r.1.Mode), .sv (.int .i64 r.1.Dx), .sv (.int .i64 r.1.Dy), .own 16]
def Xz1 (r : (Xar × Xa7)) : Xbb := [(16, .ints .i64 r.1.Levels), (0, .box [.sv (.ints .u8 r.2.b_), .sv (.int .i64 r.2.i_), .sv (.int .i64 r.2.h_)])]
theorem Ybx {p0 p1 r} (h : Xj3 p0 p1 = some r) : AC Tryz.prog 198 [.ptr 0 0, .agg [.sv (.bool p1.Key), .sv (.int .i64 p1.Qp), .sv (.bool p1.Large), .sv (.bool p1.Exact)]] [(0, .box [.sv (.ints .u8 p0.b_), .sv (.int .i64 p0.i_), .sv (.int .i64 p0.h_)])] (Xz2 r) (Xz1 r) := by
 refine Xaf hT Tryz.func198 rfl fun C hC => ?_
 unfold Xj3 at h
 refine Xad ?_
 iterate 2 refine kO hT hC ?_
 refine Vc.nil (Xap ?_)
 refine kL [0,3,4] [0,48,64] [_,_,_] [_,_,_] ?_
 refine kA h (fun v1 => ([(12, .sv (.bool v1.1))], [(0, some (.box [.sv (.ints .u8 v1.2.1), .sv (.int .i64 v1.2.2.1), .sv (.int .i64 v1.2.2.2)]))])) (fun v1 h => ?_) fun v1 h => ?_
 refine Xac ?_
 iterate 4 refine kO hT hC ?_
 refine kS h ?_ ?_ <;> intro b1 h
 iterate 2 refine kF hC (kn b1) ?_
 refine kP hC false (kn b1) ?_
 exact Vc.nil kM
 refine kI hT hC (kn b1) ?_
 refine kE hC (kn b1) [(0, 0)] Tryz.call130 h (fun _ => Xdb) fun q2 h => ?_
 refine kP hC true (kn b1) ?_
 exact Vc.nil kM
 refine kS h ?_ ?_ <;> intro b2 h
 refine kt b2 (Xad ?_)
 iterate 2 refine kO hT hC ?_
 refine Vc.nil (Xah (Xao ?_))
 obtain rfl := kj h
 refine Xb8 (τ := ⟨[(4, .ptr 2000000 0)], [(16, some (.ints .i64 [])), (0, some (.box [.sv (.ints .u8 v1.2.1), .sv (.int .i64 v1.2.2.1), .sv (.int .i64 v1.2.2.2)])), (2000000, some (.box [.sv (.int .i64 0), .sv (.int .i64 0), .sv (.int .i64 0), .sv (.int .i64 0), .own 16]))]⟩) ?_ rfl ⟨rfl, rfl, trivial⟩
 refine Xgs hC 64 4 689 (.ints .i64 []) rfl rfl rfl rfl rfl trivial ?_
 apply Xcj hC [(16, 689), (2000000, 64)]
 exact co
 rfl
 decide
 rfl
 refine kf b2 (Xag (Xae (Xap ?_)))
 refine kL [0,3,4] [0,48,64] [_,_,_] [_,_,_] ?_
 refine kA h (fun v3 => ([(20, .sv (.bool v3.1)), (3, .any)], [(0, some (.box [.sv (.ints .u8 v3.2.1), .sv (.int .i64 v3.2.2.1), .sv (.int .i64 v3.2.2.2)])), (48, none)])) (fun v3 h => ?_) fun v3 h => ?_
 refine Xac ?_
 iterate 4 refine kO hT hC ?_
 refine kS h ?_ ?_ <;> intro b3 h
 iterate 2 refine kF hC (kn b3) ?_
 refine kP hC false (kn b3) ?_
 exact Vc.nil kM
 refine kI hT hC (kn b3) ?_
 refine kE hC (kn b3) [(0, 0)] Tryz.call130 h (fun _ => Xdb) fun q4 h => ?_
 refine kP hC true (kn b3) ?_
 exact Vc.nil kM
 refine kS h ?_ ?_ <;> intro b4 h
 refine kt b4 (Xad ?_)
 refine kO hT hC ?_
 refine kC hC [(0, 0)] Tryz.call59 h (fun _ => Xa2) fun q5 h => ?_
 iterate 2 refine kO hT hC ?_
 refine kC hC [(0, 0)] Tryz.call59 h (fun _ => Xa2) fun q6 h => ?_
 iterate 2 refine kO hT hC ?_
 refine kC hC [(16, 448), (0, 0)] Tryz.call222 h (fun _ => Xq2) fun q7 h => ?_
 iterate 3 refine kO hT hC ?_
 refine Vc.nil ?_
 refine kL [0,4,5] [0,64,80,448] [_,_,_] [_,_,_,_] ?_
 refine kA h (fun v8 => ([(0, .any)], [(0, some (.box [.sv (.ints .u8 v8.2.1), .sv (.int .i64 v8.2.2.1), .sv (.int .i64 v8.2.2.2)])), (80, some (.box [.sv (.int .i64 1), .sv (.int .i64 0), .sv (.int .i64 v8.1), .sv (.int .i64 (Xaa .i64 (q6.1 - 3))), .own 448]))])) (fun v8 h => ?_) fun v8 h => ?_
 refine Xad ?_
 refine kO hT hC ?_
 refine kC hC [(0, 0)] Tryz.call130 h (fun _ => Xdb) fun q9 h => ?_
 refine Vc.nil ?_
 refine kS h ?_ ?_ <;> intro b5 h
 refine kt b5 (Xac ?_)
 refine kO hT hC ?_
 refine kC hC [(0, 0)] Tryz.call59 h (fun _ => Xa2) fun q10 h => ?_
 iterate 3 refine kO hT hC ?_
 exact Vc.nil kM
 exact kf b5 (Xag kM)
 refine Xad ?_
 iterate 2 refine kO hT hC ?_
 refine Vc.nil (Xah (Xao ?_))
 obtain rfl := kj h
 exact Xb8 (τ := ⟨[(4, .ptr 2000000 0)], [(16, some (.ints .i64 q7.1)), (0, some (.box [.sv (.ints .u8 v8.2.1), .sv (.int .i64 v8.2.2.1), .sv (.int .i64 v8.2.2.2)])), (2000000, some (.box [.sv (.int .i64 1), .sv (.int .i64 0), .sv (.int .i64 v8.1), .sv (.int .i64 (Xaa .i64 (q6.1 - 3))), .own 16]))]⟩) (kW hC [(16, 448), (2000000, 64)]) rfl ⟨rfl, rfl, trivial⟩
 refine kf b4 (Xag (Xae (Xad ?_)))
 refine kO hT hC ?_
 refine kC hC [(0, 0)] Tryz.call59 h (fun _ => Xa2) fun q11 h => ?_
 refine kO hT hC ?_
 refine kC hC [(16, 640), (0, 0)] Tryz.call222 h (fun _ => Xq2) fun q12 h => ?_
 iterate 2 refine kO hT hC ?_
 refine Vc.nil (Xah ?_)
 obtain rfl := kj h
 exact Xb8 (τ := ⟨[(4, .ptr 2000000 0)], [(16, some (.ints .i64 q12.1)), (0, some (.box [.sv (.ints .u8 q12.2.b_), .sv (.int .i64 q12.2.i_), .sv (.int .i64 q12.2.h_)])), (2000000, some (.box [.sv (.int .i64 2), .sv (.int .i64 q11.1), .sv (.int .i64 0), .sv (.int .i64 0), .own 16]))]⟩) (kW hC [(16, 640), (2000000, 64)]) rfl ⟨rfl, rfl, trivial⟩
def Xxf (r : ((List Xar) × Xa7)) : AV := .own 16
def Xxe (r : ((List Xar) × Xa7)) : Xbb := [(16, .row Xc2 r.1), (0, .box [.sv (.ints .u8 r.2.b_), .sv (.int .i64 r.2.i_), .sv (.int .i64 r.2.h_)])]
theorem Xz3 {p0 p1 p2 r} (h : Xiw p0 p1 p2 = some r) : AC Tryz.prog 172 [.ptr 0 0, .sv (.int .i64 p1), .agg [.sv (.bool p2.Key), .sv (.int .i64 p2.Qp), .sv (.bool p2.Large), .sv (.bool p2.Exact)]] [(0, .box [.sv (.ints .u8 p0.b_), .sv (.int .i64 p0.i_), .sv (.int .i64 p0.h_)])] (Xxf r) (Xxe r) := by
 refine Xaf hT Tryz.func172 rfl fun C hC => ?_
 unfold Xiw at h
 refine Xad ?_
 iterate 2 refine kO hT hC ?_
 refine kN ?_
 iterate 2 refine kO hT hC ?_
 refine Vc.nil (Xap (Xad ?_))
 refine kO hT hC ?_
 refine Vc.nil ?_
 refine kL [0,1,5,7,8] [0,80,144] [_,_,_,_,_] [_,_,_] ?_
 refine kX h (fun v3 => ([(8, .sv (.int .i64 v3.1))], [(0, some (.box [.sv (.ints .u8 v3.2.1), .sv (.int .i64 v3.2.2.1), .sv (.int .i64 v3.2.2.2.1)])), (144, some (.row Xc2 v3.2.2.2.2))])) (fun v6 => ([(0, .any), (1, .any), (5, .any), (8, .any)], [(0, some (.box [.sv (.ints .u8 v6.2.1), .sv (.int .i64 v6.2.2.1), .sv (.int .i64 v6.2.2.2)])), (144, some (.row Xc2 v6.1)), (80, none)])) (kW hC []) (fun v3 s h => ?_) fun v6 h => ?_
 unfold Xhr at h
 refine Xap (Xad ?_)
 iterate 3 refine kO hT hC ?_
 refine Vc.nil ?_
 refine kS h ?_ ?_ <;> intro b3 h
 refine kt b3 (Xag (Xae (Xap (Xan (Xac ?_)))))
 iterate 3 refine kO hT hC ?_
 refine kC hC [(16, 288), (0, 0)] Tryz.call198 h (fun _ => Ybx) fun q7 h => ?_
 refine kO hT hC ?_
 obtain ⟨hq, h⟩ := Xba h
 refine Yf3 hT hC rfl rfl rfl rfl ⟨fun _ _ => rfl, by rw [Xol]; exact hq⟩ ?_
 rw [Xol]
 refine kO hT hC ?_
 refine Vc.nil (Xaq (Xae (Xac ?_)))
 iterate 3 refine kO hT hC ?_
 refine Vc.nil ?_
 obtain rfl := kj h
 exact Xy0 (kW hC [(144, 320)])
 exact kf b3 (Xas (Xaz ku))
 refine Xae (Xad ?_)
 iterate 2 refine kO hT hC ?_
 refine Vc.nil (Xah ?_)
 obtain rfl := kj h
 exact Xb8 (τ := ⟨[(6, .own 16)], [(16, some (.row Xc2 v6.1)), (0, some (.box [.sv (.ints .u8 v6.2.1), .sv (.int .i64 v6.2.2.1), .sv (.int .i64 v6.2.2.2)]))]⟩) (kW hC [(16, 144)]) rfl ⟨rfl, rfl, trivial⟩
def Yfl (r : ByteArray) : AV := .sv (.str r)
def Yfk (r : ByteArray) : Xbb := []
theorem Xir {p0 r} (h : Xfo p0 = some r) : AC Tryz.prog 233 [.sv (.ints .i64 p0)] [] (Yfl r) (Yfk r) := by
 refine Xaf hT Tryz.func233 rfl fun C hC => ?_
 unfold Xfo at h
 refine Xad ?_
 refine kO hT hC ?_
 refine kN ?_
 refine kO hT hC ?_
 refine kN ?_
 refine kO hT hC ?_
 refine kN ?_
 refine kO hT hC ?_
 refine Vc.nil (Xap (Xad ?_))
 refine kO hT hC ?_
 refine Vc.nil ?_
 refine kL [0,3,4,5,6] [] [_,_,_,_,_] [] ?_
 refine kX h (fun v5 => ([(3, .sv (.int .i64 v5.1)), (4, .sv (.int .i64 v5.2.1)), (5, .sv (.str v5.2.2.1)), (6, .sv (.int .i64 v5.2.2.2))], [])) (fun v10 => ([(3, .sv (.int .i64 v10.1)), (5, .sv (.str v10.2)), (0, .any), (4, .any), (6, .any)], [])) (kW hC []) (fun v5 s h => ?_) fun v10 h => ?_
 unfold Xgh at h
 refine Xap (Xad ?_)
 iterate 4 refine kO hT hC ?_
 refine Vc.nil ?_
 refine kS h ?_ ?_ <;> intro b5 h
 refine kt b5 (Xag (Xae ?_))
 refine kL [0,3,4,5,6] [] [_,_,_,_,_] [] ?_
 refine kA h (fun v11 => ([(3, .sv (.int .i64 v11.1)), (4, .sv (.int .i64 v11.2.1)), (5, .sv (.str v11.2.2))], [])) (fun v11 h => ?_) fun v11 h => ?_
 refine Xan (Xap (Xad ?_))
 iterate 2 refine kO hT hC ?_
 refine kQ hT hC h fun h => ?_
 iterate 2 refine kO hT hC ?_
 refine Vc.nil ?_
 refine kS h ?_ ?_ <;> intro b6 h
 refine kt b6 (Xad ?_)
 iterate 3 refine kO hT hC ?_
 exact Vc.nil (Xas (Xaz (Yub kM)))
 refine kf b6 (Xag (Xae (Xad ?_)))
 iterate 3 refine kO hT hC ?_
 refine Vc.nil ?_
 refine Xcq hm ?_
 iterate 2 refine kO hT hC ?_
 refine kC hC [] Tryz.call167 h (fun _ => Xeg) fun q12 h => ?_
 refine kQ hT hC h fun h => ?_
 iterate 2 refine kO hT hC ?_
 refine kQ hT hC h fun h => ?_
 refine kO hT hC ?_
 refine kC hC [] Tryz.call196 h (fun _ => Xoh) fun q13 h => ?_
 refine kQ hT hC h fun h => ?_
 refine kO hT hC ?_
 refine kD (Xac ?_)
 refine kO hT hC ?_
 exact Vc.nil (Xaq kM)
 refine Xac ?_
 iterate 3 refine kO hT hC ?_
 exact Vc.nil kG
 exact kf b5 (Xas (Xaz ku))
 refine Xae (Xad ?_)
 refine kO hT hC ?_
 refine kC hC [] Tryz.call167 h (fun _ => Xeg) fun q15 h => ?_
 refine kO hT hC ?_
 refine kQ hT hC h fun h => ?_
 refine kO hT hC ?_
 exact Vc.nil (Xah kR)
def Ykh (r : ByteArray) : AV := .sv (.str r)
def Ykg (r : ByteArray) : Xbb := []
theorem Xv2 {p0 p1 r} (h : Xmp p0 p1 = some r) : AC Tryz.prog 221 [.sv (.ints .i64 p0), .agg [.sv (.bool p1.Key), .sv (.int .i64 p1.Qp), .sv (.bool p1.Large), .sv (.bool p1.Exact)]] [] (Ykh r) (Ykg r) := by
 refine Xaf hT Tryz.func221 rfl fun C hC => ?_
 unfold Xmp at h
 refine Xad ?_
 iterate 2 refine kO hT hC ?_
 refine Vc.nil (Xap ?_)
 refine kL [0,3] [48] [_,_] [_] ?_
 refine kA h (fun v1 => ([(10, .sv (.bool v1)), (3, .any)], [(48, none)])) (fun v1 h => ?_) fun v1 h => ?_
 refine Xac ?_
 iterate 3 refine kO hT hC ?_
 refine kS h ?_ ?_ <;> intro b1 h
 iterate 2 refine kF hC b1 ?_
 refine kP hC true b1 ?_
 exact Vc.nil kM
 iterate 2 refine kI hT hC b1 ?_
 refine kP hC false b1 ?_
 exact Vc.nil kM
 refine kS h ?_ ?_ <;> intro b2 h
 refine kt b2 (Xad ?_)
 refine kO hT hC ?_
 refine kC hC [] Tryz.call233 h (fun _ => Xir) fun q2 h => ?_
 refine kO hT hC ?_
 exact Vc.nil (Xah (Xao kR))
 refine kf b2 (Xag (Xae ?_))
 refine Xcq hm ?_
 refine kO hT hC ?_
 refine kQ hT hC h fun h => ?_
 refine kC hC [] Tryz.call233 h (fun _ => Xir) fun q3 h => ?_
 refine kO hT hC ?_
 refine kQ hT hC h fun h => ?_
 refine kC hC [] Tryz.call233 h (fun _ => Xir) fun q4 h => ?_
 refine kQ hT hC h fun h => ?_
 refine kO hT hC ?_
 refine kQ hT hC h fun h => ?_
 refine kC hC [] Tryz.call233 h (fun _ => Xir) fun q5 h => ?_
 refine kQ hT hC h fun h => ?_
 refine kO hT hC ?_
 refine kQ hT hC h fun h => ?_
 refine kC hC [] Tryz.call233 h (fun _ => Xir) fun q6 h => ?_
 refine kQ hT hC h fun h => ?_
 refine kO hT hC ?_
 exact kD (Xah kR)
def Ykk (r : ByteArray) : AV := .sv (.str r)
def Ykj (r : ByteArray) : Xbb := []
theorem Ym8 {p0 p1 r} (h : Xpe p0 p1 = some r) : AC Tryz.prog 197 [.agg [.sv (.int .i64 p0.Kind), .sv (.int .i64 p0.Mode), .sv (.int .i64 p0.Dx), .sv (.int .i64 p0.Dy), .sv (.ints .i64 p0.Levels)], .agg [.sv (.bool p1.Key), .sv (.int .i64 p1.Qp), .sv (.bool p1.Large), .sv (.bool p1.Exact)]] [] (Ykk r) (Ykj r) := by
 refine Xaf hT Tryz.func197 rfl fun C hC => ?_
 unfold Xpe at h
 refine Xad ?_
 iterate 3 refine kO hT hC ?_
 refine kN ?_
 refine kO hT hC ?_
 refine Vc.nil ?_
 refine kL [2,3,5] [32,48] [_,_,_] [_,_] ?_
 refine kA h (fun v1 => ([(5, .sv (.str v1))], [])) (fun v1 h => ?_) fun v1 h => ?_
 refine Xad ?_
 iterate 3 refine kO hT hC ?_
 refine Vc.nil ?_
 refine kS h ?_ ?_ <;> intro b1 h
 refine kt b1 (Xac ?_)
 iterate 2 refine kO hT hC ?_
 refine kC hC [] Tryz.call167 h (fun _ => Xeg) fun q2 h => ?_
 refine kO hT hC ?_
 exact Vc.nil kM
 exact kf b1 (Xag kM)
 refine Xap (Xad ?_)
 iterate 2 refine kO hT hC ?_
 refine Vc.nil (Xan (Xad ?_))
 iterate 2 refine kO hT hC ?_
 refine Vc.nil ?_
 refine kS h ?_ ?_ <;> intro b2 h
 refine kt b2 ?_
 refine Xcq hm ?_
 iterate 3 refine kO hT hC ?_
 refine kC hC [] Tryz.call196 h (fun _ => Xoh) fun q3 h => ?_
 refine kQ hT hC h fun h => ?_
 iterate 2 refine kO hT hC ?_
 refine kC hC [] Tryz.call196 h (fun _ => Xoh) fun q4 h => ?_
 refine kQ hT hC h fun h => ?_
 iterate 3 refine kO hT hC ?_
 refine kC hC [] Tryz.call221 h (fun _ => Xv2) fun q5 h => ?_
 refine kQ hT hC h fun h => ?_
 refine kO hT hC ?_
 exact kD (Xah (Xdj (Xao kR)))
 refine kf b2 (Xad ?_)
 iterate 2 refine kO hT hC ?_
 refine Vc.nil ?_
 refine kS h ?_ ?_ <;> intro b3 h
 refine kt b3 ?_
 refine Xcq hm ?_
 iterate 3 refine kO hT hC ?_
 refine kC hC [] Tryz.call167 h (fun _ => Xeg) fun q6 h => ?_
 refine kQ hT hC h fun h => ?_
 iterate 3 refine kO hT hC ?_
 refine kC hC [] Tryz.call221 h (fun _ => Xv2) fun q7 h => ?_
 refine kQ hT hC h fun h => ?_
 refine kO hT hC ?_
 exact kD (Xah (Xdj (Xao kR)))
 refine kf b3 (Xag (Xaq (Xae (Xad ?_))))
 iterate 2 refine kO hT hC ?_
 exact Vc.nil (Xah kR)
def Yko (r : ByteArray) : AV := .sv (.str r)
def Ykn (r : ByteArray) : Xbb := []
theorem Ync {p0 p1 r} (h : Xpf p0 p1 = some r) : AC Tryz.prog 171 [.sv (Xc2.sv p0), .agg [.sv (.bool p1.Key), .sv (.int .i64 p1.Qp), .sv (.bool p1.Large), .sv (.bool p1.Exact)]] [] (Yko r) (Ykn r) := by
 refine Xaf hT Tryz.func171 rfl fun C hC => ?_
 unfold Xpf at h
 refine Xad ?_
 iterate 2 refine kO hT hC ?_
 refine kN ?_
 iterate 2 refine kO hT hC ?_
 refine Vc.nil (Xap (Xad ?_))
 refine kO hT hC ?_
 refine Vc.nil ?_
 refine kL [0,3,5,6] [48,112] [_,_,_,_] [_,_] ?_
 refine kX h (fun v3 => ([(6, .sv (.int .i64 v3.1))], [(112, some (.ints .u8 v3.2))])) (fun v6 => ([(0, .any), (3, .any), (6, .any)], [(112, some (.ints .u8 v6)), (48, none)])) (kW hC []) (fun v3 s h => ?_) fun v6 h => ?_
 unfold Xj4 at h
 refine Xap (Xad ?_)
 iterate 4 refine kO hT hC ?_
 refine Vc.nil ?_
 refine kS h ?_ ?_ <;> intro b3 h
 refine kt b3 (Xag (Xae (Xap (Xan ?_))))
 refine Xcu hm ?_
 iterate 3 refine kO hT hC ?_
 refine kQ hT hC h fun h => ?_
 iterate 2 refine kO hT hC ?_
 refine kC hC [] Tryz.call197 h (fun _ => Ym8) fun q7 h => ?_
 refine kT hT hC h fun h => ?_
 refine kO hT hC ?_
 refine kD (Xaq (Xae (Xac ?_)))
 iterate 3 refine kO hT hC ?_
 refine Vc.nil ?_
 obtain rfl := kj h
 exact Xy0 (kW hC [(112, 336)])
 exact kf b3 (Xas (Xaz ku))
 refine Xae (Xad ?_)
 iterate 3 refine kO hT hC ?_
 exact Vc.nil (Xah kR)
def Xt2 (r : ((List ByteArray) × Xa7 × Seq)) : AV := .own 16
def Xt1 (r : ((List ByteArray) × Xa7 × Seq)) : Xbb := [(16, .row Xcw r.1), (0, .box [.sv (.ints .u8 r.2.1.b_), .sv (.int .i64 r.2.1.i_), .sv (.int .i64 r.2.1.h_)]), (6, .ints .i64 r.2.2.Cols), (7, .ints .i64 r.2.2.Rows)]
theorem Xu8 {p0 p1 p2 p3 p4 p5 r} (h : Xgi p0 p1 p2 p3 p4 p5 = some r) : AC Tryz.prog 135 [.ptr 0 0, .agg [.sv (.int .i64 p1.Level), .sv (.int .i64 p1.Bits), .own 6, .own 7], .agg [.sv (.int .i64 p2.Qp), .sv (.bool p2.Large), .sv (.bool p2.Exact), .sv (.bool p2.Confined)], .sv (.int .i64 p3), .sv (.int .i64 p4), .sv (.bool p5)] [(0, .box [.sv (.ints .u8 p0.b_), .sv (.int .i64 p0.i_), .sv (.int .i64 p0.h_)]), (6, .ints .i64 p1.Cols), (7, .ints .i64 p1.Rows)] (Xt2 r) (Xt1 r) := by
 refine Xaf hT Tryz.func135 rfl fun C hC => ?_
 unfold Xgi at h
 refine Xad ?_
 iterate 3 refine kO hT hC ?_
 refine kN ?_
 iterate 2 refine kO hT hC ?_
 refine Vc.nil (Xap (Xad ?_))
 iterate 2 refine kO hT hC ?_
 refine Vc.nil ?_
 refine kL [0,3,5,7,8,13,14] [0,6,7,112,128,336] [_,_,_,_,_,_,_] [_,_,_,_,_,_] ?_
 refine kX h (fun v13 => ([(14, .sv (.int .i64 v13.1))], [(0, some (.box [.sv (.ints .u8 v13.2.1), .sv (.int .i64 v13.2.2.1), .sv (.int .i64 v13.2.2.2.1)])), (336, some (.row Xcw v13.2.2.2.2))])) (fun v26 => ([(0, .any), (3, .any), (5, .any), (7, .any), (8, .any), (14, .any)], [(0, some (.box [.sv (.ints .u8 v26.2.1), .sv (.int .i64 v26.2.2.1), .sv (.int .i64 v26.2.2.2)])), (336, some (.row Xcw v26.1)), (112, none), (128, none)])) (kW hC []) (fun v13 s h => ?_) fun v26 h => ?_
 unfold Xf1 at h
 refine Xap (Xad ?_)
 iterate 2 refine kO hT hC ?_
 refine kC hC [] Tryz.call100 h (fun _ => Xih) fun q27 h => ?_
 refine kO hT hC ?_
 refine Vc.nil ?_
 refine kS h ?_ ?_ <;> intro b7 h
 refine kt b7 (Xag (Xae (Xap (Xan ?_))))
 refine kL [0,3,5,7,8,13,14] [0,6,7,112,128,336] [_,_,_,_,_,_,_] [_,_,_,_,_,_] ?_
 refine kA h (fun v28 => ([(15, .ptr 1212 0)], [(0, some (.box [.sv (.ints .u8 v28.1), .sv (.int .i64 v28.2.1), .sv (.int .i64 v28.2.2.1)])), (1212, some (.box [.sv (.bool v28.2.2.2.1), .sv (.int .i64 v28.2.2.2.2), .sv (.bool p2.Large), .sv (.bool p2.Exact)]))])) (fun v28 h => ?_) fun v28 h => ?_
 refine Xcu hm ?_
 iterate 2 refine kO hT hC ?_
 refine kS h ?_ ?_ <;> intro b8 h
 iterate 2 refine kF hC b8 ?_
 refine kP hC true b8 ?_
 refine kO hT hC ?_
 refine kC hC [(0, 0)] Tryz.call59 h (fun _ => Xa2) fun q29 h => ?_
 iterate 7 refine kO hT hC ?_
 refine kD ?_
 obtain rfl := kj h
 exact Xgo (kW hC [(1212, 240)])
 refine kI hT hC b8 ?_
 refine kE hC b8 [(0, 0)] Tryz.call130 h (fun _ => Xdb) fun q30 h => ?_
 refine kP hC false b8 ?_
 refine kO hT hC ?_
 refine kC hC [(0, 0)] Tryz.call59 h (fun _ => Xa2) fun q31 h => ?_
 iterate 7 refine kO hT hC ?_
 refine kD ?_
 obtain rfl := kj h
 exact Xgo (kW hC [(1212, 240)])
 refine Xad ?_
 iterate 7 refine kO hT hC ?_
 refine kC hC [] Tryz.call170 h (fun _ => Yjd) fun q32 h => ?_
 iterate 5 refine kO hT hC ?_
 refine kN ?_
 refine kO hT hC ?_
 refine Vc.nil ?_
 refine kL [0,3,5,7,8,13,14,15,16,18] [0,6,7,112,128,336,1212] [_,_,_,_,_,_,_,_,_,_] [_,_,_,_,_,_,_] ?_
 refine kA h (fun v33 => ([(18, .sv (.int .i64 v33))], [])) (fun v33 h => ?_) fun v33 h => ?_
 refine Xad ?_
 iterate 2 refine kO hT hC ?_
 refine Vc.nil ?_
 refine kS h ?_ ?_ <;> intro b9 h
 refine kt b9 (Xac ?_)
 refine kO hT hC ?_
 exact Vc.nil kM
 exact kf b9 (Xag kM)
 refine Xcq hm ?_
 iterate 5 refine kO hT hC ?_
 refine kC hC [] Tryz.call109 h (fun _ => Xo8) fun q34 h => ?_
 refine kO hT hC ?_
 refine kC hC [(16, 992), (0, 0)] Tryz.call172 h (fun _ => Xz3) fun q35 h => ?_
 refine kO hT hC ?_
 refine kC hC [] Tryz.call171 h (fun _ => Ync) fun q36 h => ?_
 refine kQ hT hC h fun h => ?_
 refine kC hC [] Tryz.call132 h (fun _ => Xp8) fun q37 h => ?_
 iterate 5 refine kO hT hC ?_
 refine kD (Xac ?_)
 iterate 3 refine kO hT hC ?_
 obtain ⟨hq, h⟩ := Xba h
 refine Yf3 hT hC rfl rfl rfl rfl ⟨fun _ _ => rfl, by rw [Xn8]; exact hq⟩ ?_
 rw [Xn8]
 refine kO hT hC ?_
 refine Vc.nil (Xaq (Xae (Xac ?_)))
 iterate 3 refine kO hT hC ?_
 refine Vc.nil ?_
 obtain rfl := kj h
 exact Xy0 (kW hC [(336, 1152)])
 exact kf b7 (Xas (Xaz ku))
 refine Xae (Xad ?_)
 iterate 2 refine kO hT hC ?_
 refine Vc.nil (Xah ?_)
 obtain rfl := kj h
 exact Xb8 (τ := ⟨[(12, .own 16)], [(16, some (.row Xcw v26.1)), (0, some (.box [.sv (.ints .u8 v26.2.1), .sv (.int .i64 v26.2.2.1), .sv (.int .i64 v26.2.2.2)])), (6, some (.ints .i64 p1.Cols)), (7, some (.ints .i64 p1.Rows))]⟩) (kW hC [(16, 336)]) rfl ⟨rfl, rfl, rfl, rfl, trivial⟩
def Yb7 (r : ((List ByteArray) × Xa7)) : AV := .own 16
def Yb6 (r : ((List ByteArray) × Xa7)) : Xbb := [(16, .row Xcw r.1), (0, .box [.sv (.ints .u8 r.2.b_), .sv (.int .i64 r.2.i_), .sv (.int .i64 r.2.h_)])]
theorem Yf1 {p0 r} (h : Xl1 p0 = some r) : AC Tryz.prog 93 [.ptr 0 0] [(0, .box [.sv (.ints .u8 p0.b_), .sv (.int .i64 p0.i_), .sv (.int .i64 p0.h_)])] (Yb7 r) (Yb6 r) := by
 refine Xaf hT Tryz.func93 rfl fun C hC => ?_
 unfold Xl1 at h
 refine Xad ?_
 refine kO hT hC ?_
 refine kN ?_
 iterate 5 refine kO hT hC ?_
 refine Vc.nil ?_
 refine kL [0,3] [0,48,192,208] [_,_] [_,_,_,_] ?_
 refine kA h (fun v1 => ([], [(0, some (.box [.sv (.ints .u8 v1.1), .sv (.int .i64 v1.2.1), .sv (.int .i64 v1.2.2.1)])), (192, some (.ints .i64 v1.2.2.2))])) (fun v1 h => ?_) fun v1 h => ?_
 refine Xad ?_
 refine kO hT hC ?_
 refine kC hC [(0, 0)] Tryz.call130 h (fun _ => Xdb) fun q2 h => ?_
 refine Vc.nil ?_
 refine kS h ?_ ?_ <;> intro b1 h
 refine kt b1 (Xac ?_)
 refine kO hT hC ?_
 refine kC hC [(0, 0)] Tryz.call59 h (fun _ => Xa2) fun q3 h => ?_
 iterate 4 refine kO hT hC ?_
 refine Vc.nil ?_
 obtain rfl := kj h
 exact Xgo (kW hC [(192, 320)])
 exact kf b1 (Xag kM)
 refine kL [0,3] [0,48,192,208] [_,_] [_,_,_,_] ?_
 refine kA h (fun v4 => ([], [(0, some (.box [.sv (.ints .u8 v4.1), .sv (.int .i64 v4.2.1), .sv (.int .i64 v4.2.2.1)])), (208, some (.ints .i64 v4.2.2.2))])) (fun v4 h => ?_) fun v4 h => ?_
 refine Xad ?_
 refine kO hT hC ?_
 refine kC hC [(0, 0)] Tryz.call130 h (fun _ => Xdb) fun q5 h => ?_
 refine Vc.nil ?_
 refine kS h ?_ ?_ <;> intro b2 h
 refine kt b2 (Xac ?_)
 iterate 3 refine kO hT hC ?_
 refine Vc.nil ?_
 obtain rfl := kj h
 exact Xgo (kW hC [(208, 384)])
 exact kf b2 (Xag kM)
 refine Xad ?_
 refine kO hT hC ?_
 refine kC hC [(0, 0)] Tryz.call131 h (fun _ => Xw8) fun q6 h => ?_
 iterate 2 refine kO hT hC ?_
 refine kN ?_
 refine kO hT hC ?_
 refine kC hC [] Tryz.call133 h (fun _ => Ym1) fun q7 h => ?_
 refine kC hC [] Tryz.call132 h (fun _ => Xp8) fun q8 h => ?_
 iterate 5 refine kO hT hC ?_
 refine kN ?_
 refine kO hT hC ?_
 refine kC hC [] Tryz.call134 h (fun _ => Ymz) fun q9 h => ?_
 refine kC hC [] Tryz.call132 h (fun _ => Xp8) fun q10 h => ?_
 iterate 5 refine kO hT hC ?_
 refine kN ?_
 iterate 4 refine kO hT hC ?_
 refine kN ?_
 refine kO hT hC ?_
 refine kC hC [(0, 0)] Tryz.call59 h (fun _ => Xa2) fun q11 h => ?_
 refine kO hT hC ?_
 refine Vc.nil (Xap (Xad ?_))
 refine kO hT hC ?_
 refine Vc.nil ?_
 refine kL [0,3,4,9,10,11] [0,48,64,192,208,672] [_,_,_,_,_,_] [_,_,_,_,_,_] ?_
 refine kX h (fun v16 => ([(10, .sv (.int .i64 v16.1)), (11, .sv (.int .i64 v16.2.1))], [(0, some (.box [.sv (.ints .u8 v16.2.2.1), .sv (.int .i64 v16.2.2.2.1), .sv (.int .i64 v16.2.2.2.2.1)])), (192, some (.ints .i64 v16.2.2.2.2.2.2.1)), (208, some (.ints .i64 v16.2.2.2.2.2.2.2)), (672, some (.row Xcw v16.2.2.2.2.2.1))])) (fun v21 => ([(0, .any), (3, .any), (4, .any), (10, .any), (11, .any)], [(0, some (.box [.sv (.ints .u8 v21.2.1), .sv (.int .i64 v21.2.2.1), .sv (.int .i64 v21.2.2.2)])), (672, some (.row Xcw v21.1)), (48, none), (64, none), (192, none), (208, none)])) (kW hC []) (fun v16 s h => ?_) fun v21 h => ?_
 unfold Xhb at h
 refine Xap (Xad ?_)
 iterate 2 refine kO hT hC ?_
 refine kC hC [(0, 0)] Tryz.call59 h (fun _ => Xa2) fun q22 h => ?_
 iterate 2 refine kO hT hC ?_
 refine Vc.nil ?_
 refine kS h ?_ ?_ <;> intro b5 h
 refine kt b5 (Xag (Xae (Xap (Xan (Xad ?_)))))
 iterate 7 refine kO hT hC ?_
 refine kC hC [(16, 944), (0, 0), (6, 192), (7, 208)] Tryz.call135 h (fun _ => Xu8) fun q24 h => ?_
 obtain ⟨hq, h⟩ := Xba h
 refine Yf3 hT hC rfl rfl rfl rfl ⟨fun _ _ => rfl, by rw [Xn8]; exact hq⟩ ?_
 rw [Xn8]
 refine kO hT hC ?_
 refine Vc.nil (Xac ?_)
 iterate 2 refine kO hT hC ?_
 refine kQ hT hC h fun h => ?_
 refine kO hT hC ?_
 refine Vc.nil (Xaq (Xae (Xac ?_)))
 iterate 3 refine kO hT hC ?_
 refine Vc.nil ?_
 obtain rfl := kj h
 exact Xy0 (kW hC [(672, 960)])
 exact kf b5 (Xas (Xaz ku))
 refine Xae (Xad ?_)
 iterate 2 refine kO hT hC ?_
 refine Vc.nil (Xah ?_)
 obtain rfl := kj h
 exact Xb8 (τ := ⟨[(2, .own 16)], [(16, some (.row Xcw v21.1)), (0, some (.box [.sv (.ints .u8 v21.2.1), .sv (.int .i64 v21.2.2.1), .sv (.int .i64 v21.2.2.2)]))]⟩) (kW hC [(16, 672)]) rfl ⟨rfl, rfl, trivial⟩
def Yb5 (r : (Xak × ByteArray × Xa7)) : AV := .tup [.agg [.sv (.bool r.1.HasSeq), .sv (.bool r.1.HasPar), .sv (.bool r.1.HasRef), .sv (.int .i64 r.1.Seq.Level), .sv (.int .i64 r.1.Seq.Bits), .own 16, .own 17, .sv (.int .i64 r.1.Par.Qp), .sv (.bool r.1.Par.Large), .sv (.bool r.1.Par.Exact), .sv (.bool r.1.Par.Confined), .sv (.int .i64 r.1.Frame), .sv (.int .i64 r.1.Got), .sv (.int .i64 r.1.Now.Wide), .sv (.int .i64 r.1.Now.High), .sv (.str r.1.Now.Dots), .sv (.int .i64 r.1.Ref.Wide), .sv (.int .i64 r.1.Ref.High), .sv (.str r.1.Ref.Dots)], .sv (.str r.2.1)]
def Yb4 (r : (Xak × ByteArray × Xa7)) : Xbb := [(16, .ints .i64 r.1.Seq.Cols), (17, .ints .i64 r.1.Seq.Rows), (0, .box [.sv (.ints .u8 r.2.2.b_), .sv (.int .i64 r.2.2.i_), .sv (.int .i64 r.2.2.h_)])]
theorem Yfx {p0 r} (h : Xl0 p0 = some r) : AC Tryz.prog 56 [.ptr 0 0] [(0, .box [.sv (.ints .u8 p0.b_), .sv (.int .i64 p0.i_), .sv (.int .i64 p0.h_)])] (Yb5 r) (Yb4 r) := by
 refine Xaf hT Tryz.func56 rfl fun C hC => ?_
 unfold Xl0 at h
 refine Xad ?_
 iterate 2 refine kO hT hC ?_
 refine kN ?_
 refine kO hT hC ?_
 refine kC hC [(16, 208), (0, 0)] Tryz.call93 h (fun _ => Yf1) fun q1 h => ?_
 refine kO hT hC ?_
 refine kN ?_
 iterate 3 refine kO hT hC ?_
 refine kC hC [(0, 0)] Tryz.call59 h (fun _ => Xa2) fun q2 h => ?_
 refine kO hT hC ?_
 refine Vc.nil ?_
 refine Xcq hm ?_
 refine kC hC [] Tryz.call51 h (fun _ => Yl3) fun q3 h => ?_
 iterate 2 refine kO hT hC ?_
 refine kQ hT hC h fun h => ?_
 obtain ⟨hq0, h⟩ := Xba h
 obtain ⟨q4, hq, h⟩ := Xbo h
 refine Ysx hC [(16, 368), (17, 369), (18, 370), (19, 371)] rfl rfl rfl rfl Tryz.call24 (Yl2 hq) rfl (by simpa using hq0) trivial rfl (.inr ⟨rfl, ⟨trivial, trivial, fun _ => rfl, trivial, trivial⟩⟩) rfl ?_
 iterate 8 refine kO hT hC ?_
 refine kD (Xad ?_)
 iterate 2 refine kO hT hC ?_
 iterate 2 refine kQ hT hC h fun h => ?_
 refine kO hT hC ?_
 refine Vc.nil ?_
 refine kL [0,2,4,6,9] [0,32,96,208,368,369] [_,_,_,_,_] [_,_,_,_,_,_] ?_
 refine kA h (fun v5 => ([(9, .sv (.str v5.1)), (0, .any), (4, .any)], [(0, some (.box [.sv (.ints .u8 v5.2.1), .sv (.int .i64 v5.2.2.1), .sv (.int .i64 v5.2.2.2)])), (208, none)])) (fun v5 h => ?_) fun v5 h => ?_
 refine Xad ?_
 refine kO hT hC ?_
 refine kC hC [(0, 0)] Tryz.call59 h (fun _ => Xa2) fun q6 h => ?_
 refine Vc.nil (Xan (Xad ?_))
 iterate 2 refine kO hT hC ?_
 refine Vc.nil ?_
 refine kS h ?_ ?_ <;> intro b1 h
 refine kt b1 (Xac ?_)
 iterate 4 refine kO hT hC ?_
 refine kC hC [(0, 0)] Tryz.call59 h (fun _ => Xa2) fun q7 h => ?_
 iterate 2 refine kQ hT hC h fun h => ?_
 refine kO hT hC ?_
 exact Vc.nil (Xaq kM)
 refine kf b1 (Xad ?_)
 iterate 2 refine kO hT hC ?_
 refine Vc.nil ?_
 refine kS h ?_ ?_ <;> intro b2 h
 refine kt b2 (Xad ?_)
 refine kO hT hC ?_
 refine kQ hT hC h fun h => ?_
 refine kO hT hC ?_
 refine kN ?_
 iterate 3 refine kO hT hC ?_
 refine kC hC [(0, 0)] Tryz.call59 h (fun _ => Xa2) fun q8 h => ?_
 refine kO hT hC ?_
 refine Vc.nil ?_
 refine Xcq hm ?_
 iterate 4 refine kO hT hC ?_
 iterate 2 refine kQ hT hC h fun h => ?_
 refine kO hT hC ?_
 refine kC hC [(0, 0)] Tryz.call59 h (fun _ => Xa2) fun q9 h => ?_
 refine kO hT hC ?_
 refine kQ hT hC h fun h => ?_
 refine kO hT hC ?_
 iterate 2 refine kQ hT hC h fun h => ?_
 refine kD (Xac ?_)
 iterate 3 refine kO hT hC ?_
 exact Vc.nil (Xaq kM)
 exact kf b2 (Xag (Xaq kM))
 refine Xad ?_
 iterate 4 refine kO hT hC ?_
 refine Vc.nil (Xah ?_)
 obtain rfl := kj h
 exact Xb8 (τ := ⟨[(2, .ptr 2000000 0), (3, .sv (.str v5.1))], [(16, some (.ints .i64 q4.1.Seq.Cols)), (17, some (.ints .i64 q4.1.Seq.Rows)), (0, some (.box [.sv (.ints .u8 v5.2.1), .sv (.int .i64 v5.2.2.1), .sv (.int .i64 v5.2.2.2)])), (2000000, some (.box [.sv (.bool q4.1.HasSeq), .sv (.bool q4.1.HasPar), .sv (.bool q4.1.HasRef), .sv (.int .i64 q4.1.Seq.Level), .sv (.int .i64 q4.1.Seq.Bits), .own 16, .own 17, .sv (.int .i64 q4.1.Par.Qp), .sv (.bool q4.1.Par.Large), .sv (.bool q4.1.Par.Exact), .sv (.bool q4.1.Par.Confined), .sv (.int .i64 q4.1.Frame), .sv (.int .i64 q4.1.Got), .sv (.int .i64 q4.1.Now.Wide), .sv (.int .i64 q4.1.Now.High), .sv (.str q4.1.Now.Dots), .sv (.int .i64 q4.1.Ref.Wide), .sv (.int .i64 q4.1.Ref.High), .sv (.str q4.1.Ref.Dots)]))]⟩) (kW hC [(16, 368), (17, 369), (2000000, 32)]) rfl ⟨rfl, rfl, rfl, trivial⟩
def Xza (r : (Xak × ByteArray)) : AV := .tup [.agg [.sv (.bool r.1.HasSeq), .sv (.bool r.1.HasPar), .sv (.bool r.1.HasRef), .sv (.int .i64 r.1.Seq.Level), .sv (.int .i64 r.1.Seq.Bits), .own 16, .own 17, .sv (.int .i64 r.1.Par.Qp), .sv (.bool r.1.Par.Large), .sv (.bool r.1.Par.Exact), .sv (.bool r.1.Par.Confined), .sv (.int .i64 r.1.Frame), .sv (.int .i64 r.1.Got), .sv (.int .i64 r.1.Now.Wide), .sv (.int .i64 r.1.Now.High), .sv (.str r.1.Now.Dots), .sv (.int .i64 r.1.Ref.Wide), .sv (.int .i64 r.1.Ref.High), .sv (.str r.1.Ref.Dots)], .sv (.str r.2)]
def Xy9 (r : (Xak × ByteArray)) : Xbb := [(16, .ints .i64 r.1.Seq.Cols), (17, .ints .i64 r.1.Seq.Rows)]
theorem Xqw {p0 r} (h : Xhf p0 = some r) : AC Tryz.prog 30 [.sv (.ints .u8 p0)] [] (Xza r) (Xy9 r) := by
 refine Xaf hT Tryz.func30 rfl fun C hC => ?_
 unfold Xhf at h
 refine Xad ?_
 iterate 2 refine kO hT hC ?_
 refine kN ?_
 refine kO hT hC ?_
 refine kC hC [(16, 80)] Tryz.call57 h (fun _ => Xvz) fun q1 h => ?_
 refine kC hC [(16, 96), (17, 97), (0, 80)] Tryz.call56 h (fun _ => Yfx) fun q2 h => ?_
 iterate 4 refine kO hT hC ?_
 refine Vc.nil (Xah ?_)
 obtain rfl := kj h
 exact Xb8 (τ := ⟨[(2, .ptr 2000000 0), (3, .sv (.str q2.2.1))], [(16, some (.ints .i64 q2.1.Seq.Cols)), (17, some (.ints .i64 q2.1.Seq.Rows)), (2000000, some (.box [.sv (.bool q2.1.HasSeq), .sv (.bool q2.1.HasPar), .sv (.bool q2.1.HasRef), .sv (.int .i64 q2.1.Seq.Level), .sv (.int .i64 q2.1.Seq.Bits), .own 16, .own 17, .sv (.int .i64 q2.1.Par.Qp), .sv (.bool q2.1.Par.Large), .sv (.bool q2.1.Par.Exact), .sv (.bool q2.1.Par.Confined), .sv (.int .i64 q2.1.Frame), .sv (.int .i64 q2.1.Got), .sv (.int .i64 q2.1.Now.Wide), .sv (.int .i64 q2.1.Now.High), .sv (.str q2.1.Now.Dots), .sv (.int .i64 q2.1.Ref.Wide), .sv (.int .i64 q2.1.Ref.High), .sv (.str q2.1.Ref.Dots)]))]⟩) (kW hC [(16, 96), (17, 97), (2000000, 32)]) rfl ⟨rfl, rfl, trivial⟩
def Xw1 (r : (List Int)) : AV := .own 16
def Xw0 (r : (List Int)) : Xbb := [(16, .ints .i64 r)]
theorem Xy7 {p0 r} (h : Xia p0 = some r) : AC Tryz.prog 31 [.sv (.ints .u8 p0)] [] (Xw1 r) (Xw0 r) := by
 refine Xaf hT Tryz.func31 rfl fun C hC => ?_
 unfold Xia at h
 refine Xad ?_
 refine kO hT hC ?_
 refine kN ?_
 refine kO hT hC ?_
 refine kC hC [(16, 112)] Tryz.call57 h (fun _ => Xvz) fun q1 h => ?_
 refine kO hT hC ?_
 refine kN ?_
 refine kO hT hC ?_
 refine kC hC [(0, 112)] Tryz.call58 h (fun _ => Xgd) fun q2 h => ?_
 refine kN ?_
 iterate 2 refine kO hT hC ?_
 refine Vc.nil (Xap (Xad ?_))
 refine kO hT hC ?_
 refine Vc.nil ?_
 refine kL [3,4,5] [112,160] [_,_,_] [_,_] ?_
 refine kX h (fun v5 => ([(5, .sv (.int .i64 v5.1))], [(112, some (.box [.sv (.ints .u8 v5.2.1), .sv (.int .i64 v5.2.2.1), .sv (.int .i64 v5.2.2.2.1)])), (160, some (.ints .i64 v5.2.2.2.2))])) (fun v8 => ([(3, .any), (5, .any)], [(160, some (.ints .i64 v8)), (112, none)])) (kW hC []) (fun v5 s h => ?_) fun v8 h => ?_
 unfold Xhq at h
 refine Xap (Xad ?_)
 iterate 2 refine kO hT hC ?_
 refine Vc.nil ?_
 refine kS h ?_ ?_ <;> intro b3 h
 refine kt b3 (Xag (Xae (Xap (Xan (Xac ?_)))))
 iterate 2 refine kO hT hC ?_
 refine kC hC [(0, 112)] Tryz.call59 h (fun _ => Xa2) fun q9 h => ?_
 refine kO hT hC ?_
 refine kT hT hC h fun h => ?_
 refine kO hT hC ?_
 refine Vc.nil (Xaq (Xae (Xac ?_)))
 iterate 3 refine kO hT hC ?_
 refine Vc.nil ?_
 obtain rfl := kj h
 exact Xy0 (kW hC [(160, 304)])
 exact kf b3 (Xas (Xaz ku))
 refine Xae (Xad ?_)
 iterate 2 refine kO hT hC ?_
 refine Vc.nil (Xah ?_)
 obtain rfl := kj h
 exact Xb8 (τ := ⟨[(2, .own 16)], [(16, some (.ints .i64 v8))]⟩) (kW hC [(16, 160)]) rfl ⟨rfl, trivial⟩
def Xqs (r : Bool) : AV := .sv (.bool r)
def Xqr (r : Bool) : Xbb := []
theorem Xsa {p0 p1 r} (h : Xi7 p0 p1 = some r) : AC Tryz.prog 94 [.sv (.ints .i64 p0), .sv (.ints .i64 p1)] [] (Xqs r) (Xqr r) := by
 refine Xaf hT Tryz.func94 rfl fun C hC => ?_
 unfold Xi7 at h
 refine Xad ?_
 refine kO hT hC ?_
 refine Vc.nil (Xap (Xad ?_))
 iterate 5 refine kO hT hC ?_
 refine Vc.nil ?_
 refine kS h ?_ ?_ <;> intro b1 h
 refine kt b1 (Xad ?_)
 refine kO hT hC ?_
 exact Vc.nil (Xah (Xao kR))
 refine kf b1 (Xag (Xae (Xap (Xad ?_))))
 refine kO hT hC ?_
 refine Vc.nil ?_
 refine kL [0,1,5] [] [_,_,_] [] ?_
 obtain ⟨o5, hl, h⟩ := Xbo h
 refine Xf6 (fun v2 => ([(5, .sv (.int .i64 v2))], [])) (fun v4 => ([(0, .any), (1, .any), (5, .any)], [])) (fun r => Xpi C T Tryz.f94.results.toList (Xqs r) (Xqr r)) hl ?_ ?_ ?_ ?_
 apply Xcj hC []
 exact co
 rfl
 decide
 rfl
 intro v2 s hs
 have h := hs
 unfold Xg7 at h
 refine Xap (Xad ?_)
 iterate 4 refine kO hT hC ?_
 refine Vc.nil ?_
 refine kS h ?_ ?_ <;> intro b6 h
 refine kt b6 (Xag (Xae (Xap (Xan ?_))))
 refine Xcq hm ?_
 iterate 2 refine kO hT hC ?_
 refine kQ hT hC h fun h => ?_
 iterate 3 refine kO hT hC ?_
 refine kQ hT hC h fun h => ?_
 iterate 2 refine kO hT hC ?_
 refine kD ?_
 refine kS h ?_ ?_ <;> intro b7 h
 refine kt b7 (Xad ?_)
 refine kO hT hC ?_
 refine Vc.nil (Xah (Xdj (Xao ?_)))
 obtain rfl := kj h
 refine Xpk (Xpj ?_)
 exact Xb8 (Xiz.refl _) rfl trivial
 refine kf b7 (Xag (Xaq (Xae (Xac ?_))))
 iterate 3 refine kO hT hC ?_
 exact Vc.nil kG
 exact kf b6 (Xas (Xaz kb))
 intro v4 e
 subst e
 refine Xae (Xad ?_)
 refine kO hT hC ?_
 exact Vc.nil (Xah kR)
 intro r' σ' e hE
 subst e
 obtain rfl := kj h
 refine Xao ?_
 exact hE
def Yd3 (r : Bool) : AV := .sv (.bool r)
def Yd2 (r : Bool) : Xbb := []
theorem Yic {p0 p1 r} (h : Xni p0 p1 = some r) : AC Tryz.prog 60 [.agg [.sv (.int .i64 p0.Level), .sv (.int .i64 p0.Bits), .sv (.ints .i64 p0.Cols), .sv (.ints .i64 p0.Rows)], .agg [.sv (.int .i64 p1.Level), .sv (.int .i64 p1.Bits), .sv (.ints .i64 p1.Cols), .sv (.ints .i64 p1.Rows)]] [] (Yd3 r) (Yd2 r) := by
 refine Xaf hT Tryz.func60 rfl fun C hC => ?_
 unfold Xni at h
 refine Xad ?_
 iterate 3 refine kO hT hC ?_
 refine Vc.nil ?_
 refine kL [2,3,4] [32,48] [_,_,_] [_,_] ?_
 refine kA h (fun v1 => ([(4, .sv (.bool v1)), (2, .any), (3, .any)], [(32, none), (48, none)])) (fun v1 h => ?_) fun v1 h => ?_
 refine Xac ?_
 iterate 6 refine kO hT hC ?_
 refine kS h ?_ ?_ <;> intro b1 h
 iterate 5 refine kI hT hC b1 ?_
 refine kP hC true b1 ?_
 refine kO hT hC ?_
 refine kS h ?_ ?_ <;> intro b2 h
 iterate 4 refine kI hT hC b2 ?_
 refine kE hC b2 [] Tryz.call94 h (fun _ => Xsa) fun q2 h => ?_
 refine kP hC true b2 ?_
 refine kO hT hC ?_
 refine kS h ?_ ?_ <;> intro b3 h
 iterate 4 refine kI hT hC b3 ?_
 refine kE hC b3 [] Tryz.call94 h (fun _ => Xsa) fun q3 h => ?_
 refine kP hC true b3 ?_
 refine kO hT hC ?_
 exact Vc.nil kM
 iterate 5 refine kF hC b3 ?_
 refine kP hC false b3 ?_
 refine kO hT hC ?_
 exact Vc.nil kM
 iterate 5 refine kF hC b2 ?_
 refine kP hC false b2 ?_
 refine kO hT hC ?_
 iterate 5 refine kF hC rfl ?_
 iterate 2 refine kO hT hC ?_
 exact Vc.nil kM
 iterate 5 refine kF hC b1 ?_
 refine kP hC false b1 ?_
 refine kO hT hC ?_
 iterate 5 refine kF hC rfl ?_
 iterate 2 refine kO hT hC ?_
 iterate 5 refine kF hC rfl ?_
 iterate 2 refine kO hT hC ?_
 exact Vc.nil kM
 exact Xah kR
def Xu1 (r : Bool) : AV := .sv (.bool r)
def Xu0 (r : Bool) : Xbb := []
theorem Xoy {p0 p1 r} (h : Xe4 p0 p1 = some r) : AC Tryz.prog 32 [.agg [.sv (.bool p0.HasSeq), .sv (.bool p0.HasPar), .sv (.bool p0.HasRef), .sv (.int .i64 p0.Seq.Level), .sv (.int .i64 p0.Seq.Bits), .sv (.ints .i64 p0.Seq.Cols), .sv (.ints .i64 p0.Seq.Rows), .sv (.int .i64 p0.Par.Qp), .sv (.bool p0.Par.Large), .sv (.bool p0.Par.Exact), .sv (.bool p0.Par.Confined), .sv (.int .i64 p0.Frame), .sv (.int .i64 p0.Got), .sv (.int .i64 p0.Now.Wide), .sv (.int .i64 p0.Now.High), .sv (.str p0.Now.Dots), .sv (.int .i64 p0.Ref.Wide), .sv (.int .i64 p0.Ref.High), .sv (.str p0.Ref.Dots)], .agg [.sv (.bool p1.HasSeq), .sv (.bool p1.HasPar), .sv (.bool p1.HasRef), .sv (.int .i64 p1.Seq.Level), .sv (.int .i64 p1.Seq.Bits), .sv (.ints .i64 p1.Seq.Cols), .sv (.ints .i64 p1.Seq.Rows), .sv (.int .i64 p1.Par.Qp), .sv (.bool p1.Par.Large), .sv (.bool p1.Par.Exact), .sv (.bool p1.Par.Confined), .sv (.int .i64 p1.Frame), .sv (.int .i64 p1.Got), .sv (.int .i64 p1.Now.Wide), .sv (.int .i64 p1.Now.High), .sv (.str p1.Now.Dots), .sv (.int .i64 p1.Ref.Wide), .sv (.int .i64 p1.Ref.High), .sv (.str p1.Ref.Dots)]] [] (Xu1 r) (Xu0 r) := by
 refine Xaf hT Tryz.func32 rfl fun C hC => ?_
 unfold Xe4 at h
 refine Xad ?_
 iterate 3 refine kO hT hC ?_
 refine Vc.nil ?_
 refine kL [2,3,4] [32,48] [_,_,_] [_,_] ?_
 refine kA h (fun v1 => ([(4, .sv (.bool v1)), (2, .any), (3, .any)], [(32, none), (48, none)])) (fun v1 h => ?_) fun v1 h => ?_
 refine Xac ?_
 iterate 6 refine kO hT hC ?_
 refine kS h ?_ ?_ <;> intro b1 h
 iterate 5 refine kI hT hC b1 ?_
 refine kP hC true b1 ?_
 refine kO hT hC ?_
 refine kS h ?_ ?_ <;> intro b2 h
 iterate 5 refine kI hT hC b2 ?_
 refine kP hC true b2 ?_
 refine kO hT hC ?_
 refine kS h ?_ ?_ <;> intro b3 h
 iterate 4 refine kI hT hC b3 ?_
 refine kE hC b3 [] Tryz.call60 h (fun _ => Yic) fun q2 h => ?_
 refine kP hC true b3 ?_
 refine kO hT hC ?_
 refine kS h ?_ ?_ <;> intro b4 h
 iterate 4 refine kI hT hC b4 ?_
 refine Xn2 hC rfl rfl rfl rfl b4 rfl rfl rfl Yq7 rfl rfl ?_
 refine kP hC true b4 ?_
 refine kO hT hC ?_
 refine kS h ?_ ?_ <;> intro b5 h
 iterate 5 refine kI hT hC b5 ?_
 refine kP hC true b5 ?_
 refine kO hT hC ?_
 refine kS h ?_ ?_ <;> intro b6 h
 iterate 5 refine kI hT hC b6 ?_
 refine kP hC true b6 ?_
 refine kO hT hC ?_
 refine kS h ?_ ?_ <;> intro b7 h
 iterate 4 refine kI hT hC b7 ?_
 refine Xn2 hC rfl rfl rfl rfl b7 rfl rfl rfl Ycm rfl rfl ?_
 refine kP hC true b7 ?_
 refine kO hT hC ?_
 refine kS h ?_ ?_ <;> intro b8 h
 iterate 4 refine kI hT hC b8 ?_
 refine Xn2 hC rfl rfl rfl rfl b8 rfl rfl rfl Ycm rfl rfl ?_
 refine kP hC true b8 ?_
 refine kO hT hC ?_
 exact Vc.nil kM
 iterate 5 refine kF hC b8 ?_
 refine kP hC false b8 ?_
 refine kO hT hC ?_
 exact Vc.nil kM
 iterate 5 refine kF hC b7 ?_
 refine kP hC false b7 ?_
 refine kO hT hC ?_
 iterate 5 refine kF hC rfl ?_
 iterate 2 refine kO hT hC ?_
 exact Vc.nil kM
 iterate 5 refine kF hC b6 ?_
 refine kP hC false b6 ?_
 refine kO hT hC ?_
 iterate 5 refine kF hC rfl ?_
 iterate 2 refine kO hT hC ?_
 iterate 5 refine kF hC rfl ?_
 iterate 2 refine kO hT hC ?_
 exact Vc.nil kM
 iterate 5 refine kF hC b5 ?_
 refine kP hC false b5 ?_
 refine kO hT hC ?_
 iterate 5 refine kF hC rfl ?_
 iterate 2 refine kO hT hC ?_
 iterate 5 refine kF hC rfl ?_
 iterate 2 refine kO hT hC ?_
 iterate 5 refine kF hC rfl ?_
 iterate 2 refine kO hT hC ?_
 exact Vc.nil kM
 iterate 5 refine kF hC b4 ?_
 refine kP hC false b4 ?_
 refine kO hT hC ?_
 iterate 5 refine kF hC rfl ?_
 iterate 2 refine kO hT hC ?_
 iterate 5 refine kF hC rfl ?_
 iterate 2 refine kO hT hC ?_
 iterate 5 refine kF hC rfl ?_
 iterate 2 refine kO hT hC ?_
 iterate 5 refine kF hC rfl ?_
 iterate 2 refine kO hT hC ?_
 exact Vc.nil kM
 iterate 5 refine kF hC b3 ?_
 refine kP hC false b3 ?_
 refine kO hT hC ?_
 iterate 5 refine kF hC rfl ?_
 iterate 2 refine kO hT hC ?_
 iterate 5 refine kF hC rfl ?_
 iterate 2 refine kO hT hC ?_
 iterate 5 refine kF hC rfl ?_
 iterate 2 refine kO hT hC ?_
 iterate 5 refine kF hC rfl ?_
 iterate 2 refine kO hT hC ?_
 iterate 5 refine kF hC rfl ?_
 iterate 2 refine kO hT hC ?_
 exact Vc.nil kM
 iterate 5 refine kF hC b2 ?_
 refine kP hC false b2 ?_
 refine kO hT hC ?_
 iterate 5 refine kF hC rfl ?_
 iterate 2 refine kO hT hC ?_
 iterate 5 refine kF hC rfl ?_
 iterate 2 refine kO hT hC ?_
 iterate 5 refine kF hC rfl ?_
 iterate 2 refine kO hT hC ?_
 iterate 5 refine kF hC rfl ?_
 iterate 2 refine kO hT hC ?_
 iterate 5 refine kF hC rfl ?_
 iterate 2 refine kO hT hC ?_
 iterate 5 refine kF hC rfl ?_
 iterate 2 refine kO hT hC ?_
 exact Vc.nil kM
 iterate 5 refine kF hC b1 ?_
 refine kP hC false b1 ?_
 refine kO hT hC ?_
 iterate 5 refine kF hC rfl ?_
 iterate 2 refine kO hT hC ?_
 iterate 5 refine kF hC rfl ?_
 iterate 2 refine kO hT hC ?_
 iterate 5 refine kF hC rfl ?_
 iterate 2 refine kO hT hC ?_
 iterate 5 refine kF hC rfl ?_
 iterate 2 refine kO hT hC ?_
 iterate 5 refine kF hC rfl ?_
 iterate 2 refine kO hT hC ?_
 iterate 5 refine kF hC rfl ?_
 iterate 2 refine kO hT hC ?_
 iterate 5 refine kF hC rfl ?_
 iterate 2 refine kO hT hC ?_
 exact Vc.nil kM
 exact Xah kR
def Xyt (r : Bool) : AV := .sv (.bool r)
def Xys (r : Bool) : Xbb := []
theorem Ya1 {p0 r} (h : Xmx p0 = some r) : AC Tryz.prog 6 [.sv (.ints .u8 p0)] [] (Xyt r) (Xys r) := by
 refine Xaf hT Tryz.func6 rfl fun C hC => ?_
 unfold Xmx at h
 refine Xad ?_
 refine kO hT hC ?_
 refine Vc.nil (Xap (Xad ?_))
 refine kO hT hC ?_
 refine kC hC [] Tryz.call29 h (fun _ => Ytn) fun q1 h => ?_
 refine Vc.nil ?_
 refine kS h ?_ ?_ <;> intro b1 h
 refine kt b1 (Xad ?_)
 refine kO hT hC ?_
 exact Vc.nil (Xah (Xao kR))
 refine kf b1 (Xag (Xae (Xad ?_)))
 refine kO hT hC ?_
 refine kC hC [(16, 304), (17, 305)] Tryz.call30 h (fun _ => Xqw) fun q2 h => ?_
 iterate 6 refine kO hT hC ?_
 refine kN ?_
 refine kO hT hC ?_
 refine kC hC [(16, 384), (17, 385)] Tryz.call30 h (fun _ => Xqw) fun q3 h => ?_
 iterate 6 refine kO hT hC ?_
 refine kN ?_
 refine kO hT hC ?_
 refine kC hC [(16, 448)] Tryz.call31 h (fun _ => Xy7) fun q4 h => ?_
 refine kO hT hC ?_
 refine kN ?_
 refine kO hT hC ?_
 refine kQ hT hC h fun h => ?_
 refine kO hT hC ?_
 refine Vc.nil ?_
 refine kL [3,5,7,8] [48,80,304,305,384,385,448,480] [_,_,_,_] [_,_,_,_,_,_,_,_] ?_
 refine kA h (fun v5 => ([(7, .any)], [(480, some (.ints .u8 v5)), (448, none)])) (fun v5 h => ?_) fun v5 h => ?_
 refine Xad ?_
 iterate 3 refine kO hT hC ?_
 refine Vc.nil ?_
 refine kS h ?_ ?_ <;> intro b2 h
 refine kt b2 ?_
 refine Xcu hm ?_
 iterate 2 refine kO hT hC ?_
 iterate 2 refine kQ hT hC h fun h => ?_
 iterate 2 refine kO hT hC ?_
 refine kQ hT hC h fun h => ?_
 iterate 2 refine kO hT hC ?_
 iterate 2 refine kQ hT hC h fun h => ?_
 iterate 2 refine kO hT hC ?_
 iterate 3 refine kQ hT hC h fun h => ?_
 refine kO hT hC ?_
 iterate 3 refine kQ hT hC h fun h => ?_
 iterate 3 refine kO hT hC ?_
 iterate 2 refine kQ hT hC h fun h => ?_
 exact kD kM
 exact kf b2 (Xag kM)
 refine Xad ?_
 iterate 3 refine kO hT hC ?_
 obtain ⟨q6, hq, h⟩ := Xbo h
 refine Ysx hC [(16, 992), (17, 993)] rfl rfl rfl rfl Tryz.call10 (Yg3 hq) rfl (by decide) trivial rfl (.inr ⟨rfl, ⟨trivial, trivial, trivial⟩⟩) rfl ?_
 iterate 9 refine kO hT hC ?_
 refine kN ?_
 iterate 3 refine kO hT hC ?_
 obtain ⟨q7, hq, h⟩ := Xbo h
 refine Ysx hC [(16, 1120), (17, 1121)] rfl rfl rfl rfl Tryz.call8 (Xtc hq) rfl (by decide) trivial rfl (.inr ⟨rfl, ⟨trivial, trivial, trivial⟩⟩) rfl ?_
 iterate 9 refine kO hT hC ?_
 refine Vc.nil (Xap ?_)
 refine kL [5,9,10,11,12,13,14] [80,144,176,192,224,384,385,992,993,1120,1121] [_,_,_,_,_,_,_] [_,_,_,_,_,_,_,_,_,_,_] ?_
 refine kA h (fun v8 => ([(92, .sv (.bool v8)), (12, .any), (13, .any), (14, .any)], [(192, none), (224, none), (1120, none), (1121, none)])) (fun v8 h => ?_) fun v8 h => ?_
 refine Xac ?_
 iterate 4 refine kO hT hC ?_
 refine kS h ?_ ?_ <;> intro b3 h
 iterate 4 refine kF hC b3 ?_
 refine kP hC true b3 ?_
 refine kO hT hC ?_
 iterate 3 refine kF hC rfl ?_
 iterate 2 refine kO hT hC ?_
 iterate 3 refine kF hC rfl ?_
 refine kO hT hC ?_
 exact Vc.nil kM
 iterate 2 refine kI hT hC b3 ?_
 refine kE hC b3 [] Tryz.call32 h (fun _ => Xoy) fun q9 h => ?_
 refine kI hT hC b3 ?_
 refine kP hC false b3 ?_
 refine kO hT hC ?_
 refine kS h ?_ ?_ <;> intro b4 h
 iterate 2 refine kI hT hC (kn b4) ?_
 refine Xn2 hC rfl rfl rfl rfl (kn b4) rfl rfl rfl Ycm rfl rfl ?_
 refine kP hC false (kn b4) ?_
 refine kO hT hC ?_
 refine kS h ?_ ?_ <;> intro b5 h
 iterate 3 refine kF hC b5 ?_
 refine kP hC true b5 ?_
 exact Vc.nil kM
 refine kI hT hC b5 ?_
 refine kE hC b5 [] Tryz.call33 h (fun _ => Xxz) fun q10 h => ?_
 refine kI hT hC b5 ?_
 refine kP hC false b5 ?_
 exact Vc.nil kM
 iterate 3 refine kF hC (kn b4) ?_
 refine kP hC true (kn b4) ?_
 refine kO hT hC ?_
 iterate 3 refine kF hC rfl ?_
 refine kO hT hC ?_
 exact Vc.nil kM
 refine kS h ?_ ?_ <;> intro b6 h
 refine kt b6 (Xad ?_)
 refine kO hT hC ?_
 exact Vc.nil (Xah (Xao kR))
 refine kf b6 (Xag (Xae ?_))
 refine kL [5,9,10,11] [80,144,176,384,385,992,993] [_,_,_,_] [_,_,_,_,_,_,_] ?_
 refine kA h (fun v11 => ([(2, .sv (.bool v11)), (5, .any), (9, .any), (10, .any), (11, .any)], [(80, none), (144, none), (176, none), (384, none), (385, none), (992, none), (993, none)])) (fun v11 h => ?_) fun v11 h => ?_
 refine Xac ?_
 iterate 3 refine kO hT hC ?_
 refine kS h ?_ ?_ <;> intro b7 h
 iterate 4 refine kF hC b7 ?_
 iterate 3 refine Xd7 hC rfl rfl rfl rfl rfl rfl ?_
 refine kF hC b7 ?_
 refine kP hC true b7 ?_
 refine kO hT hC ?_
 exact Vc.nil kM
 iterate 2 refine kI hT hC b7 ?_
 refine kE hC b7 [] Tryz.call32 h (fun _ => Xoy) fun q12 h => ?_
 refine kI hT hC b7 ?_
 refine kS h ?_ ?_ <;> intro b8 h
 iterate 3 refine kI hT hC b8 ?_
 refine Xa1 hC rfl rfl rfl rfl b7 rfl rfl (b := true) b8 rfl rfl rfl trivial ?_
 refine kP hC false b7 ?_
 refine kO hT hC ?_
 exact Vc.nil kM
 iterate 3 refine kF hC b8 ?_
 refine Xa1 hC rfl rfl rfl rfl b7 rfl rfl (b := false) b8 rfl rfl rfl trivial ?_
 refine kP hC false b7 ?_
 refine kO hT hC ?_
 exact Vc.nil kM
 exact Xah kR
end
end Go.Proofs.YtjgbfopmjpkkhaaGreat.A
