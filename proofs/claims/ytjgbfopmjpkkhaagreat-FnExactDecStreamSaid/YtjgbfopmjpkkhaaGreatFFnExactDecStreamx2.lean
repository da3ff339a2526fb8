/- Contracts of the functions that the law FnExactDecStream reaches, part 2: each comes to what its pure function tells. Written by a program of this session. Conditions: as each statement tells. -/
import Derived.Test.YtjgbfopmjpkkhaaGreatFFnExactDecStreamx1
namespace Go.Proofs.YtjgbfopmjpkkhaaGreat.A
open Go Go.Proofs Go.Proofs.YtjgbfopmjpkkhaaGreatAL Go.RowKit
set_option linter.unusedVariables false
set_option linter.unusedSimpArgs false
set_option maxRecDepth 100000
set_option maxHeartbeats 2000000
noncomputable section
def Xzx (r : (Xkb × Bool)) : AV := .tup [.agg [.own 16, .own 17, .sv (.int .i64 r.1.Corner)], .sv (.bool r.2)]
def Xzw (r : (Xkb × Bool)) : Xa8 := [(16, .ints .i64 r.1.Above), (17, .ints .i64 r.1.Left)]
theorem Yds {p0 p1 p2 r} (h : Xlg p0 p1 p2 = some r) : AC Tryz.prog 163 [.agg [.sv (.int .i64 p0.Wide), .sv (.int .i64 p0.High), .sv (.str p0.Dots)], .sv (.int .i64 p1), .sv (.int .i64 p2)] [] (Xzx r) (Xzw r) := by
 refine Xag hT Tryz.func163 rfl fun C hC => ?_
 unfold Xlg at h
 refine Xac ?_
 iterate 3 refine kO hT hC ?_
 refine Vc.nil ?_
 refine Xaq ?_
 refine kL [1,2,3,6] [48,96] [_,_,_,_] [_,_] ?_
 refine kA h (fun v1 => ([(19, .sv (.bool v1))], [])) (fun v1 h => ?_) fun v1 h => ?_
 refine Xab ?_
 refine kO hT hC ?_
 refine kC hC [] Tryz.call55 h (fun _ => Xdr) fun q2 h => ?_
 iterate 2 refine kO hT hC ?_
 refine kS h ?_ ?_ <;> intro b1 h
 iterate 3 refine kI hT hC (kn b1) ?_
 refine kE hC (kn b1) [] Tryz.call158 h (fun _ => Xmb) fun q3 h => ?_
 refine kI hT hC (kn b1) ?_
 refine kP hC false (kn b1) ?_
 refine Vc.nil ?_
 exact kM
 iterate 5 refine kF hC (kn b1) ?_
 refine kP hC true (kn b1) ?_
 refine Vc.nil ?_
 exact kM
 refine kS h ?_ ?_ <;> intro b2 h
 refine kt b2 ?_
 refine Xac ?_
 iterate 3 refine kO hT hC ?_
 refine Vc.nil ?_
 refine Xah ?_
 refine Xap ?_
 obtain rfl := kj h
 refine Xbt (τ := ⟨[(6, .ptr 2000000 0), (7, .sv (.bool false))], [(16, some (.ints .i64 [])), (17, some (.ints .i64 [])), (2000000, some (.box [.own 16, .own 17, .sv (.int .i64 0)]))]⟩) ?_ rfl ⟨rfl, rfl, trivial⟩
 refine Xf7 hC 96 0 1105 (.ints .i64 []) rfl rfl rfl rfl rfl trivial ?_
 refine Xf7 hC 96 1 1106 (.ints .i64 []) rfl rfl rfl rfl rfl trivial ?_
 apply Xbz hC [(16, 1105), (17, 1106), (2000000, 96)]
 exact co
 rfl
 decide
 rfl
 refine kf b2 ?_
 refine Xaf ?_
 refine Xae ?_
 refine Xac ?_
 iterate 3 refine kO hT hC ?_
 refine Vc.nil ?_
 refine Xaq ?_
 refine Xac ?_
 refine kO hT hC ?_
 refine Vc.nil ?_
 refine kL [1,2,3,6,8,22] [48,96,128] [_,_,_,_,_,_] [_,_,_] ?_
 obtain ⟨v15, hl, h⟩ := Xba h
 refine Yt6 (fun v9 => ([(22, .sv (.int .i64 v9.1))], [(128, some (.box [.own 1129, .own 1130, .sv (.int .i64 (-1))])), (1129, some (.ints .i64 v9.2.1)), (1130, some (.ints .i64 v9.2.2))])) (fun v15 => ([(22, .any)], [(128, some (.box [.own 1133, .own 1134, .sv (.int .i64 (-1))])), (1133, some (.ints .i64 v15.1)), (1134, some (.ints .i64 v15.2))])) hl ?_ ?_ ?_
 refine Xf7 hC 128 0 1135 (.ints .i64 []) rfl rfl rfl rfl rfl trivial ?_
 refine Xf7 hC 128 1 1136 (.ints .i64 []) rfl rfl rfl rfl rfl trivial ?_
 try dsimp only
 apply Xbz hC [(1129, 1135), (1130, 1136)]
 exact co
 rfl
 decide
 rfl
 intro v9 s hs
 have h := hs
 unfold Xjf at h
 refine Xac ?_
 refine kO hT hC ?_
 refine Vc.nil ?_
 refine Xaq ?_
 refine kS h ?_ ?_ <;> intro b9 h
 refine kt b9 ?_
 refine Xaf ?_
 refine Xae ?_
 refine kL [1,2,3,6,8,22] [48,96,128,1129,1130] [_,_,_,_,_,_] [_,_,_,_,_] ?_
 refine kA h (fun v16 => ([], [(1129, some (.ints .i64 v16.1)), (1130, some (.ints .i64 v16.2))])) (fun v16 h => ?_) fun v16 h => ?_
 refine Xao ?_
 refine Xac ?_
 iterate 2 refine kO hT hC ?_
 refine Vc.nil ?_
 refine kL [1,2,3,6,8,9,22] [48,96,128,1129,1130] [_,_,_,_,_,_,_] [_,_,_,_,_] ?_
 refine kA h (fun v17 => ([], [(1129, some (.ints .i64 v17))])) (fun v17 h => ?_) fun v17 h => ?_
 refine Xac ?_
 iterate 2 refine kO hT hC ?_
 refine Vc.nil ?_
 refine kS h ?_ ?_ <;> intro b10 h
 refine kt b10 ?_
 refine Xcz hm ?_
 iterate 8 refine kO hT hC ?_
 refine kC hC [] Tryz.call185 h (fun _ => Xjh) fun q18 h => ?_
 refine kO hT hC ?_
 refine kT hT hC h fun h => ?_
 iterate 2 refine kO hT hC ?_
 refine kD ?_
 obtain rfl := kj h
 exact Xdp (kW hC [(1129, 592)])
 refine kf b10 ?_
 refine Xaf ?_
 exact kM
 refine Xac ?_
 iterate 2 refine kO hT hC ?_
 refine Vc.nil ?_
 refine kS h ?_ ?_ <;> intro b11 h
 refine kt b11 ?_
 refine Xcz hm ?_
 iterate 8 refine kO hT hC ?_
 refine kC hC [] Tryz.call185 h (fun _ => Xjh) fun q19 h => ?_
 refine kO hT hC ?_
 refine kT hT hC h fun h => ?_
 iterate 2 refine kO hT hC ?_
 refine kD ?_
 refine Xar ?_
 obtain rfl := kj h
 exact Xdp (kW hC [(1130, 816)])
 refine kf b11 ?_
 refine Xaf ?_
 refine Xar ?_
 exact kM
 refine Xab ?_
 iterate 2 refine kO hT hC ?_
 refine Vc.nil ?_
 exact kG
 refine kf b9 ?_
 refine Xas ?_
 refine Xaz ?_
 obtain rfl := kj h
 exact Yqy (Yxo (kW hC [(1133, 1129), (1134, 1130)]))
 refine Xae ?_
 refine kL [1,2,3,6,8] [48,96,128,1133,1134] [_,_,_,_,_] [_,_,_,_,_] ?_
 refine kA h (fun v21 => ([(1, .any), (2, .any), (3, .any)], [(128, some (.box [.own 1133, .own 1134, .sv (.int .i64 v21)])), (48, none)])) (fun v21 h => ?_) fun v21 h => ?_
 refine kL [1,2,3,6,8] [48,96,128,1133,1134] [_,_,_,_,_] [_,_,_,_,_] ?_
 refine kA h (fun v22 => ([(59, .sv (.bool v22))], [])) (fun v22 h => ?_) fun v22 h => ?_
 refine Xab ?_
 iterate 3 refine kO hT hC ?_
 refine kS h ?_ ?_ <;> intro b12 h
 iterate 2 refine kI hT hC b12 ?_
 refine kP hC true b12 ?_
 refine Vc.nil ?_
 exact kM
 iterate 2 refine kF hC b12 ?_
 refine kP hC false b12 ?_
 refine Vc.nil ?_
 exact kM
 refine kS h ?_ ?_ <;> intro b13 h
 refine kt b13 ?_
 refine Xab ?_
 iterate 5 refine kO hT hC ?_
 refine kC hC [] Tryz.call185 h (fun _ => Xjh) fun q23 h => ?_
 iterate 2 refine kO hT hC ?_
 refine Vc.nil ?_
 exact kM
 refine kf b13 ?_
 refine Xaf ?_
 exact kM
 refine Xac ?_
 iterate 3 refine kO hT hC ?_
 refine Vc.nil ?_
 refine Xah ?_
 obtain rfl := kj h
 exact Xbt (τ := ⟨[(6, .ptr 2000000 0), (7, .sv (.bool true))], [(16, some (.ints .i64 v15.1)), (17, some (.ints .i64 v15.2)), (2000000, some (.box [.own 16, .own 17, .sv (.int .i64 v21)]))]⟩) (kW hC [(16, 1133), (17, 1134), (2000000, 96)]) rfl ⟨rfl, rfl, trivial⟩
def Xp9 (r : Bool) : AV := .sv (.bool r)
def Xp8 (r : Bool) : Xa8 := []
theorem Ydt {p0 r} (h : Xlh p0 = some r) : AC Tryz.prog 194 [.agg [.sv (.ints .i64 p0.Above), .sv (.ints .i64 p0.Left), .sv (.int .i64 p0.Corner)]] [] (Xp9 r) (Xp8 r) := by
 refine Xag hT Tryz.func194 rfl fun C hC => ?_
 unfold Xlh at h
 refine Xac ?_
 iterate 2 refine kO hT hC ?_
 refine Vc.nil ?_
 refine Xaq ?_
 refine Xac ?_
 iterate 7 refine kO hT hC ?_
 refine Vc.nil ?_
 refine kL [1,9,10,11] [16,144] [_,_,_,_] [_,_] ?_
 obtain ⟨o11, hl, h⟩ := Xba h
 refine Xd8 (fun v4 => ([(11, .sv (.int .i64 v4))], [])) (fun v8 => ([(9, .any), (10, .any), (11, .any)], [(144, none)])) (fun r => Xl1 C T Tryz.f194.results.toList (Xp9 r) (Xp8 r)) hl ?_ ?_ ?_ ?_
 apply Xbz hC []
 exact co
 rfl
 decide
 rfl
 intro v4 s hs
 have h := hs
 unfold Xe6 at h
 refine Xac ?_
 refine kO hT hC ?_
 refine Vc.nil ?_
 refine Xaq ?_
 refine kS h ?_ ?_ <;> intro b7 h
 refine kt b7 ?_
 refine Xaf ?_
 refine Xae ?_
 refine Xaq ?_
 refine Xao ?_
 refine Xac ?_
 iterate 2 refine kQ hT hC h fun h => ?_
 refine kO hT hC ?_
 refine Vc.nil ?_
 refine kL [1,4,9,10,11] [16,144] [_,_,_,_,_] [_,_] ?_
 refine kA h (fun v9 => ([(22, .sv (.bool v9)), (4, .any)], [])) (fun v9 h => ?_) fun v9 h => ?_
 refine Xab ?_
 iterate 4 refine kO hT hC ?_
 refine kS h ?_ ?_ <;> intro b8 h
 refine kI hT hC b8 ?_
 refine kE hC b8 [] Tryz.call192 h (fun _ => Xhj) fun q10 h => ?_
 refine kI hT hC b8 ?_
 refine kP hC true b8 ?_
 refine Vc.nil ?_
 exact kM
 iterate 3 refine kF hC b8 ?_
 refine kP hC false b8 ?_
 refine Vc.nil ?_
 exact kM
 refine kS h ?_ ?_ <;> intro b9 h
 refine kt b9 ?_
 refine Xac ?_
 refine kO hT hC ?_
 refine Vc.nil ?_
 refine Xah ?_
 refine Xcr ?_
 refine Xap ?_
 obtain rfl := kj h
 refine Xku ?_
 refine Xkr ?_
 exact Xbt (Xgk.refl _) rfl trivial
 refine kf b9 ?_
 refine Xaf ?_
 refine Xar ?_
 refine Xae ?_
 refine Xab ?_
 iterate 2 refine kO hT hC ?_
 refine Vc.nil ?_
 exact kG
 refine kf b7 ?_
 refine Xas ?_
 refine Xaz ?_
 exact kb
 intro v8 e
 subst e
 refine Xae ?_
 refine Xac ?_
 iterate 2 refine kO hT hC ?_
 refine kC hC [] Tryz.call64 h (fun _ => Xam) fun q12 h => ?_
 refine kO hT hC ?_
 refine Vc.nil ?_
 refine Xah ?_
 exact kR
 intro r' σ' e hE
 subst e
 obtain rfl := kj h
 refine Xap ?_
 exact hE
def Yex (r : (List Int)) : AV := .sv (.ints .i64 r)
def Yew (r : (List Int)) : Xa8 := []
theorem Xs5 {p0 r} (h : Xkl p0 = some r) : AC Tryz.prog 195 [.sv (.ints .i64 p0)] [] (Yex r) (Yew r) := by
 refine Xag hT Tryz.func195 rfl fun C hC => ?_
 unfold Xkl at h
 refine Xac ?_
 refine kO hT hC ?_
 refine Vc.nil ?_
 refine Xaq ?_
 refine Xac ?_
 iterate 3 refine kO hT hC ?_
 refine Vc.nil ?_
 refine kS h ?_ ?_ <;> intro b1 h
 refine kt b1 ?_
 refine Xac ?_
 iterate 2 refine kO hT hC ?_
 refine Vc.nil ?_
 refine Xah ?_
 refine Xap ?_
 obtain rfl := kj h
 exact Xbt (τ := ⟨[(2, .sv (.ints .i64 ([128, 128, 128, 128, 128, 128, 128, 128])))], []⟩) (kW hC []) rfl trivial
 refine kf b1 ?_
 refine Xaf ?_
 refine Xae ?_
 refine Xac ?_
 iterate 2 refine kO hT hC ?_
 refine Vc.nil ?_
 refine Xah ?_
 exact kR
def Xz2 (r : (List Int)) : AV := .own 16
def Xz1 (r : (List Int)) : Xa8 := [(16, .ints .i64 r)]
theorem Ydw {p0 p1 r} (h : Xix p0 p1 = some r) : AC Tryz.prog 164 [.sv (.int .i64 p0), .agg [.sv (.ints .i64 p1.Above), .sv (.ints .i64 p1.Left), .sv (.int .i64 p1.Corner)]] [] (Xz2 r) (Xz1 r) := by
 refine Xag hT Tryz.func164 rfl fun C hC => ?_
 unfold Xix at h
 refine Xac ?_
 iterate 2 refine kO hT hC ?_
 refine kN ?_
 iterate 2 refine kO hT hC ?_
 refine Vc.nil ?_
 refine Xaq ?_
 refine kL [0,3,5] [48,208] [_,_,_] [_,_] ?_
 refine kA h (fun v1 => ([(21, .sv (.bool v1))], [])) (fun v1 h => ?_) fun v1 h => ?_
 refine Xab ?_
 refine kO hT hC ?_
 refine kC hC [] Tryz.call194 h (fun _ => Ydt) fun q2 h => ?_
 iterate 2 refine kO hT hC ?_
 refine kS h ?_ ?_ <;> intro b1 h
 refine kI hT hC (kn b1) ?_
 refine kE hC (kn b1) [] Tryz.call64 h (fun _ => Xam) fun q3 h => ?_
 refine kI hT hC (kn b1) ?_
 refine kP hC false (kn b1) ?_
 refine Vc.nil ?_
 exact kM
 iterate 3 refine kF hC (kn b1) ?_
 refine kP hC true (kn b1) ?_
 refine Vc.nil ?_
 exact kM
 refine kS h ?_ ?_ <;> intro b2 h
 refine kt b2 ?_
 refine Xac ?_
 iterate 2 refine kO hT hC ?_
 refine Vc.nil ?_
 refine Xah ?_
 refine Xap ?_
 obtain rfl := kj h
 exact Xbt (τ := ⟨[(4, .own 16)], [(16, some (.ints .i64 ([] : List Int)))]⟩) (kW hC [(16, 208)]) rfl ⟨rfl, trivial⟩
 refine kf b2 ?_
 refine Xaf ?_
 refine Xae ?_
 refine Xac ?_
 refine kO hT hC ?_
 refine Vc.nil ?_
 refine kL [0,3,5,6] [48,208] [_,_,_,_] [_,_] ?_
 refine kA h (fun v4 => ([(6, .sv (.int .i64 v4))], [])) (fun v4 h => ?_) fun v4 h => ?_
 refine Xac ?_
 iterate 8 refine kO hT hC ?_
 refine kN ?_
 iterate 2 refine kO hT hC ?_
 refine Vc.nil ?_
 refine kS h ?_ ?_ <;> intro b3 h
 refine kt b3 ?_
 refine Xcz hm ?_
 iterate 2 refine kO hT hC ?_
 refine kC hC [] Tryz.call121 h (fun _ => Xen) fun q5 h => ?_
 iterate 2 refine kO hT hC ?_
 refine kC hC [] Tryz.call121 h (fun _ => Xen) fun q6 h => ?_
 iterate 2 refine kO hT hC ?_
 refine kQ hT hC h fun h => ?_
 iterate 2 refine kO hT hC ?_
 refine kQ hT hC h fun h => ?_
 refine kO hT hC ?_
 refine kD ?_
 exact kM
 refine kf b3 ?_
 refine Xaf ?_
 exact kM
 refine Xd7 hm ?_
 iterate 2 refine kO hT hC ?_
 refine kC hC [] Tryz.call195 h (fun _ => Xs5) fun q7 h => ?_
 iterate 2 refine kO hT hC ?_
 refine kC hC [] Tryz.call195 h (fun _ => Xs5) fun q8 h => ?_
 iterate 5 refine kO hT hC ?_
 refine kD ?_
 refine kL [0,5,6,8,9,10] [208] [_,_,_,_,_,_] [_] ?_
 refine kA h (fun v9 => ([(10, .sv (.int .i64 v9))], [])) (fun v9 h => ?_) fun v9 h => ?_
 refine Xac ?_
 iterate 2 refine kO hT hC ?_
 refine Vc.nil ?_
 refine kS h ?_ ?_ <;> intro b4 h
 refine kt b4 ?_
 refine Xab ?_
 refine kO hT hC ?_
 refine Vc.nil ?_
 exact kM
 refine kf b4 ?_
 refine Xaf ?_
 exact kM
 refine Xaq ?_
 refine Xac ?_
 refine kO hT hC ?_
 refine Vc.nil ?_
 refine kL [0,5,6,8,9,10,54] [208] [_,_,_,_,_,_,_] [_] ?_
 refine kX h (fun v22 => ([(54, .sv (.int .i64 v22.1))], [(208, some (.ints .i64 v22.2))])) (fun v35 => ([(0, .any), (6, .any), (8, .any), (9, .any), (10, .any), (54, .any)], [(208, some (.ints .i64 v35))])) (kW hC []) (fun v22 s h => ?_) fun v35 h => ?_
 unfold Xl3 at h
 refine Xac ?_
 refine kO hT hC ?_
 refine Vc.nil ?_
 refine Xaq ?_
 refine kS h ?_ ?_ <;> intro b31 h
 refine kt b31 ?_
 refine Xaf ?_
 refine Xae ?_
 refine Xaq ?_
 refine Xao ?_
 refine Xac ?_
 iterate 2 refine kO hT hC ?_
 refine kN ?_
 refine kO hT hC ?_
 refine Vc.nil ?_
 refine kL [0,5,6,8,9,10,11,54,57] [208] [_,_,_,_,_,_,_,_,_] [_] ?_
 refine kX h (fun v39 => ([(57, .sv (.int .i64 v39.1))], [(208, some (.ints .i64 v39.2))])) (fun v43 => ([(11, .any), (57, .any)], [(208, some (.ints .i64 v43))])) (kW hC []) (fun v39 s h => ?_) fun v43 h => ?_
 unfold Xfx at h
 refine Xac ?_
 refine kO hT hC ?_
 refine Vc.nil ?_
 refine Xaq ?_
 refine kS h ?_ ?_ <;> intro b40 h
 refine kt b40 ?_
 refine Xaf ?_
 refine Xae ?_
 refine kL [0,5,6,8,9,10,11,54,57] [208] [_,_,_,_,_,_,_,_,_] [_] ?_
 refine kA h (fun v44 => ([(5, .own 1700)], [(1700, some (.ints .i64 v44)), (208, none)])) (fun v44 h => ?_) fun v44 h => ?_
 refine Xao ?_
 refine Xac ?_
 iterate 2 refine kO hT hC ?_
 refine kN ?_
 refine kO hT hC ?_
 refine Vc.nil ?_
 refine Xao ?_
 refine Xac ?_
 iterate 2 refine kO hT hC ?_
 refine Vc.nil ?_
 refine kS h ?_ ?_ <;> intro b41 h
 refine kt b41 ?_
 refine Xab ?_
 iterate 3 refine kO hT hC ?_
 refine kT hT hC h fun h => ?_
 refine kO hT hC ?_
 refine Vc.nil ?_
 iterate 2 refine Xar ?_
 obtain rfl := kj h
 exact Xdp (kW hC [(1700, 1296)])
 refine kf b41 ?_
 refine Xac ?_
 iterate 2 refine kO hT hC ?_
 refine Vc.nil ?_
 refine kS h ?_ ?_ <;> intro b42 h
 refine kt b42 ?_
 refine Xab ?_
 iterate 3 refine kO hT hC ?_
 refine kQ hT hC h fun h => ?_
 iterate 2 refine kO hT hC ?_
 refine kT hT hC h fun h => ?_
 refine kO hT hC ?_
 refine Vc.nil ?_
 iterate 2 refine Xar ?_
 obtain rfl := kj h
 exact Xdp (kW hC [(1700, 1440)])
 refine kf b42 ?_
 refine Xac ?_
 iterate 2 refine kO hT hC ?_
 refine Vc.nil ?_
 refine kS h ?_ ?_ <;> intro b43 h
 refine kt b43 ?_
 refine Xab ?_
 iterate 3 refine kO hT hC ?_
 refine kQ hT hC h fun h => ?_
 iterate 2 refine kO hT hC ?_
 refine kT hT hC h fun h => ?_
 refine kO hT hC ?_
 refine Vc.nil ?_
 iterate 2 refine Xar ?_
 obtain rfl := kj h
 exact Xdp (kW hC [(1700, 1584)])
 refine kf b43 ?_
 refine Xcz hm ?_
 iterate 3 refine kO hT hC ?_
 refine kQ hT hC h fun h => ?_
 iterate 3 refine kO hT hC ?_
 refine kQ hT hC h fun h => ?_
 iterate 4 refine kO hT hC ?_
 refine kC hC [] Tryz.call193 h (fun _ => Xjd) fun q45 h => ?_
 refine kO hT hC ?_
 refine kT hT hC h fun h => ?_
 refine kO hT hC ?_
 refine kD ?_
 iterate 2 refine Xar ?_
 obtain rfl := kj h
 exact Xdp (kW hC [(1700, 1200)])
 refine Xab ?_
 iterate 2 refine kO hT hC ?_
 refine Vc.nil ?_
 obtain rfl := kj h
 exact Ya8 (kW hC [(208, 1700)])
 refine kf b40 ?_
 refine Xas ?_
 refine Xaz ?_
 exact ku
 refine Xar ?_
 refine Xae ?_
 refine Xab ?_
 iterate 2 refine kO hT hC ?_
 refine Vc.nil ?_
 exact kG
 refine kf b31 ?_
 refine Xas ?_
 refine Xaz ?_
 exact ku
 refine Xae ?_
 refine Xac ?_
 iterate 2 refine kO hT hC ?_
 refine Vc.nil ?_
 refine Xah ?_
 obtain rfl := kj h
 exact Xbt (τ := ⟨[(4, .own 16)], [(16, some (.ints .i64 v35))]⟩) (kW hC [(16, 208)]) rfl ⟨rfl, trivial⟩
def Xt0 (r : ((List Int) × Bool)) : AV := .tup [.own 16, .sv (.bool r.2)]
def Xtz (r : ((List Int) × Bool)) : Xa8 := [(16, .ints .i64 r.1)]
theorem Xvh {p0 p1 p2 p3 p4 p5 p6 p7 r} (h : Xdb p0 p1 p2 p3 p4 p5 p6 p7 = some r) : AC Tryz.prog 125 [.agg [.sv (.int .i64 p0.Wide), .sv (.int .i64 p0.High), .sv (.str p0.Dots)], .agg [.sv (.int .i64 p1.Wide), .sv (.int .i64 p1.High), .sv (.str p1.Dots)], .sv (.int .i64 p2), .sv (.int .i64 p3), .agg [.sv (.bool p4.Key), .sv (.int .i64 p4.Qp), .sv (.bool p4.Large), .sv (.bool p4.Exact)], .sv (.int .i64 p5), .sv (.int .i64 p6), .agg [.sv (.int .i64 p7.Kind), .sv (.int .i64 p7.Mode), .sv (.int .i64 p7.Dx), .sv (.int .i64 p7.Dy), .sv (.ints .i64 p7.Levels)]] [] (Xt0 r) (Xtz r) := by
 refine Xag hT Tryz.func125 rfl fun C hC => ?_
 unfold Xdb at h
 refine Xac ?_
 iterate 6 refine kO hT hC ?_
 refine Vc.nil ?_
 refine Xaq ?_
 refine kL [2,3,5,6,8,9,12,15] [128,144,192,240] [_,_,_,_,_,_,_,_] [_,_,_,_] ?_
 refine kA h (fun v1 => ([(67, .sv (.bool v1))], [])) (fun v1 h => ?_) fun v1 h => ?_
 refine Xab ?_
 refine kO hT hC ?_
 refine kC hC [] Tryz.call55 h (fun _ => Xdr) fun q2 h => ?_
 iterate 2 refine kO hT hC ?_
 refine kS h ?_ ?_ <;> intro b1 h
 iterate 3 refine kI hT hC (kn b1) ?_
 refine kE hC (kn b1) [] Tryz.call158 h (fun _ => Xmb) fun q3 h => ?_
 refine kI hT hC (kn b1) ?_
 refine kP hC false (kn b1) ?_
 refine kO hT hC ?_
 refine kS h ?_ ?_ <;> intro b2 h
 refine kI hT hC (kn b2) ?_
 refine kE hC (kn b2) [] Tryz.call64 h (fun _ => Xam) fun q4 h => ?_
 refine kI hT hC (kn b2) ?_
 refine kP hC false (kn b2) ?_
 refine kO hT hC ?_
 refine kS h ?_ ?_ <;> intro b3 h
 refine kI hT hC (kn b3) ?_
 refine kE hC (kn b3) [] Tryz.call64 h (fun _ => Xam) fun q5 h => ?_
 refine kI hT hC (kn b3) ?_
 refine kP hC false (kn b3) ?_
 refine kO hT hC ?_
 refine kS h ?_ ?_ <;> intro b4 h
 refine kI hT hC (kn b4) ?_
 refine kE hC (kn b4) [] Tryz.call157 h (fun _ => Xqa) fun q6 h => ?_
 refine kI hT hC (kn b4) ?_
 refine kP hC false (kn b4) ?_
 refine kO hT hC ?_
 refine kS h ?_ ?_ <;> intro b5 h
 refine kI hT hC (kn b5) ?_
 refine kE hC (kn b5) [] Tryz.call119 h (fun _ => Xk5) fun q7 h => ?_
 refine kI hT hC (kn b5) ?_
 refine kP hC false (kn b5) ?_
 refine kO hT hC ?_
 refine kS h ?_ ?_ <;> intro b6 h
 iterate 2 refine kI hT hC (kn b6) ?_
 refine kE hC (kn b6) [] Tryz.call159 h (fun _ => Xvi) fun q8 h => ?_
 refine kI hT hC (kn b6) ?_
 refine kP hC false (kn b6) ?_
 refine kO hT hC ?_
 refine kS h ?_ ?_ <;> intro b7 h
 iterate 4 refine kI hT hC (kn b7) ?_
 refine kS h ?_ ?_ <;> intro b8 h
 refine kI hT hC b8 ?_
 refine kE hC b8 [] Tryz.call55 h (fun _ => Xdr) fun q9 h => ?_
 refine kI hT hC b8 ?_
 refine Xa3 hC rfl rfl rfl rfl (kn b7) rfl rfl (b := true) b8 rfl rfl rfl trivial ?_
 refine kP hC false (kn b7) ?_
 refine Vc.nil ?_
 exact kM
 iterate 3 refine kF hC b8 ?_
 refine Xa3 hC rfl rfl rfl rfl (kn b7) rfl rfl (b := false) b8 rfl rfl rfl trivial ?_
 refine kP hC false (kn b7) ?_
 refine Vc.nil ?_
 exact kM
 iterate 4 refine kF hC (kn b7) ?_
 iterate 3 refine Xdq hC rfl rfl rfl rfl rfl rfl ?_
 refine kF hC (kn b7) ?_
 refine kP hC true (kn b7) ?_
 refine Vc.nil ?_
 exact kM
 iterate 4 refine kF hC (kn b6) ?_
 refine kP hC true (kn b6) ?_
 refine kO hT hC ?_
 iterate 4 refine kF hC rfl ?_
 iterate 3 refine Xdq hC rfl rfl rfl rfl rfl rfl ?_
 refine kF hC rfl ?_
 refine kO hT hC ?_
 refine Vc.nil ?_
 exact kM
 iterate 3 refine kF hC (kn b5) ?_
 refine kP hC true (kn b5) ?_
 refine kO hT hC ?_
 iterate 4 refine kF hC rfl ?_
 iterate 2 refine kO hT hC ?_
 iterate 4 refine kF hC rfl ?_
 iterate 3 refine Xdq hC rfl rfl rfl rfl rfl rfl ?_
 refine kF hC rfl ?_
 refine kO hT hC ?_
 refine Vc.nil ?_
 exact kM
 iterate 3 refine kF hC (kn b4) ?_
 refine kP hC true (kn b4) ?_
 refine kO hT hC ?_
 iterate 3 refine kF hC rfl ?_
 iterate 2 refine kO hT hC ?_
 iterate 4 refine kF hC rfl ?_
 iterate 2 refine kO hT hC ?_
 iterate 4 refine kF hC rfl ?_
 iterate 3 refine Xdq hC rfl rfl rfl rfl rfl rfl ?_
 refine kF hC rfl ?_
 refine kO hT hC ?_
 refine Vc.nil ?_
 exact kM
 iterate 3 refine kF hC (kn b3) ?_
 refine kP hC true (kn b3) ?_
 refine kO hT hC ?_
 iterate 3 refine kF hC rfl ?_
 iterate 2 refine kO hT hC ?_
 iterate 3 refine kF hC rfl ?_
 iterate 2 refine kO hT hC ?_
 iterate 4 refine kF hC rfl ?_
 iterate 2 refine kO hT hC ?_
 iterate 4 refine kF hC rfl ?_
 iterate 3 refine Xdq hC rfl rfl rfl rfl rfl rfl ?_
 refine kF hC rfl ?_
 refine kO hT hC ?_
 refine Vc.nil ?_
 exact kM
 iterate 3 refine kF hC (kn b2) ?_
 refine kP hC true (kn b2) ?_
 refine kO hT hC ?_
 iterate 3 refine kF hC rfl ?_
 iterate 2 refine kO hT hC ?_
 iterate 3 refine kF hC rfl ?_
 iterate 2 refine kO hT hC ?_
 iterate 3 refine kF hC rfl ?_
 iterate 2 refine kO hT hC ?_
 iterate 4 refine kF hC rfl ?_
 iterate 2 refine kO hT hC ?_
 iterate 4 refine kF hC rfl ?_
 iterate 3 refine Xdq hC rfl rfl rfl rfl rfl rfl ?_
 refine kF hC rfl ?_
 refine kO hT hC ?_
 refine Vc.nil ?_
 exact kM
 iterate 5 refine kF hC (kn b1) ?_
 refine kP hC true (kn b1) ?_
 refine kO hT hC ?_
 iterate 3 refine kF hC rfl ?_
 iterate 2 refine kO hT hC ?_
 iterate 3 refine kF hC rfl ?_
 iterate 2 refine kO hT hC ?_
 iterate 3 refine kF hC rfl ?_
 iterate 2 refine kO hT hC ?_
 iterate 3 refine kF hC rfl ?_
 iterate 2 refine kO hT hC ?_
 iterate 4 refine kF hC rfl ?_
 iterate 2 refine kO hT hC ?_
 iterate 4 refine kF hC rfl ?_
 iterate 3 refine Xdq hC rfl rfl rfl rfl rfl rfl ?_
 refine kF hC rfl ?_
 refine kO hT hC ?_
 refine Vc.nil ?_
 exact kM
 refine kS h ?_ ?_ <;> intro b9 h
 refine kt b9 ?_
 refine Xac ?_
 iterate 3 refine kO hT hC ?_
 refine Vc.nil ?_
 refine Xah ?_
 refine Xap ?_
 obtain rfl := kj h
 exact Xbt (τ := ⟨[(16, .own 16), (17, .sv (.bool false))], [(16, some (.ints .i64 ([] : List Int)))]⟩) (kW hC [(16, 1088)]) rfl ⟨rfl, trivial⟩
 refine kf b9 ?_
 refine Xaf ?_
 refine Xae ?_
 refine Xaq ?_
 refine Xac ?_
 iterate 3 refine kO hT hC ?_
 refine Vc.nil ?_
 refine kS h ?_ ?_ <;> intro b10 h
 refine kt b10 ?_
 refine Xac ?_
 iterate 7 refine kO hT hC ?_
 refine kC hC [(16, 1264)] Tryz.call160 h (fun _ => Xom) fun q10 h => ?_
 iterate 2 refine kO hT hC ?_
 refine Vc.nil ?_
 refine Xah ?_
 refine Xap ?_
 obtain rfl := kj h
 exact Xbt (τ := ⟨[(16, .own 16), (17, .sv (.bool true))], [(16, some (.ints .i64 q10))]⟩) (kW hC [(16, 1264)]) rfl ⟨rfl, trivial⟩
 refine kf b10 ?_
 refine Xaf ?_
 refine Xae ?_
 refine Xac ?_
 iterate 3 refine kO hT hC ?_
 refine kC hC [(16, 1344)] Tryz.call161 h (fun _ => Xva) fun q11 h => ?_
 iterate 5 refine kO hT hC ?_
 refine Vc.nil ?_
 refine Xaq ?_
 refine Xac ?_
 iterate 3 refine kO hT hC ?_
 refine Vc.nil ?_
 refine kS h ?_ ?_ <;> intro b11 h
 refine kt b11 ?_
 refine Xac ?_
 iterate 13 refine kO hT hC ?_
 refine kC hC [(16, 1648)] Tryz.call160 h (fun _ => Xom) fun q12 h => ?_
 refine kO hT hC ?_
 refine kC hC [(16, 1680)] Tryz.call162 h (fun _ => Xsv) fun q13 h => ?_
 iterate 2 refine kO hT hC ?_
 refine Vc.nil ?_
 refine Xah ?_
 refine Xap ?_
 obtain rfl := kj h
 exact Xbt (τ := ⟨[(16, .own 16), (17, .sv (.bool true))], [(16, some (.ints .i64 q13))]⟩) (kW hC [(16, 1680)]) rfl ⟨rfl, trivial⟩
 refine kf b11 ?_
 refine Xaf ?_
 refine Xae ?_
 refine Xac ?_
 iterate 3 refine kO hT hC ?_
 refine kC hC [(16, 1760), (17, 1761)] Tryz.call163 h (fun _ => Yds) fun q14 h => ?_
 iterate 6 refine kO hT hC ?_
 refine kN ?_
 iterate 3 refine kO hT hC ?_
 refine kC hC [(16, 1856)] Tryz.call164 h (fun _ => Ydw) fun q15 h => ?_
 refine kO hT hC ?_
 refine kC hC [(16, 1888)] Tryz.call162 h (fun _ => Xsv) fun q16 h => ?_
 iterate 2 refine kO hT hC ?_
 refine Vc.nil ?_
 refine Xah ?_
 obtain rfl := kj h
 exact Xbt (τ := ⟨[(16, .own 16), (17, .sv (.bool true))], [(16, some (.ints .i64 q16))]⟩) (kW hC [(16, 1888)]) rfl ⟨rfl, trivial⟩
def Ylb (r : (List Int)) : AV := .own 16
def Yla (r : (List Int)) : Xa8 := [(16, .ints .u8 r)]
theorem Xzf {p0 r} (h : Xos p0 = some r) : AC Tryz.prog 127 [.agg [.sv (.int .i64 p0.Wide), .sv (.int .i64 p0.High), .sv (.str p0.Dots)]] [] (Ylb r) (Yla r) := by
 refine Xag hT Tryz.func127 rfl fun C hC => ?_
 unfold Xos at h
 refine Xac ?_
 iterate 2 refine kO hT hC ?_
 refine kN ?_
 iterate 2 refine kO hT hC ?_
 refine kQ hT hC h fun h => ?_
 refine kO hT hC ?_
 refine Vc.nil ?_
 refine Xah ?_
 obtain rfl := kj h
 exact Xbt (τ := ⟨[(2, .own 16)], [(16, some (.ints .u8 (Xav p0.Dots)))]⟩) (kW hC [(16, 80)]) rfl ⟨rfl, trivial⟩
def Ynp (r : Pic) : AV := .agg [.sv (.int .i64 r.Wide), .sv (.int .i64 r.High), .sv (.str r.Dots)]
def Yno (r : Pic) : Xa8 := []
theorem Ypf {p0 p1 p2 p3 r} (h : Xr3 p0 p1 p2 p3 = some r) : AC Tryz.prog 126 [.agg [.sv (.int .i64 p0.Wide), .sv (.int .i64 p0.High), .sv (.str p0.Dots)], .sv (.int .i64 p1), .sv (.int .i64 p2), .sv (.ints .i64 p3)] [] (Ynp r) (Yno r) := by
 refine Xag hT Tryz.func126 rfl fun C hC => ?_
 unfold Xr3 at h
 refine Xac ?_
 iterate 2 refine kO hT hC ?_
 refine kN ?_
 refine kO hT hC ?_
 refine kC hC [(16, 208)] Tryz.call127 h (fun _ => Xzf) fun q1 h => ?_
 refine kO hT hC ?_
 refine Vc.nil ?_
 refine Xaq ?_
 refine Xac ?_
 iterate 3 refine kO hT hC ?_
 refine Vc.nil ?_
 refine kL [1,2,4,8,9,14,15,16] [64,128,208] [_,_,_,_,_,_,_,_] [_,_,_] ?_
 refine kX h (fun v3 => ([(16, .sv (.int .i64 v3.1))], [(208, some (.ints .u8 v3.2))])) (fun v5 => ([(1, .any), (2, .any), (14, .any), (15, .any), (16, .any)], [(208, some (.ints .u8 v5))])) (kW hC []) (fun v3 s h => ?_) fun v5 h => ?_
 unfold Xpr at h
 refine Xac ?_
 refine kO hT hC ?_
 refine Vc.nil ?_
 refine Xaq ?_
 refine kS h ?_ ?_ <;> intro b3 h
 refine kt b3 ?_
 refine Xaf ?_
 refine Xae ?_
 refine Xaq ?_
 refine Xao ?_
 refine Xac ?_
 refine kO hT hC ?_
 refine kQ hT hC h fun h => ?_
 iterate 3 refine kO hT hC ?_
 refine Vc.nil ?_
 refine Xab ?_
 iterate 3 refine kO hT hC ?_
 refine kQ hT hC h fun h => ?_
 iterate 7 refine kO hT hC ?_
 refine kQ hT hC h fun h => ?_
 iterate 3 refine kO hT hC ?_
 iterate 2 refine kQ hT hC h fun h => ?_
 refine Vc.nil ?_
 refine Xar ?_
 refine Xae ?_
 refine Xab ?_
 iterate 2 refine kO hT hC ?_
 refine Vc.nil ?_
 exact kG
 refine kf b3 ?_
 refine Xas ?_
 refine Xaz ?_
 exact ku
 refine Xae ?_
 refine Xac ?_
 iterate 4 refine kO hT hC ?_
 refine kN ?_
 iterate 2 refine kO hT hC ?_
 refine Vc.nil ?_
 refine Xah ?_
 exact kR
def Xoq (r : (Pic × Bool)) : AV := .tup [.agg [.sv (.int .i64 r.1.Wide), .sv (.int .i64 r.1.High), .sv (.str r.1.Dots)], .sv (.bool r.2)]
def Xop (r : (Pic × Bool)) : Xa8 := []
theorem Yad {p0 p1 p2 p3 p4 r} (h : Xjl p0 p1 p2 p3 p4 = some r) : AC Tryz.prog 85 [.agg [.sv (.int .i64 p0.Wide), .sv (.int .i64 p0.High), .sv (.str p0.Dots)], .agg [.sv (.int .i64 p1.Left), .sv (.int .i64 p1.Top), .sv (.int .i64 p1.Wide), .sv (.int .i64 p1.High)], .agg [.sv (.bool p2.Key), .sv (.int .i64 p2.Qp), .sv (.bool p2.Large), .sv (.bool p2.Exact)], .sv (.bool p3), .sv (Xdj.sv p4)] [] (Xoq r) (Xop r) := by
 refine Xag hT Tryz.func85 rfl fun C hC => ?_
 unfold Xjl at h
 refine Xac ?_
 iterate 5 refine kO hT hC ?_
 refine Vc.nil ?_
 refine Xaq ?_
 refine kL [3,4,5,6,7,10] [80,96,112,160] [_,_,_,_,_,_] [_,_,_,_] ?_
 refine kA h (fun v1 => ([(59, .sv (.bool v1))], [])) (fun v1 h => ?_) fun v1 h => ?_
 refine Xab ?_
 iterate 2 refine kO hT hC ?_
 refine kC hC [] Tryz.call122 h (fun _ => Xs3) fun q2 h => ?_
 iterate 2 refine kO hT hC ?_
 refine kS h ?_ ?_ <;> intro b1 h
 iterate 2 refine kI hT hC (kn b1) ?_
 refine kE hC (kn b1) [] Tryz.call122 h (fun _ => Xs3) fun q3 h => ?_
 refine kI hT hC (kn b1) ?_
 refine kP hC false (kn b1) ?_
 refine kO hT hC ?_
 refine kS h ?_ ?_ <;> intro b2 h
 iterate 2 refine kI hT hC (kn b2) ?_
 refine kE hC (kn b2) [] Tryz.call64 h (fun _ => Xam) fun q4 h => ?_
 refine kI hT hC (kn b2) ?_
 refine kP hC false (kn b2) ?_
 refine kO hT hC ?_
 refine kS h ?_ ?_ <;> intro b3 h
 iterate 2 refine kI hT hC (kn b3) ?_
 refine kE hC (kn b3) [] Tryz.call64 h (fun _ => Xam) fun q5 h => ?_
 refine kI hT hC (kn b3) ?_
 refine kP hC false (kn b3) ?_
 refine kO hT hC ?_
 refine kS h ?_ ?_ <;> intro b4 h
 refine kI hT hC (kn b4) ?_
 refine kE hC (kn b4) [] Tryz.call119 h (fun _ => Xk5) fun q6 h => ?_
 refine kI hT hC (kn b4) ?_
 refine kP hC false (kn b4) ?_
 refine kO hT hC ?_
 refine kS h ?_ ?_ <;> intro b5 h
 iterate 4 refine kI hT hC (kn b5) ?_
 refine kJ hT hC (kn b5) h fun h => ?_
 iterate 2 refine kI hT hC (kn b5) ?_
 refine kJ hT hC (kn b5) h fun h => ?_
 iterate 2 refine kI hT hC (kn b5) ?_
 refine kP hC false (kn b5) ?_
 refine Vc.nil ?_
 exact kM
 iterate 10 refine kF hC (kn b5) ?_
 refine kP hC true (kn b5) ?_
 refine Vc.nil ?_
 exact kM
 iterate 3 refine kF hC (kn b4) ?_
 refine kP hC true (kn b4) ?_
 refine kO hT hC ?_
 iterate 10 refine kF hC rfl ?_
 refine kO hT hC ?_
 refine Vc.nil ?_
 exact kM
 iterate 4 refine kF hC (kn b3) ?_
 refine kP hC true (kn b3) ?_
 refine kO hT hC ?_
 iterate 3 refine kF hC rfl ?_
 iterate 2 refine kO hT hC ?_
 iterate 10 refine kF hC rfl ?_
 refine kO hT hC ?_
 refine Vc.nil ?_
 exact kM
 iterate 4 refine kF hC (kn b2) ?_
 refine kP hC true (kn b2) ?_
 refine kO hT hC ?_
 iterate 4 refine kF hC rfl ?_
 iterate 2 refine kO hT hC ?_
 iterate 3 refine kF hC rfl ?_
 iterate 2 refine kO hT hC ?_
 iterate 10 refine kF hC rfl ?_
 refine kO hT hC ?_
 refine Vc.nil ?_
 exact kM
 iterate 4 refine kF hC (kn b1) ?_
 refine kP hC true (kn b1) ?_
 refine kO hT hC ?_
 iterate 4 refine kF hC rfl ?_
 iterate 2 refine kO hT hC ?_
 iterate 4 refine kF hC rfl ?_
 iterate 2 refine kO hT hC ?_
 iterate 3 refine kF hC rfl ?_
 iterate 2 refine kO hT hC ?_
 iterate 10 refine kF hC rfl ?_
 refine kO hT hC ?_
 refine Vc.nil ?_
 exact kM
 refine kS h ?_ ?_ <;> intro b6 h
 refine kt b6 ?_
 refine Xac ?_
 iterate 3 refine kO hT hC ?_
 refine Vc.nil ?_
 refine Xah ?_
 refine Xap ?_
 exact kR
 refine kf b6 ?_
 refine Xaf ?_
 refine Xae ?_
 refine Xaq ?_
 refine kL [3,4,5,6,7,10] [80,96,112,160] [_,_,_,_,_,_] [_,_,_,_] ?_
 refine kA h (fun v7 => ([(74, .sv (.bool v7))], [])) (fun v7 h => ?_) fun v7 h => ?_
 refine Xab ?_
 iterate 4 refine kO hT hC ?_
 refine kS h ?_ ?_ <;> intro b7 h
 iterate 4 refine kF hC (kn b7) ?_
 iterate 4 refine Xdq hC rfl rfl rfl rfl rfl rfl ?_
 refine kF hC (kn b7) ?_
 refine kP hC false (kn b7) ?_
 refine Vc.nil ?_
 exact kM
 refine kI hT hC (kn b7) ?_
 refine kE hC (kn b7) [] Tryz.call55 h (fun _ => Xdr) fun q8 h => ?_
 iterate 2 refine kI hT hC (kn b7) ?_
 refine kS h ?_ ?_ <;> intro b8 h
 iterate 2 refine kI hT hC (kn b8) ?_
 refine kE hC (kn b8) [] Tryz.call123 h (fun _ => Xke) fun q9 h => ?_
 refine kI hT hC (kn b8) ?_
 refine Xa3 hC rfl rfl rfl rfl (kn b7) rfl rfl (b := false) (kn b8) rfl rfl rfl trivial ?_
 refine kP hC true (kn b7) ?_
 refine Vc.nil ?_
 exact kM
 iterate 4 refine kF hC (kn b8) ?_
 refine Xa3 hC rfl rfl rfl rfl (kn b7) rfl rfl (b := true) (kn b8) rfl rfl rfl trivial ?_
 refine kP hC true (kn b7) ?_
 refine Vc.nil ?_
 exact kM
 refine kS h ?_ ?_ <;> intro b9 h
 refine kt b9 ?_
 refine Xac ?_
 iterate 3 refine kO hT hC ?_
 refine Vc.nil ?_
 refine Xah ?_
 refine Xap ?_
 exact kR
 refine kf b9 ?_
 refine Xaf ?_
 refine Xae ?_
 refine Xd7 hm ?_
 iterate 6 refine kO hT hC ?_
 refine kD ?_
 refine kL [3,4,5,6,7,10,12,13] [80,96,112,160] [_,_,_,_,_,_,_,_] [_,_,_,_] ?_
 refine kA h (fun v10 => ([(12, .sv (.int .i64 v10.1)), (13, .sv (.int .i64 v10.2.1)), (3, .any)], [(80, some (.box [.sv (.int .i64 v10.2.2.1), .sv (.int .i64 v10.2.2.2.1), .sv (.str v10.2.2.2.2)]))])) (fun v10 h => ?_) fun v10 h => ?_
 refine Xac ?_
 refine kO hT hC ?_
 refine Vc.nil ?_
 refine kS h ?_ ?_ <;> intro b10 h
 refine kt b10 ?_
 refine Xac ?_
 iterate 2 refine kO hT hC ?_
 refine kN ?_
 iterate 3 refine kO hT hC ?_
 refine Vc.nil ?_
 refine kS h ?_ ?_ <;> intro b11 h
 refine kt b11 ?_
 refine Xab ?_
 iterate 2 refine kO hT hC ?_
 refine kC hC [] Tryz.call124 h (fun _ => Yk1) fun q11 h => ?_
 iterate 4 refine kO hT hC ?_
 refine Vc.nil ?_
 exact kM
 refine kf b11 ?_
 refine Xaf ?_
 exact kM
 refine kf b10 ?_
 refine Xaf ?_
 exact kM
 refine Xac ?_
 iterate 4 refine kO hT hC ?_
 refine kC hC [] Tryz.call86 h (fun _ => Xzd) fun q12 h => ?_
 iterate 2 refine kO hT hC ?_
 refine Vc.nil ?_
 refine Xaq ?_
 refine Xac ?_
 iterate 3 refine kO hT hC ?_
 refine Vc.nil ?_
 refine kL [5,6,7,10,12,13,14,95,96,97] [80,96,112,160,224] [_,_,_,_,_,_,_,_,_,_] [_,_,_,_,_] ?_
 obtain ⟨o23, hl, h⟩ := Xba h
 refine Xd8 (fun v16 => ([(97, .sv (.int .i64 v16.1))], [(224, some (.box [.sv (.int .i64 v16.2.1), .sv (.int .i64 v16.2.2.1), .sv (.str v16.2.2.2)]))])) (fun v20 => ([(5, .any), (6, .any), (7, .any), (12, .any), (13, .any), (95, .any), (96, .any), (97, .any)], [(224, some (.box [.sv (.int .i64 v20.1), .sv (.int .i64 v20.2.1), .sv (.str v20.2.2)])), (80, none), (96, none), (112, none)])) (fun r => Xl1 C T Tryz.f85.results.toList (Xoq r) (Xop r)) hl ?_ ?_ ?_ ?_
 try dsimp only
 apply Xbz hC []
 exact co
 rfl
 decide
 rfl
 intro v16 s hs
 have h := hs
 unfold Xbp at h
 refine Xac ?_
 refine kO hT hC ?_
 refine Vc.nil ?_
 refine Xaq ?_
 refine kS h ?_ ?_ <;> intro b16 h
 refine kt b16 ?_
 refine Xaf ?_
 refine Xae ?_
 refine Xaq ?_
 refine Xao ?_
 refine Xac ?_
 refine kO hT hC ?_
 refine kQ hT hC h fun h => ?_
 iterate 4 refine kO hT hC ?_
 refine Vc.nil ?_
 refine Xd7 hm ?_
 iterate 3 refine kO hT hC ?_
 iterate 2 refine kQ hT hC h fun h => ?_
 iterate 4 refine kO hT hC ?_
 iterate 2 refine kQ hT hC h fun h => ?_
 iterate 3 refine kO hT hC ?_
 refine kD ?_
 refine Xac ?_
 iterate 8 refine kO hT hC ?_
 refine kC hC [(16, 1968)] Tryz.call125 h (fun _ => Xvh) fun q21 h => ?_
 iterate 5 refine kO hT hC ?_
 refine Vc.nil ?_
 refine Xaq ?_
 refine Xac ?_
 iterate 2 refine kO hT hC ?_
 refine Vc.nil ?_
 refine kS h ?_ ?_ <;> intro b17 h
 refine kt b17 ?_
 refine Xac ?_
 iterate 3 refine kO hT hC ?_
 refine Vc.nil ?_
 refine Xah ?_
 refine Xap ?_
 refine Xcr ?_
 refine Xap ?_
 obtain rfl := kj h
 refine Xku ?_
 refine Xkr ?_
 exact Xbt (Xgk.refl _) rfl trivial
 refine kf b17 ?_
 refine Xaf ?_
 refine Xae ?_
 refine Xab ?_
 iterate 4 refine kO hT hC ?_
 refine kC hC [] Tryz.call126 h (fun _ => Ypf) fun q22 h => ?_
 refine kO hT hC ?_
 refine Vc.nil ?_
 refine Xar ?_
 refine Xae ?_
 refine Xab ?_
 iterate 2 refine kO hT hC ?_
 refine Vc.nil ?_
 exact kG
 refine kf b16 ?_
 refine Xas ?_
 refine Xaz ?_
 exact kb
 intro v20 e
 subst e
 refine Xae ?_
 refine Xac ?_
 iterate 3 refine kO hT hC ?_
 refine Vc.nil ?_
 refine Xah ?_
 exact kR
 intro r' σ' e hE
 subst e
 obtain rfl := kj h
 refine Xap ?_
 exact hE
def Yd6 (r : (Pic × Bool)) : AV := .tup [.agg [.sv (.int .i64 r.1.Wide), .sv (.int .i64 r.1.High), .sv (.str r.1.Dots)], .sv (.bool r.2)]
def Yd5 (r : (Pic × Bool)) : Xa8 := []
theorem Yhz {p0 p1 p2 p3 r} (h : Xm2 p0 p1 p2 p3 = some r) : AC Tryz.prog 88 [.agg [.sv (.int .i64 p0.Wide), .sv (.int .i64 p0.High), .sv (.str p0.Dots)], .agg [.sv (.int .i64 p1.Wide), .sv (.int .i64 p1.High), .sv (.str p1.Dots)], .sv (.int .i64 p2), .sv (.int .i64 p3)] [] (Yd6 r) (Yd5 r) := by
 refine Xag hT Tryz.func88 rfl fun C hC => ?_
 unfold Xm2 at h
 refine Xac ?_
 iterate 4 refine kO hT hC ?_
 refine Vc.nil ?_
 refine Xaq ?_
 refine kL [2,3,4,5,8] [64,80,128] [_,_,_,_,_] [_,_,_] ?_
 refine kA h (fun v1 => ([(31, .sv (.bool v1))], [])) (fun v1 h => ?_) fun v1 h => ?_
 refine Xab ?_
 refine kO hT hC ?_
 refine kC hC [] Tryz.call55 h (fun _ => Xdr) fun q2 h => ?_
 iterate 2 refine kO hT hC ?_
 refine kS h ?_ ?_ <;> intro b1 h
 refine kI hT hC (kn b1) ?_
 refine kE hC (kn b1) [] Tryz.call55 h (fun _ => Xdr) fun q3 h => ?_
 refine kI hT hC (kn b1) ?_
 refine kP hC false (kn b1) ?_
 refine kO hT hC ?_
 refine kS h ?_ ?_ <;> intro b2 h
 iterate 8 refine kI hT hC (kn b2) ?_
 refine kE hC (kn b2) [] Tryz.call123 h (fun _ => Xke) fun q4 h => ?_
 refine kI hT hC (kn b2) ?_
 refine kP hC false (kn b2) ?_
 refine Vc.nil ?_
 exact kM
 iterate 10 refine kF hC (kn b2) ?_
 refine kP hC true (kn b2) ?_
 refine Vc.nil ?_
 exact kM
 iterate 3 refine kF hC (kn b1) ?_
 refine kP hC true (kn b1) ?_
 refine kO hT hC ?_
 iterate 10 refine kF hC rfl ?_
 refine kO hT hC ?_
 refine Vc.nil ?_
 exact kM
 refine kS h ?_ ?_ <;> intro b3 h
 refine kt b3 ?_
 refine Xac ?_
 iterate 3 refine kO hT hC ?_
 refine Vc.nil ?_
 refine Xah ?_
 refine Xap ?_
 exact kR
 refine kf b3 ?_
 refine Xaf ?_
 refine Xae ?_
 refine Xac ?_
 refine kO hT hC ?_
 refine kC hC [(16, 544)] Tryz.call127 h (fun _ => Xzf) fun q5 h => ?_
 refine kO hT hC ?_
 refine Vc.nil ?_
 refine Xaq ?_
 refine Xac ?_
 iterate 3 refine kO hT hC ?_
 refine Vc.nil ?_
 refine kL [2,3,4,5,8,10,36,37] [64,80,128,544] [_,_,_,_,_,_,_,_] [_,_,_,_] ?_
 refine kX h (fun v7 => ([(37, .sv (.int .i64 v7.1))], [(544, some (.ints .u8 v7.2))])) (fun v9 => ([(2, .any), (3, .any), (5, .any), (36, .any), (37, .any)], [(544, some (.ints .u8 v9)), (80, none)])) (kW hC []) (fun v7 s h => ?_) fun v9 h => ?_
 unfold Xk7 at h
 refine Xac ?_
 refine kO hT hC ?_
 refine Vc.nil ?_
 refine Xaq ?_
 refine kS h ?_ ?_ <;> intro b6 h
 refine kt b6 ?_
 refine Xaf ?_
 refine Xae ?_
 refine Xaq ?_
 refine Xao ?_
 refine Xac ?_
 iterate 2 refine kO hT hC ?_
 refine Vc.nil ?_
 refine Xcz hm ?_
 iterate 9 refine kO hT hC ?_
 refine kQ hT hC h fun h => ?_
 iterate 11 refine kO hT hC ?_
 refine kQ hT hC h fun h => ?_
 obtain ⟨hq, h⟩ := Xa5 h
 refine Yw1 hT hC rfl rfl rfl rfl rfl rfl rfl rfl rfl ⟨⟨trivial, hq.1⟩, hq.2⟩ ?_
 refine kD ?_
 refine Xar ?_
 refine Xae ?_
 refine Xab ?_
 iterate 2 refine kO hT hC ?_
 refine Vc.nil ?_
 exact kG
 refine kf b6 ?_
 refine Xas ?_
 refine Xaz ?_
 exact ku
 refine Xae ?_
 refine Xac ?_
 iterate 4 refine kO hT hC ?_
 refine kN ?_
 iterate 3 refine kO hT hC ?_
 refine Vc.nil ?_
 refine Xah ?_
 exact kR
def Yh8 (r : Int) : AV := .sv (.int .i64 r)
def Yh7 (r : Int) : Xa8 := []
theorem Yk9 {p0 p1 r} (h : Xr2 p0 p1 = some r) : AC Tryz.prog 89 [.sv (.int .i64 p0), .sv (.int .i64 p1)] [] (Yh8 r) (Yh7 r) := by
 refine Xag hT Tryz.func89 rfl fun C hC => ?_
 unfold Xr2 at h
 refine Xac ?_
 refine kO hT hC ?_
 refine kN ?_
 iterate 3 refine kO hT hC ?_
 iterate 2 refine kQ hT hC h fun h => ?_
 refine kO hT hC ?_
 refine Vc.nil ?_
 refine Xah ?_
 exact kR
def Xn3 (r : (Xa0 × Int × Pic × Xa0)) : AV := .tup [.agg [.sv (.bool r.1.HasSeq), .sv (.bool r.1.HasPar), .sv (.bool r.1.HasRef), .sv (.int .i64 r.1.Seq.Level), .sv (.int .i64 r.1.Seq.Bits), .own 3, .own 4, .sv (.int .i64 r.1.Par.Qp), .sv (.bool r.1.Par.Large), .sv (.bool r.1.Par.Exact), .sv (.bool r.1.Par.Confined), .sv (.int .i64 r.1.Frame), .sv (.int .i64 r.1.Got), .sv (.int .i64 r.1.Now.Wide), .sv (.int .i64 r.1.Now.High), .sv (.str r.1.Now.Dots), .sv (.int .i64 r.1.Ref.Wide), .sv (.int .i64 r.1.Ref.High), .sv (.str r.1.Ref.Dots)], .sv (.int .i64 r.2.1), .agg [.sv (.int .i64 r.2.2.1.Wide), .sv (.int .i64 r.2.2.1.High), .sv (.str r.2.2.1.Dots)]]
def Xn2 (r : (Xa0 × Int × Pic × Xa0)) : Xa8 := [(3, .ints .i64 r.2.2.2.Seq.Cols), (4, .ints .i64 r.2.2.2.Seq.Rows)]
theorem Xol {p0 p1 p2 r} (h : Xda p0 p1 p2 = some r) : AC Tryz.prog 46 [.agg [.sv (.bool p0.HasSeq), .sv (.bool p0.HasPar), .sv (.bool p0.HasRef), .sv (.int .i64 p0.Seq.Level), .sv (.int .i64 p0.Seq.Bits), .own 3, .own 4, .sv (.int .i64 p0.Par.Qp), .sv (.bool p0.Par.Large), .sv (.bool p0.Par.Exact), .sv (.bool p0.Par.Confined), .sv (.int .i64 p0.Frame), .sv (.int .i64 p0.Got), .sv (.int .i64 p0.Now.Wide), .sv (.int .i64 p0.Now.High), .sv (.str p0.Now.Dots), .sv (.int .i64 p0.Ref.Wide), .sv (.int .i64 p0.Ref.High), .sv (.str p0.Ref.Dots)], .sv (.bool p1), .sv (.str p2)] [(3, .ints .i64 p0.Seq.Cols), (4, .ints .i64 p0.Seq.Rows)] (Xn3 r) (Xn2 r) := by
 refine Xag hT Tryz.func46 rfl fun C hC => ?_
 unfold Xda at h
 refine Xac ?_
 iterate 4 refine kO hT hC ?_
 refine Vc.nil ?_
 refine Xaq ?_
 refine kL [1,2,3,6,8] [3,4,48,96,128] [_,_,_,_,_] [_,_,_,_,_] ?_
 refine kA h (fun v1 => ([(26, .sv (.bool v1))], [])) (fun v1 h => ?_) fun v1 h => ?_
 refine Xab ?_
 iterate 4 refine kO hT hC ?_
 refine kS h ?_ ?_ <;> intro b1 h
 iterate 3 refine kI hT hC (kn b1) ?_
 refine kP hC false (kn b1) ?_
 refine Vc.nil ?_
 exact kM
 iterate 3 refine kF hC (kn b1) ?_
 refine kP hC true (kn b1) ?_
 refine Vc.nil ?_
 exact kM
 refine kS h ?_ ?_ <;> intro b2 h
 refine kt b2 ?_
 refine Xac ?_
 iterate 5 refine kO hT hC ?_
 refine Vc.nil ?_
 refine Xah ?_
 refine Xap ?_
 obtain rfl := kj h
 exact Xbt (Xgk.refl _) rfl ⟨rfl, rfl, trivial⟩
 refine kf b2 ?_
 refine Xaf ?_
 refine Xae ?_
 refine Xac ?_
 iterate 5 refine kO hT hC ?_
 refine kC hC [] Tryz.call81 h (fun _ => Xz5) fun q2 h => ?_
 iterate 8 refine kO hT hC ?_
 refine Vc.nil ?_
 refine Xaq ?_
 refine Xao ?_
 refine Xac ?_
 iterate 3 refine kO hT hC ?_
 refine Vc.nil ?_
 refine kS h ?_ ?_ <;> intro b3 h
 refine kt b3 ?_
 refine Xac ?_
 iterate 5 refine kO hT hC ?_
 refine Vc.nil ?_
 refine Xah ?_
 refine Xcr ?_
 refine Xap ?_
 obtain rfl := kj h
 exact Xbt (Xgk.refl _) rfl ⟨rfl, rfl, trivial⟩
 refine kf b3 ?_
 refine Xac ?_
 iterate 6 refine kO hT hC ?_
 refine Vc.nil ?_
 refine kS h ?_ ?_ <;> intro b4 h
 refine kt b4 ?_
 refine Xac ?_
 iterate 5 refine kO hT hC ?_
 refine Vc.nil ?_
 refine Xah ?_
 refine Xcr ?_
 refine Xap ?_
 obtain rfl := kj h
 exact Xbt (Xgk.refl _) rfl ⟨rfl, rfl, trivial⟩
 refine kf b4 ?_
 refine kL [1,2,3,6,8,9,10] [3,4,48,96,128,144] [_,_,_,_,_,_,_] [_,_,_,_,_,_] ?_
 refine kA h (fun v3 => ([(52, .sv (.bool v3))], [])) (fun v3 h => ?_) fun v3 h => ?_
 refine Xab ?_
 iterate 4 refine kO hT hC ?_
 refine kS h ?_ ?_ <;> intro b5 h
 iterate 5 refine kI hT hC b5 ?_
 refine kP hC true b5 ?_
 refine kO hT hC ?_
 refine Vc.nil ?_
 exact kM
 iterate 5 refine kF hC b5 ?_
 refine kP hC false b5 ?_
 refine kO hT hC ?_
 refine Vc.nil ?_
 exact kM
 refine kS h ?_ ?_ <;> intro b6 h
 refine kt b6 ?_
 refine Xac ?_
 iterate 5 refine kO hT hC ?_
 refine Vc.nil ?_
 refine Xah ?_
 refine Xcr ?_
 refine Xap ?_
 obtain rfl := kj h
 exact Xbt (Xgk.refl _) rfl ⟨rfl, rfl, trivial⟩
 refine kf b6 ?_
 refine kL [1,2,3,6,8,9,10] [3,4,48,96,128,144] [_,_,_,_,_,_,_] [_,_,_,_,_,_] ?_
 refine kA h (fun v4 => ([(65, .sv (.bool v4))], [])) (fun v4 h => ?_) fun v4 h => ?_
 refine Xab ?_
 iterate 3 refine kO hT hC ?_
 refine kS h ?_ ?_ <;> intro b7 h
 iterate 3 refine kF hC (kn b7) ?_
 refine kP hC false (kn b7) ?_
 refine kO hT hC ?_
 refine Vc.nil ?_
 exact kM
 iterate 3 refine kI hT hC (kn b7) ?_
 refine kP hC true (kn b7) ?_
 refine kO hT hC ?_
 refine Vc.nil ?_
 exact kM
 refine kS h ?_ ?_ <;> intro b8 h
 refine kt b8 ?_
 refine Xac ?_
 iterate 5 refine kO hT hC ?_
 refine Vc.nil ?_
 refine Xah ?_
 refine Xcr ?_
 refine Xap ?_
 obtain rfl := kj h
 exact Xbt (Xgk.refl _) rfl ⟨rfl, rfl, trivial⟩
 refine kf b8 ?_
 refine Xaf ?_
 refine Xar ?_
 refine Xae ?_
 refine Xac ?_
 iterate 12 refine kO hT hC ?_
 refine Vc.nil ?_
 refine Xd7 hm ?_
 iterate 6 refine kO hT hC ?_
 refine kC hC [] Tryz.call83 h (fun _ => Xt3) fun q5 h => ?_
 refine kO hT hC ?_
 refine kC hC [(16, 1504)] Tryz.call82 h (fun _ => Yaa) fun q6 h => ?_
 iterate 5 refine kO hT hC ?_
 refine kD ?_
 refine Xaq ?_
 refine Xac ?_
 iterate 2 refine kO hT hC ?_
 refine Vc.nil ?_
 refine kS h ?_ ?_ <;> intro b9 h
 refine kt b9 ?_
 refine Xac ?_
 iterate 5 refine kO hT hC ?_
 refine Vc.nil ?_
 refine Xah ?_
 refine Xap ?_
 obtain rfl := kj h
 exact Xbt (Xgk.refl _) rfl ⟨rfl, rfl, trivial⟩
 refine kf b9 ?_
 refine Xaf ?_
 refine Xae ?_
 refine Xac ?_
 iterate 4 refine kO hT hC ?_
 refine kC hC [] Tryz.call84 h (fun _ => Xqb) fun q7 h => ?_
 iterate 6 refine kO hT hC ?_
 refine kN ?_
 iterate 8 refine kO hT hC ?_
 refine kC hC [] Tryz.call85 h (fun _ => Yad) fun q8 h => ?_
 iterate 6 refine kO hT hC ?_
 refine Vc.nil ?_
 refine kL [3,6,8,9,15,17] [3,4,48,96,128,144,240,272] [_,_,_,_,_,_] [_,_,_,_,_,_,_,_] ?_
 refine kA h (fun v9 => ([], [(48, some (.box [.sv (.bool p0.HasSeq), .sv (.bool p0.HasPar), .sv (.bool p0.HasRef), .sv (.int .i64 p0.Seq.Level), .sv (.int .i64 p0.Seq.Bits), .own 3, .own 4, .sv (.int .i64 p0.Par.Qp), .sv (.bool p0.Par.Large), .sv (.bool p0.Par.Exact), .sv (.bool p0.Par.Confined), .sv (.int .i64 p0.Frame), .sv (.int .i64 p0.Got), .sv (.int .i64 v9.1), .sv (.int .i64 v9.2.1), .sv (.str v9.2.2), .sv (.int .i64 p0.Ref.Wide), .sv (.int .i64 p0.Ref.High), .sv (.str p0.Ref.Dots)]))])) (fun v9 h => ?_) fun v9 h => ?_
 refine Xac ?_
 iterate 3 refine kO hT hC ?_
 refine Vc.nil ?_
 refine kS h ?_ ?_ <;> intro b10 h
 refine kt b10 ?_
 refine Xab ?_
 iterate 2 refine kO hT hC ?_
 refine kC hC [] Tryz.call87 h (fun _ => Xsz) fun q10 h => ?_
 iterate 2 refine kO hT hC ?_
 refine kC hC [] Tryz.call86 h (fun _ => Xzd) fun q11 h => ?_
 iterate 2 refine kO hT hC ?_
 refine Vc.nil ?_
 exact kM
 refine kf b10 ?_
 refine Xaf ?_
 exact kM
 refine Xac ?_
 iterate 7 refine kO hT hC ?_
 refine kC hC [] Tryz.call88 h (fun _ => Yhz) fun q12 h => ?_
 iterate 5 refine kO hT hC ?_
 refine kN ?_
 iterate 5 refine kO hT hC ?_
 refine kN ?_
 iterate 4 refine kO hT hC ?_
 refine Vc.nil ?_
 refine Xaq ?_
 refine Xd7 hm ?_
 iterate 4 refine kO hT hC ?_
 refine kC hC [] Tryz.call65 h (fun _ => Xjm) fun q13 h => ?_
 refine kO hT hC ?_
 refine kD ?_
 refine kS h ?_ ?_ <;> intro b11 h
 refine kt b11 ?_
 refine Xac ?_
 iterate 5 refine kO hT hC ?_
 refine Vc.nil ?_
 refine Xah ?_
 refine Xap ?_
 obtain rfl := kj h
 exact Xbt (Xgk.refl _) rfl ⟨rfl, rfl, trivial⟩
 refine kf b11 ?_
 refine Xaf ?_
 refine Xae ?_
 refine Xac ?_
 iterate 4 refine kO hT hC ?_
 refine kN ?_
 iterate 2 refine kO hT hC ?_
 refine kN ?_
 iterate 3 refine kO hT hC ?_
 refine kN ?_
 iterate 2 refine kO hT hC ?_
 refine kN ?_
 iterate 5 refine kO hT hC ?_
 refine kC hC [] Tryz.call89 h (fun _ => Yk9) fun q14 h => ?_
 iterate 2 refine kO hT hC ?_
 refine Vc.nil ?_
 refine Xd7 hm ?_
 iterate 6 refine kO hT hC ?_
 refine kD ?_
 refine Xah ?_
 obtain rfl := kj h
 exact Xbt (Xgk.refl _) rfl ⟨rfl, rfl, trivial⟩
def Xzv (r : (Xa0 × Int × Pic)) : AV := .tup [.agg [.sv (.bool r.1.HasSeq), .sv (.bool r.1.HasPar), .sv (.bool r.1.HasRef), .sv (.int .i64 r.1.Seq.Level), .sv (.int .i64 r.1.Seq.Bits), .own 16, .own 17, .sv (.int .i64 r.1.Par.Qp), .sv (.bool r.1.Par.Large), .sv (.bool r.1.Par.Exact), .sv (.bool r.1.Par.Confined), .sv (.int .i64 r.1.Frame), .sv (.int .i64 r.1.Got), .sv (.int .i64 r.1.Now.Wide), .sv (.int .i64 r.1.Now.High), .sv (.str r.1.Now.Dots), .sv (.int .i64 r.1.Ref.Wide), .sv (.int .i64 r.1.Ref.High), .sv (.str r.1.Ref.Dots)], .sv (.int .i64 r.2.1), .agg [.sv (.int .i64 r.2.2.Wide), .sv (.int .i64 r.2.2.High), .sv (.str r.2.2.Dots)]]
def Xzu (r : (Xa0 × Int × Pic)) : Xa8 := [(16, .ints .i64 r.1.Seq.Cols), (17, .ints .i64 r.1.Seq.Rows)]
theorem Ydr {p0 p1 r} (h : Xiw p0 p1 = some r) : AC Tryz.prog 10 [.agg [.sv (.bool p0.HasSeq), .sv (.bool p0.HasPar), .sv (.bool p0.HasRef), .sv (.int .i64 p0.Seq.Level), .sv (.int .i64 p0.Seq.Bits), .sv (.ints .i64 p0.Seq.Cols), .sv (.ints .i64 p0.Seq.Rows), .sv (.int .i64 p0.Par.Qp), .sv (.bool p0.Par.Large), .sv (.bool p0.Par.Exact), .sv (.bool p0.Par.Confined), .sv (.int .i64 p0.Frame), .sv (.int .i64 p0.Got), .sv (.int .i64 p0.Now.Wide), .sv (.int .i64 p0.Now.High), .sv (.str p0.Now.Dots), .sv (.int .i64 p0.Ref.Wide), .sv (.int .i64 p0.Ref.High), .sv (.str p0.Ref.Dots)], .sv (.str p1)] [] (Xzv r) (Xzu r) := by
 refine Xag hT Tryz.func10 rfl fun C hC => ?_
 unfold Xiw at h
 refine Xac ?_
 iterate 4 refine kO hT hC ?_
 refine kN ?_
 refine kO hT hC ?_
 refine kC hC [(16, 272), (17, 273)] Tryz.call41 h (fun _ => Xm3) fun q1 h => ?_
 refine kO hT hC ?_
 refine Vc.nil ?_
 refine Xaq ?_
 refine Xac ?_
 refine kO hT hC ?_
 refine kC hC [] Tryz.call33 h (fun _ => Yk3) fun q2 h => ?_
 refine kO hT hC ?_
 refine Vc.nil ?_
 refine kS h ?_ ?_ <;> intro b1 h
 refine kt b1 ?_
 refine Xac ?_
 iterate 5 refine kO hT hC ?_
 refine Vc.nil ?_
 refine Xah ?_
 refine Xap ?_
 obtain rfl := kj h
 exact Xbt (τ := ⟨[(4, .ptr 2000000 0), (5, .sv (.int .i64 1)), (6, .ptr 2000002 0)], [(16, some (.ints .i64 q1.Seq.Cols)), (17, some (.ints .i64 q1.Seq.Rows)), (2000000, some (.box [.sv (.bool q1.HasSeq), .sv (.bool q1.HasPar), .sv (.bool q1.HasRef), .sv (.int .i64 q1.Seq.Level), .sv (.int .i64 q1.Seq.Bits), .own 16, .own 17, .sv (.int .i64 q1.Par.Qp), .sv (.bool q1.Par.Large), .sv (.bool q1.Par.Exact), .sv (.bool q1.Par.Confined), .sv (.int .i64 q1.Frame), .sv (.int .i64 q1.Got), .sv (.int .i64 q1.Now.Wide), .sv (.int .i64 q1.Now.High), .sv (.str q1.Now.Dots), .sv (.int .i64 q1.Ref.Wide), .sv (.int .i64 q1.Ref.High), .sv (.str q1.Ref.Dots)])), (2000002, some (.box [.sv (.int .i64 0), .sv (.int .i64 0), .sv (.str ⟨#[]⟩)]))]⟩) (kW hC [(16, 272), (17, 273), (2000000, 64), (2000002, 96)]) rfl ⟨rfl, rfl, trivial⟩
 refine kf b1 ?_
 refine Xaf ?_
 refine Xae ?_
 refine Xac ?_
 refine kO hT hC ?_
 refine kC hC [] Tryz.call42 h (fun _ => Yh6) fun q3 h => ?_
 iterate 7 refine kO hT hC ?_
 refine Vc.nil ?_
 refine Xaq ?_
 refine Xac ?_
 iterate 2 refine kO hT hC ?_
 refine Vc.nil ?_
 refine kS h ?_ ?_ <;> intro b2 h
 refine kt b2 ?_
 refine Xac ?_
 iterate 5 refine kO hT hC ?_
 refine Vc.nil ?_
 refine Xah ?_
 refine Xap ?_
 obtain rfl := kj h
 exact Xbt (τ := ⟨[(4, .ptr 2000000 0), (5, .sv (.int .i64 2)), (6, .ptr 2000002 0)], [(16, some (.ints .i64 q1.Seq.Cols)), (17, some (.ints .i64 q1.Seq.Rows)), (2000000, some (.box [.sv (.bool q1.HasSeq), .sv (.bool q1.HasPar), .sv (.bool q1.HasRef), .sv (.int .i64 q1.Seq.Level), .sv (.int .i64 q1.Seq.Bits), .own 16, .own 17, .sv (.int .i64 q1.Par.Qp), .sv (.bool q1.Par.Large), .sv (.bool q1.Par.Exact), .sv (.bool q1.Par.Confined), .sv (.int .i64 q1.Frame), .sv (.int .i64 q1.Got), .sv (.int .i64 q1.Now.Wide), .sv (.int .i64 q1.Now.High), .sv (.str q1.Now.Dots), .sv (.int .i64 q1.Ref.Wide), .sv (.int .i64 q1.Ref.High), .sv (.str q1.Ref.Dots)])), (2000002, some (.box [.sv (.int .i64 0), .sv (.int .i64 0), .sv (.str ⟨#[]⟩)]))]⟩) (kW hC [(16, 272), (17, 273), (2000000, 64), (2000002, 96)]) rfl ⟨rfl, rfl, trivial⟩
 refine kf b2 ?_
 refine Xaf ?_
 refine Xae ?_
 refine Xaq ?_
 refine Xac ?_
 refine kO hT hC ?_
 refine Vc.nil ?_
 refine Xao ?_
 refine Xac ?_
 iterate 2 refine kO hT hC ?_
 refine Vc.nil ?_
 refine kS h ?_ ?_ <;> intro b3 h
 refine kt b3 ?_
 refine Xac ?_
 refine kO hT hC ?_
 refine kC hC [(16, 608), (17, 609)] Tryz.call43 h (fun _ => Yd8) fun q4 h => ?_
 iterate 8 refine kO hT hC ?_
 refine Vc.nil ?_
 refine Xaq ?_
 refine kL [2,4,6,8,10,11,12] [32,64,96,160,272,273,608,609] [_,_,_,_,_,_,_] [_,_,_,_,_,_,_,_] ?_
 refine kA h (fun v5 => ([(49, .sv (.bool v5)), (8, .any), (11, .any), (12, .any)], [])) (fun v5 h => ?_) fun v5 h => ?_
 refine Xab ?_
 iterate 3 refine kO hT hC ?_
 refine kS h ?_ ?_ <;> intro b4 h
 iterate 4 refine kI hT hC (kn b4) ?_
 refine kP hC false (kn b4) ?_
 refine Vc.nil ?_
 exact kM
 iterate 4 refine kF hC (kn b4) ?_
 refine kP hC true (kn b4) ?_
 refine Vc.nil ?_
 exact kM
 refine kS h ?_ ?_ <;> intro b5 h
 refine kt b5 ?_
 refine Xac ?_
 iterate 5 refine kO hT hC ?_
 refine Vc.nil ?_
 refine Xah ?_
 refine Xap ?_
 refine Xcr ?_
 refine Xap ?_
 obtain rfl := kj h
 exact Xbt (τ := ⟨[(4, .ptr 2000000 0), (5, .sv (.int .i64 3)), (6, .ptr 2000002 0)], [(16, some (.ints .i64 q1.Seq.Cols)), (17, some (.ints .i64 q1.Seq.Rows)), (2000000, some (.box [.sv (.bool q1.HasSeq), .sv (.bool q1.HasPar), .sv (.bool q1.HasRef), .sv (.int .i64 q1.Seq.Level), .sv (.int .i64 q1.Seq.Bits), .own 16, .own 17, .sv (.int .i64 q1.Par.Qp), .sv (.bool q1.Par.Large), .sv (.bool q1.Par.Exact), .sv (.bool q1.Par.Confined), .sv (.int .i64 q1.Frame), .sv (.int .i64 q1.Got), .sv (.int .i64 q1.Now.Wide), .sv (.int .i64 q1.Now.High), .sv (.str q1.Now.Dots), .sv (.int .i64 q1.Ref.Wide), .sv (.int .i64 q1.Ref.High), .sv (.str q1.Ref.Dots)])), (2000002, some (.box [.sv (.int .i64 0), .sv (.int .i64 0), .sv (.str ⟨#[]⟩)]))]⟩) (kW hC [(16, 272), (17, 273), (2000000, 64), (2000002, 96)]) rfl ⟨rfl, rfl, trivial⟩
 refine kf b5 ?_
 refine Xaf ?_
 refine Xae ?_
 refine Xac ?_
 refine kC hC [] Tryz.call44 h (fun _ => Xsu) fun q6 h => ?_
 refine kO hT hC ?_
 refine kN ?_
 iterate 2 refine kO hT hC ?_
 refine kN ?_
 iterate 3 refine kO hT hC ?_
 refine kN ?_
 iterate 5 refine kO hT hC ?_
 refine Vc.nil ?_
 refine Xah ?_
 refine Xcr ?_
 refine Xap ?_
 obtain rfl := kj h
 exact Xbt (τ := ⟨[(4, .ptr 2000000 0), (5, .sv (.int .i64 0)), (6, .ptr 2000002 0)], [(16, some (.ints .i64 q4.1.Cols)), (17, some (.ints .i64 q4.1.Rows)), (2000000, some (.box [.sv (.bool true), .sv (.bool q6.HasPar), .sv (.bool q6.HasRef), .sv (.int .i64 q4.1.Level), .sv (.int .i64 q4.1.Bits), .own 16, .own 17, .sv (.int .i64 q6.Par.Qp), .sv (.bool q6.Par.Large), .sv (.bool q6.Par.Exact), .sv (.bool q6.Par.Confined), .sv (.int .i64 q6.Frame), .sv (.int .i64 q6.Got), .sv (.int .i64 q6.Now.Wide), .sv (.int .i64 q6.Now.High), .sv (.str q6.Now.Dots), .sv (.int .i64 q6.Ref.Wide), .sv (.int .i64 q6.Ref.High), .sv (.str q6.Ref.Dots)])), (2000002, some (.box [.sv (.int .i64 0), .sv (.int .i64 0), .sv (.str ⟨#[]⟩)]))]⟩) (kW hC [(16, 608), (17, 609), (2000000, 64), (2000002, 96)]) rfl ⟨rfl, rfl, trivial⟩
 refine kf b3 ?_
 refine Xac ?_
 iterate 2 refine kO hT hC ?_
 refine Vc.nil ?_
 refine kS h ?_ ?_ <;> intro b6 h
 refine kt b6 ?_
 refine Xac ?_
 refine kO hT hC ?_
 refine kC hC [] Tryz.call45 h (fun _ => Yd7) fun q7 h => ?_
 iterate 8 refine kO hT hC ?_
 refine Vc.nil ?_
 refine Xaq ?_
 refine kL [2,4,6,8,13,14,15] [32,64,96,208,272,273] [_,_,_,_,_,_,_] [_,_,_,_,_,_] ?_
 refine kA h (fun v8 => ([(73, .sv (.bool v8)), (8, .any), (14, .any), (15, .any)], [])) (fun v8 h => ?_) fun v8 h => ?_
 refine Xab ?_
 iterate 3 refine kO hT hC ?_
 refine kS h ?_ ?_ <;> intro b7 h
 iterate 4 refine kI hT hC (kn b7) ?_
 refine kP hC false (kn b7) ?_
 refine Vc.nil ?_
 exact kM
 iterate 4 refine kF hC (kn b7) ?_
 refine kP hC true (kn b7) ?_
 refine Vc.nil ?_
 exact kM
 refine kS h ?_ ?_ <;> intro b8 h
 refine kt b8 ?_
 refine Xac ?_
 iterate 5 refine kO hT hC ?_
 refine Vc.nil ?_
 refine Xah ?_
 refine Xap ?_
 refine Xcr ?_
 refine Xap ?_
 obtain rfl := kj h
 exact Xbt (τ := ⟨[(4, .ptr 2000000 0), (5, .sv (.int .i64 3)), (6, .ptr 2000002 0)], [(16, some (.ints .i64 q1.Seq.Cols)), (17, some (.ints .i64 q1.Seq.Rows)), (2000000, some (.box [.sv (.bool q1.HasSeq), .sv (.bool q1.HasPar), .sv (.bool q1.HasRef), .sv (.int .i64 q1.Seq.Level), .sv (.int .i64 q1.Seq.Bits), .own 16, .own 17, .sv (.int .i64 q1.Par.Qp), .sv (.bool q1.Par.Large), .sv (.bool q1.Par.Exact), .sv (.bool q1.Par.Confined), .sv (.int .i64 q1.Frame), .sv (.int .i64 q1.Got), .sv (.int .i64 q1.Now.Wide), .sv (.int .i64 q1.Now.High), .sv (.str q1.Now.Dots), .sv (.int .i64 q1.Ref.Wide), .sv (.int .i64 q1.Ref.High), .sv (.str q1.Ref.Dots)])), (2000002, some (.box [.sv (.int .i64 0), .sv (.int .i64 0), .sv (.str ⟨#[]⟩)]))]⟩) (kW hC [(16, 272), (17, 273), (2000000, 64), (2000002, 96)]) rfl ⟨rfl, rfl, trivial⟩
 refine kf b8 ?_
 refine Xaf ?_
 refine Xae ?_
 refine Xaq ?_
 refine kL [2,4,6,13] [32,64,96,208,272,273] [_,_,_,_] [_,_,_,_,_,_] ?_
 refine kA h (fun v9 => ([(83, .sv (.bool v9))], [])) (fun v9 h => ?_) fun v9 h => ?_
 refine Xab ?_
 iterate 4 refine kO hT hC ?_
 refine kS h ?_ ?_ <;> intro b9 h
 iterate 3 refine kI hT hC (kn b9) ?_
 refine kP hC false (kn b9) ?_
 refine Vc.nil ?_
 exact kM
 iterate 3 refine kF hC (kn b9) ?_
 refine kP hC true (kn b9) ?_
 refine Vc.nil ?_
 exact kM
 refine kS h ?_ ?_ <;> intro b10 h
 refine kt b10 ?_
 refine Xac ?_
 iterate 5 refine kO hT hC ?_
 refine Vc.nil ?_
 refine Xah ?_
 refine Xap ?_
 refine Xcr ?_
 refine Xap ?_
 obtain rfl := kj h
 exact Xbt (τ := ⟨[(4, .ptr 2000000 0), (5, .sv (.int .i64 4)), (6, .ptr 2000002 0)], [(16, some (.ints .i64 q1.Seq.Cols)), (17, some (.ints .i64 q1.Seq.Rows)), (2000000, some (.box [.sv (.bool q1.HasSeq), .sv (.bool q1.HasPar), .sv (.bool q1.HasRef), .sv (.int .i64 q1.Seq.Level), .sv (.int .i64 q1.Seq.Bits), .own 16, .own 17, .sv (.int .i64 q1.Par.Qp), .sv (.bool q1.Par.Large), .sv (.bool q1.Par.Exact), .sv (.bool q1.Par.Confined), .sv (.int .i64 q1.Frame), .sv (.int .i64 q1.Got), .sv (.int .i64 q1.Now.Wide), .sv (.int .i64 q1.Now.High), .sv (.str q1.Now.Dots), .sv (.int .i64 q1.Ref.Wide), .sv (.int .i64 q1.Ref.High), .sv (.str q1.Ref.Dots)])), (2000002, some (.box [.sv (.int .i64 0), .sv (.int .i64 0), .sv (.str ⟨#[]⟩)]))]⟩) (kW hC [(16, 272), (17, 273), (2000000, 64), (2000002, 96)]) rfl ⟨rfl, rfl, trivial⟩
 refine kf b10 ?_
 refine Xaf ?_
 refine Xae ?_
 refine Xac ?_
 iterate 2 refine kO hT hC ?_
 refine kN ?_
 iterate 3 refine kO hT hC ?_
 refine kN ?_
 iterate 5 refine kO hT hC ?_
 refine Vc.nil ?_
 refine Xah ?_
 refine Xcr ?_
 refine Xap ?_
 obtain rfl := kj h
 exact Xbt (τ := ⟨[(4, .ptr 2000000 0), (5, .sv (.int .i64 0)), (6, .ptr 2000002 0)], [(16, some (.ints .i64 q1.Seq.Cols)), (17, some (.ints .i64 q1.Seq.Rows)), (2000000, some (.box [.sv (.bool q1.HasSeq), .sv (.bool true), .sv (.bool q1.HasRef), .sv (.int .i64 q1.Seq.Level), .sv (.int .i64 q1.Seq.Bits), .own 16, .own 17, .sv (.int .i64 q7.1.Qp), .sv (.bool q7.1.Large), .sv (.bool q7.1.Exact), .sv (.bool q7.1.Confined), .sv (.int .i64 q1.Frame), .sv (.int .i64 q1.Got), .sv (.int .i64 q1.Now.Wide), .sv (.int .i64 q1.Now.High), .sv (.str q1.Now.Dots), .sv (.int .i64 q1.Ref.Wide), .sv (.int .i64 q1.Ref.High), .sv (.str q1.Ref.Dots)])), (2000002, some (.box [.sv (.int .i64 0), .sv (.int .i64 0), .sv (.str ⟨#[]⟩)]))]⟩) (kW hC [(16, 272), (17, 273), (2000000, 64), (2000002, 96)]) rfl ⟨rfl, rfl, trivial⟩
 refine kf b6 ?_
 refine Xaf ?_
 refine Xar ?_
 refine Xae ?_
 refine Xac ?_
 iterate 4 refine kO hT hC ?_
 refine kC hC [(3, 272), (4, 273)] Tryz.call46 h (fun _ => Xol) fun q11 h => ?_
 iterate 6 refine kO hT hC ?_
 refine Vc.nil ?_
 refine Xah ?_
 obtain rfl := kj h
 exact Xbt (τ := ⟨[(4, .ptr 2000000 0), (5, .sv (.int .i64 q11.2.1)), (6, .ptr 2000002 0)], [(16, some (.ints .i64 q11.2.2.2.Seq.Cols)), (17, some (.ints .i64 q11.2.2.2.Seq.Rows)), (2000000, some (.box [.sv (.bool q11.1.HasSeq), .sv (.bool q11.1.HasPar), .sv (.bool q11.1.HasRef), .sv (.int .i64 q11.1.Seq.Level), .sv (.int .i64 q11.1.Seq.Bits), .own 16, .own 17, .sv (.int .i64 q11.1.Par.Qp), .sv (.bool q11.1.Par.Large), .sv (.bool q11.1.Par.Exact), .sv (.bool q11.1.Par.Confined), .sv (.int .i64 q11.1.Frame), .sv (.int .i64 q11.1.Got), .sv (.int .i64 q11.1.Now.Wide), .sv (.int .i64 q11.1.Now.High), .sv (.str q11.1.Now.Dots), .sv (.int .i64 q11.1.Ref.Wide), .sv (.int .i64 q11.1.Ref.High), .sv (.str q11.1.Ref.Dots)])), (2000002, some (.box [.sv (.int .i64 q11.2.2.1.Wide), .sv (.int .i64 q11.2.2.1.High), .sv (.str q11.2.2.1.Dots)]))]⟩) (kW hC [(16, 272), (17, 273), (2000000, 64), (2000002, 96)]) rfl ⟨rfl, rfl, trivial⟩
def Xrb (r : Bool) : AV := .sv (.bool r)
def Xra (r : Bool) : Xa8 := []
theorem Xs6 {p0 p1 r} (h : Xko p0 p1 = some r) : AC Tryz.prog 18 [.sv (.ints .i64 p0), .sv (.ints .i64 p1)] [] (Xrb r) (Xra r) := by
 refine Xag hT Tryz.func18 rfl fun C hC => ?_
 unfold Xko at h
 refine Xac ?_
 refine kO hT hC ?_
 refine Vc.nil ?_
 refine Xaq ?_
 refine Xac ?_
 iterate 5 refine kO hT hC ?_
 refine Vc.nil ?_
 refine kS h ?_ ?_ <;> intro b1 h
 refine kt b1 ?_
 refine Xac ?_
 refine kO hT hC ?_
 refine Vc.nil ?_
 refine Xah ?_
 refine Xap ?_
 exact kR
 refine kf b1 ?_
 refine Xaf ?_
 refine Xae ?_
 refine Xaq ?_
 refine Xac ?_
 refine kO hT hC ?_
 refine Vc.nil ?_
 refine kL [0,1,5] [] [_,_,_] [] ?_
 obtain ⟨o5, hl, h⟩ := Xba h
 refine Xd8 (fun v2 => ([(5, .sv (.int .i64 v2))], [])) (fun v4 => ([(0, .any), (1, .any), (5, .any)], [])) (fun r => Xl1 C T Tryz.f18.results.toList (Xrb r) (Xra r)) hl ?_ ?_ ?_ ?_
 apply Xbz hC []
 exact co
 rfl
 decide
 rfl
 intro v2 s hs
 have h := hs
 unfold Xia at h
 refine Xaq ?_
 refine Xac ?_
 iterate 4 refine kO hT hC ?_
 refine Vc.nil ?_
 refine kS h ?_ ?_ <;> intro b6 h
 refine kt b6 ?_
 refine Xaf ?_
 refine Xae ?_
 refine Xaq ?_
 refine Xao ?_
 refine Xd7 hm ?_
 iterate 2 refine kO hT hC ?_
 refine kQ hT hC h fun h => ?_
 iterate 3 refine kO hT hC ?_
 refine kQ hT hC h fun h => ?_
 iterate 2 refine kO hT hC ?_
 refine kD ?_
 refine kS h ?_ ?_ <;> intro b7 h
 refine kt b7 ?_
 refine Xac ?_
 refine kO hT hC ?_
 refine Vc.nil ?_
 refine Xah ?_
 refine Xcr ?_
 refine Xap ?_
 obtain rfl := kj h
 refine Xku ?_
 refine Xkr ?_
 exact Xbt (Xgk.refl _) rfl trivial
 refine kf b7 ?_
 refine Xaf ?_
 refine Xar ?_
 refine Xae ?_
 refine Xab ?_
 iterate 3 refine kO hT hC ?_
 refine Vc.nil ?_
 exact kG
 refine kf b6 ?_
 refine Xas ?_
 refine Xaz ?_
 exact kb
 intro v4 e
 subst e
 refine Xae ?_
 refine Xac ?_
 refine kO hT hC ?_
 refine Vc.nil ?_
 refine Xah ?_
 exact kR
 intro r' σ' e hE
 subst e
 obtain rfl := kj h
 refine Xap ?_
 exact hE
def Yii (r : Bool) : AV := .sv (.bool r)
def Yih (r : Bool) : Xa8 := []
theorem Yln {p0 p1 r} (h : Xoy p0 p1 = some r) : AC Tryz.prog 12 [.agg [.sv (.int .i64 p0.Wide), .sv (.int .i64 p0.High), .sv (.str p0.Dots)], .agg [.sv (.int .i64 p1.Wide), .sv (.int .i64 p1.High), .sv (.str p1.Dots)]] [] (Yii r) (Yih r) := by
 refine Xag hT Tryz.func12 rfl fun C hC => ?_
 unfold Xoy at h
 refine Xac ?_
 iterate 3 refine kO hT hC ?_
 refine Vc.nil ?_
 refine Xaq ?_
 refine Xac ?_
 iterate 5 refine kO hT hC ?_
 refine Vc.nil ?_
 refine kS h ?_ ?_ <;> intro b1 h
 refine kt b1 ?_
 refine Xac ?_
 refine kO hT hC ?_
 refine Vc.nil ?_
 refine Xah ?_
 refine Xap ?_
 exact kR
 refine kf b1 ?_
 refine Xaf ?_
 refine Xae ?_
 refine Xaq ?_
 refine Xac ?_
 iterate 5 refine kO hT hC ?_
 refine Vc.nil ?_
 refine kS h ?_ ?_ <;> intro b2 h
 refine kt b2 ?_
 refine Xac ?_
 refine kO hT hC ?_
 refine Vc.nil ?_
 refine Xah ?_
 refine Xap ?_
 exact kR
 refine kf b2 ?_
 refine Xaf ?_
 refine Xae ?_
 refine Xaq ?_
 refine Xac ?_
 iterate 5 refine kO hT hC ?_
 refine Vc.nil ?_
 refine kS h ?_ ?_ <;> intro b3 h
 refine kt b3 ?_
 refine Xac ?_
 refine kO hT hC ?_
 refine Vc.nil ?_
 refine Xah ?_
 refine Xap ?_
 exact kR
 refine kf b3 ?_
 refine Xaf ?_
 refine Xae ?_
 refine Xac ?_
 refine kO hT hC ?_
 refine Vc.nil ?_
 refine Xah ?_
 exact kR
def Xx3 (r : (Int × (List Int))) : AV := .sv (.int .i64 r.1)
def Xx2 (r : (Int × (List Int))) : Xa8 := [(0, .ints .i64 r.2)]
theorem Ya0 {p0 p1 r} (h : Xjt p0 p1 = some r) : AC Tryz.prog 20 [.own 0, .sv (.int .i64 p1)] [(0, .ints .i64 p0)] (Xx3 r) (Xx2 r) := by
 refine Xag hT Tryz.func20 rfl fun C hC => ?_
 unfold Xjt at h
 refine Xac ?_
 refine kO hT hC ?_
 refine Vc.nil ?_
 refine Xaq ?_
 refine Xac ?_
 refine kO hT hC ?_
 refine Vc.nil ?_
 refine kL [0,1,5] [0] [_,_,_] [_] ?_
 refine kX h (fun v2 => ([(1, .sv (.int .i64 v2.1)), (5, .sv (.int .i64 v2.2.1))], [(0, some (.ints .i64 v2.2.2))])) (fun v4 => ([(1, .sv (.int .i64 v4.1)), (0, .any), (5, .any)], [(0, some (.ints .i64 v4.2))])) (kW hC []) (fun v2 s h => ?_) fun v4 h => ?_
 unfold Xf3 at h
 refine Xaq ?_
 refine Xac ?_
 iterate 4 refine kO hT hC ?_
 refine Vc.nil ?_
 refine kS h ?_ ?_ <;> intro b3 h
 refine kt b3 ?_
 refine Xaf ?_
 refine Xae ?_
 refine Xaq ?_
 refine Xao ?_
 refine Xac ?_
 iterate 3 refine kO hT hC ?_
 iterate 2 refine kQ hT hC h fun h => ?_
 refine Vc.nil ?_
 refine Xab ?_
 iterate 3 refine kO hT hC ?_
 refine Vc.nil ?_
 refine Xar ?_
 refine Xae ?_
 refine Xab ?_
 iterate 3 refine kO hT hC ?_
 refine Vc.nil ?_
 exact kG
 refine kf b3 ?_
 refine Xas ?_
 refine Xaz ?_
 exact ku
 refine Xae ?_
 refine Xac ?_
 iterate 2 refine kO hT hC ?_
 refine Vc.nil ?_
 refine Xah ?_
 obtain rfl := kj h
 exact Xbt (Xgk.refl _) rfl ⟨rfl, trivial⟩
def Xo0 (r : Int) : AV := .sv (.int .i64 r)
def Xoz (r : Int) : Xa8 := []
theorem Xqc {p0 p1 r} (h : Xhk p0 p1 = some r) : AC Tryz.prog 22 [.sv (.ints .i64 p0), .sv (.int .i64 p1)] [] (Xo0 r) (Xoz r) := by
 refine Xag hT Tryz.func22 rfl fun C hC => ?_
 unfold Xhk at h
 refine Xac ?_
 refine kO hT hC ?_
 refine Vc.nil ?_
 refine Xaq ?_
 refine Xac ?_
 refine kO hT hC ?_
 refine Vc.nil ?_
 refine kL [0,1,5] [] [_,_,_] [] ?_
 obtain ⟨o5, hl, h⟩ := Xba h
 refine Xd8 (fun v2 => ([(1, .sv (.int .i64 v2.1)), (5, .sv (.int .i64 v2.2))], [])) (fun v4 => ([(1, .sv (.int .i64 v4)), (0, .any), (5, .any)], [])) (fun r => Xl1 C T Tryz.f22.results.toList (Xo0 r) (Xoz r)) hl ?_ ?_ ?_ ?_
 try dsimp only
 apply Xbz hC []
 exact co
 rfl
 decide
 rfl
 intro v2 s hs
 have h := hs
 unfold Xf1 at h
 refine Xaq ?_
 refine Xac ?_
 iterate 4 refine kO hT hC ?_
 refine Vc.nil ?_
 refine kS h ?_ ?_ <;> intro b5 h
 refine kt b5 ?_
 refine Xaf ?_
 refine Xae ?_
 refine Xaq ?_
 refine Xao ?_
 refine Xaq ?_
 refine Xac ?_
 iterate 2 refine kO hT hC ?_
 refine kQ hT hC h fun h => ?_
 iterate 3 refine kO hT hC ?_
 refine Vc.nil ?_
 refine kS h ?_ ?_ <;> intro b6 h
 refine kt b6 ?_
 refine Xac ?_
 refine kO hT hC ?_
 refine Vc.nil ?_
 refine Xah ?_
 refine Xap ?_
 refine Xcr ?_
 refine Xap ?_
 obtain rfl := kj h
 refine Xku ?_
 refine Xkr ?_
 exact Xbt (Xgk.refl _) rfl trivial
 refine kf b6 ?_
 refine Xaf ?_
 refine Xae ?_
 refine Xab ?_
 iterate 3 refine kO hT hC ?_
 refine Vc.nil ?_
 refine Xar ?_
 refine Xae ?_
 refine Xab ?_
 iterate 3 refine kO hT hC ?_
 refine Vc.nil ?_
 exact kG
 refine kf b5 ?_
 refine Xas ?_
 refine Xaz ?_
 exact kb
 intro v4 e
 subst e
 refine Xae ?_
 refine Xac ?_
 iterate 2 refine kO hT hC ?_
 refine Vc.nil ?_
 refine Xah ?_
 exact kR
 intro r' σ' e hE
 subst e
 obtain rfl := kj h
 refine Xap ?_
 exact hE
def Yfw (r : Xa0) : AV := .agg [.sv (.bool r.HasSeq), .sv (.bool r.HasPar), .sv (.bool r.HasRef), .sv (.int .i64 r.Seq.Level), .sv (.int .i64 r.Seq.Bits), .sv (.ints .i64 r.Seq.Cols), .sv (.ints .i64 r.Seq.Rows), .sv (.int .i64 r.Par.Qp), .sv (.bool r.Par.Large), .sv (.bool r.Par.Exact), .sv (.bool r.Par.Confined), .sv (.int .i64 r.Frame), .sv (.int .i64 r.Got), .sv (.int .i64 r.Now.Wide), .sv (.int .i64 r.Now.High), .sv (.str r.Now.Dots), .sv (.int .i64 r.Ref.Wide), .sv (.int .i64 r.Ref.High), .sv (.str r.Ref.Dots)]
def Yfv (r : Xa0) : Xa8 := []
theorem Yis {r} (h : Xp3 = some r) : AC Tryz.prog 51 [] [] (Yfw r) (Yfv r) := by
 refine Xag hT Tryz.func51 rfl fun C hC => ?_
 unfold Xp3 at h
 refine Xac ?_
 refine kO hT hC ?_
 refine kN ?_
 iterate 2 refine kO hT hC ?_
 refine Vc.nil ?_
 refine Xah ?_
 obtain rfl := kj h
 exact Xbt (τ := ⟨[(0, .ptr 2000000 0)], [(2000000, some (.box [.sv (.bool false), .sv (.bool false), .sv (.bool false), .sv (.int .i64 0), .sv (.int .i64 0), .sv (.ints .i64 []), .sv (.ints .i64 []), .sv (.int .i64 0), .sv (.bool false), .sv (.bool false), .sv (.bool false), .sv (.int .i64 (-1)), .sv (.int .i64 0), .sv (.int .i64 0), .sv (.int .i64 0), .sv (.str ⟨#[]⟩), .sv (.int .i64 0), .sv (.int .i64 0), .sv (.str ⟨#[]⟩)]))]⟩) (kW hC [(2000000, 0)]) rfl trivial
def Xui (r : ByteArray) : AV := .sv (.str r)
def Xuh (r : ByteArray) : Xa8 := []
theorem Xws {p0 r} (h : Xg2 p0 = some r) : AC Tryz.prog 165 [.sv (.str p0)] [] (Xui r) (Xuh r) := by
 refine Xag hT Tryz.func165 rfl fun C hC => ?_
 unfold Xg2 at h
 refine Xac ?_
 refine kO hT hC ?_
 refine kN ?_
 iterate 2 refine kO hT hC ?_
 refine Vc.nil ?_
 refine Xaq ?_
 refine Xac ?_
 refine kO hT hC ?_
 refine Vc.nil ?_
 refine kL [0,3,4] [96] [_,_,_] [_] ?_
 refine kX h (fun v4 => ([(4, .sv (.int .i64 v4.1))], [(96, some (.ints .u8 v4.2))])) (fun v8 => ([(0, .any), (4, .any)], [(96, some (.ints .u8 v8))])) (kW hC []) (fun v4 s h => ?_) fun v8 h => ?_
 unfold Xer at h
 refine Xaq ?_
 refine Xac ?_
 iterate 4 refine kO hT hC ?_
 refine Vc.nil ?_
 refine kS h ?_ ?_ <;> intro b11 h
 refine kt b11 ?_
 refine Xaf ?_
 refine Xae ?_
 refine Xaq ?_
 refine Xao ?_
 refine Xac ?_
 iterate 3 refine kO hT hC ?_
 refine Vc.nil ?_
 refine kL [0,3,4,5] [96] [_,_,_,_] [_] ?_
 refine kA h (fun v9 => ([(5, .any)], [(96, some (.ints .u8 v9))])) (fun v9 h => ?_) fun v9 h => ?_
 refine kL [0,3,4,5] [96] [_,_,_,_] [_] ?_
 refine kA h (fun v10 => ([(38, .sv (.bool v10)), (5, .any)], [])) (fun v10 h => ?_) fun v10 h => ?_
 refine Xab ?_
 iterate 3 refine kO hT hC ?_
 refine kS h ?_ ?_ <;> intro b12 h
 iterate 3 refine kI hT hC b12 ?_
 iterate 2 refine kJ hT hC b12 h fun h => ?_
 refine kI hT hC b12 ?_
 refine kP hC true b12 ?_
 refine kO hT hC ?_
 refine kS h ?_ ?_ <;> intro b13 h
 iterate 3 refine kI hT hC b13 ?_
 iterate 2 refine kJ hT hC b13 h fun h => ?_
 refine kI hT hC b13 ?_
 refine kP hC true b13 ?_
 refine kO hT hC ?_
 refine kS h ?_ ?_ <;> intro b14 h
 iterate 2 refine kI hT hC b14 ?_
 refine kJ hT hC b14 h fun h => ?_
 refine kI hT hC b14 ?_
 refine kP hC true b14 ?_
 refine Vc.nil ?_
 exact kM
 iterate 4 refine kF hC b14 ?_
 refine kP hC false b14 ?_
 refine Vc.nil ?_
 exact kM
 iterate 6 refine kF hC b13 ?_
 refine kP hC false b13 ?_
 refine kO hT hC ?_
 iterate 4 refine kF hC rfl ?_
 refine kO hT hC ?_
 refine Vc.nil ?_
 exact kM
 iterate 6 refine kF hC b12 ?_
 refine kP hC false b12 ?_
 refine kO hT hC ?_
 iterate 6 refine kF hC rfl ?_
 iterate 2 refine kO hT hC ?_
 iterate 4 refine kF hC rfl ?_
 refine kO hT hC ?_
 refine Vc.nil ?_
 exact kM
 refine kS h ?_ ?_ <;> intro b15 h
 refine kt b15 ?_
 refine Xab ?_
 iterate 2 refine kO hT hC ?_
 refine kT hT hC h fun h => ?_
 refine kO hT hC ?_
 refine Vc.nil ?_
 obtain rfl := kj h
 exact Xdp (kW hC [(96, 656)])
 refine kf b15 ?_
 refine Xaf ?_
 exact kM
 refine Xab ?_
 iterate 3 refine kO hT hC ?_
 refine kQ hT hC h fun h => ?_
 refine kO hT hC ?_
 refine kT hT hC h fun h => ?_
 refine kO hT hC ?_
 refine Vc.nil ?_
 refine Xar ?_
 refine Xae ?_
 refine Xab ?_
 iterate 3 refine kO hT hC ?_
 refine Vc.nil ?_
 obtain rfl := kj h
 exact Ya8 (kW hC [(96, 752)])
 refine kf b11 ?_
 refine Xas ?_
 refine Xaz ?_
 exact ku
 refine Xae ?_
 refine Xac ?_
 iterate 3 refine kO hT hC ?_
 refine Vc.nil ?_
 refine Xah ?_
 exact kR
def Ybm (r : (ByteArray × Bool)) : AV := .tup [.sv (.str r.1), .sv (.bool r.2)]
def Ybl (r : (ByteArray × Bool)) : Xa8 := []
theorem Yf1 {p0 r} (h : Xlu p0 = some r) : AC Tryz.prog 128 [.sv (.str p0)] [] (Ybm r) (Ybl r) := by
 refine Xag hT Tryz.func128 rfl fun C hC => ?_
 unfold Xlu at h
 refine Xac ?_
 iterate 2 refine kO hT hC ?_
 refine Vc.nil ?_
 refine Xaq ?_
 refine kL [0] [] [_] [] ?_
 refine kA h (fun v1 => ([(19, .sv (.bool v1))], [])) (fun v1 h => ?_) fun v1 h => ?_
 refine Xab ?_
 iterate 4 refine kO hT hC ?_
 refine kS h ?_ ?_ <;> intro b1 h
 iterate 3 refine kF hC b1 ?_
 refine kP hC true b1 ?_
 refine kO hT hC ?_
 iterate 6 refine kF hC rfl ?_
 refine kO hT hC ?_
 refine Vc.nil ?_
 exact kM
 iterate 3 refine kI hT hC b1 ?_
 refine kP hC false b1 ?_
 refine kO hT hC ?_
 refine kS h ?_ ?_ <;> intro b2 h
 iterate 6 refine kF hC b2 ?_
 refine kP hC true b2 ?_
 refine Vc.nil ?_
 exact kM
 iterate 4 refine kI hT hC b2 ?_
 refine kJ hT hC b2 h fun h => ?_
 refine kI hT hC b2 ?_
 refine kP hC false b2 ?_
 refine Vc.nil ?_
 exact kM
 refine kS h ?_ ?_ <;> intro b3 h
 refine kt b3 ?_
 refine Xac ?_
 iterate 2 refine kO hT hC ?_
 refine Vc.nil ?_
 refine Xah ?_
 refine Xap ?_
 exact kR
 refine kf b3 ?_
 refine Xaf ?_
 refine Xae ?_
 refine Xac ?_
 refine kO hT hC ?_
 refine kC hC [] Tryz.call165 h (fun _ => Xws) fun q2 h => ?_
 iterate 2 refine kO hT hC ?_
 refine Vc.nil ?_
 refine Xah ?_
 exact kR
def Xwl (r : (ByteArray × Bool)) : AV := .tup [.sv (.str r.1), .sv (.bool r.2)]
def Xwk (r : (ByteArray × Bool)) : Xa8 := []
theorem Xyw {p0 r} (h : Xge p0 = some r) : AC Tryz.prog 90 [.sv (.str p0)] [] (Xwl r) (Xwk r) := by
 refine Xag hT Tryz.func90 rfl fun C hC => ?_
 unfold Xge at h
 refine Xac ?_
 iterate 2 refine kO hT hC ?_
 refine Vc.nil ?_
 refine Xaq ?_
 refine Xac ?_
 iterate 3 refine kO hT hC ?_
 refine Vc.nil ?_
 refine kS h ?_ ?_ <;> intro b1 h
 refine kt b1 ?_
 refine Xac ?_
 iterate 2 refine kO hT hC ?_
 refine Vc.nil ?_
 refine Xah ?_
 refine Xap ?_
 exact kR
 refine kf b1 ?_
 refine Xaf ?_
 refine Xae ?_
 refine Xac ?_
 iterate 2 refine kO hT hC ?_
 refine Vc.nil ?_
 refine Xaq ?_
 refine Xac ?_
 refine kO hT hC ?_
 refine Vc.nil ?_
 refine kL [0,4,5] [176] [_,_,_] [_] ?_
 refine kX h (fun v4 => ([(5, .sv (.int .i64 v4.1))], [(176, some (.ints .u8 v4.2))])) (fun v8 => ([(5, .any)], [(176, some (.ints .u8 v8))])) (kW hC []) (fun v4 s h => ?_) fun v8 h => ?_
 unfold Xd2 at h
 refine Xaq ?_
 refine Xac ?_
 iterate 4 refine kO hT hC ?_
 refine Vc.nil ?_
 refine kS h ?_ ?_ <;> intro b12 h
 refine kt b12 ?_
 refine Xaf ?_
 refine Xae ?_
 refine kL [0,4,5] [176] [_,_,_] [_] ?_
 refine kA h (fun v9 => ([], [(176, some (.ints .u8 v9))])) (fun v9 h => ?_) fun v9 h => ?_
 refine Xao ?_
 refine Xaq ?_
 refine kL [0,4,5] [176] [_,_,_] [_] ?_
 refine kA h (fun v10 => ([(39, .sv (.bool v10))], [])) (fun v10 h => ?_) fun v10 h => ?_
 refine Xab ?_
 iterate 3 refine kO hT hC ?_
 refine kS h ?_ ?_ <;> intro b13 h
 iterate 2 refine kI hT hC b13 ?_
 refine kJ hT hC b13 h fun h => ?_
 refine kI hT hC b13 ?_
 refine kP hC true b13 ?_
 refine kO hT hC ?_
 refine kS h ?_ ?_ <;> intro b14 h
 iterate 3 refine kI hT hC b14 ?_
 refine kJ hT hC b14 h fun h => ?_
 refine kI hT hC b14 ?_
 refine kP hC true b14 ?_
 refine kO hT hC ?_
 refine kS h ?_ ?_ <;> intro b15 h
 iterate 3 refine kI hT hC b15 ?_
 refine kJ hT hC b15 h fun h => ?_
 refine kI hT hC b15 ?_
 refine kP hC true b15 ?_
 refine Vc.nil ?_
 exact kM
 iterate 5 refine kF hC b15 ?_
 refine kP hC false b15 ?_
 refine Vc.nil ?_
 exact kM
 iterate 5 refine kF hC b14 ?_
 refine kP hC false b14 ?_
 refine kO hT hC ?_
 iterate 5 refine kF hC rfl ?_
 refine kO hT hC ?_
 refine Vc.nil ?_
 exact kM
 iterate 4 refine kF hC b13 ?_
 refine kP hC false b13 ?_
 refine kO hT hC ?_
 iterate 5 refine kF hC rfl ?_
 iterate 2 refine kO hT hC ?_
 iterate 5 refine kF hC rfl ?_
 refine kO hT hC ?_
 refine Vc.nil ?_
 exact kM
 refine kS h ?_ ?_ <;> intro b16 h
 refine kt b16 ?_
 refine Xas ?_
 refine Xaz ?_
 refine Yjy ?_
 exact kM
 refine kf b16 ?_
 refine Xaf ?_
 refine Xae ?_
 refine Xab ?_
 iterate 3 refine kO hT hC ?_
 refine kQ hT hC h fun h => ?_
 refine kO hT hC ?_
 refine kT hT hC h fun h => ?_
 refine kO hT hC ?_
 refine Vc.nil ?_
 refine Xar ?_
 obtain rfl := kj h
 exact Xdp (kW hC [(176, 720)])
 refine Xab ?_
 iterate 3 refine kO hT hC ?_
 refine Vc.nil ?_
 exact kG
 refine kf b12 ?_
 refine Xas ?_
 refine Xaz ?_
 exact ku
 refine Xae ?_
 refine Xac ?_
 iterate 2 refine kO hT hC ?_
 refine kC hC [] Tryz.call128 h (fun _ => Yf1) fun q12 h => ?_
 iterate 5 refine kO hT hC ?_
 refine Vc.nil ?_
 refine Xaq ?_
 refine kL [0,4,6,7] [176] [_,_,_,_] [_] ?_
 refine kA h (fun v13 => ([(58, .sv (.bool v13)), (0, .any), (6, .any), (7, .any)], [])) (fun v13 h => ?_) fun v13 h => ?_
 refine Xab ?_
 iterate 3 refine kO hT hC ?_
 refine kS h ?_ ?_ <;> intro b17 h
 iterate 3 refine kI hT hC (kn b17) ?_
 refine kP hC false (kn b17) ?_
 refine Vc.nil ?_
 exact kM
 iterate 3 refine kF hC (kn b17) ?_
 refine kP hC true (kn b17) ?_
 refine Vc.nil ?_
 exact kM
 refine kS h ?_ ?_ <;> intro b18 h
 refine kt b18 ?_
 refine Xac ?_
 iterate 2 refine kO hT hC ?_
 refine Vc.nil ?_
 refine Xah ?_
 refine Xap ?_
 exact kR
 refine kf b18 ?_
 refine Xaf ?_
 refine Xae ?_
 refine Xac ?_
 iterate 4 refine kO hT hC ?_
 refine Vc.nil ?_
 refine Xah ?_
 exact kR
def Yby (r : (List ByteArray)) : AV := .own 16
def Ybx (r : (List ByteArray)) : Xa8 := [(16, .row Xbm r)]
theorem Ygp {p0 r} (h : Xlv p0 = some r) : AC Tryz.prog 52 [.sv (.str p0)] [] (Yby r) (Ybx r) := by
 refine Xag hT Tryz.func52 rfl fun C hC => ?_
 unfold Xlv at h
 refine Xac ?_
 refine kO hT hC ?_
 refine kN ?_
 iterate 2 refine kO hT hC ?_
 refine Vc.nil ?_
 refine Xaq ?_
 refine Xac ?_
 iterate 3 refine kO hT hC ?_
 refine Vc.nil ?_
 refine kS h ?_ ?_ <;> intro b1 h
 refine kt b1 ?_
 refine Xac ?_
 iterate 2 refine kO hT hC ?_
 refine Vc.nil ?_
 refine Xah ?_
 refine Xap ?_
 obtain rfl := kj h
 exact Xbt (τ := ⟨[(2, .own 16)], [(16, some (.row Xbm ([] : List ByteArray)))]⟩) (kW hC [(16, 160)]) rfl ⟨rfl, trivial⟩
 refine kf b1 ?_
 refine Xaf ?_
 refine Xae ?_
 refine Xac ?_
 refine kO hT hC ?_
 refine Vc.nil ?_
 refine Xaq ?_
 refine Xac ?_
 refine kO hT hC ?_
 refine Vc.nil ?_
 refine kL [0,3,4,5] [160] [_,_,_,_] [_] ?_
 refine kX h (fun v17 => ([(4, .sv (.int .i64 v17.1)), (5, .sv (.int .i64 v17.2.1))], [(160, some (.row Xbm v17.2.2))])) (fun v34 => ([(0, .any), (4, .any), (5, .any)], [(160, some (.row Xbm v34))])) (kW hC []) (fun v17 s h => ?_) fun v34 h => ?_
 unfold Xb8 at h
 refine Xaq ?_
 refine Xac ?_
 iterate 4 refine kO hT hC ?_
 refine Vc.nil ?_
 refine kS h ?_ ?_ <;> intro b34 h
 refine kt b34 ?_
 refine Xaf ?_
 refine Xae ?_
 refine kL [0,3,4,5] [160] [_,_,_,_] [_] ?_
 refine kA h (fun v35 => ([(4, .sv (.int .i64 v35.1))], [(160, some (.row Xbm v35.2))])) (fun v35 h => ?_) fun v35 h => ?_
 refine Xao ?_
 refine kL [0,3,4,5] [160] [_,_,_,_] [_] ?_
 refine kA h (fun v36 => ([(6, .sv (.bool v36))], [])) (fun v36 h => ?_) fun v36 h => ?_
 refine Xab ?_
 iterate 6 refine kO hT hC ?_
 refine kS h ?_ ?_ <;> intro b35 h
 iterate 2 refine kI hT hC b35 ?_
 refine kJ hT hC b35 h fun h => ?_
 refine kI hT hC b35 ?_
 refine kP hC true b35 ?_
 refine kO hT hC ?_
 refine kS h ?_ ?_ <;> intro b36 h
 iterate 3 refine kI hT hC b36 ?_
 refine kJ hT hC b36 h fun h => ?_
 refine kI hT hC b36 ?_
 refine kP hC true b36 ?_
 refine kO hT hC ?_
 refine kS h ?_ ?_ <;> intro b37 h
 iterate 3 refine kI hT hC b37 ?_
 refine kJ hT hC b37 h fun h => ?_
 refine kI hT hC b37 ?_
 refine kP hC true b37 ?_
 refine kO hT hC ?_
 refine Vc.nil ?_
 exact kM
 iterate 5 refine kF hC b37 ?_
 refine kP hC false b37 ?_
 refine kO hT hC ?_
 refine Vc.nil ?_
 exact kM
 iterate 5 refine kF hC b36 ?_
 refine kP hC false b36 ?_
 refine kO hT hC ?_
 iterate 5 refine kF hC rfl ?_
 iterate 2 refine kO hT hC ?_
 refine Vc.nil ?_
 exact kM
 iterate 4 refine kF hC b35 ?_
 refine kP hC false b35 ?_
 refine kO hT hC ?_
 iterate 5 refine kF hC rfl ?_
 iterate 2 refine kO hT hC ?_
 iterate 5 refine kF hC rfl ?_
 iterate 2 refine kO hT hC ?_
 refine Vc.nil ?_
 exact kM
 refine Xaq ?_
 refine kL [0,3,4,5,6] [160] [_,_,_,_,_] [_] ?_
 refine kA h (fun v37 => ([(53, .sv (.bool v37)), (6, .any)], [])) (fun v37 h => ?_) fun v37 h => ?_
 refine Xab ?_
 iterate 3 refine kO hT hC ?_
 refine kS h ?_ ?_ <;> intro b38 h
 iterate 4 refine kF hC (kn b38) ?_
 refine kP hC false (kn b38) ?_
 refine Vc.nil ?_
 exact kM
 iterate 4 refine kI hT hC (kn b38) ?_
 refine kP hC true (kn b38) ?_
 refine Vc.nil ?_
 exact kM
 refine kS h ?_ ?_ <;> intro b39 h
 refine kt b39 ?_
 refine Xas ?_
 refine Xaz ?_
 refine Yjy ?_
 exact kM
 refine kf b39 ?_
 refine Xaf ?_
 refine Xae ?_
 refine kL [0,3,4,5] [160] [_,_,_,_] [_] ?_
 refine kA h (fun v38 => ([(4, .any)], [(160, some (.row Xbm v38))])) (fun v38 h => ?_) fun v38 h => ?_
 refine kL [0,3,4,5] [160] [_,_,_,_] [_] ?_
 refine kA h (fun v39 => ([(60, .sv (.bool v39))], [])) (fun v39 h => ?_) fun v39 h => ?_
 refine Xab ?_
 iterate 3 refine kO hT hC ?_
 refine kS h ?_ ?_ <;> intro b40 h
 iterate 3 refine kI hT hC b40 ?_
 refine kP hC true b40 ?_
 refine Vc.nil ?_
 exact kM
 iterate 3 refine kF hC b40 ?_
 refine kP hC false b40 ?_
 refine Vc.nil ?_
 exact kM
 refine kS h ?_ ?_ <;> intro b41 h
 refine kt b41 ?_
 refine Xac ?_
 iterate 2 refine kO hT hC ?_
 refine Vc.nil ?_
 refine Xaq ?_
 refine kL [0,3,4,5,7] [160] [_,_,_,_,_] [_] ?_
 refine kX h (fun v42 => ([(7, .sv (.int .i64 v42))], [])) (fun v45 => ([(7, .sv (.int .i64 v45))], [])) (kW hC []) (fun v42 s h => ?_) fun v45 h => ?_
 unfold Xb9 at h
 refine Xaq ?_
 refine kL [0,3,4,5,7] [160] [_,_,_,_,_] [_] ?_
 refine kA h (fun v46 => ([(71, .sv (.bool v46))], [])) (fun v46 h => ?_) fun v46 h => ?_
 refine Xab ?_
 iterate 4 refine kO hT hC ?_
 refine kS h ?_ ?_ <;> intro b46 h
 iterate 3 refine kI hT hC b46 ?_
 refine kJ hT hC b46 h fun h => ?_
 refine kI hT hC b46 ?_
 refine kP hC true b46 ?_
 refine Vc.nil ?_
 exact kM
 iterate 5 refine kF hC b46 ?_
 refine kP hC false b46 ?_
 refine Vc.nil ?_
 exact kM
 refine kS h ?_ ?_ <;> intro b47 h
 refine kt b47 ?_
 refine Xaf ?_
 refine Xae ?_
 refine Xao ?_
 refine Xab ?_
 iterate 3 refine kO hT hC ?_
 refine Vc.nil ?_
 refine Xar ?_
 exact kG
 refine kf b47 ?_
 refine Xas ?_
 refine Xaz ?_
 exact ku
 refine Xae ?_
 refine Xac ?_
 iterate 3 refine kO hT hC ?_
 refine kQ hT hC h fun h => ?_
 refine kC hC [] Tryz.call90 h (fun _ => Xyw) fun q48 h => ?_
 iterate 5 refine kO hT hC ?_
 refine Vc.nil ?_
 refine kL [0,3,5,8,9] [160] [_,_,_,_,_] [_] ?_
 refine kA h (fun v49 => ([(87, .sv (.bool v49)), (9, .any)], [])) (fun v49 h => ?_) fun v49 h => ?_
 refine Xab ?_
 iterate 2 refine kO hT hC ?_
 refine kS h ?_ ?_ <;> intro b48 h
 iterate 3 refine kI hT hC b48 ?_
 refine kP hC true b48 ?_
 refine Vc.nil ?_
 exact kM
 iterate 3 refine kF hC b48 ?_
 refine kP hC false b48 ?_
 refine Vc.nil ?_
 exact kM
 refine kS h ?_ ?_ <;> intro b49 h
 refine kt b49 ?_
 refine Xab ?_
 iterate 3 refine kO hT hC ?_
 obtain ⟨hq, h⟩ := Xa5 h
 refine Xw3 hT hC rfl rfl rfl rfl ⟨fun _ _ => rfl, by rw [Xmh]; exact hq⟩ ?_
 rw [Xmh]
 refine kO hT hC ?_
 refine Vc.nil ?_
 obtain rfl := kj h
 exact Xdp (kW hC [(160, 1456)])
 refine kf b49 ?_
 refine Xaf ?_
 exact kM
 refine kf b41 ?_
 refine Xaf ?_
 exact kM
 refine Xab ?_
 iterate 3 refine kO hT hC ?_
 refine Vc.nil ?_
 refine Xar ?_
 exact kM
 refine Xab ?_
 iterate 3 refine kO hT hC ?_
 refine Vc.nil ?_
 exact kG
 refine kf b34 ?_
 refine Xas ?_
 refine Xaz ?_
 exact ku
 refine Xae ?_
 refine Xac ?_
 iterate 2 refine kO hT hC ?_
 refine Vc.nil ?_
 refine Xah ?_
 obtain rfl := kj h
 exact Xbt (τ := ⟨[(2, .own 16)], [(16, some (.row Xbm v34))]⟩) (kW hC [(16, 160)]) rfl ⟨rfl, trivial⟩
def Yfu (r : (Xa0 × (List Pic) × (List Int))) : AV := .tup [.agg [.sv (.bool r.1.HasSeq), .sv (.bool r.1.HasPar), .sv (.bool r.1.HasRef), .sv (.int .i64 r.1.Seq.Level), .sv (.int .i64 r.1.Seq.Bits), .own 16, .own 17, .sv (.int .i64 r.1.Par.Qp), .sv (.bool r.1.Par.Large), .sv (.bool r.1.Par.Exact), .sv (.bool r.1.Par.Confined), .sv (.int .i64 r.1.Frame), .sv (.int .i64 r.1.Got), .sv (.int .i64 r.1.Now.Wide), .sv (.int .i64 r.1.Now.High), .sv (.str r.1.Now.Dots), .sv (.int .i64 r.1.Ref.Wide), .sv (.int .i64 r.1.Ref.High), .sv (.str r.1.Ref.Dots)], .own 18, .own 19]
def Yft (r : (Xa0 × (List Pic) × (List Int))) : Xa8 := [(16, .ints .i64 r.1.Seq.Cols), (17, .ints .i64 r.1.Seq.Rows), (18, .row Xtp r.2.1), (19, .ints .i64 r.2.2)]
theorem Yir {p0 p1 r} (h : Xm9 p0 p1 = some r) : AC Tryz.prog 24 [.agg [.sv (.bool p0.HasSeq), .sv (.bool p0.HasPar), .sv (.bool p0.HasRef), .sv (.int .i64 p0.Seq.Level), .sv (.int .i64 p0.Seq.Bits), .sv (.ints .i64 p0.Seq.Cols), .sv (.ints .i64 p0.Seq.Rows), .sv (.int .i64 p0.Par.Qp), .sv (.bool p0.Par.Large), .sv (.bool p0.Par.Exact), .sv (.bool p0.Par.Confined), .sv (.int .i64 p0.Frame), .sv (.int .i64 p0.Got), .sv (.int .i64 p0.Now.Wide), .sv (.int .i64 p0.Now.High), .sv (.str p0.Now.Dots), .sv (.int .i64 p0.Ref.Wide), .sv (.int .i64 p0.Ref.High), .sv (.str p0.Ref.Dots)], .sv (Xbm.sv p1)] [] (Yfu r) (Yft r) := by
 refine Xag hT Tryz.func24 rfl fun C hC => ?_
 unfold Xm9 at h
 refine Xac ?_
 iterate 4 refine kO hT hC ?_
 refine kN ?_
 iterate 2 refine kO hT hC ?_
 refine kN ?_
 iterate 2 refine kO hT hC ?_
 refine kN ?_
 iterate 2 refine kO hT hC ?_
 refine kC hC [(16, 272), (17, 273)] Tryz.call37 h (fun _ => Xrj) fun q1 h => ?_
 iterate 2 refine kO hT hC ?_
 refine Vc.nil ?_
 refine Xaq ?_
 refine Xac ?_
 iterate 3 refine kO hT hC ?_
 refine Vc.nil ?_
 refine kS h ?_ ?_ <;> intro b1 h
 refine kt b1 ?_
 refine Xac ?_
 iterate 6 refine kO hT hC ?_
 refine Vc.nil ?_
 refine Xah ?_
 refine Xap ?_
 obtain rfl := kj h
 exact Xbt (τ := ⟨[(4, .ptr 2000000 0), (5, .own 18), (6, .own 19)], [(16, some (.ints .i64 q1.Cols)), (17, some (.ints .i64 q1.Rows)), (18, some (.row Xtp ([] : List Pic))), (19, some (.ints .i64 ([] : List Int))), (2000000, some (.box [.sv (.bool p0.HasSeq), .sv (.bool p0.HasPar), .sv (.bool p0.HasRef), .sv (.int .i64 q1.Level), .sv (.int .i64 q1.Bits), .own 16, .own 17, .sv (.int .i64 p0.Par.Qp), .sv (.bool p0.Par.Large), .sv (.bool p0.Par.Exact), .sv (.bool p0.Par.Confined), .sv (.int .i64 p0.Frame), .sv (.int .i64 p0.Got), .sv (.int .i64 p0.Now.Wide), .sv (.int .i64 p0.Now.High), .sv (.str p0.Now.Dots), .sv (.int .i64 p0.Ref.Wide), .sv (.int .i64 p0.Ref.High), .sv (.str p0.Ref.Dots)]))]⟩) (kW hC [(16, 272), (17, 273), (18, 208), (19, 224), (2000000, 64)]) rfl ⟨rfl, rfl, rfl, rfl, trivial⟩
 refine kf b1 ?_
 refine Xaf ?_
 refine Xae ?_
 refine Xaq ?_
 refine Xac ?_
 refine kO hT hC ?_
 refine Vc.nil ?_
 refine kL [1,2,4,7,8,9] [32,64,208,224,272,273] [_,_,_,_,_,_] [_,_,_,_,_,_] ?_
 refine kX h (fun v5 => ([(9, .sv (.int .i64 v5.1))], [(32, some (.box [.sv (.bool v5.2.1), .sv (.bool v5.2.2.1), .sv (.bool v5.2.2.2.1), .sv (.int .i64 v5.2.2.2.2.1), .sv (.int .i64 v5.2.2.2.2.2.1), .own 272, .own 273, .sv (.int .i64 v5.2.2.2.2.2.2.1), .sv (.bool v5.2.2.2.2.2.2.2.1), .sv (.bool v5.2.2.2.2.2.2.2.2.1), .sv (.bool v5.2.2.2.2.2.2.2.2.2.1), .sv (.int .i64 v5.2.2.2.2.2.2.2.2.2.2.1), .sv (.int .i64 v5.2.2.2.2.2.2.2.2.2.2.2.1), .sv (.int .i64 v5.2.2.2.2.2.2.2.2.2.2.2.2.1), .sv (.int .i64 v5.2.2.2.2.2.2.2.2.2.2.2.2.2.1), .sv (.str v5.2.2.2.2.2.2.2.2.2.2.2.2.2.2.1), .sv (.int .i64 v5.2.2.2.2.2.2.2.2.2.2.2.2.2.2.2.1), .sv (.int .i64 v5.2.2.2.2.2.2.2.2.2.2.2.2.2.2.2.2.1), .sv (.str v5.2.2.2.2.2.2.2.2.2.2.2.2.2.2.2.2.2.1)])), (208, some (.row Xtp v5.2.2.2.2.2.2.2.2.2.2.2.2.2.2.2.2.2.2.1)), (224, some (.ints .i64 v5.2.2.2.2.2.2.2.2.2.2.2.2.2.2.2.2.2.2.2.1)), (272, some (.ints .i64 v5.2.2.2.2.2.2.2.2.2.2.2.2.2.2.2.2.2.2.2.2.1)), (273, some (.ints .i64 v5.2.2.2.2.2.2.2.2.2.2.2.2.2.2.2.2.2.2.2.2.2))])) (fun v9 => ([(1, .any), (9, .any)], [(32, some (.box [.sv (.bool v9.1), .sv (.bool v9.2.1), .sv (.bool v9.2.2.1), .sv (.int .i64 v9.2.2.2.1), .sv (.int .i64 v9.2.2.2.2.1), .own 272, .own 273, .sv (.int .i64 v9.2.2.2.2.2.1), .sv (.bool v9.2.2.2.2.2.2.1), .sv (.bool v9.2.2.2.2.2.2.2.1), .sv (.bool v9.2.2.2.2.2.2.2.2.1), .sv (.int .i64 v9.2.2.2.2.2.2.2.2.2.1), .sv (.int .i64 v9.2.2.2.2.2.2.2.2.2.2.1), .sv (.int .i64 v9.2.2.2.2.2.2.2.2.2.2.2.1), .sv (.int .i64 v9.2.2.2.2.2.2.2.2.2.2.2.2.1), .sv (.str v9.2.2.2.2.2.2.2.2.2.2.2.2.2.1), .sv (.int .i64 v9.2.2.2.2.2.2.2.2.2.2.2.2.2.2.1), .sv (.int .i64 v9.2.2.2.2.2.2.2.2.2.2.2.2.2.2.2.1), .sv (.str v9.2.2.2.2.2.2.2.2.2.2.2.2.2.2.2.2.1)])), (208, some (.row Xtp v9.2.2.2.2.2.2.2.2.2.2.2.2.2.2.2.2.2.1)), (224, some (.ints .i64 v9.2.2.2.2.2.2.2.2.2.2.2.2.2.2.2.2.2.2.1)), (272, some (.ints .i64 v9.2.2.2.2.2.2.2.2.2.2.2.2.2.2.2.2.2.2.2.1)), (273, some (.ints .i64 v9.2.2.2.2.2.2.2.2.2.2.2.2.2.2.2.2.2.2.2.2))])) (kW hC []) (fun v5 s h => ?_) fun v9 h => ?_
 unfold Xgc at h
 refine Xaq ?_
 refine Xac ?_
 iterate 4 refine kO hT hC ?_
 refine Vc.nil ?_
 refine kS h ?_ ?_ <;> intro b6 h
 refine kt b6 ?_
 refine Xaf ?_
 refine Xae ?_
 refine kL [1,2,4,7,8,9] [32,64,208,224,272,273] [_,_,_,_,_,_] [_,_,_,_,_,_] ?_
 refine kA h (fun v10 => ([(8, .own 928)], [(32, some (.box [.sv (.bool v10.1), .sv (.bool v10.2.1), .sv (.bool v10.2.2.1), .sv (.int .i64 v10.2.2.2.1), .sv (.int .i64 v10.2.2.2.2.1), .own 929, .own 930, .sv (.int .i64 v10.2.2.2.2.2.1), .sv (.bool v10.2.2.2.2.2.2.1), .sv (.bool v10.2.2.2.2.2.2.2.1), .sv (.bool v10.2.2.2.2.2.2.2.2.1), .sv (.int .i64 v10.2.2.2.2.2.2.2.2.2.1), .sv (.int .i64 v10.2.2.2.2.2.2.2.2.2.2.1), .sv (.int .i64 v10.2.2.2.2.2.2.2.2.2.2.2.1), .sv (.int .i64 v10.2.2.2.2.2.2.2.2.2.2.2.2.1), .sv (.str v10.2.2.2.2.2.2.2.2.2.2.2.2.2.1), .sv (.int .i64 v10.2.2.2.2.2.2.2.2.2.2.2.2.2.2.1), .sv (.int .i64 v10.2.2.2.2.2.2.2.2.2.2.2.2.2.2.2.1), .sv (.str v10.2.2.2.2.2.2.2.2.2.2.2.2.2.2.2.2.1)])), (208, some (.row Xtp v10.2.2.2.2.2.2.2.2.2.2.2.2.2.2.2.2.2.1)), (928, some (.ints .i64 v10.2.2.2.2.2.2.2.2.2.2.2.2.2.2.2.2.2.2.1)), (929, some (.ints .i64 v10.2.2.2.2.2.2.2.2.2.2.2.2.2.2.2.2.2.2.2.1)), (930, some (.ints .i64 v10.2.2.2.2.2.2.2.2.2.2.2.2.2.2.2.2.2.2.2.2)), (224, none), (272, none), (273, none)])) (fun v10 h => ?_) fun v10 h => ?_
 refine Xao ?_
 refine Xd7 hm ?_
 iterate 3 refine kO hT hC ?_
 refine kQ hT hC h fun h => ?_
 refine kO hT hC ?_
 obtain ⟨q11, hq, h⟩ := Xba h
 refine Yow hC [(16, 592), (17, 593)] rfl rfl rfl rfl Tryz.call8 (Yfx hq) rfl (by decide) trivial rfl (.inr ⟨rfl, ⟨trivial, trivial, trivial⟩⟩) rfl ?_
 iterate 9 refine kO hT hC ?_
 refine kD ?_
 refine Xac ?_
 iterate 2 refine kO hT hC ?_
 refine kN ?_
 iterate 3 refine kO hT hC ?_
 refine kT hT hC h fun h => ?_
 refine kO hT hC ?_
 refine kN ?_
 iterate 3 refine kO hT hC ?_
 refine Vc.nil ?_
 refine kS h ?_ ?_ <;> intro b7 h
 refine kt b7 ?_
 refine Xab ?_
 iterate 3 refine kO hT hC ?_
 obtain ⟨hq, h⟩ := Xa5 h
 refine Xw3 hT hC rfl rfl rfl rfl ⟨fun _ _ => rfl, by rw [Ykv]; exact hq⟩ ?_
 rw [Ykv]
 refine kO hT hC ?_
 refine Vc.nil ?_
 refine Xar ?_
 obtain rfl := kj h
 exact Xdp (kW hC [(208, 832), (928, 720), (929, 592), (930, 593)])
 refine kf b7 ?_
 refine Xaf ?_
 refine Xar ?_
 obtain rfl := kj h
 exact Xdp (kW hC [(928, 720), (929, 592), (930, 593)])
 refine Xab ?_
 iterate 3 refine kO hT hC ?_
 refine Vc.nil ?_
 obtain rfl := kj h
 exact Ya8 (kW hC [(224, 928), (272, 929), (273, 930)])
 refine kf b6 ?_
 refine Xas ?_
 refine Xaz ?_
 exact ku
 refine Xae ?_
 refine Xac ?_
 iterate 6 refine kO hT hC ?_
 refine Vc.nil ?_
 refine Xah ?_
 obtain rfl := kj h
 exact Xbt (τ := ⟨[(4, .ptr 2000000 0), (5, .own 18), (6, .own 19)], [(16, some (.ints .i64 v9.2.2.2.2.2.2.2.2.2.2.2.2.2.2.2.2.2.2.2.1)), (17, some (.ints .i64 v9.2.2.2.2.2.2.2.2.2.2.2.2.2.2.2.2.2.2.2.2)), (18, some (.row Xtp v9.2.2.2.2.2.2.2.2.2.2.2.2.2.2.2.2.2.1)), (19, some (.ints .i64 v9.2.2.2.2.2.2.2.2.2.2.2.2.2.2.2.2.2.2.1)), (2000000, some (.box [.sv (.bool v9.1), .sv (.bool v9.2.1), .sv (.bool v9.2.2.1), .sv (.int .i64 v9.2.2.2.1), .sv (.int .i64 v9.2.2.2.2.1), .own 16, .own 17, .sv (.int .i64 v9.2.2.2.2.2.1), .sv (.bool v9.2.2.2.2.2.2.1), .sv (.bool v9.2.2.2.2.2.2.2.1), .sv (.bool v9.2.2.2.2.2.2.2.2.1), .sv (.int .i64 v9.2.2.2.2.2.2.2.2.2.1), .sv (.int .i64 v9.2.2.2.2.2.2.2.2.2.2.1), .sv (.int .i64 v9.2.2.2.2.2.2.2.2.2.2.2.1), .sv (.int .i64 v9.2.2.2.2.2.2.2.2.2.2.2.2.1), .sv (.str v9.2.2.2.2.2.2.2.2.2.2.2.2.2.1), .sv (.int .i64 v9.2.2.2.2.2.2.2.2.2.2.2.2.2.2.1), .sv (.int .i64 v9.2.2.2.2.2.2.2.2.2.2.2.2.2.2.2.1), .sv (.str v9.2.2.2.2.2.2.2.2.2.2.2.2.2.2.2.2.1)]))]⟩) (kW hC [(16, 272), (17, 273), (18, 208), (19, 224), (2000000, 64)]) rfl ⟨rfl, rfl, rfl, rfl, trivial⟩
def Xv9 (r : ((List Pic) × (List Int))) : AV := .tup [.own 16, .own 17]
def Xv8 (r : ((List Pic) × (List Int))) : Xa8 := [(16, .row Xtp r.1), (17, .ints .i64 r.2)]
theorem Xyf {p0 r} (h : Xid p0 = some r) : AC Tryz.prog 15 [.sv (.str p0)] [] (Xv9 r) (Xv8 r) := by
 refine Xag hT Tryz.func15 rfl fun C hC => ?_
 unfold Xid at h
 refine Xac ?_
 iterate 2 refine kO hT hC ?_
 refine kN ?_
 refine kC hC [] Tryz.call51 h (fun _ => Yis) fun q1 h => ?_
 refine kO hT hC ?_
 refine kC hC [(16, 160)] Tryz.call52 h (fun _ => Ygp) fun q2 h => ?_
 obtain ⟨q3, hq, h⟩ := Xba h
 refine Yow hC [(16, 176), (17, 177), (18, 178), (19, 179)] rfl rfl rfl rfl Tryz.call24 (Yir hq) rfl (by decide) trivial rfl (.inr ⟨rfl, ⟨trivial, trivial, fun _ => rfl, trivial, trivial⟩⟩) rfl ?_
 iterate 8 refine kO hT hC ?_
 refine kN ?_
 iterate 4 refine kO hT hC ?_
 refine Vc.nil ?_
 refine Xah ?_
 obtain rfl := kj h
 exact Xbt (τ := ⟨[(2, .own 16), (3, .own 17)], [(16, some (.row Xtp q3.2.1)), (17, some (.ints .i64 q3.2.2))]⟩) (kW hC [(16, 178), (17, 179)]) rfl ⟨rfl, rfl, trivial⟩
def Yez (r : (List Int)) : AV := .own 16
def Yey (r : (List Int)) : Xa8 := [(16, .ints .i64 r)]
theorem Yid {p0 r} (h : Xm5 p0 = some r) : AC Tryz.prog 91 [.sv (.str p0)] [] (Yez r) (Yey r) := by
 refine Xag hT Tryz.func91 rfl fun C hC => ?_
 unfold Xm5 at h
 refine Xac ?_
 refine kO hT hC ?_
 refine kN ?_
 iterate 2 refine kO hT hC ?_
 refine Vc.nil ?_
 refine Xaq ?_
 refine Xac ?_
 refine kO hT hC ?_
 refine Vc.nil ?_
 refine kL [0,3,4] [80] [_,_,_] [_] ?_
 refine kX h (fun v3 => ([(4, .sv (.int .i64 v3.1))], [(80, some (.ints .i64 v3.2))])) (fun v6 => ([(0, .any), (4, .any)], [(80, some (.ints .i64 v6))])) (kW hC []) (fun v3 s h => ?_) fun v6 h => ?_
 unfold Xey at h
 refine Xaq ?_
 refine Xac ?_
 iterate 5 refine kO hT hC ?_
 refine Vc.nil ?_
 refine kS h ?_ ?_ <;> intro b5 h
 refine kt b5 ?_
 refine Xaf ?_
 refine Xae ?_
 refine kL [0,3,4] [80] [_,_,_] [_] ?_
 refine kA h (fun v7 => ([], [(80, some (.ints .i64 v7))])) (fun v7 h => ?_) fun v7 h => ?_
 refine Xao ?_
 refine Xac ?_
 iterate 4 refine kO hT hC ?_
 refine kQ hT hC h fun h => ?_
 refine kO hT hC ?_
 refine Vc.nil ?_
 refine kS h ?_ ?_ <;> intro b6 h
 refine kt b6 ?_
 refine Xab ?_
 iterate 3 refine kO hT hC ?_
 refine kT hT hC h fun h => ?_
 refine kO hT hC ?_
 refine Vc.nil ?_
 refine Xar ?_
 obtain rfl := kj h
 exact Xdp (kW hC [(80, 352)])
 refine kf b6 ?_
 refine Xaf ?_
 refine Xar ?_
 exact kM
 refine Xab ?_
 iterate 3 refine kO hT hC ?_
 refine Vc.nil ?_
 exact kG
 refine kf b5 ?_
 refine Xas ?_
 refine Xaz ?_
 exact ku
 refine Xae ?_
 refine Xac ?_
 iterate 2 refine kO hT hC ?_
 refine Vc.nil ?_
 refine Xah ?_
 obtain rfl := kj h
 exact Xbt (τ := ⟨[(2, .own 16)], [(16, some (.ints .i64 v6))]⟩) (kW hC [(16, 80)]) rfl ⟨rfl, trivial⟩
def Xzz (r : (ByteArray × Bool)) : AV := .tup [.sv (.str r.1), .sv (.bool r.2)]
def Xzy (r : (ByteArray × Bool)) : Xa8 := []
theorem Ydu {p0 r} (h : Xli p0 = some r) : AC Tryz.prog 129 [.sv (.str p0)] [] (Xzz r) (Xzy r) := by
 refine Xag hT Tryz.func129 rfl fun C hC => ?_
 unfold Xli at h
 refine Xac ?_
 iterate 2 refine kO hT hC ?_
 refine Vc.nil ?_
 refine Xaq ?_
 refine kL [0] [] [_] [] ?_
 refine kA h (fun v1 => ([(21, .sv (.bool v1))], [])) (fun v1 h => ?_) fun v1 h => ?_
 refine Xab ?_
 iterate 3 refine kO hT hC ?_
 refine kS h ?_ ?_ <;> intro b1 h
 iterate 3 refine kF hC b1 ?_
 refine kP hC true b1 ?_
 refine kO hT hC ?_
 iterate 6 refine kF hC rfl ?_
 refine kO hT hC ?_
 refine Vc.nil ?_
 exact kM
 iterate 3 refine kI hT hC b1 ?_
 refine kP hC false b1 ?_
 refine kO hT hC ?_
 refine kS h ?_ ?_ <;> intro b2 h
 iterate 6 refine kF hC b2 ?_
 refine kP hC true b2 ?_
 refine Vc.nil ?_
 exact kM
 iterate 4 refine kI hT hC b2 ?_
 refine kJ hT hC b2 h fun h => ?_
 refine kI hT hC b2 ?_
 refine kP hC false b2 ?_
 refine Vc.nil ?_
 exact kM
 refine kS h ?_ ?_ <;> intro b3 h
 refine kt b3 ?_
 refine Xac ?_
 iterate 2 refine kO hT hC ?_
 refine Vc.nil ?_
 refine Xah ?_
 refine Xap ?_
 exact kR
 refine kf b3 ?_
 refine Xaf ?_
 refine Xae ?_
 refine Xac ?_
 iterate 4 refine kO hT hC ?_
 refine kQ hT hC h fun h => ?_
 refine kO hT hC ?_
 obtain ⟨hq, h⟩ := Xa5 h
 refine Xw3 hT hC rfl rfl rfl rfl ⟨hq.1, hq.2.1, hq.2.2, by decide⟩ ?_
 refine kO hT hC ?_
 refine kN ?_
 refine kO hT hC ?_
 refine Vc.nil ?_
 refine Xaq ?_
 refine Xac ?_
 refine kO hT hC ?_
 refine Vc.nil ?_
 refine kL [0,4,5,6] [448] [_,_,_,_] [_] ?_
 refine kX h (fun v6 => ([(5, .sv (.int .i64 v6.1)), (6, .sv (.int .i64 v6.2.1))], [(448, some (.ints .u8 v6.2.2))])) (fun v11 => ([(0, .any), (5, .any), (6, .any)], [(448, some (.ints .u8 v11))])) (kW hC []) (fun v6 s h => ?_) fun v11 h => ?_
 unfold Xe7 at h
 refine Xaq ?_
 refine Xac ?_
 iterate 4 refine kO hT hC ?_
 refine Vc.nil ?_
 refine kS h ?_ ?_ <;> intro b12 h
 refine kt b12 ?_
 refine Xaf ?_
 refine Xae ?_
 refine kL [0,4,5,6] [448] [_,_,_,_] [_] ?_
 refine kA h (fun v12 => ([(4, .own 982), (5, .sv (.int .i64 v12.1))], [(982, some (.ints .u8 v12.2)), (448, none)])) (fun v12 h => ?_) fun v12 h => ?_
 refine Xao ?_
 refine kL [0,4,5,6] [448] [_,_,_,_] [_] ?_
 refine kA h (fun v13 => ([(5, .sv (.int .i64 v13.1))], [(448, some (.ints .u8 v13.2))])) (fun v13 h => ?_) fun v13 h => ?_
 refine kL [0,4,5,6] [448] [_,_,_,_] [_] ?_
 refine kA h (fun v14 => ([(42, .sv (.bool v14))], [])) (fun v14 h => ?_) fun v14 h => ?_
 refine Xab ?_
 iterate 2 refine kO hT hC ?_
 refine kQ hT hC h fun h => ?_
 iterate 2 refine kO hT hC ?_
 refine kS h ?_ ?_ <;> intro b13 h
 iterate 2 refine kI hT hC b13 ?_
 refine kP hC true b13 ?_
 refine Vc.nil ?_
 exact kM
 iterate 2 refine kF hC b13 ?_
 refine kP hC false b13 ?_
 refine Vc.nil ?_
 exact kM
 refine kS h ?_ ?_ <;> intro b14 h
 refine kt b14 ?_
 refine Xac ?_
 iterate 2 refine kO hT hC ?_
 refine kT hT hC h fun h => ?_
 refine kO hT hC ?_
 refine Vc.nil ?_
 refine Xab ?_
 refine kO hT hC ?_
 refine Vc.nil ?_
 obtain rfl := kj h
 exact Xdp (kW hC [(448, 720)])
 refine kf b14 ?_
 refine Xaf ?_
 exact kM
 refine Xac ?_
 iterate 3 refine kO hT hC ?_
 refine kQ hT hC h fun h => ?_
 refine kO hT hC ?_
 refine kT hT hC h fun h => ?_
 refine kO hT hC ?_
 refine kN ?_
 iterate 2 refine kO hT hC ?_
 refine kQ hT hC h fun h => ?_
 refine kO hT hC ?_
 refine Vc.nil ?_
 refine kS h ?_ ?_ <;> intro b15 h
 refine kt b15 ?_
 refine Xab ?_
 iterate 3 refine kO hT hC ?_
 refine Vc.nil ?_
 refine Xar ?_
 obtain rfl := kj h
 exact Xdp (kW hC [(982, 816)])
 refine kf b15 ?_
 refine Xab ?_
 refine kO hT hC ?_
 refine Vc.nil ?_
 refine Xar ?_
 obtain rfl := kj h
 exact Xdp (kW hC [(982, 816)])
 refine Xab ?_
 iterate 3 refine kO hT hC ?_
 refine Vc.nil ?_
 obtain rfl := kj h
 exact Ya8 (kW hC [(448, 982)])
 refine kf b12 ?_
 refine Xas ?_
 refine Xaz ?_
 exact ku
 refine Xae ?_
 refine Xac ?_
 iterate 4 refine kO hT hC ?_
 refine Vc.nil ?_
 refine Xah ?_
 exact kR
def Xvk (r : (ByteArray × Bool)) : AV := .tup [.sv (.str r.1), .sv (.bool r.2)]
def Xvj (r : (ByteArray × Bool)) : Xa8 := []
theorem Xxs {p0 r} (h : Xh7 p0 = some r) : AC Tryz.prog 92 [.sv (.str p0)] [] (Xvk r) (Xvj r) := by
 refine Xag hT Tryz.func92 rfl fun C hC => ?_
 unfold Xh7 at h
 refine Xac ?_
 iterate 2 refine kO hT hC ?_
 refine kN ?_
 iterate 2 refine kO hT hC ?_
 obtain ⟨hq, h⟩ := Xa5 h
 refine Xw3 hT hC rfl rfl rfl rfl ⟨hq.1, hq.2.1, hq.2.2, by decide⟩ ?_
 refine kO hT hC ?_
 refine kN ?_
 refine kO hT hC ?_
 refine Vc.nil ?_
 refine Xaq ?_
 refine Xac ?_
 refine kO hT hC ?_
 refine Vc.nil ?_
 refine kL [0,4,5,6] [176] [_,_,_,_] [_] ?_
 refine kX h (fun v5 => ([(5, .sv (.int .i64 v5.1)), (6, .sv (.int .i64 v5.2.1))], [(176, some (.ints .u8 v5.2.2))])) (fun v10 => ([(5, .any), (6, .any)], [(176, some (.ints .u8 v10))])) (kW hC []) (fun v5 s h => ?_) fun v10 h => ?_
 unfold Xd0 at h
 refine Xaq ?_
 refine Xac ?_
 iterate 4 refine kO hT hC ?_
 refine Vc.nil ?_
 refine kS h ?_ ?_ <;> intro b9 h
 refine kt b9 ?_
 refine Xaf ?_
 refine Xae ?_
 refine kL [0,4,5,6] [176] [_,_,_,_] [_] ?_
 refine kA h (fun v11 => ([(5, .sv (.int .i64 v11.1))], [(176, some (.ints .u8 v11.2))])) (fun v11 h => ?_) fun v11 h => ?_
 refine Xao ?_
 refine kL [0,4,5,6] [176] [_,_,_,_] [_] ?_
 refine Yct h (fun (v12 : Int) => ([(5, .sv (.int .i64 v12))], [])) (fun v12 h => ?_) (fun h => ?_)
 refine Xab ?_
 iterate 3 refine kO hT hC ?_
 refine kQ hT hC h fun h => ?_
 refine kO hT hC ?_
 refine kT hT hC h fun h => ?_
 refine kO hT hC ?_
 refine Vc.nil ?_
 refine Xar ?_
 obtain rfl := kj h
 exact Xdp (kW hC [(176, 624)])
 refine Xao ?_
 refine kL [0,4,5,6] [176] [_,_,_,_] [_] ?_
 refine kA h (fun v13 => ([(18, .sv (.bool v13))], [])) (fun v13 h => ?_) fun v13 h => ?_
 refine Xab ?_
 iterate 3 refine kO hT hC ?_
 refine kS h ?_ ?_ <;> intro b10 h
 iterate 2 refine kI hT hC b10 ?_
 refine kJ hT hC b10 h fun h => ?_
 refine kI hT hC b10 ?_
 refine kP hC true b10 ?_
 refine kO hT hC ?_
 refine Vc.nil ?_
 exact kM
 iterate 4 refine kF hC b10 ?_
 refine kP hC false b10 ?_
 refine kO hT hC ?_
 refine Vc.nil ?_
 exact kM
 refine kS h ?_ ?_ <;> intro b11 h
 refine kt b11 ?_
 refine Xac ?_
 refine kO hT hC ?_
 refine Vc.nil ?_
 refine Xas ?_
 refine Ysw rfl ?_
 refine Yys ?_
 refine Yjy ?_
 exact kM
 refine kf b11 ?_
 refine Xac ?_
 iterate 2 refine kO hT hC ?_
 refine kQ hT hC h fun h => ?_
 iterate 2 refine kO hT hC ?_
 refine Vc.nil ?_
 refine kS h ?_ ?_ <;> intro b12 h
 refine kt b12 ?_
 refine Xab ?_
 iterate 3 refine kO hT hC ?_
 refine Vc.nil ?_
 refine Xar ?_
 exact Xzi (Xaa .i64 (v5.1 + 1)) h (kW hC [])
 refine kf b12 ?_
 refine Xab ?_
 refine kO hT hC ?_
 refine Vc.nil ?_
 refine Xar ?_
 exact Xzi 0 h (kW hC [])
 refine Xab ?_
 iterate 3 refine kO hT hC ?_
 refine Vc.nil ?_
 exact kG
 refine kf b9 ?_
 refine Xas ?_
 refine Xaz ?_
 exact ku
 refine Xae ?_
 refine Xaq ?_
 refine Xac ?_
 iterate 2 refine kO hT hC ?_
 refine kC hC [] Tryz.call129 h (fun _ => Ydu) fun q15 h => ?_
 iterate 5 refine kO hT hC ?_
 refine Vc.nil ?_
 refine kL [0,4,7,8] [176] [_,_,_,_] [_] ?_
 refine kA h (fun v16 => ([(52, .sv (.bool v16)), (0, .any), (7, .any), (8, .any)], [])) (fun v16 h => ?_) fun v16 h => ?_
 refine Xab ?_
 iterate 3 refine kO hT hC ?_
 refine kS h ?_ ?_ <;> intro b13 h
 iterate 3 refine kI hT hC (kn b13) ?_
 refine kP hC false (kn b13) ?_
 refine Vc.nil ?_
 exact kM
 iterate 3 refine kF hC (kn b13) ?_
 refine kP hC true (kn b13) ?_
 refine Vc.nil ?_
 exact kM
 refine kS h ?_ ?_ <;> intro b14 h
 refine kt b14 ?_
 refine Xac ?_
 iterate 2 refine kO hT hC ?_
 refine Vc.nil ?_
 refine Xah ?_
 refine Xap ?_
 exact kR
 refine kf b14 ?_
 refine Xaf ?_
 refine Xae ?_
 refine Xac ?_
 iterate 4 refine kO hT hC ?_
 refine Vc.nil ?_
 refine Xah ?_
 exact kR
def Yah (r : (List ByteArray)) : AV := .own 16
def Yag (r : (List ByteArray)) : Xa8 := [(16, .row Xbm r)]
theorem Yei {p0 r} (h : Xll p0 = some r) : AC Tryz.prog 53 [.sv (.str p0)] [] (Yah r) (Yag r) := by
 refine Xag hT Tryz.func53 rfl fun C hC => ?_
 unfold Xll at h
 refine Xac ?_
 refine kO hT hC ?_
 refine kN ?_
 iterate 2 refine kO hT hC ?_
 refine Vc.nil ?_
 refine Xaq ?_
 refine Xac ?_
 iterate 3 refine kO hT hC ?_
 refine Vc.nil ?_
 refine kS h ?_ ?_ <;> intro b1 h
 refine kt b1 ?_
 refine Xac ?_
 iterate 2 refine kO hT hC ?_
 refine Vc.nil ?_
 refine Xah ?_
 refine Xap ?_
 obtain rfl := kj h
 exact Xbt (τ := ⟨[(2, .own 16)], [(16, some (.row Xbm ([] : List ByteArray)))]⟩) (kW hC [(16, 144)]) rfl ⟨rfl, trivial⟩
 refine kf b1 ?_
 refine Xaf ?_
 refine Xae ?_
 refine Xac ?_
 refine kO hT hC ?_
 refine kC hC [(16, 240)] Tryz.call91 h (fun _ => Yid) fun q1 h => ?_
 iterate 3 refine kO hT hC ?_
 refine kT hT hC h fun h => ?_
 refine kO hT hC ?_
 refine Vc.nil ?_
 refine Xaq ?_
 refine Xac ?_
 refine kO hT hC ?_
 refine Vc.nil ?_
 refine kL [0,3,4,5] [144,304] [_,_,_,_] [_,_] ?_
 refine kX h (fun v14 => ([(5, .sv (.int .i64 v14.1))], [(144, some (.row Xbm v14.2))])) (fun v27 => ([(0, .any), (4, .any), (5, .any)], [(144, some (.row Xbm v27)), (304, none)])) (kW hC []) (fun v14 s h => ?_) fun v27 h => ?_
 unfold Xcs at h
 refine Xaq ?_
 refine kL [0,3,4,5] [144,304] [_,_,_,_] [_,_] ?_
 refine kA h (fun v28 => ([(29, .sv (.bool v28))], [])) (fun v28 h => ?_) fun v28 h => ?_
 refine Xab ?_
 iterate 6 refine kO hT hC ?_
 refine kS h ?_ ?_ <;> intro b20 h
 iterate 3 refine kI hT hC b20 ?_
 refine kP hC true b20 ?_
 refine Vc.nil ?_
 exact kM
 iterate 3 refine kF hC b20 ?_
 refine kP hC false b20 ?_
 refine Vc.nil ?_
 exact kM
 refine kS h ?_ ?_ <;> intro b21 h
 refine kt b21 ?_
 refine Xaf ?_
 refine Xae ?_
 refine kL [0,3,4,5] [144,304] [_,_,_,_] [_,_] ?_
 refine kA h (fun v29 => ([], [(144, some (.row Xbm v29))])) (fun v29 h => ?_) fun v29 h => ?_
 refine Xao ?_
 refine Xac ?_
 iterate 3 refine kO hT hC ?_
 iterate 2 refine kQ hT hC h fun h => ?_
 refine kO hT hC ?_
 refine Vc.nil ?_
 refine Xaq ?_
 refine kL [0,3,4,5,6] [144,304] [_,_,_,_,_] [_,_] ?_
 refine kX h (fun v32 => ([(6, .sv (.int .i64 v32))], [])) (fun v35 => ([(6, .sv (.int .i64 v35))], [])) (kW hC []) (fun v32 s h => ?_) fun v35 h => ?_
 unfold Xij at h
 refine Xaq ?_
 refine kL [0,3,4,5,6] [144,304] [_,_,_,_,_] [_,_] ?_
 refine kA h (fun v36 => ([(50, .sv (.bool v36))], [])) (fun v36 h => ?_) fun v36 h => ?_
 refine Xab ?_
 iterate 3 refine kO hT hC ?_
 iterate 2 refine kQ hT hC h fun h => ?_
 iterate 3 refine kO hT hC ?_
 refine kS h ?_ ?_ <;> intro b26 h
 iterate 3 refine kI hT hC b26 ?_
 refine kJ hT hC b26 h fun h => ?_
 refine kI hT hC b26 ?_
 refine kP hC true b26 ?_
 refine Vc.nil ?_
 exact kM
 iterate 5 refine kF hC b26 ?_
 refine kP hC false b26 ?_
 refine Vc.nil ?_
 exact kM
 refine kS h ?_ ?_ <;> intro b27 h
 refine kt b27 ?_
 refine Xaf ?_
 refine Xae ?_
 refine Xao ?_
 refine Xab ?_
 iterate 3 refine kO hT hC ?_
 refine Vc.nil ?_
 refine Xar ?_
 exact kG
 refine kf b27 ?_
 refine Xas ?_
 refine Xaz ?_
 exact ku
 refine Xae ?_
 refine Xac ?_
 iterate 3 refine kO hT hC ?_
 iterate 2 refine kQ hT hC h fun h => ?_
 iterate 2 refine kO hT hC ?_
 refine kQ hT hC h fun h => ?_
 refine kC hC [] Tryz.call92 h (fun _ => Xxs) fun q38 h => ?_
 iterate 5 refine kO hT hC ?_
 refine kN ?_
 refine kO hT hC ?_
 refine Vc.nil ?_
 refine kS h ?_ ?_ <;> intro b28 h
 refine kt b28 ?_
 refine Xab ?_
 iterate 3 refine kO hT hC ?_
 obtain ⟨hq, h⟩ := Xa5 h
 refine Xw3 hT hC rfl rfl rfl rfl ⟨fun _ _ => rfl, by rw [Xmh]; exact hq⟩ ?_
 rw [Xmh]
 refine kO hT hC ?_
 refine Vc.nil ?_
 refine Xar ?_
 obtain rfl := kj h
 exact Xdp (kW hC [(144, 1104)])
 refine kf b28 ?_
 refine Xaf ?_
 refine Xar ?_
 exact kM
 refine Xab ?_
 iterate 3 refine kO hT hC ?_
 refine Vc.nil ?_
 exact kG
 refine kf b21 ?_
 refine Xas ?_
 refine Xaz ?_
 exact ku
 refine Xae ?_
 refine Xac ?_
 iterate 2 refine kO hT hC ?_
 refine Vc.nil ?_
 refine Xah ?_
 obtain rfl := kj h
 exact Xbt (τ := ⟨[(2, .own 16)], [(16, some (.row Xbm v27))]⟩) (kW hC [(16, 144)]) rfl ⟨rfl, trivial⟩
def Ydo (r : (Xa0 × (List Pic) × (List Int))) : AV := .tup [.agg [.sv (.bool r.1.HasSeq), .sv (.bool r.1.HasPar), .sv (.bool r.1.HasRef), .sv (.int .i64 r.1.Seq.Level), .sv (.int .i64 r.1.Seq.Bits), .own 16, .own 17, .sv (.int .i64 r.1.Par.Qp), .sv (.bool r.1.Par.Large), .sv (.bool r.1.Par.Exact), .sv (.bool r.1.Par.Confined), .sv (.int .i64 r.1.Frame), .sv (.int .i64 r.1.Got), .sv (.int .i64 r.1.Now.Wide), .sv (.int .i64 r.1.Now.High), .sv (.str r.1.Now.Dots), .sv (.int .i64 r.1.Ref.Wide), .sv (.int .i64 r.1.Ref.High), .sv (.str r.1.Ref.Dots)], .own 18, .own 19]
def Ydn (r : (Xa0 × (List Pic) × (List Int))) : Xa8 := [(16, .ints .i64 r.1.Seq.Cols), (17, .ints .i64 r.1.Seq.Rows), (18, .row Xtp r.2.1), (19, .ints .i64 r.2.2)]
theorem Yhq {p0 p1 r} (h : Xmx p0 p1 = some r) : AC Tryz.prog 26 [.agg [.sv (.bool p0.HasSeq), .sv (.bool p0.HasPar), .sv (.bool p0.HasRef), .sv (.int .i64 p0.Seq.Level), .sv (.int .i64 p0.Seq.Bits), .sv (.ints .i64 p0.Seq.Cols), .sv (.ints .i64 p0.Seq.Rows), .sv (.int .i64 p0.Par.Qp), .sv (.bool p0.Par.Large), .sv (.bool p0.Par.Exact), .sv (.bool p0.Par.Confined), .sv (.int .i64 p0.Frame), .sv (.int .i64 p0.Got), .sv (.int .i64 p0.Now.Wide), .sv (.int .i64 p0.Now.High), .sv (.str p0.Now.Dots), .sv (.int .i64 p0.Ref.Wide), .sv (.int .i64 p0.Ref.High), .sv (.str p0.Ref.Dots)], .sv (Xbm.sv p1)] [] (Ydo r) (Ydn r) := by
 refine Xag hT Tryz.func26 rfl fun C hC => ?_
 unfold Xmx at h
 refine Xac ?_
 iterate 4 refine kO hT hC ?_
 refine kN ?_
 refine kO hT hC ?_
 refine kC hC [(16, 240), (17, 241)] Tryz.call41 h (fun _ => Xm3) fun q1 h => ?_
 refine kO hT hC ?_
 refine kN ?_
 iterate 4 refine kO hT hC ?_
 refine Vc.nil ?_
 refine Xaq ?_
 refine Xac ?_
 iterate 3 refine kO hT hC ?_
 refine Vc.nil ?_
 refine kS h ?_ ?_ <;> intro b1 h
 refine kt b1 ?_
 refine Xac ?_
 iterate 6 refine kO hT hC ?_
 refine Vc.nil ?_
 refine Xah ?_
 refine Xap ?_
 obtain rfl := kj h
 exact Xbt (τ := ⟨[(4, .ptr 2000000 0), (5, .own 18), (6, .own 19)], [(16, some (.ints .i64 q1.Seq.Cols)), (17, some (.ints .i64 q1.Seq.Rows)), (18, some (.row Xtp ([] : List Pic))), (19, some (.ints .i64 ([] : List Int))), (2000000, some (.box [.sv (.bool q1.HasSeq), .sv (.bool q1.HasPar), .sv (.bool q1.HasRef), .sv (.int .i64 q1.Seq.Level), .sv (.int .i64 q1.Seq.Bits), .own 16, .own 17, .sv (.int .i64 q1.Par.Qp), .sv (.bool q1.Par.Large), .sv (.bool q1.Par.Exact), .sv (.bool q1.Par.Confined), .sv (.int .i64 q1.Frame), .sv (.int .i64 q1.Got), .sv (.int .i64 q1.Now.Wide), .sv (.int .i64 q1.Now.High), .sv (.str q1.Now.Dots), .sv (.int .i64 q1.Ref.Wide), .sv (.int .i64 q1.Ref.High), .sv (.str q1.Ref.Dots)]))]⟩) (kW hC [(16, 240), (17, 241), (18, 256), (19, 272), (2000000, 64)]) rfl ⟨rfl, rfl, rfl, rfl, trivial⟩
 refine kf b1 ?_
 refine Xaf ?_
 refine Xae ?_
 refine Xaq ?_
 refine Xac ?_
 iterate 3 refine kO hT hC ?_
 refine Vc.nil ?_
 refine kL [2,4,7,8,24,25,26] [32,64,240,241,256,272] [_,_,_,_,_,_,_] [_,_,_,_,_,_] ?_
 refine kX h (fun v6 => ([(26, .sv (.int .i64 v6.1))], [(32, some (.box [.sv (.bool v6.2.1), .sv (.bool v6.2.2.1), .sv (.bool v6.2.2.2.1), .sv (.int .i64 v6.2.2.2.2.1), .sv (.int .i64 v6.2.2.2.2.2.1), .own 240, .own 241, .sv (.int .i64 v6.2.2.2.2.2.2.1), .sv (.bool v6.2.2.2.2.2.2.2.1), .sv (.bool v6.2.2.2.2.2.2.2.2.1), .sv (.bool v6.2.2.2.2.2.2.2.2.2.1), .sv (.int .i64 v6.2.2.2.2.2.2.2.2.2.2.1), .sv (.int .i64 v6.2.2.2.2.2.2.2.2.2.2.2.1), .sv (.int .i64 v6.2.2.2.2.2.2.2.2.2.2.2.2.1), .sv (.int .i64 v6.2.2.2.2.2.2.2.2.2.2.2.2.2.1), .sv (.str v6.2.2.2.2.2.2.2.2.2.2.2.2.2.2.1), .sv (.int .i64 v6.2.2.2.2.2.2.2.2.2.2.2.2.2.2.2.1), .sv (.int .i64 v6.2.2.2.2.2.2.2.2.2.2.2.2.2.2.2.2.1), .sv (.str v6.2.2.2.2.2.2.2.2.2.2.2.2.2.2.2.2.2.1)])), (240, some (.ints .i64 v6.2.2.2.2.2.2.2.2.2.2.2.2.2.2.2.2.2.2.2.2.1)), (241, some (.ints .i64 v6.2.2.2.2.2.2.2.2.2.2.2.2.2.2.2.2.2.2.2.2.2)), (256, some (.row Xtp v6.2.2.2.2.2.2.2.2.2.2.2.2.2.2.2.2.2.2.1)), (272, some (.ints .i64 v6.2.2.2.2.2.2.2.2.2.2.2.2.2.2.2.2.2.2.2.1))])) (fun v11 => ([(24, .any), (25, .any), (26, .any)], [(32, some (.box [.sv (.bool v11.1), .sv (.bool v11.2.1), .sv (.bool v11.2.2.1), .sv (.int .i64 v11.2.2.2.1), .sv (.int .i64 v11.2.2.2.2.1), .own 240, .own 241, .sv (.int .i64 v11.2.2.2.2.2.1), .sv (.bool v11.2.2.2.2.2.2.1), .sv (.bool v11.2.2.2.2.2.2.2.1), .sv (.bool v11.2.2.2.2.2.2.2.2.1), .sv (.int .i64 v11.2.2.2.2.2.2.2.2.2.1), .sv (.int .i64 v11.2.2.2.2.2.2.2.2.2.2.1), .sv (.int .i64 v11.2.2.2.2.2.2.2.2.2.2.2.1), .sv (.int .i64 v11.2.2.2.2.2.2.2.2.2.2.2.2.1), .sv (.str v11.2.2.2.2.2.2.2.2.2.2.2.2.2.1), .sv (.int .i64 v11.2.2.2.2.2.2.2.2.2.2.2.2.2.2.1), .sv (.int .i64 v11.2.2.2.2.2.2.2.2.2.2.2.2.2.2.2.1), .sv (.str v11.2.2.2.2.2.2.2.2.2.2.2.2.2.2.2.2.1)])), (240, some (.ints .i64 v11.2.2.2.2.2.2.2.2.2.2.2.2.2.2.2.2.2.2.2.1)), (241, some (.ints .i64 v11.2.2.2.2.2.2.2.2.2.2.2.2.2.2.2.2.2.2.2.2)), (256, some (.row Xtp v11.2.2.2.2.2.2.2.2.2.2.2.2.2.2.2.2.2.1)), (272, some (.ints .i64 v11.2.2.2.2.2.2.2.2.2.2.2.2.2.2.2.2.2.2.1))])) (kW hC []) (fun v6 s h => ?_) fun v11 h => ?_
 unfold Xf8 at h
 refine Xac ?_
 refine kO hT hC ?_
 refine Vc.nil ?_
 refine Xaq ?_
 refine kS h ?_ ?_ <;> intro b6 h
 refine kt b6 ?_
 refine Xaf ?_
 refine Xae ?_
 refine kL [2,4,7,8,24,25,26] [32,64,240,241,256,272] [_,_,_,_,_,_,_] [_,_,_,_,_,_] ?_
 refine kA h (fun v12 => ([(8, .own 864)], [(32, some (.box [.sv (.bool v12.1), .sv (.bool v12.2.1), .sv (.bool v12.2.2.1), .sv (.int .i64 v12.2.2.2.1), .sv (.int .i64 v12.2.2.2.2.1), .own 865, .own 866, .sv (.int .i64 v12.2.2.2.2.2.1), .sv (.bool v12.2.2.2.2.2.2.1), .sv (.bool v12.2.2.2.2.2.2.2.1), .sv (.bool v12.2.2.2.2.2.2.2.2.1), .sv (.int .i64 v12.2.2.2.2.2.2.2.2.2.1), .sv (.int .i64 v12.2.2.2.2.2.2.2.2.2.2.1), .sv (.int .i64 v12.2.2.2.2.2.2.2.2.2.2.2.1), .sv (.int .i64 v12.2.2.2.2.2.2.2.2.2.2.2.2.1), .sv (.str v12.2.2.2.2.2.2.2.2.2.2.2.2.2.1), .sv (.int .i64 v12.2.2.2.2.2.2.2.2.2.2.2.2.2.2.1), .sv (.int .i64 v12.2.2.2.2.2.2.2.2.2.2.2.2.2.2.2.1), .sv (.str v12.2.2.2.2.2.2.2.2.2.2.2.2.2.2.2.2.1)])), (256, some (.row Xtp v12.2.2.2.2.2.2.2.2.2.2.2.2.2.2.2.2.2.1)), (864, some (.ints .i64 v12.2.2.2.2.2.2.2.2.2.2.2.2.2.2.2.2.2.2.1)), (865, some (.ints .i64 v12.2.2.2.2.2.2.2.2.2.2.2.2.2.2.2.2.2.2.2.1)), (866, some (.ints .i64 v12.2.2.2.2.2.2.2.2.2.2.2.2.2.2.2.2.2.2.2.2)), (240, none), (241, none), (272, none)])) (fun v12 h => ?_) fun v12 h => ?_
 refine Xao ?_
 refine Xac ?_
 refine kQ hT hC h fun h => ?_
 iterate 2 refine kO hT hC ?_
 refine kN ?_
 iterate 2 refine kO hT hC ?_
 obtain ⟨q13, hq, h⟩ := Xba h
 refine Yow hC [(16, 528), (17, 529)] rfl rfl rfl rfl Tryz.call10 (Ydr hq) rfl (by decide) trivial rfl (.inr ⟨rfl, ⟨trivial, trivial, trivial⟩⟩) rfl ?_
 iterate 9 refine kO hT hC ?_
 refine kN ?_
 iterate 2 refine kO hT hC ?_
 refine kN ?_
 iterate 3 refine kO hT hC ?_
 refine kT hT hC h fun h => ?_
 refine kO hT hC ?_
 refine kN ?_
 refine kO hT hC ?_
 refine kC hC [] Tryz.call55 h (fun _ => Xdr) fun q14 h => ?_
 refine Vc.nil ?_
 refine kS h ?_ ?_ <;> intro b7 h
 refine kt b7 ?_
 refine Xab ?_
 iterate 3 refine kO hT hC ?_
 obtain ⟨hq, h⟩ := Xa5 h
 refine Xw3 hT hC rfl rfl rfl rfl ⟨fun _ _ => rfl, by rw [Ykv]; exact hq⟩ ?_
 rw [Ykv]
 refine kO hT hC ?_
 refine Vc.nil ?_
 refine Xar ?_
 obtain rfl := kj h
 exact Xdp (kW hC [(256, 752), (864, 656), (865, 528), (866, 529)])
 refine kf b7 ?_
 refine Xaf ?_
 refine Xar ?_
 obtain rfl := kj h
 exact Xdp (kW hC [(864, 656), (865, 528), (866, 529)])
 refine Xab ?_
 iterate 2 refine kO hT hC ?_
 refine Vc.nil ?_
 obtain rfl := kj h
 exact Ya8 (kW hC [(240, 865), (241, 866), (272, 864)])
 refine kf b6 ?_
 refine Xas ?_
 refine Xaz ?_
 exact ku
 refine Xae ?_
 refine Xac ?_
 iterate 6 refine kO hT hC ?_
 refine Vc.nil ?_
 refine Xah ?_
 obtain rfl := kj h
 exact Xbt (τ := ⟨[(4, .ptr 2000000 0), (5, .own 18), (6, .own 19)], [(16, some (.ints .i64 v11.2.2.2.2.2.2.2.2.2.2.2.2.2.2.2.2.2.2.2.1)), (17, some (.ints .i64 v11.2.2.2.2.2.2.2.2.2.2.2.2.2.2.2.2.2.2.2.2)), (18, some (.row Xtp v11.2.2.2.2.2.2.2.2.2.2.2.2.2.2.2.2.2.1)), (19, some (.ints .i64 v11.2.2.2.2.2.2.2.2.2.2.2.2.2.2.2.2.2.2.1)), (2000000, some (.box [.sv (.bool v11.1), .sv (.bool v11.2.1), .sv (.bool v11.2.2.1), .sv (.int .i64 v11.2.2.2.1), .sv (.int .i64 v11.2.2.2.2.1), .own 16, .own 17, .sv (.int .i64 v11.2.2.2.2.2.1), .sv (.bool v11.2.2.2.2.2.2.1), .sv (.bool v11.2.2.2.2.2.2.2.1), .sv (.bool v11.2.2.2.2.2.2.2.2.1), .sv (.int .i64 v11.2.2.2.2.2.2.2.2.2.1), .sv (.int .i64 v11.2.2.2.2.2.2.2.2.2.2.1), .sv (.int .i64 v11.2.2.2.2.2.2.2.2.2.2.2.1), .sv (.int .i64 v11.2.2.2.2.2.2.2.2.2.2.2.2.1), .sv (.str v11.2.2.2.2.2.2.2.2.2.2.2.2.2.1), .sv (.int .i64 v11.2.2.2.2.2.2.2.2.2.2.2.2.2.2.1), .sv (.int .i64 v11.2.2.2.2.2.2.2.2.2.2.2.2.2.2.2.1), .sv (.str v11.2.2.2.2.2.2.2.2.2.2.2.2.2.2.2.2.1)]))]⟩) (kW hC [(16, 240), (17, 241), (18, 256), (19, 272), (2000000, 64)]) rfl ⟨rfl, rfl, rfl, rfl, trivial⟩
def Xu4 (r : ((List Pic) × (List Int))) : AV := .tup [.own 16, .own 17]
def Xu3 (r : ((List Pic) × (List Int))) : Xa8 := [(16, .row Xtp r.1), (17, .ints .i64 r.2)]
theorem Xok {p0 r} (h : Xf9 p0 = some r) : AC Tryz.prog 16 [.sv (.str p0)] [] (Xu4 r) (Xu3 r) := by
 refine Xag hT Tryz.func16 rfl fun C hC => ?_
 unfold Xf9 at h
 refine Xac ?_
 iterate 2 refine kO hT hC ?_
 refine kN ?_
 refine kC hC [] Tryz.call44 h (fun _ => Xsu) fun q1 h => ?_
 refine kO hT hC ?_
 refine kC hC [(16, 160)] Tryz.call53 h (fun _ => Yei) fun q2 h => ?_
 obtain ⟨q3, hq, h⟩ := Xba h
 refine Yow hC [(16, 176), (17, 177), (18, 178), (19, 179)] rfl rfl rfl rfl Tryz.call26 (Yhq hq) rfl (by decide) trivial rfl (.inr ⟨rfl, ⟨trivial, trivial, fun _ => rfl, trivial, trivial⟩⟩) rfl ?_
 iterate 8 refine kO hT hC ?_
 refine kN ?_
 iterate 4 refine kO hT hC ?_
 refine Vc.nil ?_
 refine Xah ?_
 obtain rfl := kj h
 exact Xbt (τ := ⟨[(2, .own 16), (3, .own 17)], [(16, some (.row Xtp q3.2.1)), (17, some (.ints .i64 q3.2.2))]⟩) (kW hC [(16, 178), (17, 179)]) rfl ⟨rfl, rfl, trivial⟩
def Xrd (r : Bool) : AV := .sv (.bool r)
def Xrc (r : Bool) : Xa8 := []
theorem Xs7 {p0 p1 r} (h : Xkp p0 p1 = some r) : AC Tryz.prog 17 [.sv (Xtp.sv p0), .sv (Xtp.sv p1)] [] (Xrd r) (Xrc r) := by
 refine Xag hT Tryz.func17 rfl fun C hC => ?_
 unfold Xkp at h
 refine Xac ?_
 refine kO hT hC ?_
 refine Vc.nil ?_
 refine Xaq ?_
 refine Xac ?_
 iterate 5 refine kO hT hC ?_
 refine Vc.nil ?_
 refine kS h ?_ ?_ <;> intro b1 h
 refine kt b1 ?_
 refine Xac ?_
 refine kO hT hC ?_
 refine Vc.nil ?_
 refine Xah ?_
 refine Xap ?_
 exact kR
 refine kf b1 ?_
 refine Xaf ?_
 refine Xae ?_
 refine Xaq ?_
 refine Xac ?_
 refine kO hT hC ?_
 refine Vc.nil ?_
 refine kL [0,1,5] [] [_,_,_] [] ?_
 obtain ⟨o8, hl, h⟩ := Xba h
 refine Xd8 (fun v3 => ([(5, .sv (.int .i64 v3))], [])) (fun v6 => ([(0, .any), (1, .any), (5, .any)], [])) (fun r => Xl1 C T Tryz.f17.results.toList (Xrd r) (Xrc r)) hl ?_ ?_ ?_ ?_
 apply Xbz hC []
 exact co
 rfl
 decide
 rfl
 intro v3 s hs
 have h := hs
 unfold Xib at h
 refine Xaq ?_
 refine Xac ?_
 iterate 4 refine kO hT hC ?_
 refine Vc.nil ?_
 refine kS h ?_ ?_ <;> intro b6 h
 refine kt b6 ?_
 refine Xaf ?_
 refine Xae ?_
 refine Xaq ?_
 refine Xao ?_
 refine Xd7 hm ?_
 iterate 2 refine kO hT hC ?_
 refine kQ hT hC h fun h => ?_
 iterate 3 refine kO hT hC ?_
 refine kQ hT hC h fun h => ?_
 refine kO hT hC ?_
 refine kC hC [] Tryz.call12 h (fun _ => Yln) fun q7 h => ?_
 refine kO hT hC ?_
 refine kD ?_
 refine kS h ?_ ?_ <;> intro b7 h
 refine kt b7 ?_
 refine Xac ?_
 refine kO hT hC ?_
 refine Vc.nil ?_
 refine Xah ?_
 refine Xcr ?_
 refine Xap ?_
 obtain rfl := kj h
 refine Xku ?_
 refine Xkr ?_
 exact Xbt (Xgk.refl _) rfl trivial
 refine kf b7 ?_
 refine Xaf ?_
 refine Xar ?_
 refine Xae ?_
 refine Xab ?_
 iterate 3 refine kO hT hC ?_
 refine Vc.nil ?_
 exact kG
 refine kf b6 ?_
 refine Xas ?_
 refine Xaz ?_
 exact kb
 intro v6 e
 subst e
 refine Xae ?_
 refine Xac ?_
 refine kO hT hC ?_
 refine Vc.nil ?_
 refine Xah ?_
 exact kR
 intro r' σ' e hE
 subst e
 obtain rfl := kj h
 refine Xap ?_
 exact hE
def Xx7 (r : ByteArray) : AV := .sv (.str r)
def Xx6 (r : ByteArray) : Xa8 := []
theorem Xqe {p0 r} (h : Xep p0 = some r) : AC Tryz.prog 54 [.sv (.int .i64 p0)] [] (Xx7 r) (Xx6 r) := by
 refine Xag hT Tryz.func54 rfl fun C hC => ?_
 unfold Xep at h
 refine Xac ?_
 refine kO hT hC ?_
 refine Vc.nil ?_
 refine Xaq ?_
 refine Xac ?_
 iterate 2 refine kO hT hC ?_
 refine Vc.nil ?_
 refine kS h ?_ ?_ <;> intro b1 h
 refine kt b1 ?_
 refine Xac ?_
 refine kO hT hC ?_
 refine Vc.nil ?_
 refine Xah ?_
 refine Xap ?_
 exact kR
 refine kf b1 ?_
 refine Xaf ?_
 refine Xae ?_
 refine Xac ?_
 refine kO hT hC ?_
 refine Vc.nil ?_
 refine Xaq ?_
 refine kL [0,3] [] [_,_] [] ?_
 refine kX h (fun v2 => ([(0, .sv (.int .i64 v2.1)), (3, .sv (.str v2.2))], [])) (fun v4 => ([(3, .sv (.str v4)), (0, .any)], [])) (kW hC []) (fun v2 s h => ?_) fun v4 h => ?_
 unfold Xil at h
 refine Xaq ?_
 refine Xac ?_
 iterate 2 refine kO hT hC ?_
 refine Vc.nil ?_
 refine kS h ?_ ?_ <;> intro b4 h
 refine kt b4 ?_
 refine Xaf ?_
 refine Xae ?_
 refine Xao ?_
 refine Xac ?_
 refine kO hT hC ?_
 refine kQ hT hC h fun h => ?_
 iterate 5 refine kO hT hC ?_
 refine kQ hT hC h fun h => ?_
 refine kO hT hC ?_
 refine Vc.nil ?_
 refine Xab ?_
 refine kO hT hC ?_
 refine kQ hT hC h fun h => ?_
 refine kO hT hC ?_
 refine Vc.nil ?_
 refine Xar ?_
 exact kG
 refine kf b4 ?_
 refine Xas ?_
 refine Xaz ?_
 exact ku
 refine Xae ?_
 refine Xac ?_
 refine kO hT hC ?_
 refine kQ hT hC h fun h => ?_
 refine kO hT hC ?_
 refine Vc.nil ?_
 refine Xah ?_
 exact kR
def Xx5 (r : (Int × (List Pic))) : AV := .sv (.int .i64 r.1)
def Xx4 (r : (Int × (List Pic))) : Xa8 := [(0, .row Xtp r.2)]
theorem Ya2 {p0 p1 r} (h : Xju p0 p1 = some r) : AC Tryz.prog 19 [.own 0, .sv (.int .i64 p1)] [(0, .row Xtp p0)] (Xx5 r) (Xx4 r) := by
 refine Xag hT Tryz.func19 rfl fun C hC => ?_
 unfold Xju at h
 refine Xac ?_
 refine kO hT hC ?_
 refine Vc.nil ?_
 refine Xaq ?_
 refine Xac ?_
 refine kO hT hC ?_
 refine Vc.nil ?_
 refine kL [0,1,5] [0] [_,_,_] [_] ?_
 refine kX h (fun v6 => ([(1, .sv (.int .i64 v6.1)), (5, .sv (.int .i64 v6.2.1))], [(0, some (.row Xtp v6.2.2))])) (fun v12 => ([(1, .sv (.int .i64 v12.1)), (0, .any), (5, .any)], [(0, some (.row Xtp v12.2))])) (kW hC []) (fun v6 s h => ?_) fun v12 h => ?_
 unfold Xf4 at h
 refine Xaq ?_
 refine Xac ?_
 iterate 4 refine kO hT hC ?_
 refine Vc.nil ?_
 refine kS h ?_ ?_ <;> intro b3 h
 refine kt b3 ?_
 refine Xaf ?_
 refine Xae ?_
 refine Xaq ?_
 refine Xao ?_
 refine Xac ?_
 iterate 3 refine kO hT hC ?_
 refine kQ hT hC h fun h => ?_
 refine kO hT hC ?_
 obtain ⟨hq, h⟩ := Xa5 h
 obtain ⟨s13, hs, h⟩ := Xba h
 injection hs with hs
 refine Xw3 hT hC rfl rfl rfl rfl hq ?_
 rw [hs]
 refine kN ?_
 iterate 3 refine kO hT hC ?_
 refine kN ?_
 iterate 3 refine kO hT hC ?_
 refine kQ hT hC h fun h => ?_
 refine kO hT hC ?_
 obtain ⟨hq, h⟩ := Xa5 h
 obtain ⟨s14, hs, h⟩ := Xba h
 injection hs with hs
 refine Xw3 hT hC rfl rfl rfl rfl hq ?_
 rw [hs]
 refine kN ?_
 iterate 3 refine kO hT hC ?_
 refine kN ?_
 iterate 3 refine kO hT hC ?_
 refine kC hC [] Tryz.call54 h (fun _ => Xqe) fun q15 h => ?_
 refine kQ hT hC h fun h => ?_
 refine kO hT hC ?_
 obtain ⟨hq, h⟩ := Xa5 h
 obtain ⟨s16, hs, h⟩ := Xba h
 injection hs with hs
 refine Xw3 hT hC rfl rfl rfl rfl hq ?_
 rw [hs]
 refine Vc.nil ?_
 refine Xab ?_
 iterate 3 refine kO hT hC ?_
 refine Vc.nil ?_
 refine Xar ?_
 refine Xae ?_
 refine Xab ?_
 iterate 3 refine kO hT hC ?_
 refine Vc.nil ?_
 exact kG
 refine kf b3 ?_
 refine Xas ?_
 refine Xaz ?_
 exact ku
 refine Xae ?_
 refine Xac ?_
 iterate 2 refine kO hT hC ?_
 refine Vc.nil ?_
 refine Xah ?_
 obtain rfl := kj h
 exact Xbt (Xgk.refl _) rfl ⟨rfl, trivial⟩
def Xo2 (r : Int) : AV := .sv (.int .i64 r)
def Xo1 (r : Int) : Xa8 := []
theorem Xqd {p0 p1 r} (h : Xhl p0 p1 = some r) : AC Tryz.prog 21 [.sv (Xtp.sv p0), .sv (.int .i64 p1)] [] (Xo2 r) (Xo1 r) := by
 refine Xag hT Tryz.func21 rfl fun C hC => ?_
 unfold Xhl at h
 refine Xac ?_
 refine kO hT hC ?_
 refine Vc.nil ?_
 refine Xaq ?_
 refine Xac ?_
 refine kO hT hC ?_
 refine Vc.nil ?_
 refine kL [0,1,5] [] [_,_,_] [] ?_
 obtain ⟨o8, hl, h⟩ := Xba h
 refine Xd8 (fun v3 => ([(1, .sv (.int .i64 v3.1)), (5, .sv (.int .i64 v3.2))], [])) (fun v6 => ([(1, .sv (.int .i64 v6)), (0, .any), (5, .any)], [])) (fun r => Xl1 C T Tryz.f21.results.toList (Xo2 r) (Xo1 r)) hl ?_ ?_ ?_ ?_
 try dsimp only
 apply Xbz hC []
 exact co
 rfl
 decide
 rfl
 intro v3 s hs
 have h := hs
 unfold Xf2 at h
 refine Xaq ?_
 refine Xac ?_
 iterate 4 refine kO hT hC ?_
 refine Vc.nil ?_
 refine kS h ?_ ?_ <;> intro b9 h
 refine kt b9 ?_
 refine Xaf ?_
 refine Xae ?_
 refine Xaq ?_
 refine Xao ?_
 refine Xaq ?_
 refine Xac ?_
 iterate 2 refine kO hT hC ?_
 refine kQ hT hC h fun h => ?_
 iterate 4 refine kO hT hC ?_
 refine Vc.nil ?_
 refine kS h ?_ ?_ <;> intro b10 h
 refine kt b10 ?_
 refine Xac ?_
 refine kO hT hC ?_
 refine Vc.nil ?_
 refine Xah ?_
 refine Xap ?_
 refine Xcr ?_
 refine Xap ?_
 obtain rfl := kj h
 refine Xku ?_
 refine Xkr ?_
 exact Xbt (Xgk.refl _) rfl trivial
 refine kf b10 ?_
 refine Xaf ?_
 refine Xae ?_
 refine Xac ?_
 iterate 3 refine kO hT hC ?_
 refine Vc.nil ?_
 refine Xaq ?_
 refine Xac ?_
 iterate 2 refine kO hT hC ?_
 refine kQ hT hC h fun h => ?_
 iterate 4 refine kO hT hC ?_
 refine Vc.nil ?_
 refine kS h ?_ ?_ <;> intro b11 h
 refine kt b11 ?_
 refine Xac ?_
 refine kO hT hC ?_
 refine Vc.nil ?_
 refine Xah ?_
 refine Xap ?_
 refine Xcr ?_
 refine Xap ?_
 obtain rfl := kj h
 refine Xku ?_
 refine Xkr ?_
 exact Xbt (Xgk.refl _) rfl trivial
 refine kf b11 ?_
 refine Xaf ?_
 refine Xae ?_
 refine Xac ?_
 iterate 3 refine kO hT hC ?_
 refine Vc.nil ?_
 refine Xaq ?_
 refine Xd7 hm ?_
 iterate 2 refine kO hT hC ?_
 refine kQ hT hC h fun h => ?_
 iterate 3 refine kO hT hC ?_
 refine kC hC [] Tryz.call54 h (fun _ => Xqe) fun q7 h => ?_
 refine kO hT hC ?_
 refine kD ?_
 refine kS h ?_ ?_ <;> intro b12 h
 refine kt b12 ?_
 refine Xac ?_
 refine kO hT hC ?_
 refine Vc.nil ?_
 refine Xah ?_
 refine Xap ?_
 refine Xcr ?_
 refine Xap ?_
 obtain rfl := kj h
 refine Xku ?_
 refine Xkr ?_
 exact Xbt (Xgk.refl _) rfl trivial
 refine kf b12 ?_
 refine Xaf ?_
 refine Xae ?_
 refine Xab ?_
 iterate 3 refine kO hT hC ?_
 refine Vc.nil ?_
 refine Xar ?_
 refine Xae ?_
 refine Xab ?_
 iterate 3 refine kO hT hC ?_
 refine Vc.nil ?_
 exact kG
 refine kf b9 ?_
 refine Xas ?_
 refine Xaz ?_
 exact kb
 intro v6 e
 subst e
 refine Xae ?_
 refine Xac ?_
 iterate 2 refine kO hT hC ?_
 refine Vc.nil ?_
 refine Xah ?_
 exact kR
 intro r' σ' e hE
 subst e
 obtain rfl := kj h
 refine Xap ?_
 exact hE
def Xn8 (r : Bool) : AV := .sv (.bool r)
def Xn7 (r : Bool) : Xa8 := []
theorem Xox {p0 r} (h : Xeo p0 = some r) : AC Tryz.prog 4 [.sv (.str p0)] [] (Xn8 r) (Xn7 r) := by
 refine Xag hT Tryz.func4 rfl fun C hC => ?_
 unfold Xeo at h
 refine Xac ?_
 refine kO hT hC ?_
 refine Vc.nil ?_
 refine Xaq ?_
 refine Xac ?_
 iterate 3 refine kO hT hC ?_
 refine Vc.nil ?_
 refine kS h ?_ ?_ <;> intro b1 h
 refine kt b1 ?_
 refine Xac ?_
 refine kO hT hC ?_
 refine Vc.nil ?_
 refine Xah ?_
 refine Xap ?_
 exact kR
 refine kf b1 ?_
 refine Xaf ?_
 refine Xae ?_
 refine Xac ?_
 refine kO hT hC ?_
 refine kC hC [(16, 256), (17, 257)] Tryz.call15 h (fun _ => Xyf) fun q1 h => ?_
 iterate 5 refine kO hT hC ?_
 refine kN ?_
 refine kO hT hC ?_
 refine kC hC [(16, 336), (17, 337)] Tryz.call16 h (fun _ => Xok) fun q2 h => ?_
 iterate 5 refine kO hT hC ?_
 refine Vc.nil ?_
 refine Xaq ?_
 refine kL [0,3,4,5,6] [256,257,336,337] [_,_,_,_,_] [_,_,_,_] ?_
 refine kA h (fun v3 => ([(33, .sv (.bool v3))], [])) (fun v3 h => ?_) fun v3 h => ?_
 refine Xab ?_
 iterate 2 refine kO hT hC ?_
 refine kC hC [] Tryz.call17 h (fun _ => Xs7) fun q4 h => ?_
 iterate 2 refine kO hT hC ?_
 refine kS h ?_ ?_ <;> intro b2 h
 iterate 2 refine kI hT hC (kn b2) ?_
 refine kE hC (kn b2) [] Tryz.call18 h (fun _ => Xs6) fun q5 h => ?_
 refine kI hT hC (kn b2) ?_
 refine kP hC false (kn b2) ?_
 refine Vc.nil ?_
 exact kM
 iterate 4 refine kF hC (kn b2) ?_
 refine kP hC true (kn b2) ?_
 refine Vc.nil ?_
 exact kM
 refine kS h ?_ ?_ <;> intro b3 h
 refine kt b3 ?_
 refine Xac ?_
 refine kO hT hC ?_
 refine Vc.nil ?_
 refine Xah ?_
 refine Xap ?_
 exact kR
 refine kf b3 ?_
 refine Xaf ?_
 refine Xae ?_
 refine Xac ?_
 refine kO hT hC ?_
 refine kN ?_
 iterate 2 refine kO hT hC ?_
 refine kC hC [(0, 336)] Tryz.call19 h (fun _ => Ya2) fun q6 h => ?_
 refine kO hT hC ?_
 refine kN ?_
 iterate 2 refine kO hT hC ?_
 refine kC hC [(0, 337)] Tryz.call20 h (fun _ => Ya0) fun q7 h => ?_
 refine kO hT hC ?_
 refine kN ?_
 refine kO hT hC ?_
 refine kN ?_
 iterate 2 refine kO hT hC ?_
 refine kC hC [] Tryz.call21 h (fun _ => Xqd) fun q8 h => ?_
 refine kO hT hC ?_
 refine Vc.nil ?_
 refine Xaq ?_
 refine Xac ?_
 iterate 2 refine kO hT hC ?_
 refine Vc.nil ?_
 refine kS h ?_ ?_ <;> intro b4 h
 refine kt b4 ?_
 refine Xac ?_
 refine kO hT hC ?_
 refine Vc.nil ?_
 refine Xah ?_
 refine Xap ?_
 exact kR
 refine kf b4 ?_
 refine Xaf ?_
 refine Xae ?_
 refine Xac ?_
 iterate 2 refine kO hT hC ?_
 refine kC hC [] Tryz.call22 h (fun _ => Xqc) fun q9 h => ?_
 refine kO hT hC ?_
 refine Vc.nil ?_
 refine Xaq ?_
 refine Xac ?_
 iterate 2 refine kO hT hC ?_
 refine Vc.nil ?_
 refine kS h ?_ ?_ <;> intro b5 h
 refine kt b5 ?_
 refine Xac ?_
 refine kO hT hC ?_
 refine Vc.nil ?_
 refine Xah ?_
 refine Xap ?_
 exact kR
 refine kf b5 ?_
 refine Xaf ?_
 refine Xae ?_
 refine Xaq ?_
 refine Xac ?_
 iterate 3 refine kO hT hC ?_
 refine Vc.nil ?_
 refine kS h ?_ ?_ <;> intro b6 h
 refine kt b6 ?_
 refine Xac ?_
 refine kO hT hC ?_
 refine Vc.nil ?_
 refine Xah ?_
 refine Xap ?_
 exact kR
 refine kf b6 ?_
 refine Xaf ?_
 refine Xae ?_
 refine Xac ?_
 refine kO hT hC ?_
 refine kC hC [(16, 880), (17, 881)] Tryz.call16 h (fun _ => Xok) fun q10 h => ?_
 iterate 5 refine kO hT hC ?_
 refine Vc.nil ?_
 refine Xaq ?_
 refine kL [3,4,5,6,7,9,10] [256,257,336,337,880,881] [_,_,_,_,_,_,_] [_,_,_,_,_,_] ?_
 refine kA h (fun v11 => ([(67, .sv (.bool v11)), (3, .any), (4, .any), (9, .any), (10, .any)], [(256, none), (257, none), (880, none), (881, none)])) (fun v11 h => ?_) fun v11 h => ?_
 refine Xab ?_
 iterate 2 refine kO hT hC ?_
 refine kC hC [] Tryz.call17 h (fun _ => Xs7) fun q12 h => ?_
 iterate 2 refine kO hT hC ?_
 refine kS h ?_ ?_ <;> intro b7 h
 iterate 2 refine kI hT hC (kn b7) ?_
 refine kE hC (kn b7) [] Tryz.call18 h (fun _ => Xs6) fun q13 h => ?_
 refine kI hT hC (kn b7) ?_
 refine kP hC false (kn b7) ?_
 refine Vc.nil ?_
 exact kM
 iterate 4 refine kF hC (kn b7) ?_
 refine kP hC true (kn b7) ?_
 refine Vc.nil ?_
 exact kM
 refine kS h ?_ ?_ <;> intro b8 h
 refine kt b8 ?_
 refine Xac ?_
 refine kO hT hC ?_
 refine Vc.nil ?_
 refine Xah ?_
 refine Xap ?_
 exact kR
 refine kf b8 ?_
 refine Xaf ?_
 refine Xae ?_
 refine Xac ?_
 refine kO hT hC ?_
 refine kN ?_
 iterate 2 refine kO hT hC ?_
 refine kC hC [] Tryz.call21 h (fun _ => Xqd) fun q14 h => ?_
 refine kO hT hC ?_
 refine Vc.nil ?_
 refine Xaq ?_
 refine Xac ?_
 iterate 2 refine kO hT hC ?_
 refine Vc.nil ?_
 refine kS h ?_ ?_ <;> intro b9 h
 refine kt b9 ?_
 refine Xac ?_
 refine kO hT hC ?_
 refine Vc.nil ?_
 refine Xah ?_
 refine Xap ?_
 exact kR
 refine kf b9 ?_
 refine Xaf ?_
 refine Xae ?_
 refine Xac ?_
 iterate 2 refine kO hT hC ?_
 refine kC hC [] Tryz.call22 h (fun _ => Xqc) fun q15 h => ?_
 refine kO hT hC ?_
 refine Vc.nil ?_
 refine Xaq ?_
 refine Xac ?_
 iterate 2 refine kO hT hC ?_
 refine Vc.nil ?_
 refine kS h ?_ ?_ <;> intro b10 h
 refine kt b10 ?_
 refine Xac ?_
 refine kO hT hC ?_
 refine Vc.nil ?_
 refine Xah ?_
 refine Xap ?_
 exact kR
 refine kf b10 ?_
 refine Xaf ?_
 refine Xae ?_
 refine Xaq ?_
 refine Xac ?_
 iterate 3 refine kO hT hC ?_
 refine Vc.nil ?_
 refine kS h ?_ ?_ <;> intro b11 h
 refine kt b11 ?_
 refine Xac ?_
 refine kO hT hC ?_
 refine Vc.nil ?_
 refine Xah ?_
 refine Xap ?_
 exact kR
 refine kf b11 ?_
 refine Xaf ?_
 refine Xae ?_
 refine Xac ?_
 refine kO hT hC ?_
 refine Vc.nil ?_
 refine Xah ?_
 exact kR
end
end Go.Proofs.YtjgbfopmjpkkhaaGreat.A
