/- Contracts of the functions that the law FnExactAdmitStep reaches, part 1: each comes to what its pure function tells. Written by a program of this session. Conditions: as each statement tells. -/
import Derived.Test.YtnhflbeahbcklabGreatFFnExactAdmitStepx0
namespace Go.Proofs.YtnhflbeahbcklabGreat.A
open Go Go.Proofs Go.Proofs.YtnhflbeahbcklabGreatAL Go.RowKit
set_option linter.unusedVariables false
set_option linter.unusedSimpArgs false
set_option maxRecDepth 100000
set_option maxHeartbeats 2000000
noncomputable section
def Xoa (r : (Int × Int × Bool)) : AV := .tup [.sv (.int .i64 r.1), .sv (.int .i64 r.2.1), .sv (.bool r.2.2)]
def Xn9 (r : (Int × Int × Bool)) : Xa8 := []
theorem Xbl {p0 p1 r} (h : Xay p0 p1 = some r) : AC Tryz.prog 172 [.sv (.str p0), .sv (.int .i64 p1)] [] (Xoa r) (Xn9 r) := by
 refine Xad hT Tryz.func172 rfl fun C hC => ?_
 unfold Xay at h
 refine Xaa ?_
 iterate 3 refine kO hT hC ?_
 refine kN ?_
 refine kO hT hC ?_
 refine Vc.nil ?_
 refine Xaw ?_
 refine kL [0,1,7] [] [_,_,_] [] ?_
 refine kX h (fun v3 => ([(7, .sv (.int .i64 v3))], [])) (fun v6 => ([(7, .sv (.int .i64 v6))], [])) (kW hC []) (fun v3 s h => ?_) fun v6 h => ?_
 unfold Xcj at h
 refine Xaw ?_
 refine kL [0,1,7] [] [_,_,_] [] ?_
 refine kA h (fun v7 => ([(28, .sv (.bool v7))], [])) (fun v7 h => ?_) fun v7 h => ?_
 refine Xac ?_
 iterate 7 refine kO hT hC ?_
 refine kS h ?_ ?_ <;> intro b7 h
 iterate 4 refine kI hT hC b7 ?_
 refine kJ hT hC b7 h fun h => ?_
 refine kI hT hC b7 ?_
 refine kP hC true b7 ?_
 refine kO hT hC ?_
 refine kS h ?_ ?_ <;> intro b8 h
 iterate 2 refine kI hT hC b8 ?_
 refine kP hC true b8 ?_
 refine Vc.nil ?_
 exact kM
 iterate 2 refine kF hC b8 ?_
 refine kP hC false b8 ?_
 refine Vc.nil ?_
 exact kM
 iterate 6 refine kF hC b7 ?_
 refine kP hC false b7 ?_
 refine kO hT hC ?_
 iterate 2 refine kF hC rfl ?_
 refine kO hT hC ?_
 refine Vc.nil ?_
 exact kM
 refine kS h ?_ ?_ <;> intro b9 h
 refine kt b9 ?_
 refine Xaf ?_
 refine Xag ?_
 refine Xa2 ?_
 refine Xac ?_
 iterate 3 refine kO hT hC ?_
 refine Vc.nil ?_
 refine Xbc ?_
 exact kG
 refine kf b9 ?_
 refine Xba ?_
 refine Xbt ?_
 exact ku
 refine Xag ?_
 refine Xaa ?_
 iterate 6 refine kO hT hC ?_
 refine kC hC [] Tryz.call173 h (fun _ => Xf0) fun q9 h => ?_
 iterate 7 refine kO hT hC ?_
 refine Vc.nil ?_
 refine Xaw ?_
 refine kL [7,8,9,10] [] [_,_,_,_] [] ?_
 refine kA h (fun v10 => ([(55, .sv (.bool v10)), (7, .any), (10, .any)], [])) (fun v10 h => ?_) fun v10 h => ?_
 refine Xac ?_
 iterate 3 refine kO hT hC ?_
 refine kS h ?_ ?_ <;> intro b10 h
 iterate 3 refine kI hT hC (kn b10) ?_
 refine kJ hT hC (kn b10) h fun h => ?_
 refine kI hT hC (kn b10) ?_
 refine kP hC false (kn b10) ?_
 refine kO hT hC ?_
 refine kS h ?_ ?_ <;> intro b11 h
 iterate 3 refine kF hC b11 ?_
 refine kP hC true b11 ?_
 refine Vc.nil ?_
 exact kM
 iterate 3 refine kI hT hC b11 ?_
 refine kP hC false b11 ?_
 refine Vc.nil ?_
 exact kM
 iterate 5 refine kF hC (kn b10) ?_
 refine kP hC true (kn b10) ?_
 refine kO hT hC ?_
 iterate 3 refine kF hC rfl ?_
 refine kO hT hC ?_
 refine Vc.nil ?_
 exact kM
 refine kS h ?_ ?_ <;> intro b12 h
 refine kt b12 ?_
 refine Xaa ?_
 iterate 3 refine kO hT hC ?_
 refine Vc.nil ?_
 refine Xae ?_
 refine Xak ?_
 exact kR
 refine kf b12 ?_
 refine Xaf ?_
 refine Xag ?_
 refine Xaa ?_
 iterate 6 refine kO hT hC ?_
 refine Vc.nil ?_
 refine Xae ?_
 exact kR
def Xg8 (r : ((List Int) × Int × Bool)) : AV := .tup [.own 16, .sv (.int .i64 r.2.1), .sv (.bool r.2.2)]
def Xg7 (r : ((List Int) × Int × Bool)) : Xa8 := [(16, .ints .i64 r.1)]
theorem Xhy {p0 p1 r} (h : Xce p0 p1 = some r) : AC Tryz.prog 174 [.sv (.str p0), .sv (.int .i64 p1)] [] (Xg8 r) (Xg7 r) := by
 refine Xad hT Tryz.func174 rfl fun C hC => ?_
 unfold Xce at h
 refine Xaa ?_
 iterate 3 refine kO hT hC ?_
 refine kN ?_
 iterate 2 refine kO hT hC ?_
 refine kN ?_
 iterate 2 refine kO hT hC ?_
 refine kC hC [] Tryz.call172 h (fun _ => Xbl) fun q1 h => ?_
 iterate 7 refine kO hT hC ?_
 refine Vc.nil ?_
 refine Xaw ?_
 refine kL [0,7,8,9,10] [240] [_,_,_,_,_] [_] ?_
 refine kA h (fun v2 => ([(28, .sv (.bool v2)), (10, .any)], [])) (fun v2 h => ?_) fun v2 h => ?_
 refine Xac ?_
 iterate 3 refine kO hT hC ?_
 refine kS h ?_ ?_ <;> intro b1 h
 iterate 2 refine kI hT hC (kn b1) ?_
 refine kP hC false (kn b1) ?_
 refine Vc.nil ?_
 exact kM
 iterate 2 refine kF hC (kn b1) ?_
 refine kP hC true (kn b1) ?_
 refine Vc.nil ?_
 exact kM
 refine kS h ?_ ?_ <;> intro b2 h
 refine kt b2 ?_
 refine Xaa ?_
 iterate 4 refine kO hT hC ?_
 refine Vc.nil ?_
 refine Xae ?_
 refine Xak ?_
 obtain rfl := kj h
 exact Xc6 (τ := ⟨[(4, .own 16), (5, .sv (.int .i64 0)), (6, .sv (.bool false))], [(16, some (.ints .i64 ([] : List Int)))]⟩) (kW hC [(16, 240)]) rfl ⟨rfl, trivial⟩
 refine kf b2 ?_
 refine Xaf ?_
 refine Xag ?_
 refine Xaw ?_
 refine Xaa ?_
 refine kO hT hC ?_
 refine Vc.nil ?_
 refine kL [0,7,8,9,11] [240] [_,_,_,_,_] [_] ?_
 obtain ⟨o10, hl, h⟩ := Xbs h
 refine Xd4 (fun v5 => ([(9, .sv (.int .i64 v5.1)), (11, .sv (.int .i64 v5.2.1))], [(240, some (.ints .i64 v5.2.2))])) (fun v8 => ([(9, .sv (.int .i64 v8.1)), (0, .any), (8, .any), (11, .any)], [(240, some (.ints .i64 v8.2))])) (fun r => Xio C T Tryz.f174.results.toList (Xg8 r) (Xg7 r)) hl ?_ ?_ ?_ ?_
 try dsimp only
 apply Xbx hC []
 exact co
 rfl
 decide
 rfl
 intro v5 s hs
 have h := hs
 unfold Xa5 at h
 refine Xaw ?_
 refine Xaa ?_
 iterate 3 refine kO hT hC ?_
 refine Vc.nil ?_
 refine kS h ?_ ?_ <;> intro b7 h
 refine kt b7 ?_
 refine Xaf ?_
 refine Xag ?_
 refine Xaw ?_
 refine Xa2 ?_
 refine Xaa ?_
 iterate 2 refine kO hT hC ?_
 refine kC hC [] Tryz.call172 h (fun _ => Xbl) fun q9 h => ?_
 iterate 7 refine kO hT hC ?_
 refine Vc.nil ?_
 refine Xaw ?_
 refine Xaa ?_
 iterate 2 refine kO hT hC ?_
 refine Vc.nil ?_
 refine kS h ?_ ?_ <;> intro b8 h
 refine kt b8 ?_
 refine Xaa ?_
 iterate 4 refine kO hT hC ?_
 refine Vc.nil ?_
 refine Xae ?_
 refine Xak ?_
 refine Xdg ?_
 refine Xak ?_
 obtain rfl := kj h
 refine Xje ?_
 refine Xjd ?_
 refine Xc6 (τ := ⟨[(4, .own 16), (5, .sv (.int .i64 0)), (6, .sv (.bool false))], [(16, some (.ints .i64 ([] : List Int)))]⟩) ?_ rfl ⟨rfl, trivial⟩
 apply Xbx hC [(16, 704)]
 exact co
 rfl
 decide
 rfl
 refine kf b8 ?_
 refine Xaf ?_
 refine Xag ?_
 refine Xaa ?_
 iterate 3 refine kO hT hC ?_
 refine kT hT hC h fun h => ?_
 refine kO hT hC ?_
 refine Vc.nil ?_
 refine Xac ?_
 iterate 2 refine kO hT hC ?_
 refine Vc.nil ?_
 refine Xbc ?_
 refine Xag ?_
 refine Xac ?_
 iterate 3 refine kO hT hC ?_
 refine Vc.nil ?_
 obtain rfl := kj h
 exact Ydw (kW hC [(240, 768)])
 refine kf b7 ?_
 refine Xba ?_
 refine Xbt ?_
 exact kb
 intro v8 e
 subst e
 refine Xag ?_
 refine Xaa ?_
 iterate 5 refine kO hT hC ?_
 refine Vc.nil ?_
 refine Xae ?_
 obtain rfl := kj h
 exact Xc6 (τ := ⟨[(4, .own 16), (5, .sv (.int .i64 v8.1)), (6, .sv (.bool true))], [(16, some (.ints .i64 v8.2))]⟩) (kW hC [(16, 240)]) rfl ⟨rfl, trivial⟩
 intro r' σ' e hE
 subst e
 obtain rfl := kj h
 refine Xak ?_
 exact hE
def Xmu (r : (Seq × Int × Bool)) : AV := .tup [.agg [.sv (.int .i64 r.1.Level), .sv (.int .i64 r.1.Bits), .own 16, .own 17], .sv (.int .i64 r.2.1), .sv (.bool r.2.2)]
def Xmt (r : (Seq × Int × Bool)) : Xa8 := [(16, .ints .i64 r.1.Cols), (17, .ints .i64 r.1.Rows)]
theorem Xoe {p0 p1 r} (h : Xco p0 p1 = some r) : AC Tryz.prog 99 [.sv (.str p0), .sv (.int .i64 p1)] [] (Xmu r) (Xmt r) := by
 refine Xad hT Tryz.func99 rfl fun C hC => ?_
 unfold Xco at h
 refine Xaa ?_
 iterate 3 refine kO hT hC ?_
 refine kN ?_
 iterate 2 refine kO hT hC ?_
 refine kC hC [] Tryz.call172 h (fun _ => Xbl) fun q1 h => ?_
 iterate 7 refine kO hT hC ?_
 refine Vc.nil ?_
 refine Xaw ?_
 refine Xaa ?_
 iterate 2 refine kO hT hC ?_
 refine Vc.nil ?_
 refine kS h ?_ ?_ <;> intro b1 h
 refine kt b1 ?_
 refine Xaa ?_
 iterate 4 refine kO hT hC ?_
 refine Vc.nil ?_
 refine Xae ?_
 refine Xak ?_
 obtain rfl := kj h
 refine Xc6 (τ := ⟨[(4, .ptr 2000000 0), (5, .sv (.int .i64 0)), (6, .sv (.bool false))], [(16, some (.ints .i64 [])), (17, some (.ints .i64 [])), (2000000, some (.box [.sv (.int .i64 0), .sv (.int .i64 0), .own 16, .own 17]))]⟩) ?_ rfl ⟨rfl, rfl, trivial⟩
 refine Xg0 hC 64 2 1169 (.ints .i64 []) rfl rfl rfl rfl rfl trivial ?_
 refine Xg0 hC 64 3 1170 (.ints .i64 []) rfl rfl rfl rfl rfl trivial ?_
 apply Xbx hC [(16, 1169), (17, 1170), (2000000, 64)]
 exact co
 rfl
 decide
 rfl
 refine kf b1 ?_
 refine Xaf ?_
 refine Xag ?_
 refine Xaa ?_
 iterate 2 refine kO hT hC ?_
 refine kC hC [] Tryz.call173 h (fun _ => Xf0) fun q2 h => ?_
 iterate 7 refine kO hT hC ?_
 refine Vc.nil ?_
 refine Xaw ?_
 refine Xaa ?_
 iterate 2 refine kO hT hC ?_
 refine Vc.nil ?_
 refine kS h ?_ ?_ <;> intro b2 h
 refine kt b2 ?_
 refine Xaa ?_
 iterate 4 refine kO hT hC ?_
 refine Vc.nil ?_
 refine Xae ?_
 refine Xak ?_
 obtain rfl := kj h
 refine Xc6 (τ := ⟨[(4, .ptr 2000000 0), (5, .sv (.int .i64 0)), (6, .sv (.bool false))], [(16, some (.ints .i64 [])), (17, some (.ints .i64 [])), (2000000, some (.box [.sv (.int .i64 0), .sv (.int .i64 0), .own 16, .own 17]))]⟩) ?_ rfl ⟨rfl, rfl, trivial⟩
 refine Xg0 hC 64 2 1171 (.ints .i64 []) rfl rfl rfl rfl rfl trivial ?_
 refine Xg0 hC 64 3 1172 (.ints .i64 []) rfl rfl rfl rfl rfl trivial ?_
 apply Xbx hC [(16, 1171), (17, 1172), (2000000, 64)]
 exact co
 rfl
 decide
 rfl
 refine kf b2 ?_
 refine Xaf ?_
 refine Xag ?_
 refine Xaa ?_
 iterate 2 refine kO hT hC ?_
 refine kC hC [(16, 688)] Tryz.call174 h (fun _ => Xhy) fun q3 h => ?_
 iterate 7 refine kO hT hC ?_
 refine Vc.nil ?_
 refine Xaw ?_
 refine Xaa ?_
 iterate 2 refine kO hT hC ?_
 refine Vc.nil ?_
 refine kS h ?_ ?_ <;> intro b3 h
 refine kt b3 ?_
 refine Xaa ?_
 iterate 4 refine kO hT hC ?_
 refine Vc.nil ?_
 refine Xae ?_
 refine Xak ?_
 obtain rfl := kj h
 refine Xc6 (τ := ⟨[(4, .ptr 2000000 0), (5, .sv (.int .i64 0)), (6, .sv (.bool false))], [(16, some (.ints .i64 [])), (17, some (.ints .i64 [])), (2000000, some (.box [.sv (.int .i64 0), .sv (.int .i64 0), .own 16, .own 17]))]⟩) ?_ rfl ⟨rfl, rfl, trivial⟩
 refine Xg0 hC 64 2 1173 (.ints .i64 []) rfl rfl rfl rfl rfl trivial ?_
 refine Xg0 hC 64 3 1174 (.ints .i64 []) rfl rfl rfl rfl rfl trivial ?_
 apply Xbx hC [(16, 1173), (17, 1174), (2000000, 64)]
 exact co
 rfl
 decide
 rfl
 refine kf b3 ?_
 refine Xaf ?_
 refine Xag ?_
 refine Xaa ?_
 iterate 2 refine kO hT hC ?_
 refine kC hC [(16, 848)] Tryz.call174 h (fun _ => Xhy) fun q4 h => ?_
 iterate 7 refine kO hT hC ?_
 refine kN ?_
 iterate 7 refine kO hT hC ?_
 refine Vc.nil ?_
 refine Xaw ?_
 refine kL [4,17,18,19] [64,304,688,848] [_,_,_,_] [_,_,_,_] ?_
 refine kA h (fun v5 => ([(68, .sv (.bool v5)), (18, .any)], [])) (fun v5 h => ?_) fun v5 h => ?_
 refine Xac ?_
 iterate 3 refine kO hT hC ?_
 refine kS h ?_ ?_ <;> intro b4 h
 refine kI hT hC (kn b4) ?_
 refine kE hC (kn b4) [] Tryz.call119 h (fun _ => Xjx) fun q6 h => ?_
 refine kI hT hC (kn b4) ?_
 refine kP hC false (kn b4) ?_
 refine Vc.nil ?_
 exact kM
 iterate 3 refine kF hC (kn b4) ?_
 refine kP hC true (kn b4) ?_
 refine Vc.nil ?_
 exact kM
 refine kS h ?_ ?_ <;> intro b5 h
 refine kt b5 ?_
 refine Xaa ?_
 iterate 4 refine kO hT hC ?_
 refine Vc.nil ?_
 refine Xae ?_
 refine Xak ?_
 obtain rfl := kj h
 refine Xc6 (τ := ⟨[(4, .ptr 2000000 0), (5, .sv (.int .i64 0)), (6, .sv (.bool false))], [(16, some (.ints .i64 [])), (17, some (.ints .i64 [])), (2000000, some (.box [.sv (.int .i64 0), .sv (.int .i64 0), .own 16, .own 17]))]⟩) ?_ rfl ⟨rfl, rfl, trivial⟩
 refine Xg0 hC 64 2 1175 (.ints .i64 []) rfl rfl rfl rfl rfl trivial ?_
 refine Xg0 hC 64 3 1176 (.ints .i64 []) rfl rfl rfl rfl rfl trivial ?_
 apply Xbx hC [(16, 1175), (17, 1176), (2000000, 64)]
 exact co
 rfl
 decide
 rfl
 refine kf b5 ?_
 refine Xaf ?_
 refine Xag ?_
 refine Xaa ?_
 iterate 5 refine kO hT hC ?_
 refine Vc.nil ?_
 refine Xae ?_
 obtain rfl := kj h
 exact Xc6 (τ := ⟨[(4, .ptr 2000000 0), (5, .sv (.int .i64 q4.2.1)), (6, .sv (.bool true))], [(16, some (.ints .i64 q3.1)), (17, some (.ints .i64 q4.1)), (2000000, some (.box [.sv (.int .i64 q1.1), .sv (.int .i64 q2.1), .own 16, .own 17]))]⟩) (kW hC [(16, 688), (17, 848), (2000000, 64)]) rfl ⟨rfl, rfl, trivial⟩
def Xms (r : (Par × Int × Bool)) : AV := .tup [.agg [.sv (.int .i64 r.1.Qp), .sv (.bool r.1.Large), .sv (.bool r.1.Exact), .sv (.bool r.1.Confined)], .sv (.int .i64 r.2.1), .sv (.bool r.2.2)]
def Xmr (r : (Par × Int × Bool)) : Xa8 := []
theorem Xod {p0 p1 r} (h : Xcn p0 p1 = some r) : AC Tryz.prog 100 [.sv (.str p0), .sv (.int .i64 p1)] [] (Xms r) (Xmr r) := by
 refine Xad hT Tryz.func100 rfl fun C hC => ?_
 unfold Xcn at h
 refine Xaa ?_
 iterate 3 refine kO hT hC ?_
 refine kN ?_
 iterate 2 refine kO hT hC ?_
 refine kC hC [] Tryz.call173 h (fun _ => Xf0) fun q1 h => ?_
 iterate 7 refine kO hT hC ?_
 refine Vc.nil ?_
 refine Xaw ?_
 refine kL [0,4,7,8,9] [64] [_,_,_,_,_] [_] ?_
 refine kA h (fun v2 => ([(26, .sv (.bool v2)), (9, .any)], [])) (fun v2 h => ?_) fun v2 h => ?_
 refine Xac ?_
 iterate 3 refine kO hT hC ?_
 refine kS h ?_ ?_ <;> intro b1 h
 iterate 5 refine kI hT hC (kn b1) ?_
 refine kP hC false (kn b1) ?_
 refine Vc.nil ?_
 exact kM
 iterate 5 refine kF hC (kn b1) ?_
 refine kP hC true (kn b1) ?_
 refine Vc.nil ?_
 exact kM
 refine kS h ?_ ?_ <;> intro b2 h
 refine kt b2 ?_
 refine Xaa ?_
 iterate 4 refine kO hT hC ?_
 refine Vc.nil ?_
 refine Xae ?_
 refine Xak ?_
 exact kR
 refine kf b2 ?_
 refine Xaf ?_
 refine Xag ?_
 refine Xec hm ?_
 iterate 3 refine kO hT hC ?_
 refine kQ hT hC h fun h => ?_
 iterate 4 refine kO hT hC ?_
 refine kQ hT hC h fun h => ?_
 iterate 4 refine kO hT hC ?_
 refine kQ hT hC h fun h => ?_
 iterate 4 refine kO hT hC ?_
 refine kD ?_
 refine Xaw ?_
 refine Xaa ?_
 refine kO hT hC ?_
 refine kC hC [] Tryz.call96 h (fun _ => Xeq) fun q3 h => ?_
 refine kO hT hC ?_
 refine Vc.nil ?_
 refine kS h ?_ ?_ <;> intro b3 h
 refine kt b3 ?_
 refine Xaa ?_
 iterate 4 refine kO hT hC ?_
 refine Vc.nil ?_
 refine Xae ?_
 refine Xak ?_
 exact kR
 refine kf b3 ?_
 refine Xaf ?_
 refine Xag ?_
 refine Xaa ?_
 iterate 6 refine kO hT hC ?_
 refine Vc.nil ?_
 refine Xae ?_
 exact kR
def Xuj (r : (Int × Bool)) : AV := .tup [.sv (.int .i64 r.1), .sv (.bool r.2)]
def Xui (r : (Int × Bool)) : Xa8 := []
theorem Xv2 {p0 r} (h : Xhw p0 = some r) : AC Tryz.prog 227 [.sv (.int .i64 p0)] [] (Xuj r) (Xui r) := by
 refine Xad hT Tryz.func227 rfl fun C hC => ?_
 unfold Xhw at h
 refine Xaa ?_
 iterate 2 refine kO hT hC ?_
 refine Vc.nil ?_
 refine Xaw ?_
 refine Xaa ?_
 refine kO hT hC ?_
 refine kC hC [] Tryz.call149 h (fun _ => Xbb) fun q1 h => ?_
 refine kO hT hC ?_
 refine Vc.nil ?_
 refine kS h ?_ ?_ <;> intro b1 h
 refine kt b1 ?_
 refine Xaa ?_
 iterate 2 refine kO hT hC ?_
 refine Vc.nil ?_
 refine Xae ?_
 refine Xak ?_
 exact kR
 refine kf b1 ?_
 refine Xaf ?_
 refine Xag ?_
 refine Xaw ?_
 refine Xaa ?_
 refine kO hT hC ?_
 refine kQ hT hC h fun h => ?_
 refine kO hT hC ?_
 refine Vc.nil ?_
 refine kS h ?_ ?_ <;> intro b2 h
 refine kt b2 ?_
 refine Xaa ?_
 iterate 2 refine kO hT hC ?_
 refine kQ hT hC h fun h => ?_
 iterate 2 refine kO hT hC ?_
 refine Vc.nil ?_
 refine Xae ?_
 refine Xak ?_
 exact kR
 refine kf b2 ?_
 refine Xaf ?_
 refine Xag ?_
 refine Xaa ?_
 refine kO hT hC ?_
 refine kQ hT hC h fun h => ?_
 iterate 3 refine kO hT hC ?_
 refine Vc.nil ?_
 refine Xae ?_
 exact kR
def Xn8 (r : (Int × Int × Bool)) : AV := .tup [.sv (.int .i64 r.1), .sv (.int .i64 r.2.1), .sv (.bool r.2.2)]
def Xn7 (r : (Int × Int × Bool)) : Xa8 := []
theorem Xes {p0 p1 r} (h : Xbj p0 p1 = some r) : AC Tryz.prog 175 [.sv (.str p0), .sv (.int .i64 p1)] [] (Xn8 r) (Xn7 r) := by
 refine Xad hT Tryz.func175 rfl fun C hC => ?_
 unfold Xbj at h
 refine Xaa ?_
 iterate 3 refine kO hT hC ?_
 refine kN ?_
 iterate 2 refine kO hT hC ?_
 refine kC hC [] Tryz.call172 h (fun _ => Xbl) fun q1 h => ?_
 iterate 7 refine kO hT hC ?_
 refine Vc.nil ?_
 refine Xaw ?_
 refine Xaa ?_
 iterate 2 refine kO hT hC ?_
 refine Vc.nil ?_
 refine kS h ?_ ?_ <;> intro b1 h
 refine kt b1 ?_
 refine Xaa ?_
 iterate 3 refine kO hT hC ?_
 refine Vc.nil ?_
 refine Xae ?_
 refine Xak ?_
 exact kR
 refine kf b1 ?_
 refine Xaf ?_
 refine Xag ?_
 refine Xaa ?_
 refine kO hT hC ?_
 refine kC hC [] Tryz.call227 h (fun _ => Xv2) fun q2 h => ?_
 iterate 5 refine kO hT hC ?_
 refine kN ?_
 iterate 5 refine kO hT hC ?_
 refine Vc.nil ?_
 refine Xae ?_
 exact kR
def Xpm (r : (Xjk × Int × Bool)) : AV := .tup [.agg [.sv (.int .i64 r.1.Tile), .sv (.int .i64 r.1.Frame), .sv (.int .i64 r.1.Qp)], .sv (.int .i64 r.2.1), .sv (.bool r.2.2)]
def Xpl (r : (Xjk × Int × Bool)) : Xa8 := []
theorem Xro {p0 p1 p2 r} (h : Xdm p0 p1 p2 = some r) : AC Tryz.prog 102 [.agg [.sv (.int .i64 p0.Level), .sv (.int .i64 p0.Bits), .sv (.ints .i64 p0.Cols), .sv (.ints .i64 p0.Rows)], .agg [.sv (.int .i64 p1.Qp), .sv (.bool p1.Large), .sv (.bool p1.Exact), .sv (.bool p1.Confined)], .sv (.str p2)] [] (Xpm r) (Xpl r) := by
 refine Xad hT Tryz.func102 rfl fun C hC => ?_
 unfold Xdm at h
 refine Xaa ?_
 iterate 5 refine kO hT hC ?_
 refine Vc.nil ?_
 refine Xaw ?_
 refine kL [2,3,4,6] [48,64,96] [_,_,_,_] [_,_,_] ?_
 refine kA h (fun v1 => ([(31, .sv (.bool v1))], [])) (fun v1 h => ?_) fun v1 h => ?_
 refine Xac ?_
 refine kO hT hC ?_
 refine kC hC [] Tryz.call164 h (fun _ => Xn4) fun q2 h => ?_
 iterate 2 refine kO hT hC ?_
 refine kS h ?_ ?_ <;> intro b1 h
 refine kI hT hC (kn b1) ?_
 refine kE hC (kn b1) [] Tryz.call119 h (fun _ => Xjx) fun q3 h => ?_
 refine kI hT hC (kn b1) ?_
 refine kP hC false (kn b1) ?_
 refine kO hT hC ?_
 refine kS h ?_ ?_ <;> intro b2 h
 refine kI hT hC (kn b2) ?_
 refine kE hC (kn b2) [] Tryz.call96 h (fun _ => Xeq) fun q4 h => ?_
 refine kI hT hC (kn b2) ?_
 refine kP hC false (kn b2) ?_
 refine Vc.nil ?_
 exact kM
 iterate 3 refine kF hC (kn b2) ?_
 refine kP hC true (kn b2) ?_
 refine Vc.nil ?_
 exact kM
 iterate 3 refine kF hC (kn b1) ?_
 refine kP hC true (kn b1) ?_
 refine kO hT hC ?_
 iterate 3 refine kF hC rfl ?_
 refine kO hT hC ?_
 refine Vc.nil ?_
 exact kM
 refine kS h ?_ ?_ <;> intro b3 h
 refine kt b3 ?_
 refine Xaa ?_
 iterate 4 refine kO hT hC ?_
 refine Vc.nil ?_
 refine Xae ?_
 refine Xak ?_
 exact kR
 refine kf b3 ?_
 refine Xaf ?_
 refine Xag ?_
 refine Xaa ?_
 refine kO hT hC ?_
 refine kC hC [] Tryz.call172 h (fun _ => Xbl) fun q5 h => ?_
 iterate 7 refine kO hT hC ?_
 refine Vc.nil ?_
 refine Xaw ?_
 refine Xaa ?_
 iterate 2 refine kO hT hC ?_
 refine Vc.nil ?_
 refine kS h ?_ ?_ <;> intro b4 h
 refine kt b4 ?_
 refine Xaa ?_
 iterate 4 refine kO hT hC ?_
 refine Vc.nil ?_
 refine Xae ?_
 refine Xak ?_
 exact kR
 refine kf b4 ?_
 refine Xaf ?_
 refine Xag ?_
 refine Xaa ?_
 iterate 4 refine kO hT hC ?_
 refine kC hC [] Tryz.call173 h (fun _ => Xf0) fun q6 h => ?_
 iterate 7 refine kO hT hC ?_
 refine Vc.nil ?_
 refine Xaw ?_
 refine Xaa ?_
 iterate 2 refine kO hT hC ?_
 refine Vc.nil ?_
 refine kS h ?_ ?_ <;> intro b5 h
 refine kt b5 ?_
 refine Xaa ?_
 iterate 4 refine kO hT hC ?_
 refine Vc.nil ?_
 refine Xae ?_
 refine Xak ?_
 exact kR
 refine kf b5 ?_
 refine Xaf ?_
 refine Xag ?_
 refine Xaa ?_
 iterate 2 refine kO hT hC ?_
 refine kC hC [] Tryz.call175 h (fun _ => Xes) fun q7 h => ?_
 iterate 7 refine kO hT hC ?_
 refine kN ?_
 iterate 9 refine kO hT hC ?_
 refine Vc.nil ?_
 refine Xaw ?_
 refine kL [3,4,6,16,17,18] [48,64,96,288] [_,_,_,_,_,_] [_,_,_,_] ?_
 refine kA h (fun v8 => ([(76, .sv (.bool v8)), (3, .any), (4, .any), (17, .any)], [(48, none), (64, none)])) (fun v8 h => ?_) fun v8 h => ?_
 refine Xac ?_
 iterate 3 refine kO hT hC ?_
 refine kS h ?_ ?_ <;> intro b6 h
 iterate 3 refine kI hT hC (kn b6) ?_
 refine kE hC (kn b6) [] Tryz.call158 h (fun _ => Xv0) fun q9 h => ?_
 refine kI hT hC (kn b6) ?_
 refine kP hC false (kn b6) ?_
 refine Vc.nil ?_
 exact kM
 iterate 5 refine kF hC (kn b6) ?_
 refine kP hC true (kn b6) ?_
 refine Vc.nil ?_
 exact kM
 refine kS h ?_ ?_ <;> intro b7 h
 refine kt b7 ?_
 refine Xaa ?_
 iterate 4 refine kO hT hC ?_
 refine Vc.nil ?_
 refine Xae ?_
 refine Xak ?_
 exact kR
 refine kf b7 ?_
 refine Xaf ?_
 refine Xag ?_
 refine Xaa ?_
 iterate 5 refine kO hT hC ?_
 refine Vc.nil ?_
 refine Xae ?_
 exact kR
def Xrn (r : Xmv) : AV := .agg [.sv (.bool r.Key), .sv (.int .i64 r.Qp), .sv (.bool r.Large), .sv (.bool r.Exact)]
def Xrm (r : Xmv) : Xa8 := []
theorem Xud {p0 p1 r} (h : Xib p0 p1 = some r) : AC Tryz.prog 177 [.agg [.sv (.int .i64 p0.Qp), .sv (.bool p0.Large), .sv (.bool p0.Exact), .sv (.bool p0.Confined)], .agg [.sv (.bool p1.Key), .sv (.int .i64 p1.Qp), .sv (.str p1.Row)]] [] (Xrn r) (Xrm r) := by
 refine Xad hT Tryz.func177 rfl fun C hC => ?_
 unfold Xib at h
 refine Xaa ?_
 iterate 3 refine kO hT hC ?_
 refine kN ?_
 iterate 10 refine kO hT hC ?_
 refine Vc.nil ?_
 refine Xae ?_
 exact kR
def Xka (r : ((List Int) × Int × Bool)) : AV := .tup [.own 16, .sv (.int .i64 r.2.1), .sv (.bool r.2.2)]
def Xj9 (r : ((List Int) × Int × Bool)) : Xa8 := [(16, .ints .i64 r.1)]
theorem Xk3 {p0 p1 p2 r} (h : Xee p0 p1 p2 = some r) : AC Tryz.prog 296 [.sv (.str p0), .sv (.int .i64 p1), .sv (.int .i64 p2)] [] (Xka r) (Xj9 r) := by
 refine Xad hT Tryz.func296 rfl fun C hC => ?_
 unfold Xee at h
 refine Xaa ?_
 iterate 3 refine kO hT hC ?_
 refine kN ?_
 refine kO hT hC ?_
 obtain ⟨hq, h⟩ := Xc1 h
 refine Yb4 hT hC rfl rfl rfl rfl ⟨hq.1, hq.2.1, hq.2.2, by decide⟩ ?_
 refine kO hT hC ?_
 refine kN ?_
 iterate 2 refine kO hT hC ?_
 refine kC hC [] Tryz.call172 h (fun _ => Xbl) fun q1 h => ?_
 iterate 7 refine kO hT hC ?_
 refine Vc.nil ?_
 refine Xaw ?_
 refine kL [0,2,9,10,11,12] [352] [_,_,_,_,_,_] [_] ?_
 refine kA h (fun v2 => ([(36, .sv (.bool v2)), (12, .any)], [])) (fun v2 h => ?_) fun v2 h => ?_
 refine Xac ?_
 iterate 3 refine kO hT hC ?_
 refine kS h ?_ ?_ <;> intro b1 h
 iterate 3 refine kI hT hC (kn b1) ?_
 refine kP hC false (kn b1) ?_
 refine Vc.nil ?_
 exact kM
 iterate 3 refine kF hC (kn b1) ?_
 refine kP hC true (kn b1) ?_
 refine Vc.nil ?_
 exact kM
 refine kS h ?_ ?_ <;> intro b2 h
 refine kt b2 ?_
 refine Xaa ?_
 iterate 4 refine kO hT hC ?_
 refine Vc.nil ?_
 refine Xae ?_
 refine Xak ?_
 obtain rfl := kj h
 exact Xc6 (τ := ⟨[(6, .own 16), (7, .sv (.int .i64 0)), (8, .sv (.bool false))], [(16, some (.ints .i64 ([] : List Int)))]⟩) (kW hC [(16, 592)]) rfl ⟨rfl, trivial⟩
 refine kf b2 ?_
 refine Xaf ?_
 refine Xag ?_
 refine Xaa ?_
 refine kO hT hC ?_
 refine Vc.nil ?_
 refine Xaw ?_
 refine Xaa ?_
 refine kO hT hC ?_
 refine Vc.nil ?_
 refine kL [0,2,9,10,11,13,14] [352] [_,_,_,_,_,_,_] [_] ?_
 obtain ⟨o22, hl, h⟩ := Xbs h
 refine Xd4 (fun v9 => ([(11, .sv (.int .i64 v9.1)), (13, .sv (.int .i64 v9.2.1)), (14, .sv (.int .i64 v9.2.2.1))], [(352, some (.ints .i64 v9.2.2.2))])) (fun v16 => ([(11, .sv (.int .i64 v16.1)), (0, .any), (2, .any), (10, .any), (13, .any), (14, .any)], [(352, some (.ints .i64 v16.2))])) (fun r => Xio C T Tryz.f296.results.toList (Xka r) (Xj9 r)) hl ?_ ?_ ?_ ?_
 try dsimp only
 apply Xbx hC []
 exact co
 rfl
 decide
 rfl
 intro v9 s hs
 have h := hs
 unfold Xbr at h
 refine Xaw ?_
 refine Xaa ?_
 iterate 3 refine kO hT hC ?_
 refine Vc.nil ?_
 refine kS h ?_ ?_ <;> intro b15 h
 refine kt b15 ?_
 refine Xaf ?_
 refine Xag ?_
 refine Xaw ?_
 refine Xa2 ?_
 refine Xaa ?_
 iterate 2 refine kO hT hC ?_
 refine kC hC [] Tryz.call172 h (fun _ => Xbl) fun q17 h => ?_
 iterate 7 refine kO hT hC ?_
 refine Vc.nil ?_
 refine Xaw ?_
 refine kL [0,2,9,10,13,14,15,16,17] [352] [_,_,_,_,_,_,_,_,_] [_] ?_
 refine kA h (fun v18 => ([(59, .sv (.bool v18)), (17, .any)], [])) (fun v18 h => ?_) fun v18 h => ?_
 refine Xac ?_
 iterate 3 refine kO hT hC ?_
 refine kS h ?_ ?_ <;> intro b16 h
 iterate 6 refine kI hT hC (kn b16) ?_
 refine kP hC false (kn b16) ?_
 refine Vc.nil ?_
 exact kM
 iterate 6 refine kF hC (kn b16) ?_
 refine kP hC true (kn b16) ?_
 refine Vc.nil ?_
 exact kM
 refine kS h ?_ ?_ <;> intro b17 h
 refine kt b17 ?_
 refine Xaa ?_
 iterate 4 refine kO hT hC ?_
 refine Vc.nil ?_
 refine Xae ?_
 refine Xak ?_
 refine Xdg ?_
 refine Xak ?_
 obtain rfl := kj h
 refine Xje ?_
 refine Xjd ?_
 refine Xc6 (τ := ⟨[(6, .own 16), (7, .sv (.int .i64 0)), (8, .sv (.bool false))], [(16, some (.ints .i64 ([] : List Int)))]⟩) ?_ rfl ⟨rfl, trivial⟩
 apply Xbx hC [(16, 960)]
 exact co
 rfl
 decide
 rfl
 refine kf b17 ?_
 refine Xaf ?_
 refine Xag ?_
 refine Xaa ?_
 iterate 2 refine kO hT hC ?_
 refine kC hC [] Tryz.call175 h (fun _ => Xes) fun q19 h => ?_
 iterate 7 refine kO hT hC ?_
 refine Vc.nil ?_
 refine Xaw ?_
 refine kL [0,2,9,10,13,14,15,18,19,20] [352] [_,_,_,_,_,_,_,_,_,_] [_] ?_
 refine kA h (fun v20 => ([(78, .sv (.bool v20)), (20, .any)], [])) (fun v20 h => ?_) fun v20 h => ?_
 refine Xac ?_
 iterate 3 refine kO hT hC ?_
 refine kS h ?_ ?_ <;> intro b18 h
 iterate 2 refine kI hT hC (kn b18) ?_
 refine kP hC false (kn b18) ?_
 refine kO hT hC ?_
 refine kS h ?_ ?_ <;> intro b19 h
 iterate 3 refine kF hC b19 ?_
 refine kP hC true b19 ?_
 refine Vc.nil ?_
 exact kM
 refine kI hT hC b19 ?_
 refine kE hC b19 [] Tryz.call149 h (fun _ => Xbb) fun q21 h => ?_
 refine kI hT hC b19 ?_
 refine kP hC false b19 ?_
 refine Vc.nil ?_
 exact kM
 iterate 2 refine kF hC (kn b18) ?_
 refine kP hC true (kn b18) ?_
 refine kO hT hC ?_
 iterate 3 refine kF hC rfl ?_
 refine kO hT hC ?_
 refine Vc.nil ?_
 exact kM
 refine kS h ?_ ?_ <;> intro b20 h
 refine kt b20 ?_
 refine Xaa ?_
 iterate 4 refine kO hT hC ?_
 refine Vc.nil ?_
 refine Xae ?_
 refine Xak ?_
 refine Xdg ?_
 refine Xak ?_
 obtain rfl := kj h
 refine Xje ?_
 refine Xjd ?_
 refine Xc6 (τ := ⟨[(6, .own 16), (7, .sv (.int .i64 0)), (8, .sv (.bool false))], [(16, some (.ints .i64 ([] : List Int)))]⟩) ?_ rfl ⟨rfl, trivial⟩
 apply Xbx hC [(16, 1264)]
 exact co
 rfl
 decide
 rfl
 refine kf b20 ?_
 refine Xaf ?_
 refine Xag ?_
 refine Xaa ?_
 iterate 4 refine kO hT hC ?_
 refine kN ?_
 iterate 3 refine kO hT hC ?_
 iterate 2 refine kQ hT hC h fun h => ?_
 refine kN ?_
 iterate 3 refine kO hT hC ?_
 refine Vc.nil ?_
 refine Xac ?_
 iterate 2 refine kO hT hC ?_
 refine Vc.nil ?_
 refine Xbc ?_
 refine Xag ?_
 refine Xac ?_
 iterate 3 refine kO hT hC ?_
 refine Vc.nil ?_
 exact kG
 refine kf b15 ?_
 refine Xba ?_
 refine Xbt ?_
 exact kb
 intro v16 e
 subst e
 refine Xag ?_
 refine Xaa ?_
 iterate 5 refine kO hT hC ?_
 refine Vc.nil ?_
 refine Xae ?_
 obtain rfl := kj h
 exact Xc6 (τ := ⟨[(6, .own 16), (7, .sv (.int .i64 v16.1)), (8, .sv (.bool true))], [(16, some (.ints .i64 v16.2))]⟩) (kW hC [(16, 352)]) rfl ⟨rfl, trivial⟩
 intro r' σ' e hE
 subst e
 obtain rfl := kj h
 refine Xak ?_
 exact hE
def Xkc (r : ((List Int) × Int × Bool)) : AV := .tup [.own 16, .sv (.int .i64 r.2.1), .sv (.bool r.2.2)]
def Xkb (r : ((List Int) × Int × Bool)) : Xa8 := [(16, .ints .i64 r.1)]
theorem Xus {p0 p1 p2 r} (h : Xdf p0 p1 p2 = some r) : AC Tryz.prog 263 [.sv (.str p0), .sv (.int .i64 p1), .agg [.sv (.bool p2.Key), .sv (.int .i64 p2.Qp), .sv (.bool p2.Large), .sv (.bool p2.Exact)]] [] (Xkc r) (Xkb r) := by
 refine Xad hT Tryz.func263 rfl fun C hC => ?_
 unfold Xdf at h
 refine Xaa ?_
 iterate 4 refine kO hT hC ?_
 refine Vc.nil ?_
 refine Xaw ?_
 refine kL [0,1,5] [80] [_,_,_] [_] ?_
 refine kA h (fun v1 => ([(19, .sv (.bool v1)), (5, .any)], [(80, none)])) (fun v1 h => ?_) fun v1 h => ?_
 refine Xac ?_
 iterate 3 refine kO hT hC ?_
 refine kS h ?_ ?_ <;> intro b1 h
 iterate 2 refine kF hC b1 ?_
 refine kP hC true b1 ?_
 refine Vc.nil ?_
 exact kM
 iterate 2 refine kI hT hC b1 ?_
 refine kP hC false b1 ?_
 refine Vc.nil ?_
 exact kM
 refine kS h ?_ ?_ <;> intro b2 h
 refine kt b2 ?_
 refine Xaa ?_
 iterate 2 refine kO hT hC ?_
 refine kC hC [(16, 352)] Tryz.call296 h (fun _ => Xk3) fun q2 h => ?_
 iterate 6 refine kO hT hC ?_
 refine Vc.nil ?_
 refine Xae ?_
 refine Xak ?_
 obtain rfl := kj h
 exact Xc6 (τ := ⟨[(6, .own 16), (7, .sv (.int .i64 q2.2.1)), (8, .sv (.bool q2.2.2))], [(16, some (.ints .i64 q2.1))]⟩) (kW hC [(16, 352)]) rfl ⟨rfl, trivial⟩
 refine kf b2 ?_
 refine Xaf ?_
 refine Xag ?_
 refine Xaa ?_
 iterate 2 refine kO hT hC ?_
 refine Vc.nil ?_
 refine Xaw ?_
 refine Xaa ?_
 refine kO hT hC ?_
 refine Vc.nil ?_
 refine kL [0,1,9,10] [416] [_,_,_,_] [_] ?_
 obtain ⟨o10, hl, h⟩ := Xbs h
 refine Xd4 (fun v5 => ([(1, .sv (.int .i64 v5.1)), (10, .sv (.int .i64 v5.2.1))], [(416, some (.ints .i64 v5.2.2))])) (fun v8 => ([(1, .sv (.int .i64 v8.1)), (0, .any), (10, .any)], [(416, some (.ints .i64 v8.2))])) (fun r => Xio C T Tryz.f263.results.toList (Xkc r) (Xkb r)) hl ?_ ?_ ?_ ?_
 try dsimp only
 apply Xbx hC []
 exact co
 rfl
 decide
 rfl
 intro v5 s hs
 have h := hs
 unfold Xb7 at h
 refine Xaw ?_
 refine Xaa ?_
 iterate 2 refine kO hT hC ?_
 refine Vc.nil ?_
 refine kS h ?_ ?_ <;> intro b7 h
 refine kt b7 ?_
 refine Xaf ?_
 refine Xag ?_
 refine Xaw ?_
 refine Xa2 ?_
 refine Xaa ?_
 iterate 2 refine kO hT hC ?_
 refine kC hC [(16, 544)] Tryz.call296 h (fun _ => Xk3) fun q9 h => ?_
 iterate 7 refine kO hT hC ?_
 refine Vc.nil ?_
 refine Xaw ?_
 refine Xaa ?_
 iterate 2 refine kO hT hC ?_
 refine Vc.nil ?_
 refine kS h ?_ ?_ <;> intro b8 h
 refine kt b8 ?_
 refine Xaa ?_
 iterate 4 refine kO hT hC ?_
 refine Vc.nil ?_
 refine Xae ?_
 refine Xak ?_
 refine Xdg ?_
 refine Xak ?_
 obtain rfl := kj h
 refine Xje ?_
 refine Xjd ?_
 refine Xc6 (τ := ⟨[(6, .own 16), (7, .sv (.int .i64 0)), (8, .sv (.bool false))], [(16, some (.ints .i64 ([] : List Int)))]⟩) ?_ rfl ⟨rfl, trivial⟩
 apply Xbx hC [(16, 640)]
 exact co
 rfl
 decide
 rfl
 refine kf b8 ?_
 refine Xaf ?_
 refine Xag ?_
 refine Xaa ?_
 iterate 2 refine kO hT hC ?_
 refine kT hT hC h fun h => ?_
 refine kO hT hC ?_
 refine Vc.nil ?_
 refine Xac ?_
 iterate 2 refine kO hT hC ?_
 refine Vc.nil ?_
 refine Xbc ?_
 refine Xag ?_
 refine Xac ?_
 iterate 3 refine kO hT hC ?_
 refine Vc.nil ?_
 obtain rfl := kj h
 exact Ydw (kW hC [(416, 688)])
 refine kf b7 ?_
 refine Xba ?_
 refine Xbt ?_
 exact kb
 intro v8 e
 subst e
 refine Xag ?_
 refine Xaa ?_
 iterate 5 refine kO hT hC ?_
 refine Vc.nil ?_
 refine Xae ?_
 obtain rfl := kj h
 exact Xc6 (τ := ⟨[(6, .own 16), (7, .sv (.int .i64 v8.1)), (8, .sv (.bool true))], [(16, some (.ints .i64 v8.2))]⟩) (kW hC [(16, 416)]) rfl ⟨rfl, trivial⟩
 intro r' σ' e hE
 subst e
 obtain rfl := kj h
 refine Xak ?_
 exact hE
def Xrz (r : (Xas × Int × Bool)) : AV := .tup [.agg [.sv (.int .i64 r.1.Kind), .sv (.int .i64 r.1.Mode), .sv (.int .i64 r.1.Dx), .sv (.int .i64 r.1.Dy), .own 16], .sv (.int .i64 r.2.1), .sv (.bool r.2.2)]
def Xry (r : (Xas × Int × Bool)) : Xa8 := [(16, .ints .i64 r.1.Levels)]
theorem Xut {p0 p1 p2 r} (h : Xfi p0 p1 p2 = some r) : AC Tryz.prog 228 [.sv (.str p0), .sv (.int .i64 p1), .agg [.sv (.bool p2.Key), .sv (.int .i64 p2.Qp), .sv (.bool p2.Large), .sv (.bool p2.Exact)]] [] (Xrz r) (Xry r) := by
 refine Xad hT Tryz.func228 rfl fun C hC => ?_
 unfold Xfi at h
 refine Xaa ?_
 iterate 4 refine kO hT hC ?_
 refine kN ?_
 iterate 3 refine kO hT hC ?_
 refine kN ?_
 refine kO hT hC ?_
 refine Vc.nil ?_
 refine kL [0,1,5,6,9] [80,96,144] [_,_,_,_,_] [_,_,_] ?_
 refine Xr5 h (fun (v1 : (Int × Int)) => ([(1, .sv (.int .i64 v1.1))], [(144, some (.box [.sv (.int .i64 v1.2), .sv (.int .i64 0), .sv (.int .i64 0), .sv (.int .i64 0), .sv .nil]))])) (fun v1 h => ?_) (fun h => ?_)
 refine kL [0,1,5,6,9] [80,96,144] [_,_,_,_,_] [_,_,_] ?_
 refine Xr5 h (fun (v4 : (Int × Bool × Int × Int × Int)) => ([(1, .sv (.int .i64 v4.1)), (10, .sv (.bool v4.2.1))], [(144, some (.box [.sv (.int .i64 v1.2), .sv (.int .i64 v4.2.2.1), .sv (.int .i64 v4.2.2.2.1), .sv (.int .i64 v4.2.2.2.2), .sv .nil]))])) (fun v4 h => ?_) (fun h => ?_)
 refine Xaw ?_
 refine Xaa ?_
 iterate 2 refine kO hT hC ?_
 refine Vc.nil ?_
 refine kS h ?_ ?_ <;> intro b7 h
 refine kt b7 ?_
 refine Xaa ?_
 iterate 4 refine kO hT hC ?_
 refine Vc.nil ?_
 refine Xae ?_
 refine Xak ?_
 obtain rfl := kj h
 refine Xc6 (τ := ⟨[(6, .ptr 2000000 0), (7, .sv (.int .i64 0)), (8, .sv (.bool false))], [(16, some (.ints .i64 [])), (2000000, some (.box [.sv (.int .i64 0), .sv (.int .i64 0), .sv (.int .i64 0), .sv (.int .i64 0), .own 16]))]⟩) ?_ rfl ⟨rfl, trivial⟩
 refine Xg0 hC 96 4 1428 (.ints .i64 []) rfl rfl rfl rfl rfl trivial ?_
 apply Xbx hC [(16, 1428), (2000000, 96)]
 exact co
 rfl
 decide
 rfl
 refine kf b7 ?_
 refine Xaf ?_
 refine Xag ?_
 refine Xaa ?_
 iterate 3 refine kO hT hC ?_
 refine kC hC [(16, 1168)] Tryz.call263 h (fun _ => Xus) fun q8 h => ?_
 iterate 8 refine kO hT hC ?_
 refine Vc.nil ?_
 refine Xaw ?_
 refine kL [1,6,9,10] [96,144,1168] [_,_,_,_] [_,_,_] ?_
 refine kA h (fun v9 => ([(84, .sv (.bool v9)), (10, .any)], [])) (fun v9 h => ?_) fun v9 h => ?_
 refine Xac ?_
 iterate 3 refine kO hT hC ?_
 refine kS h ?_ ?_ <;> intro b8 h
 refine kI hT hC (kn b8) ?_
 refine kE hC (kn b8) [] Tryz.call259 h (fun _ => Xrq) fun q10 h => ?_
 refine kI hT hC (kn b8) ?_
 refine kP hC false (kn b8) ?_
 refine Vc.nil ?_
 exact kM
 iterate 3 refine kF hC (kn b8) ?_
 refine kP hC true (kn b8) ?_
 refine Vc.nil ?_
 exact kM
 refine kS h ?_ ?_ <;> intro b9 h
 refine kt b9 ?_
 refine Xaa ?_
 iterate 4 refine kO hT hC ?_
 refine Vc.nil ?_
 refine Xae ?_
 refine Xak ?_
 obtain rfl := kj h
 refine Xc6 (τ := ⟨[(6, .ptr 2000000 0), (7, .sv (.int .i64 0)), (8, .sv (.bool false))], [(16, some (.ints .i64 [])), (2000000, some (.box [.sv (.int .i64 0), .sv (.int .i64 0), .sv (.int .i64 0), .sv (.int .i64 0), .own 16]))]⟩) ?_ rfl ⟨rfl, trivial⟩
 refine Xg0 hC 96 4 1429 (.ints .i64 []) rfl rfl rfl rfl rfl trivial ?_
 apply Xbx hC [(16, 1429), (2000000, 96)]
 exact co
 rfl
 decide
 rfl
 refine kf b9 ?_
 refine Xaf ?_
 refine Xag ?_
 refine Xaa ?_
 iterate 5 refine kO hT hC ?_
 refine Vc.nil ?_
 refine Xae ?_
 obtain rfl := kj h
 exact Xc6 (τ := ⟨[(6, .ptr 2000000 0), (7, .sv (.int .i64 q8.2.1)), (8, .sv (.bool true))], [(16, some (.ints .i64 q8.1)), (2000000, some (.box [.sv (.int .i64 v1.2), .sv (.int .i64 v4.2.2.1), .sv (.int .i64 v4.2.2.2.1), .sv (.int .i64 v4.2.2.2.2), .own 16]))]⟩) (kW hC [(16, 1168), (2000000, 96)]) rfl ⟨rfl, trivial⟩
 refine Xaa ?_
 iterate 2 refine kO hT hC ?_
 refine Vc.nil ?_
 refine Xa2 ?_
 refine Xaa ?_
 iterate 2 refine kO hT hC ?_
 refine Vc.nil ?_
 refine kS h ?_ ?_ <;> intro b4 h
 refine kt b4 ?_
 refine Xaa ?_
 iterate 5 refine kO hT hC ?_
 refine Vc.nil ?_
 refine Xae ?_
 refine Xdg ?_
 refine Yag ?_
 obtain rfl := kj h
 refine Xc6 (τ := ⟨[(6, .ptr 2000000 0), (7, .sv (.int .i64 v1.1)), (8, .sv (.bool true))], [(16, some (.ints .i64 [])), (2000000, some (.box [.sv (.int .i64 v1.2), .sv (.int .i64 0), .sv (.int .i64 0), .sv (.int .i64 0), .own 16]))]⟩) ?_ rfl ⟨rfl, trivial⟩
 refine Xg0 hC 96 4 1426 (.ints .i64 []) rfl rfl rfl rfl rfl trivial ?_
 apply Xbx hC [(16, 1426), (2000000, 96)]
 exact co
 rfl
 decide
 rfl
 refine kf b4 ?_
 refine Xaa ?_
 iterate 2 refine kO hT hC ?_
 refine Vc.nil ?_
 refine kS h ?_ ?_ <;> intro b5 h
 refine kt b5 ?_
 refine Xaa ?_
 iterate 2 refine kO hT hC ?_
 refine kC hC [] Tryz.call175 h (fun _ => Xes) fun q5 h => ?_
 iterate 8 refine kO hT hC ?_
 refine Vc.nil ?_
 refine Xaw ?_
 refine Xaa ?_
 iterate 2 refine kO hT hC ?_
 refine Vc.nil ?_
 refine kS h ?_ ?_ <;> intro b6 h
 refine kt b6 ?_
 refine Xaa ?_
 iterate 4 refine kO hT hC ?_
 refine Vc.nil ?_
 refine Xae ?_
 refine Xak ?_
 refine Xdg ?_
 refine Yag ?_
 obtain rfl := kj h
 refine Xc6 (τ := ⟨[(6, .ptr 2000000 0), (7, .sv (.int .i64 0)), (8, .sv (.bool false))], [(16, some (.ints .i64 [])), (2000000, some (.box [.sv (.int .i64 0), .sv (.int .i64 0), .sv (.int .i64 0), .sv (.int .i64 0), .own 16]))]⟩) ?_ rfl ⟨rfl, trivial⟩
 refine Xg0 hC 96 4 1427 (.ints .i64 []) rfl rfl rfl rfl rfl trivial ?_
 apply Xbx hC [(16, 1427), (2000000, 96)]
 exact co
 rfl
 decide
 rfl
 refine kf b6 ?_
 refine Xaf ?_
 refine Xag ?_
 refine Xac ?_
 iterate 2 refine kO hT hC ?_
 refine kC hC [] Tryz.call175 h (fun _ => Xes) fun q6 h => ?_
 iterate 8 refine kO hT hC ?_
 refine Vc.nil ?_
 refine Xbc ?_
 exact Xp6 (q6.2.1, q6.2.2, 0, q5.1, q6.1) h (kW hC [])
 refine kf b5 ?_
 refine Xac ?_
 iterate 2 refine kO hT hC ?_
 refine kC hC [] Tryz.call172 h (fun _ => Xbl) fun q7 h => ?_
 iterate 8 refine kO hT hC ?_
 refine Vc.nil ?_
 refine Xbc ?_
 exact Xp6 (q7.2.1, q7.2.2, q7.1, 0, 0) h (kW hC [])
 refine Xaa ?_
 iterate 3 refine kO hT hC ?_
 refine Vc.nil ?_
 refine kS h ?_ ?_ <;> intro b1 h
 refine kt b1 ?_
 refine Xaa ?_
 iterate 2 refine kO hT hC ?_
 refine kC hC [] Tryz.call172 h (fun _ => Xbl) fun q2 h => ?_
 iterate 8 refine kO hT hC ?_
 refine Vc.nil ?_
 refine kL [0,1,5,6,9,10] [80,96,144] [_,_,_,_,_,_] [_,_,_] ?_
 refine kA h (fun v3 => ([(29, .sv (.bool v3)), (10, .any)], [])) (fun v3 h => ?_) fun v3 h => ?_
 refine Xac ?_
 iterate 3 refine kO hT hC ?_
 refine kS h ?_ ?_ <;> intro b2 h
 iterate 3 refine kI hT hC (kn b2) ?_
 refine kP hC false (kn b2) ?_
 refine Vc.nil ?_
 exact kM
 iterate 3 refine kF hC (kn b2) ?_
 refine kP hC true (kn b2) ?_
 refine Vc.nil ?_
 exact kM
 refine kS h ?_ ?_ <;> intro b3 h
 refine kt b3 ?_
 refine Xaa ?_
 iterate 4 refine kO hT hC ?_
 refine Vc.nil ?_
 refine Xae ?_
 refine Yag ?_
 obtain rfl := kj h
 refine Xc6 (τ := ⟨[(6, .ptr 2000000 0), (7, .sv (.int .i64 0)), (8, .sv (.bool false))], [(16, some (.ints .i64 [])), (2000000, some (.box [.sv (.int .i64 0), .sv (.int .i64 0), .sv (.int .i64 0), .sv (.int .i64 0), .own 16]))]⟩) ?_ rfl ⟨rfl, trivial⟩
 refine Xg0 hC 96 4 1425 (.ints .i64 []) rfl rfl rfl rfl rfl trivial ?_
 apply Xbx hC [(16, 1425), (2000000, 96)]
 exact co
 rfl
 decide
 rfl
 refine kf b3 ?_
 refine Xaf ?_
 exact Xp6 (q2.2.1, q2.1) h (kW hC [])
 refine kf b1 ?_
 refine Xaf ?_
 exact Xp6 (p1, 2) h (kW hC [])
def Xjh (r : ((List Xas) × Bool)) : AV := .tup [.own 16, .sv (.bool r.2)]
def Xjg (r : ((List Xas) × Bool)) : Xa8 := [(16, .row Xcr r.1)]
theorem Xrp {p0 p1 p2 p3 r} (h : Xfw p0 p1 p2 p3 = some r) : AC Tryz.prog 176 [.sv (.str p0), .sv (.int .i64 p1), .sv (.int .i64 p2), .agg [.sv (.bool p3.Key), .sv (.int .i64 p3.Qp), .sv (.bool p3.Large), .sv (.bool p3.Exact)]] [] (Xjh r) (Xjg r) := by
 refine Xad hT Tryz.func176 rfl fun C hC => ?_
 unfold Xfw at h
 refine Xaa ?_
 iterate 3 refine kO hT hC ?_
 refine kN ?_
 iterate 2 refine kO hT hC ?_
 refine Vc.nil ?_
 refine Xaw ?_
 refine kL [0,1,2,7,10] [112,240] [_,_,_,_,_] [_,_] ?_
 refine kA h (fun v1 => ([(35, .sv (.bool v1))], [])) (fun v1 h => ?_) fun v1 h => ?_
 refine Xac ?_
 refine kO hT hC ?_
 refine kC hC [] Tryz.call164 h (fun _ => Xn4) fun q2 h => ?_
 iterate 2 refine kO hT hC ?_
 refine kS h ?_ ?_ <;> intro b1 h
 iterate 3 refine kI hT hC (kn b1) ?_
 refine kE hC (kn b1) [] Tryz.call149 h (fun _ => Xbb) fun q3 h => ?_
 refine kI hT hC (kn b1) ?_
 refine kP hC false (kn b1) ?_
 refine kO hT hC ?_
 refine kS h ?_ ?_ <;> intro b2 h
 refine kI hT hC (kn b2) ?_
 refine kE hC (kn b2) [] Tryz.call152 h (fun _ => Xvz) fun q4 h => ?_
 refine kI hT hC (kn b2) ?_
 refine kP hC false (kn b2) ?_
 refine kO hT hC ?_
 refine kS h ?_ ?_ <;> intro b3 h
 refine kI hT hC (kn b3) ?_
 refine kE hC (kn b3) [] Tryz.call149 h (fun _ => Xbb) fun q5 h => ?_
 refine kI hT hC (kn b3) ?_
 refine kP hC false (kn b3) ?_
 refine Vc.nil ?_
 exact kM
 iterate 3 refine kF hC (kn b3) ?_
 refine kP hC true (kn b3) ?_
 refine Vc.nil ?_
 exact kM
 iterate 3 refine kF hC (kn b2) ?_
 refine kP hC true (kn b2) ?_
 refine kO hT hC ?_
 iterate 3 refine kF hC rfl ?_
 refine kO hT hC ?_
 refine Vc.nil ?_
 exact kM
 iterate 5 refine kF hC (kn b1) ?_
 refine kP hC true (kn b1) ?_
 refine kO hT hC ?_
 iterate 3 refine kF hC rfl ?_
 iterate 2 refine kO hT hC ?_
 iterate 3 refine kF hC rfl ?_
 refine kO hT hC ?_
 refine Vc.nil ?_
 exact kM
 refine kS h ?_ ?_ <;> intro b4 h
 refine kt b4 ?_
 refine Xaa ?_
 iterate 3 refine kO hT hC ?_
 refine Vc.nil ?_
 refine Xae ?_
 refine Xak ?_
 obtain rfl := kj h
 exact Xc6 (τ := ⟨[(8, .own 16), (9, .sv (.bool false))], [(16, some (.row Xcr ([] : List Xas)))]⟩) (kW hC [(16, 240)]) rfl ⟨rfl, trivial⟩
 refine kf b4 ?_
 refine Xaf ?_
 refine Xag ?_
 refine Xaw ?_
 refine Xaa ?_
 refine kO hT hC ?_
 refine Vc.nil ?_
 refine kL [0,1,2,7,10,11] [112,240] [_,_,_,_,_,_] [_,_] ?_
 obtain ⟨o13, hl, h⟩ := Xbs h
 refine Xd4 (fun v8 => ([(1, .sv (.int .i64 v8.1)), (11, .sv (.int .i64 v8.2.1))], [(240, some (.row Xcr v8.2.2))])) (fun v11 => ([(1, .sv (.int .i64 v11.1)), (2, .any), (7, .any), (11, .any)], [(240, some (.row Xcr v11.2)), (112, none)])) (fun r => Xio C T Tryz.f176.results.toList (Xjh r) (Xjg r)) hl ?_ ?_ ?_ ?_
 try dsimp only
 apply Xbx hC []
 exact co
 rfl
 decide
 rfl
 intro v8 s hs
 have h := hs
 unfold Xbi at h
 refine Xaw ?_
 refine Xaa ?_
 iterate 3 refine kO hT hC ?_
 refine Vc.nil ?_
 refine kS h ?_ ?_ <;> intro b9 h
 refine kt b9 ?_
 refine Xaf ?_
 refine Xag ?_
 refine Xaw ?_
 refine Xa2 ?_
 refine Xaa ?_
 iterate 3 refine kO hT hC ?_
 refine kC hC [(16, 736)] Tryz.call228 h (fun _ => Xut) fun q12 h => ?_
 iterate 8 refine kO hT hC ?_
 refine Vc.nil ?_
 refine Xaw ?_
 refine Xaa ?_
 iterate 2 refine kO hT hC ?_
 refine Vc.nil ?_
 refine kS h ?_ ?_ <;> intro b10 h
 refine kt b10 ?_
 refine Xaa ?_
 iterate 3 refine kO hT hC ?_
 refine Vc.nil ?_
 refine Xae ?_
 refine Xak ?_
 refine Xdg ?_
 refine Xak ?_
 obtain rfl := kj h
 refine Xje ?_
 refine Xjd ?_
 refine Xc6 (τ := ⟨[(8, .own 16), (9, .sv (.bool false))], [(16, some (.row Xcr ([] : List Xas)))]⟩) ?_ rfl ⟨rfl, trivial⟩
 apply Xbx hC [(16, 832)]
 exact co
 rfl
 decide
 rfl
 refine kf b10 ?_
 refine Xaf ?_
 refine Xag ?_
 refine Xaa ?_
 iterate 3 refine kO hT hC ?_
 obtain ⟨hq, h⟩ := Xc1 h
 refine Yb4 hT hC rfl rfl rfl rfl ⟨fun _ _ => rfl, by rw [Xk9]; exact hq⟩ ?_
 rw [Xk9]
 refine kO hT hC ?_
 refine Vc.nil ?_
 refine Xac ?_
 iterate 2 refine kO hT hC ?_
 refine Vc.nil ?_
 refine Xbc ?_
 refine Xag ?_
 refine Xac ?_
 iterate 3 refine kO hT hC ?_
 refine Vc.nil ?_
 obtain rfl := kj h
 exact Ydw (kW hC [(240, 896)])
 refine kf b9 ?_
 refine Xba ?_
 refine Xbt ?_
 exact kb
 intro v11 e
 subst e
 refine Xag ?_
 refine Xaw ?_
 refine Xaa ?_
 iterate 4 refine kO hT hC ?_
 refine Vc.nil ?_
 refine kS h ?_ ?_ <;> intro b11 h
 refine kt b11 ?_
 refine Xaa ?_
 iterate 3 refine kO hT hC ?_
 refine Vc.nil ?_
 refine Xae ?_
 refine Xak ?_
 obtain rfl := kj h
 exact Xc6 (τ := ⟨[(8, .own 16), (9, .sv (.bool false))], [(16, some (.row Xcr ([] : List Xas)))]⟩) (kW hC [(16, 992)]) rfl ⟨rfl, trivial⟩
 refine kf b11 ?_
 refine Xaf ?_
 refine Xag ?_
 refine Xaa ?_
 iterate 3 refine kO hT hC ?_
 refine Vc.nil ?_
 refine Xae ?_
 obtain rfl := kj h
 exact Xc6 (τ := ⟨[(8, .own 16), (9, .sv (.bool true))], [(16, some (.row Xcr v11.2))]⟩) (kW hC [(16, 240)]) rfl ⟨rfl, trivial⟩
 intro r' σ' e hE
 subst e
 obtain rfl := kj h
 refine Xak ?_
 exact hE
def Xul (r : Bool) : AV := .sv (.bool r)
def Xuk (r : Bool) : Xa8 := []
theorem Xv5 {p0 p1 p2 r} (h : Xgd p0 p1 p2 = some r) : AC Tryz.prog 103 [.agg [.sv (.int .i64 p0.Qp), .sv (.bool p0.Large), .sv (.bool p0.Exact), .sv (.bool p0.Confined)], .agg [.sv (.bool p1.Key), .sv (.int .i64 p1.Qp), .sv (.str p1.Row)], .sv (.int .i64 p2)] [] (Xul r) (Xuk r) := by
 refine Xad hT Tryz.func103 rfl fun C hC => ?_
 unfold Xgd at h
 refine Xaa ?_
 iterate 3 refine kO hT hC ?_
 refine Vc.nil ?_
 refine Xec hm ?_
 iterate 5 refine kO hT hC ?_
 refine kC hC [] Tryz.call177 h (fun _ => Xud) fun q1 h => ?_
 refine kC hC [(16, 256)] Tryz.call176 h (fun _ => Xrp) fun q2 h => ?_
 iterate 5 refine kO hT hC ?_
 refine kD ?_
 refine kL [3,6,8] [48] [_,_,_] [_] ?_
 refine kA h (fun v3 => ([(6, .sv (.bool v3)), (3, .any), (8, .any)], [(48, none)])) (fun v3 h => ?_) fun v3 h => ?_
 refine Xac ?_
 refine kO hT hC ?_
 refine kC hC [] Tryz.call96 h (fun _ => Xeq) fun q4 h => ?_
 refine kO hT hC ?_
 refine kS h ?_ ?_ <;> intro b1 h
 refine kI hT hC b1 ?_
 refine kP hC true b1 ?_
 refine kO hT hC ?_
 refine Vc.nil ?_
 exact kM
 refine kF hC b1 ?_
 refine kP hC false b1 ?_
 refine kO hT hC ?_
 refine Vc.nil ?_
 exact kM
 refine Xae ?_
 exact kR
def Xoc (r : Seq) : AV := .agg [.sv (.int .i64 r.Level), .sv (.int .i64 r.Bits), .sv (.ints .i64 r.Cols), .sv (.ints .i64 r.Rows)]
def Xob (r : Seq) : Xa8 := []
theorem Xpt {p0 r} (h : Xd1 p0 = some r) : AC Tryz.prog 78 [.agg [.sv (.int .i64 p0.Level), .sv (.int .i64 p0.Bits), .sv (.ints .i64 p0.Cols), .sv (.ints .i64 p0.Rows)]] [] (Xoc r) (Xob r) := by
 refine Xad hT Tryz.func78 rfl fun C hC => ?_
 unfold Xd1 at h
 refine Xaa ?_
 iterate 2 refine kO hT hC ?_
 refine kN ?_
 iterate 3 refine kO hT hC ?_
 refine kT hT hC h fun h => ?_
 iterate 2 refine kO hT hC ?_
 refine kN ?_
 iterate 3 refine kO hT hC ?_
 refine kT hT hC h fun h => ?_
 iterate 2 refine kO hT hC ?_
 refine kN ?_
 iterate 2 refine kO hT hC ?_
 refine Vc.nil ?_
 refine Xae ?_
 obtain rfl := kj h
 exact Xc6 (τ := ⟨[(2, .ptr 2000000 0)], [(2000000, some (.box [.sv (.int .i64 p0.Level), .sv (.int .i64 p0.Bits), .sv (.ints .i64 (([] : List Int) ++ p0.Cols)), .sv (.ints .i64 (([] : List Int) ++ p0.Rows))]))]⟩) (kW hC [(2000000, 32)]) rfl trivial
def Xn3 (r : (Admit × Int × Xhz)) : AV := .tup [.agg [.sv (.bool r.1.Has), .sv (.bool r.1.Live), .sv (.int .i64 r.1.Seq.Level), .sv (.int .i64 r.1.Seq.Bits), .sv (.ints .i64 r.1.Seq.Cols), .sv (.ints .i64 r.1.Seq.Rows), .sv (.int .i64 r.1.Par.Qp), .sv (.bool r.1.Par.Large), .sv (.bool r.1.Par.Exact), .sv (.bool r.1.Par.Confined), .sv (.int .i64 r.1.Frame), .sv (.int .i64 r.1.Count), .sv (.int .i64 r.1.Gone)], .sv (.int .i64 r.2.1), .agg [.sv (.bool r.2.2.Key), .sv (.int .i64 r.2.2.Qp), .sv (.str r.2.2.Row)]]
def Xn2 (r : (Admit × Int × Xhz)) : Xa8 := []
theorem Xpi {p0 p1 p2 r} (h : Xbh p0 p1 p2 = some r) : AC Tryz.prog 33 [.agg [.sv (.bool p0.Has), .sv (.bool p0.Live), .sv (.int .i64 p0.Seq.Level), .sv (.int .i64 p0.Seq.Bits), .sv (.ints .i64 p0.Seq.Cols), .sv (.ints .i64 p0.Seq.Rows), .sv (.int .i64 p0.Par.Qp), .sv (.bool p0.Par.Large), .sv (.bool p0.Par.Exact), .sv (.bool p0.Par.Confined), .sv (.int .i64 p0.Frame), .sv (.int .i64 p0.Count), .sv (.int .i64 p0.Gone)], .sv (Xao.sv p1), .agg [.sv (.int .i64 p2.Qp), .sv (.bool p2.Large), .sv (.bool p2.Exact), .sv (.bool p2.Confined)]] [] (Xn3 r) (Xn2 r) := by
 refine Xad hT Tryz.func33 rfl fun C hC => ?_
 unfold Xbh at h
 refine Xaa ?_
 iterate 5 refine kO hT hC ?_
 refine kN ?_
 iterate 2 refine kO hT hC ?_
 refine kC hC [] Tryz.call78 h (fun _ => Xpt) fun q1 h => ?_
 iterate 2 refine kO hT hC ?_
 refine Vc.nil ?_
 refine Xaw ?_
 refine kL [1,3,5,6,8] [48,80,96,128] [_,_,_,_,_] [_,_,_,_] ?_
 refine kA h (fun v2 => ([(35, .sv (.bool v2))], [])) (fun v2 h => ?_) fun v2 h => ?_
 refine Xac ?_
 refine kO hT hC ?_
 refine kC hC [] Tryz.call95 h (fun _ => Xt9) fun q3 h => ?_
 iterate 2 refine kO hT hC ?_
 refine kS h ?_ ?_ <;> intro b1 h
 refine kI hT hC (kn b1) ?_
 refine kE hC (kn b1) [] Tryz.call96 h (fun _ => Xeq) fun q4 h => ?_
 refine kI hT hC (kn b1) ?_
 refine kP hC false (kn b1) ?_
 refine Vc.nil ?_
 exact kM
 iterate 3 refine kF hC (kn b1) ?_
 refine kP hC true (kn b1) ?_
 refine Vc.nil ?_
 exact kM
 refine kS h ?_ ?_ <;> intro b2 h
 refine kt b2 ?_
 refine Xaa ?_
 iterate 5 refine kO hT hC ?_
 refine Vc.nil ?_
 refine Xae ?_
 refine Xak ?_
 exact kR
 refine kf b2 ?_
 refine Xaf ?_
 refine Xag ?_
 refine Xaa ?_
 refine kO hT hC ?_
 refine kC hC [(16, 640)] Tryz.call97 h (fun _ => Xuu) fun q5 h => ?_
 iterate 5 refine kO hT hC ?_
 refine Vc.nil ?_
 refine Xaw ?_
 refine Xaa ?_
 iterate 2 refine kO hT hC ?_
 refine Vc.nil ?_
 refine kS h ?_ ?_ <;> intro b3 h
 refine kt b3 ?_
 refine Xaa ?_
 refine kO hT hC ?_
 refine kC hC [] Tryz.call98 h (fun _ => Xcp) fun q6 h => ?_
 iterate 4 refine kO hT hC ?_
 refine Vc.nil ?_
 refine Xae ?_
 refine Xak ?_
 exact kR
 refine kf b3 ?_
 refine Xaf ?_
 refine Xag ?_
 refine Xaa ?_
 iterate 3 refine kO hT hC ?_
 refine kN ?_
 iterate 4 refine kO hT hC ?_
 refine Vc.nil ?_
 refine kL [3,5,6,8,9,11,12] [48,80,96,128,176,640] [_,_,_,_,_,_,_] [_,_,_,_,_,_] ?_
 refine Xr5 h (fun (v7 : (Bool × Int × Int × (List Int) × (List Int) × Int × Bool × Bool × Bool)) => ([(5, .any)], [(176, some (.box [.sv (.bool v7.1), .sv (.bool p0.Live), .sv (.int .i64 v7.2.1), .sv (.int .i64 v7.2.2.1), .sv (.ints .i64 v7.2.2.2.1), .sv (.ints .i64 v7.2.2.2.2.1), .sv (.int .i64 v7.2.2.2.2.2.1), .sv (.bool v7.2.2.2.2.2.2.1), .sv (.bool v7.2.2.2.2.2.2.2.1), .sv (.bool v7.2.2.2.2.2.2.2.2), .sv (.int .i64 p0.Frame), .sv (.int .i64 p0.Count), .sv (.int .i64 p0.Gone)])), (80, none)])) (fun v7 h => ?_) (fun h => ?_)
 refine Xaw ?_
 refine Xaa ?_
 iterate 3 refine kO hT hC ?_
 refine Vc.nil ?_
 refine kS h ?_ ?_ <;> intro b13 h
 refine kt b13 ?_
 refine Xaa ?_
 refine kO hT hC ?_
 refine kC hC [] Tryz.call98 h (fun _ => Xcp) fun q13 h => ?_
 iterate 4 refine kO hT hC ?_
 refine Vc.nil ?_
 refine Xae ?_
 refine Xak ?_
 exact kR
 refine kf b13 ?_
 refine Xaf ?_
 refine Xag ?_
 refine Xaa ?_
 iterate 4 refine kO hT hC ?_
 iterate 2 refine kQ hT hC h fun h => ?_
 refine kO hT hC ?_
 refine kN ?_
 iterate 5 refine kO hT hC ?_
 refine kC hC [] Tryz.call102 h (fun _ => Xro) fun q14 h => ?_
 iterate 8 refine kO hT hC ?_
 refine Vc.nil ?_
 refine Xaw ?_
 refine Xaa ?_
 iterate 2 refine kO hT hC ?_
 refine Vc.nil ?_
 refine kS h ?_ ?_ <;> intro b14 h
 refine kt b14 ?_
 refine Xaa ?_
 refine kO hT hC ?_
 refine kC hC [] Tryz.call98 h (fun _ => Xcp) fun q15 h => ?_
 iterate 4 refine kO hT hC ?_
 refine Vc.nil ?_
 refine Xae ?_
 refine Xak ?_
 exact kR
 refine kf b14 ?_
 refine Xaf ?_
 refine Xag ?_
 refine Xaw ?_
 refine kL [3,6,8,11,12,19,20,21] [48,96,128,176,320] [_,_,_,_,_,_,_,_] [_,_,_,_,_] ?_
 refine kA h (fun v16 => ([(156, .sv (.bool v16))], [])) (fun v16 h => ?_) fun v16 h => ?_
 refine Xac ?_
 iterate 3 refine kO hT hC ?_
 refine kS h ?_ ?_ <;> intro b15 h
 iterate 3 refine kF hC (kn b15) ?_
 refine kP hC false (kn b15) ?_
 refine Vc.nil ?_
 exact kM
 iterate 3 refine kI hT hC (kn b15) ?_
 refine kP hC true (kn b15) ?_
 refine Vc.nil ?_
 exact kM
 refine kS h ?_ ?_ <;> intro b16 h
 refine kt b16 ?_
 refine Xaa ?_
 refine kO hT hC ?_
 refine kC hC [] Tryz.call98 h (fun _ => Xcp) fun q17 h => ?_
 iterate 4 refine kO hT hC ?_
 refine Vc.nil ?_
 refine Xae ?_
 refine Xak ?_
 exact kR
 refine kf b16 ?_
 refine Xaf ?_
 refine Xag ?_
 refine Xaw ?_
 refine kL [3,6,8,11,12,19,20,21] [48,96,128,176,320] [_,_,_,_,_,_,_,_] [_,_,_,_,_] ?_
 refine kA h (fun v18 => ([(168, .sv (.bool v18))], [])) (fun v18 h => ?_) fun v18 h => ?_
 refine Xac ?_
 iterate 3 refine kO hT hC ?_
 refine kS h ?_ ?_ <;> intro b17 h
 iterate 5 refine kF hC (kn b17) ?_
 refine kP hC false (kn b17) ?_
 refine Vc.nil ?_
 exact kM
 iterate 5 refine kI hT hC (kn b17) ?_
 refine kP hC true (kn b17) ?_
 refine Vc.nil ?_
 exact kM
 refine kS h ?_ ?_ <;> intro b18 h
 refine kt b18 ?_
 refine Xaa ?_
 refine kO hT hC ?_
 refine kC hC [] Tryz.call98 h (fun _ => Xcp) fun q19 h => ?_
 iterate 4 refine kO hT hC ?_
 refine Vc.nil ?_
 refine Xae ?_
 refine Xak ?_
 exact kR
 refine kf b18 ?_
 refine Xaf ?_
 refine Xag ?_
 refine Xec hm ?_
 iterate 5 refine kO hT hC ?_
 refine kQ hT hC h fun h => ?_
 iterate 3 refine kO hT hC ?_
 refine kD ?_
 refine Xaw ?_
 refine Xec hm ?_
 iterate 5 refine kO hT hC ?_
 refine kC hC [] Tryz.call104 h (fun _ => Xmp) fun q20 h => ?_
 refine kC hC [] Tryz.call103 h (fun _ => Xv5) fun q21 h => ?_
 refine kO hT hC ?_
 refine kD ?_
 refine kS h ?_ ?_ <;> intro b19 h
 refine kt b19 ?_
 refine Xaa ?_
 refine kO hT hC ?_
 refine kC hC [] Tryz.call98 h (fun _ => Xcp) fun q22 h => ?_
 iterate 4 refine kO hT hC ?_
 refine Vc.nil ?_
 refine Xae ?_
 refine Xak ?_
 exact kR
 refine kf b19 ?_
 refine Xaf ?_
 refine Xag ?_
 refine Xaa ?_
 iterate 2 refine kO hT hC ?_
 refine kN ?_
 iterate 7 refine kO hT hC ?_
 iterate 2 refine kQ hT hC h fun h => ?_
 iterate 2 refine kO hT hC ?_
 refine kN ?_
 iterate 2 refine kO hT hC ?_
 refine kC hC [] Tryz.call105 h (fun _ => Xk4) fun q23 h => ?_
 iterate 2 refine kO hT hC ?_
 refine Vc.nil ?_
 refine Xec hm ?_
 iterate 5 refine kO hT hC ?_
 refine kD ?_
 refine Xae ?_
 exact kR
 refine Xaa ?_
 refine kO hT hC ?_
 refine Vc.nil ?_
 refine kS h ?_ ?_ <;> intro b4 h
 refine kt b4 ?_
 refine Xaa ?_
 refine kO hT hC ?_
 iterate 2 refine kQ hT hC h fun h => ?_
 refine kC hC [(16, 912), (17, 913)] Tryz.call99 h (fun _ => Xoe) fun q8 h => ?_
 iterate 8 refine kO hT hC ?_
 refine kN ?_
 refine kO hT hC ?_
 iterate 2 refine kQ hT hC h fun h => ?_
 refine kC hC [] Tryz.call100 h (fun _ => Xod) fun q9 h => ?_
 iterate 8 refine kO hT hC ?_
 refine Vc.nil ?_
 refine Xaw ?_
 refine kL [3,5,6,8,9,11,12,13,14,15,16,17,18] [48,80,96,128,176,208,256,640,912,913] [_,_,_,_,_,_,_,_,_,_,_,_,_] [_,_,_,_,_,_,_,_,_,_] ?_
 refine kA h (fun v10 => ([(114, .sv (.bool v10)), (5, .any), (14, .any), (15, .any), (17, .any), (18, .any)], [(80, none)])) (fun v10 h => ?_) fun v10 h => ?_
 refine Xac ?_
 iterate 3 refine kO hT hC ?_
 refine kS h ?_ ?_ <;> intro b5 h
 iterate 2 refine kI hT hC (kn b5) ?_
 iterate 2 refine kJ hT hC (kn b5) h fun h => ?_
 iterate 2 refine kI hT hC (kn b5) ?_
 refine kP hC false (kn b5) ?_
 refine kO hT hC ?_
 refine kS h ?_ ?_ <;> intro b6 h
 iterate 2 refine kF hC b6 ?_
 refine kP hC true b6 ?_
 refine kO hT hC ?_
 iterate 6 refine kF hC rfl ?_
 iterate 2 refine kO hT hC ?_
 iterate 3 refine kF hC rfl ?_
 iterate 2 refine kO hT hC ?_
 iterate 3 refine kF hC rfl ?_
 iterate 2 refine kO hT hC ?_
 iterate 5 refine kF hC rfl ?_
 iterate 2 refine kO hT hC ?_
 iterate 5 refine kF hC rfl ?_
 refine kO hT hC ?_
 refine Vc.nil ?_
 exact kM
 iterate 2 refine kI hT hC b6 ?_
 refine kP hC false b6 ?_
 refine kO hT hC ?_
 refine kS h ?_ ?_ <;> intro b7 h
 iterate 2 refine kI hT hC (kn b7) ?_
 iterate 2 refine kJ hT hC (kn b7) h fun h => ?_
 iterate 2 refine kI hT hC (kn b7) ?_
 refine kP hC false (kn b7) ?_
 refine kO hT hC ?_
 refine kS h ?_ ?_ <;> intro b8 h
 iterate 3 refine kF hC b8 ?_
 refine kP hC true b8 ?_
 refine kO hT hC ?_
 iterate 3 refine kF hC rfl ?_
 iterate 2 refine kO hT hC ?_
 iterate 5 refine kF hC rfl ?_
 iterate 2 refine kO hT hC ?_
 iterate 5 refine kF hC rfl ?_
 refine kO hT hC ?_
 refine Vc.nil ?_
 exact kM
 refine kI hT hC b8 ?_
 refine kE hC b8 [] Tryz.call101 h (fun _ => Xfy) fun q11 h => ?_
 refine kI hT hC b8 ?_
 refine kP hC false b8 ?_
 refine kO hT hC ?_
 refine kS h ?_ ?_ <;> intro b9 h
 iterate 3 refine kF hC b9 ?_
 refine kP hC true b9 ?_
 refine kO hT hC ?_
 iterate 5 refine kF hC rfl ?_
 iterate 2 refine kO hT hC ?_
 iterate 5 refine kF hC rfl ?_
 refine kO hT hC ?_
 refine Vc.nil ?_
 exact kM
 iterate 3 refine kI hT hC b9 ?_
 refine kP hC false b9 ?_
 refine kO hT hC ?_
 refine kS h ?_ ?_ <;> intro b10 h
 iterate 5 refine kI hT hC (kn b10) ?_
 refine kP hC false (kn b10) ?_
 refine kO hT hC ?_
 refine kS h ?_ ?_ <;> intro b11 h
 iterate 5 refine kI hT hC (kn b11) ?_
 refine kP hC false (kn b11) ?_
 refine Vc.nil ?_
 exact kM
 iterate 5 refine kF hC (kn b11) ?_
 refine kP hC true (kn b11) ?_
 refine Vc.nil ?_
 exact kM
 iterate 5 refine kF hC (kn b10) ?_
 refine kP hC true (kn b10) ?_
 refine kO hT hC ?_
 iterate 5 refine kF hC rfl ?_
 refine kO hT hC ?_
 refine Vc.nil ?_
 exact kM
 iterate 6 refine kF hC (kn b7) ?_
 refine kP hC true (kn b7) ?_
 refine kO hT hC ?_
 iterate 3 refine kF hC rfl ?_
 iterate 2 refine kO hT hC ?_
 iterate 3 refine kF hC rfl ?_
 iterate 2 refine kO hT hC ?_
 iterate 5 refine kF hC rfl ?_
 iterate 2 refine kO hT hC ?_
 iterate 5 refine kF hC rfl ?_
 refine kO hT hC ?_
 refine Vc.nil ?_
 exact kM
 iterate 6 refine kF hC (kn b5) ?_
 refine kP hC true (kn b5) ?_
 refine kO hT hC ?_
 iterate 2 refine kF hC rfl ?_
 iterate 2 refine kO hT hC ?_
 iterate 6 refine kF hC rfl ?_
 iterate 2 refine kO hT hC ?_
 iterate 3 refine kF hC rfl ?_
 iterate 2 refine kO hT hC ?_
 iterate 3 refine kF hC rfl ?_
 iterate 2 refine kO hT hC ?_
 iterate 5 refine kF hC rfl ?_
 iterate 2 refine kO hT hC ?_
 iterate 5 refine kF hC rfl ?_
 refine kO hT hC ?_
 refine Vc.nil ?_
 exact kM
 refine kS h ?_ ?_ <;> intro b12 h
 refine kt b12 ?_
 refine Xaa ?_
 refine kO hT hC ?_
 refine kC hC [] Tryz.call98 h (fun _ => Xcp) fun q12 h => ?_
 iterate 4 refine kO hT hC ?_
 refine Vc.nil ?_
 refine Xae ?_
 refine Xak ?_
 refine Yag ?_
 exact kR
 refine kf b12 ?_
 refine Xaf ?_
 refine Xag ?_
 refine Xaa ?_
 iterate 3 refine kO hT hC ?_
 refine kN ?_
 iterate 3 refine kO hT hC ?_
 refine Vc.nil ?_
 refine Xac ?_
 iterate 2 refine kO hT hC ?_
 refine Vc.nil ?_
 exact Xp6 (true, q8.1.Level, q8.1.Bits, q8.1.Cols, q8.1.Rows, q9.1.Qp, q9.1.Large, q9.1.Exact, q9.1.Confined) h (kW hC [])
 refine kf b4 ?_
 refine Xaf ?_
 exact Xp6 (p0.Has, q1.Level, q1.Bits, q1.Cols, q1.Rows, p0.Par.Qp, p0.Par.Large, p0.Par.Exact, p0.Par.Confined) h (kW hC [])
def Xq2 (r : Bool) : AV := .sv (.bool r)
def Xq1 (r : Bool) : Xa8 := []
theorem Xft {p0 p1 r} (h : Xdd p0 p1 = some r) : AC Tryz.prog 37 [.agg [.sv (.bool p0.Has), .sv (.bool p0.Live), .sv (.int .i64 p0.Seq.Level), .sv (.int .i64 p0.Seq.Bits), .sv (.ints .i64 p0.Seq.Cols), .sv (.ints .i64 p0.Seq.Rows), .sv (.int .i64 p0.Par.Qp), .sv (.bool p0.Par.Large), .sv (.bool p0.Par.Exact), .sv (.bool p0.Par.Confined), .sv (.int .i64 p0.Frame), .sv (.int .i64 p0.Count), .sv (.int .i64 p0.Gone)], .agg [.sv (.bool p1.Has), .sv (.bool p1.Live), .sv (.int .i64 p1.Seq.Level), .sv (.int .i64 p1.Seq.Bits), .sv (.ints .i64 p1.Seq.Cols), .sv (.ints .i64 p1.Seq.Rows), .sv (.int .i64 p1.Par.Qp), .sv (.bool p1.Par.Large), .sv (.bool p1.Par.Exact), .sv (.bool p1.Par.Confined), .sv (.int .i64 p1.Frame), .sv (.int .i64 p1.Count), .sv (.int .i64 p1.Gone)]] [] (Xq2 r) (Xq1 r) := by
 refine Xad hT Tryz.func37 rfl fun C hC => ?_
 unfold Xdd at h
 refine Xaa ?_
 iterate 3 refine kO hT hC ?_
 refine Vc.nil ?_
 refine Xaw ?_
 refine Xaa ?_
 iterate 5 refine kO hT hC ?_
 refine Vc.nil ?_
 refine kS h ?_ ?_ <;> intro b1 h
 refine kt b1 ?_
 refine Xaa ?_
 refine kO hT hC ?_
 refine Vc.nil ?_
 refine Xae ?_
 refine Xak ?_
 exact kR
 refine kf b1 ?_
 refine Xaf ?_
 refine Xag ?_
 refine Xaw ?_
 refine Xaa ?_
 iterate 5 refine kO hT hC ?_
 refine Vc.nil ?_
 refine kS h ?_ ?_ <;> intro b2 h
 refine kt b2 ?_
 refine Xaa ?_
 refine kO hT hC ?_
 refine Vc.nil ?_
 refine Xae ?_
 refine Xak ?_
 exact kR
 refine kf b2 ?_
 refine Xaf ?_
 refine Xag ?_
 refine Xaw ?_
 refine Xaa ?_
 iterate 4 refine kO hT hC ?_
 refine kC hC [] Tryz.call88 h (fun _ => Xxo) fun q1 h => ?_
 refine kO hT hC ?_
 refine Vc.nil ?_
 refine kS h ?_ ?_ <;> intro b3 h
 refine kt b3 ?_
 refine Xaa ?_
 refine kO hT hC ?_
 refine Vc.nil ?_
 refine Xae ?_
 refine Xak ?_
 exact kR
 refine kf b3 ?_
 refine Xaf ?_
 refine Xag ?_
 refine Xaw ?_
 refine Xaa ?_
 iterate 4 refine kO hT hC ?_
 refine kC hC [] Tryz.call89 h (fun _ => Xxn) fun q2 h => ?_
 refine kO hT hC ?_
 refine Vc.nil ?_
 refine kS h ?_ ?_ <;> intro b4 h
 refine kt b4 ?_
 refine Xaa ?_
 refine kO hT hC ?_
 refine Vc.nil ?_
 refine Xae ?_
 refine Xak ?_
 exact kR
 refine kf b4 ?_
 refine Xaf ?_
 refine Xag ?_
 refine Xaw ?_
 refine Xaa ?_
 iterate 5 refine kO hT hC ?_
 refine Vc.nil ?_
 refine kS h ?_ ?_ <;> intro b5 h
 refine kt b5 ?_
 refine Xaa ?_
 refine kO hT hC ?_
 refine Vc.nil ?_
 refine Xae ?_
 refine Xak ?_
 exact kR
 refine kf b5 ?_
 refine Xaf ?_
 refine Xag ?_
 refine Xaw ?_
 refine Xaa ?_
 iterate 5 refine kO hT hC ?_
 refine Vc.nil ?_
 refine kS h ?_ ?_ <;> intro b6 h
 refine kt b6 ?_
 refine Xaa ?_
 refine kO hT hC ?_
 refine Vc.nil ?_
 refine Xae ?_
 refine Xak ?_
 exact kR
 refine kf b6 ?_
 refine Xaf ?_
 refine Xag ?_
 refine Xaw ?_
 refine Xaa ?_
 iterate 5 refine kO hT hC ?_
 refine Vc.nil ?_
 refine kS h ?_ ?_ <;> intro b7 h
 refine kt b7 ?_
 refine Xaa ?_
 refine kO hT hC ?_
 refine Vc.nil ?_
 refine Xae ?_
 refine Xak ?_
 exact kR
 refine kf b7 ?_
 refine Xaf ?_
 refine Xag ?_
 refine Xaa ?_
 refine kO hT hC ?_
 refine Vc.nil ?_
 refine Xae ?_
 exact kR
def Xte (r : Bool) : AV := .sv (.bool r)
def Xtd (r : Bool) : Xa8 := []
theorem Xii {p0 p1 r} (h : Xfa p0 p1 = some r) : AC Tryz.prog 38 [.agg [.sv (.bool p0.Key), .sv (.int .i64 p0.Qp), .sv (.str p0.Row)], .agg [.sv (.bool p1.Key), .sv (.int .i64 p1.Qp), .sv (.str p1.Row)]] [] (Xte r) (Xtd r) := by
 refine Xad hT Tryz.func38 rfl fun C hC => ?_
 unfold Xfa at h
 refine Xaa ?_
 iterate 3 refine kO hT hC ?_
 refine Vc.nil ?_
 refine Xaw ?_
 refine Xaa ?_
 iterate 5 refine kO hT hC ?_
 refine Vc.nil ?_
 refine kS h ?_ ?_ <;> intro b1 h
 refine kt b1 ?_
 refine Xaa ?_
 refine kO hT hC ?_
 refine Vc.nil ?_
 refine Xae ?_
 refine Xak ?_
 exact kR
 refine kf b1 ?_
 refine Xaf ?_
 refine Xag ?_
 refine Xaw ?_
 refine Xaa ?_
 iterate 5 refine kO hT hC ?_
 refine Vc.nil ?_
 refine kS h ?_ ?_ <;> intro b2 h
 refine kt b2 ?_
 refine Xaa ?_
 refine kO hT hC ?_
 refine Vc.nil ?_
 refine Xae ?_
 refine Xak ?_
 exact kR
 refine kf b2 ?_
 refine Xaf ?_
 refine Xag ?_
 refine Xaw ?_
 refine Xaa ?_
 iterate 5 refine kO hT hC ?_
 refine Vc.nil ?_
 refine kS h ?_ ?_ <;> intro b3 h
 refine kt b3 ?_
 refine Xaa ?_
 refine kO hT hC ?_
 refine Vc.nil ?_
 refine Xae ?_
 refine Xak ?_
 exact kR
 refine kf b3 ?_
 refine Xaf ?_
 refine Xag ?_
 refine Xaa ?_
 refine kO hT hC ?_
 refine Vc.nil ?_
 refine Xae ?_
 exact kR
def Xnq (r : (Int × Admit)) : AV := .sv (.int .i64 r.1)
def Xnp (r : (Int × Admit)) : Xa8 := [(2, .ints .i64 r.2.Seq.Cols), (3, .ints .i64 r.2.Seq.Rows)]
theorem Xjb {p0 p1 r} (h : Xdz p0 p1 = some r) : AC Tryz.prog 39 [.agg [.sv (.bool p0.Has), .sv (.bool p0.Live), .sv (.int .i64 p0.Seq.Level), .sv (.int .i64 p0.Seq.Bits), .own 2, .own 3, .sv (.int .i64 p0.Par.Qp), .sv (.bool p0.Par.Large), .sv (.bool p0.Par.Exact), .sv (.bool p0.Par.Confined), .sv (.int .i64 p0.Frame), .sv (.int .i64 p0.Count), .sv (.int .i64 p0.Gone)], .sv (.int .i64 p1)] [(2, .ints .i64 p0.Seq.Cols), (3, .ints .i64 p0.Seq.Rows)] (Xnq r) (Xnp r) := by
 refine Xad hT Tryz.func39 rfl fun C hC => ?_
 unfold Xdz at h
 refine Xaa ?_
 iterate 2 refine kO hT hC ?_
 refine kN ?_
 iterate 3 refine kO hT hC ?_
 refine kC hC [(2, 2), (3, 3)] Tryz.call92 h (fun _ => Xti) fun q1 h => ?_
 refine kO hT hC ?_
 refine kN ?_
 iterate 2 refine kO hT hC ?_
 refine Vc.nil ?_
 refine Xae ?_
 obtain rfl := kj h
 exact Xc6 (Xf3.refl _) rfl ⟨rfl, rfl, trivial⟩
def Xnn (r : Int) : AV := .sv (.int .i64 r)
def Xnm (r : Int) : Xa8 := []
theorem Xi8 {p0 p1 r} (h : Xdy p0 p1 = some r) : AC Tryz.prog 40 [.agg [.sv (.bool p0.Has), .sv (.bool p0.Live), .sv (.int .i64 p0.Seq.Level), .sv (.int .i64 p0.Seq.Bits), .sv (.ints .i64 p0.Seq.Cols), .sv (.ints .i64 p0.Seq.Rows), .sv (.int .i64 p0.Par.Qp), .sv (.bool p0.Par.Large), .sv (.bool p0.Par.Exact), .sv (.bool p0.Par.Confined), .sv (.int .i64 p0.Frame), .sv (.int .i64 p0.Count), .sv (.int .i64 p0.Gone)], .sv (.int .i64 p1)] [] (Xnn r) (Xnm r) := by
 refine Xad hT Tryz.func40 rfl fun C hC => ?_
 unfold Xdy at h
 refine Xaa ?_
 iterate 2 refine kO hT hC ?_
 refine kN ?_
 iterate 3 refine kO hT hC ?_
 refine kC hC [] Tryz.call94 h (fun _ => Xtg) fun q1 h => ?_
 refine kO hT hC ?_
 refine Vc.nil ?_
 refine Xaw ?_
 refine Xaa ?_
 iterate 2 refine kO hT hC ?_
 refine Vc.nil ?_
 refine kS h ?_ ?_ <;> intro b1 h
 refine kt b1 ?_
 refine Xaa ?_
 refine kO hT hC ?_
 refine Vc.nil ?_
 refine Xae ?_
 refine Xak ?_
 exact kR
 refine kf b1 ?_
 refine Xaf ?_
 refine Xag ?_
 refine Xaa ?_
 iterate 2 refine kO hT hC ?_
 refine Vc.nil ?_
 refine Xae ?_
 exact kR
def Xns (r : Admit) : AV := .agg [.sv (.bool r.Has), .sv (.bool r.Live), .sv (.int .i64 r.Seq.Level), .sv (.int .i64 r.Seq.Bits), .sv (.ints .i64 r.Seq.Cols), .sv (.ints .i64 r.Seq.Rows), .sv (.int .i64 r.Par.Qp), .sv (.bool r.Par.Large), .sv (.bool r.Par.Exact), .sv (.bool r.Par.Confined), .sv (.int .i64 r.Frame), .sv (.int .i64 r.Count), .sv (.int .i64 r.Gone)]
def Xnr (r : Admit) : Xa8 := []
theorem Xpd {p0 r} (h : Xe1 p0 = some r) : AC Tryz.prog 34 [.agg [.sv (.bool p0.Has), .sv (.bool p0.Live), .sv (.int .i64 p0.Seq.Level), .sv (.int .i64 p0.Seq.Bits), .sv (.ints .i64 p0.Seq.Cols), .sv (.ints .i64 p0.Seq.Rows), .sv (.int .i64 p0.Par.Qp), .sv (.bool p0.Par.Large), .sv (.bool p0.Par.Exact), .sv (.bool p0.Par.Confined), .sv (.int .i64 p0.Frame), .sv (.int .i64 p0.Count), .sv (.int .i64 p0.Gone)]] [] (Xns r) (Xnr r) := by
 refine Xad hT Tryz.func34 rfl fun C hC => ?_
 unfold Xe1 at h
 refine Xaa ?_
 iterate 2 refine kO hT hC ?_
 refine kN ?_
 refine kO hT hC ?_
 refine kN ?_
 iterate 4 refine kO hT hC ?_
 refine kN ?_
 iterate 4 refine kO hT hC ?_
 refine kN ?_
 iterate 2 refine kO hT hC ?_
 refine kC hC [(16, 192), (17, 193)] Tryz.call86 h (fun _ => Xnt) fun q1 h => ?_
 iterate 2 refine kO hT hC ?_
 refine kN ?_
 iterate 2 refine kO hT hC ?_
 refine kC hC [] Tryz.call36 h (fun _ => Xfu) fun q2 h => ?_
 iterate 2 refine kO hT hC ?_
 refine kN ?_
 iterate 4 refine kO hT hC ?_
 refine kN ?_
 iterate 4 refine kO hT hC ?_
 refine kN ?_
 iterate 4 refine kO hT hC ?_
 refine kN ?_
 iterate 2 refine kO hT hC ?_
 refine Vc.nil ?_
 refine Xae ?_
 obtain rfl := kj h
 exact Xc6 (τ := ⟨[(2, .ptr 2000000 0)], [(2000000, some (.box [.sv (.bool p0.Has), .sv (.bool p0.Live), .sv (.int .i64 q1.Level), .sv (.int .i64 q1.Bits), .sv (.ints .i64 q1.Cols), .sv (.ints .i64 q1.Rows), .sv (.int .i64 q2.Qp), .sv (.bool q2.Large), .sv (.bool q2.Exact), .sv (.bool q2.Confined), .sv (.int .i64 p0.Frame), .sv (.int .i64 p0.Count), .sv (.int .i64 p0.Gone)]))]⟩) (kW hC [(2000000, 32)]) rfl trivial
def Xlq (r : (List ByteArray)) : AV := .sv (Xao.sv r)
def Xlp (r : (List ByteArray)) : Xa8 := []
theorem Xmm {p0 r} (h : Xdu p0 = some r) : AC Tryz.prog 35 [.sv (Xao.sv p0)] [] (Xlq r) (Xlp r) := by
 refine Xad hT Tryz.func35 rfl fun C hC => ?_
 unfold Xdu at h
 refine Xaa ?_
 refine kO hT hC ?_
 refine kN ?_
 iterate 2 refine kO hT hC ?_
 obtain ⟨hq, h⟩ := Xc1 h
 refine Yb4 hT hC rfl rfl rfl rfl ⟨hq.1, hq.2.1, hq.2.2, by decide⟩ ?_
 refine kO hT hC ?_
 refine Vc.nil ?_
 refine Xaw ?_
 refine Xaa ?_
 refine kO hT hC ?_
 refine Vc.nil ?_
 refine kL [0,3,4] [112] [_,_,_] [_] ?_
 refine kX h (fun v2 => ([(4, .sv (.int .i64 v2.1))], [(112, some (.row Xao v2.2))])) (fun v4 => ([(0, .any), (4, .any)], [(112, some (.row Xao v4))])) (kW hC []) (fun v2 s h => ?_) fun v4 h => ?_
 unfold Xcm at h
 refine Xaw ?_
 refine Xaa ?_
 iterate 4 refine kO hT hC ?_
 refine Vc.nil ?_
 refine kS h ?_ ?_ <;> intro b3 h
 refine kt b3 ?_
 refine Xaf ?_
 refine Xag ?_
 refine Xaw ?_
 refine Xa2 ?_
 refine Xac ?_
 iterate 4 refine kO hT hC ?_
 refine kQ hT hC h fun h => ?_
 refine kO hT hC ?_
 iterate 2 refine kQ hT hC h fun h => ?_
 refine Vc.nil ?_
 refine Xbc ?_
 refine Xag ?_
 refine Xac ?_
 iterate 3 refine kO hT hC ?_
 refine Vc.nil ?_
 exact kG
 refine kf b3 ?_
 refine Xba ?_
 refine Xbt ?_
 exact ku
 refine Xag ?_
 refine Xaa ?_
 iterate 2 refine kO hT hC ?_
 refine Vc.nil ?_
 refine Xae ?_
 obtain rfl := kj h
 exact Xc6 (τ := ⟨[(2, .sv (Xao.sv v4))], []⟩) (kW hC []) rfl trivial
def Xih (r : Bool) : AV := .sv (.bool r)
def Xig (r : Bool) : Xa8 := []
theorem Xi4 {p0 p1 p2 r} (h : Xc0 p0 p1 p2 = some r) : AC Tryz.prog 6 [.agg [.sv (.bool p0.Has), .sv (.bool p0.Live), .sv (.int .i64 p0.Seq.Level), .sv (.int .i64 p0.Seq.Bits), .sv (.ints .i64 p0.Seq.Cols), .sv (.ints .i64 p0.Seq.Rows), .sv (.int .i64 p0.Par.Qp), .sv (.bool p0.Par.Large), .sv (.bool p0.Par.Exact), .sv (.bool p0.Par.Confined), .sv (.int .i64 p0.Frame), .sv (.int .i64 p0.Count), .sv (.int .i64 p0.Gone)], .sv (Xao.sv p1), .agg [.sv (.int .i64 p2.Qp), .sv (.bool p2.Large), .sv (.bool p2.Exact), .sv (.bool p2.Confined)]] [] (Xih r) (Xig r) := by
 refine Xad hT Tryz.func6 rfl fun C hC => ?_
 unfold Xc0 at h
 refine Xaa ?_
 iterate 3 refine kO hT hC ?_
 refine kN ?_
 refine kO hT hC ?_
 refine kN ?_
 iterate 2 refine kO hT hC ?_
 refine kC hC [] Tryz.call31 h (fun _ => Xtk) fun q1 h => ?_
 refine kO hT hC ?_
 refine Vc.nil ?_
 refine Xaw ?_
 refine Xaa ?_
 iterate 2 refine kO hT hC ?_
 refine Vc.nil ?_
 refine kS h ?_ ?_ <;> intro b1 h
 refine kt b1 ?_
 refine Xaa ?_
 refine kO hT hC ?_
 refine Vc.nil ?_
 refine Xae ?_
 refine Xak ?_
 exact kR
 refine kf b1 ?_
 refine Xaf ?_
 refine Xag ?_
 refine Xaa ?_
 iterate 2 refine kO hT hC ?_
 refine kC hC [] Tryz.call32 h (fun _ => Xpb) fun q2 h => ?_
 refine kO hT hC ?_
 refine Vc.nil ?_
 refine Xaw ?_
 refine Xaa ?_
 iterate 2 refine kO hT hC ?_
 refine Vc.nil ?_
 refine kS h ?_ ?_ <;> intro b2 h
 refine kt b2 ?_
 refine Xaa ?_
 refine kO hT hC ?_
 refine Vc.nil ?_
 refine Xae ?_
 refine Xak ?_
 exact kR
 refine kf b2 ?_
 refine Xaf ?_
 refine Xag ?_
 refine Xec hm ?_
 refine kO hT hC ?_
 refine kC hC [] Tryz.call34 h (fun _ => Xpd) fun q3 h => ?_
 refine kO hT hC ?_
 refine kC hC [] Tryz.call35 h (fun _ => Xmm) fun q4 h => ?_
 refine kO hT hC ?_
 refine kC hC [] Tryz.call36 h (fun _ => Xfu) fun q5 h => ?_
 refine kC hC [] Tryz.call33 h (fun _ => Xpi) fun q6 h => ?_
 iterate 9 refine kO hT hC ?_
 refine kD ?_
 refine Xaa ?_
 refine kO hT hC ?_
 refine kC hC [(16, 704), (17, 705)] Tryz.call34 h (fun _ => Xhr) fun q7 h => ?_
 iterate 2 refine kO hT hC ?_
 refine kN ?_
 refine kO hT hC ?_
 refine kC hC [(16, 736)] Tryz.call35 h (fun _ => Xf8) fun q8 h => ?_
 refine kO hT hC ?_
 refine Vc.nil ?_
 refine Xec hm ?_
 iterate 3 refine kO hT hC ?_
 refine kC hC [] Tryz.call36 h (fun _ => Xfu) fun q9 h => ?_
 obtain ⟨q10, hq, h⟩ := Xbs h
 refine Yee hC [(16, 832), (17, 833)] rfl rfl rfl rfl Tryz.call17 (Xis hq) rfl (by decide) trivial rfl (.inr ⟨rfl, ⟨trivial, trivial, trivial⟩⟩) rfl ?_
 iterate 9 refine kO hT hC ?_
 refine kD ?_
 refine Xaw ?_
 refine kL [1,3,5,8,9,10,11,12,13,14,15] [48,80,128,160,176,208,240,704,705,736,832,833] [_,_,_,_,_,_,_,_,_,_,_] [_,_,_,_,_,_,_,_,_,_,_,_] ?_
 refine kA h (fun v11 => ([(70, .sv (.bool v11))], [])) (fun v11 h => ?_) fun v11 h => ?_
 refine Xac ?_
 iterate 2 refine kO hT hC ?_
 refine kC hC [] Tryz.call37 h (fun _ => Xft) fun q12 h => ?_
 iterate 2 refine kO hT hC ?_
 refine kS h ?_ ?_ <;> intro b3 h
 iterate 3 refine kI hT hC (kn b3) ?_
 refine kP hC false (kn b3) ?_
 refine kO hT hC ?_
 refine kS h ?_ ?_ <;> intro b4 h
 iterate 4 refine kF hC b4 ?_
 refine kP hC true b4 ?_
 refine Vc.nil ?_
 exact kM
 iterate 2 refine kI hT hC b4 ?_
 refine kE hC b4 [] Tryz.call38 h (fun _ => Xii) fun q13 h => ?_
 refine kI hT hC b4 ?_
 refine kP hC false b4 ?_
 refine Vc.nil ?_
 exact kM
 iterate 3 refine kF hC (kn b3) ?_
 refine kP hC true (kn b3) ?_
 refine kO hT hC ?_
 iterate 4 refine kF hC rfl ?_
 refine kO hT hC ?_
 refine Vc.nil ?_
 exact kM
 refine kS h ?_ ?_ <;> intro b5 h
 refine kt b5 ?_
 refine Xaa ?_
 refine kO hT hC ?_
 refine Vc.nil ?_
 refine Xae ?_
 refine Xak ?_
 exact kR
 refine kf b5 ?_
 refine Xaf ?_
 refine Xag ?_
 refine Xaw ?_
 refine Xec hm ?_
 iterate 2 refine kO hT hC ?_
 refine kC hC [(16, 1168), (17, 1169)] Tryz.call34 h (fun _ => Xhr) fun q14 h => ?_
 refine kC hC [] Tryz.call37 h (fun _ => Xft) fun q15 h => ?_
 refine kO hT hC ?_
 refine kD ?_
 refine kS h ?_ ?_ <;> intro b6 h
 refine kt b6 ?_
 refine Xaa ?_
 refine kO hT hC ?_
 refine Vc.nil ?_
 refine Xae ?_
 refine Xak ?_
 exact kR
 refine kf b6 ?_
 refine Xaf ?_
 refine Xag ?_
 refine Xaw ?_
 refine Xaa ?_
 iterate 2 refine kO hT hC ?_
 refine kC hC [(16, 1248)] Tryz.call35 h (fun _ => Xf8) fun q16 h => ?_
 refine kC hC [] Tryz.call26 h (fun _ => Xo6) fun q17 h => ?_
 refine kO hT hC ?_
 refine Vc.nil ?_
 refine kS h ?_ ?_ <;> intro b7 h
 refine kt b7 ?_
 refine Xaa ?_
 refine kO hT hC ?_
 refine Vc.nil ?_
 refine Xae ?_
 refine Xak ?_
 exact kR
 refine kf b7 ?_
 refine Xaf ?_
 refine Xag ?_
 refine Xaa ?_
 refine kO hT hC ?_
 refine kN ?_
 iterate 2 refine kO hT hC ?_
 refine kC hC [(2, 704), (3, 705)] Tryz.call39 h (fun _ => Xjb) fun q18 h => ?_
 refine kO hT hC ?_
 refine kN ?_
 iterate 2 refine kO hT hC ?_
 refine kC hC [(0, 736)] Tryz.call28 h (fun _ => Xmk) fun q19 h => ?_
 refine kO hT hC ?_
 refine Vc.nil ?_
 refine Xaw ?_
 refine kL [1,3,5,8,9,10,13,14,15,16] [48,80,128,160,208,240,832,833] [_,_,_,_,_,_,_,_,_,_] [_,_,_,_,_,_,_,_] ?_
 refine kA h (fun v20 => ([(105, .sv (.bool v20)), (14, .any), (15, .any), (16, .any)], [(240, none)])) (fun v20 h => ?_) fun v20 h => ?_
 refine Xac ?_
 iterate 3 refine kO hT hC ?_
 refine kS h ?_ ?_ <;> intro b8 h
 iterate 4 refine kF hC b8 ?_
 refine kP hC true b8 ?_
 refine kO hT hC ?_
 iterate 3 refine kF hC rfl ?_
 iterate 2 refine kO hT hC ?_
 iterate 4 refine kF hC rfl ?_
 refine kO hT hC ?_
 refine Vc.nil ?_
 exact kM
 iterate 2 refine kI hT hC b8 ?_
 refine kE hC b8 [] Tryz.call37 h (fun _ => Xft) fun q21 h => ?_
 refine kI hT hC b8 ?_
 refine kP hC false b8 ?_
 refine kO hT hC ?_
 refine kS h ?_ ?_ <;> intro b9 h
 iterate 3 refine kI hT hC (kn b9) ?_
 refine kP hC false (kn b9) ?_
 refine kO hT hC ?_
 refine kS h ?_ ?_ <;> intro b10 h
 iterate 4 refine kF hC b10 ?_
 refine kP hC true b10 ?_
 refine Vc.nil ?_
 exact kM
 iterate 2 refine kI hT hC b10 ?_
 refine kE hC b10 [] Tryz.call38 h (fun _ => Xii) fun q22 h => ?_
 refine kI hT hC b10 ?_
 refine kP hC false b10 ?_
 refine Vc.nil ?_
 exact kM
 iterate 3 refine kF hC (kn b9) ?_
 refine kP hC true (kn b9) ?_
 refine kO hT hC ?_
 iterate 4 refine kF hC rfl ?_
 refine kO hT hC ?_
 refine Vc.nil ?_
 exact kM
 refine kS h ?_ ?_ <;> intro b11 h
 refine kt b11 ?_
 refine Xaa ?_
 refine kO hT hC ?_
 refine Vc.nil ?_
 refine Xae ?_
 refine Xak ?_
 exact kR
 refine kf b11 ?_
 refine Xaf ?_
 refine Xag ?_
 refine Xaa ?_
 refine kO hT hC ?_
 refine kN ?_
 iterate 2 refine kO hT hC ?_
 refine kC hC [(2, 832), (3, 833)] Tryz.call39 h (fun _ => Xjb) fun q23 h => ?_
 refine kO hT hC ?_
 refine kN ?_
 refine kO hT hC ?_
 refine kN ?_
 iterate 2 refine kO hT hC ?_
 refine kC hC [] Tryz.call40 h (fun _ => Xi8) fun q24 h => ?_
 refine kO hT hC ?_
 refine Vc.nil ?_
 refine Xaw ?_
 refine Xaa ?_
 iterate 2 refine kO hT hC ?_
 refine Vc.nil ?_
 refine kS h ?_ ?_ <;> intro b12 h
 refine kt b12 ?_
 refine Xaa ?_
 refine kO hT hC ?_
 refine Vc.nil ?_
 refine Xae ?_
 refine Xak ?_
 exact kR
 refine kf b12 ?_
 refine Xaf ?_
 refine Xag ?_
 refine Xaw ?_
 refine Xaa ?_
 iterate 3 refine kO hT hC ?_
 refine Vc.nil ?_
 refine kS h ?_ ?_ <;> intro b13 h
 refine kt b13 ?_
 refine Xaa ?_
 refine kO hT hC ?_
 refine Vc.nil ?_
 refine Xae ?_
 refine Xak ?_
 exact kR
 refine kf b13 ?_
 refine Xaf ?_
 refine Xag ?_
 refine Xec hm ?_
 refine kO hT hC ?_
 refine kC hC [(16, 1904), (17, 1905)] Tryz.call34 h (fun _ => Xhr) fun q25 h => ?_
 refine kO hT hC ?_
 refine kC hC [(16, 1936)] Tryz.call35 h (fun _ => Xf8) fun q26 h => ?_
 refine kO hT hC ?_
 refine kC hC [] Tryz.call36 h (fun _ => Xfu) fun q27 h => ?_
 obtain ⟨q28, hq, h⟩ := Xbs h
 refine Yee hC [(16, 1984), (17, 1985)] rfl rfl rfl rfl Tryz.call17 (Xis hq) rfl (by decide) trivial rfl (.inr ⟨rfl, ⟨trivial, trivial, trivial⟩⟩) rfl ?_
 iterate 9 refine kO hT hC ?_
 refine kD ?_
 refine Xaw ?_
 refine kL [8,9,10,13,17,19,20,21] [128,160,208,304,336,832,833,1984,1985] [_,_,_,_,_,_,_,_] [_,_,_,_,_,_,_,_,_] ?_
 refine kA h (fun v29 => ([(142, .sv (.bool v29)), (8, .any), (9, .any), (10, .any), (19, .any), (20, .any), (21, .any)], [(128, none), (160, none), (304, none), (336, none), (1984, none), (1985, none)])) (fun v29 h => ?_) fun v29 h => ?_
 refine Xac ?_
 iterate 2 refine kO hT hC ?_
 refine kC hC [] Tryz.call37 h (fun _ => Xft) fun q30 h => ?_
 iterate 2 refine kO hT hC ?_
 refine kS h ?_ ?_ <;> intro b14 h
 iterate 3 refine kI hT hC (kn b14) ?_
 refine kP hC false (kn b14) ?_
 refine kO hT hC ?_
 refine kS h ?_ ?_ <;> intro b15 h
 iterate 4 refine kF hC b15 ?_
 refine kP hC true b15 ?_
 refine Vc.nil ?_
 exact kM
 iterate 2 refine kI hT hC b15 ?_
 refine kE hC b15 [] Tryz.call38 h (fun _ => Xii) fun q31 h => ?_
 refine kI hT hC b15 ?_
 refine kP hC false b15 ?_
 refine Vc.nil ?_
 exact kM
 iterate 3 refine kF hC (kn b14) ?_
 refine kP hC true (kn b14) ?_
 refine kO hT hC ?_
 iterate 4 refine kF hC rfl ?_
 refine kO hT hC ?_
 refine Vc.nil ?_
 exact kM
 refine kS h ?_ ?_ <;> intro b16 h
 refine kt b16 ?_
 refine Xaa ?_
 refine kO hT hC ?_
 refine Vc.nil ?_
 refine Xae ?_
 refine Xak ?_
 exact kR
 refine kf b16 ?_
 refine Xaf ?_
 refine Xag ?_
 refine Xaa ?_
 refine kO hT hC ?_
 refine kN ?_
 iterate 2 refine kO hT hC ?_
 refine kC hC [] Tryz.call40 h (fun _ => Xi8) fun q32 h => ?_
 refine kO hT hC ?_
 refine Vc.nil ?_
 refine Xaw ?_
 refine Xaa ?_
 iterate 2 refine kO hT hC ?_
 refine Vc.nil ?_
 refine kS h ?_ ?_ <;> intro b17 h
 refine kt b17 ?_
 refine Xaa ?_
 refine kO hT hC ?_
 refine Vc.nil ?_
 refine Xae ?_
 refine Xak ?_
 exact kR
 refine kf b17 ?_
 refine Xaf ?_
 refine Xag ?_
 refine Xaw ?_
 refine Xaa ?_
 iterate 3 refine kO hT hC ?_
 refine Vc.nil ?_
 refine kS h ?_ ?_ <;> intro b18 h
 refine kt b18 ?_
 refine Xaa ?_
 refine kO hT hC ?_
 refine Vc.nil ?_
 refine Xae ?_
 refine Xak ?_
 exact kR
 refine kf b18 ?_
 refine Xaf ?_
 refine Xag ?_
 refine Xaa ?_
 refine kO hT hC ?_
 refine Vc.nil ?_
 refine Xae ?_
 exact kR
end
end Go.Proofs.YtnhflbeahbcklabGreat.A
