/- Contracts of the functions that the law FnGivenUp reaches, part 0: each comes to what its pure function tells. Written by a program of this session. Conditions: as each statement tells. -/
import Derived.Test.YtlebkepfhdjnmaaBFnGivenUp
namespace Go.Proofs.Ytlebkepfhdjnmaa.A
open Go Go.Proofs Go.Proofs.YtlebkepfhdjnmaaAL Go.RowKit
set_option linter.unusedVariables false
set_option linter.unusedSimpArgs false
set_option maxRecDepth 100000
set_option maxHeartbeats 8000000
noncomputable section
def Xne (r : Bool) : AV := .sv (.bool r)
def Xnd (r : Bool) : Xbq := []
theorem Xoc {p0 r} (h : Xjc p0 = some r) : AC Try.prog 8 [.sv (.ints .u8 p0)] [] (Xne r) (Xnd r) := by
 refine Xaj hT Try.func8 rfl fun C hC => ?_
 unfold Xjc at h
 refine Xac ?_
 refine kO hT hC ?_
 refine kN ?_
 iterate 4 refine kO hT hC ?_
 exact Vc.nil (Xam kR)
def Xkn (r : Xas) : AV := .ptr 16 0
def Xkm (r : Xas) : Xbq := [(16, .box [.sv (.ints .u8 r.b_), .sv (.int .i64 r.i_), .sv (.int .i64 r.h_)])]
theorem Xf9 {p0 r} (h : Xdr p0 = some r) : AC Try.prog 33 [.sv (.ints .u8 p0)] [] (Xkn r) (Xkm r) := by
 refine Xaj hT Try.func33 rfl fun C hC => ?_
 unfold Xdr at h
 refine Xac ?_
 refine kO hT hC ?_
 refine kN ?_
 iterate 4 refine kO hT hC ?_
 refine Vc.nil (Xb7 (Xac ?_))
 refine kO hT hC ?_
 refine Vc.nil ?_
 refine kL [0,3,4] [] [_,_,_] [] ?_
 refine kX h (fun v3 => ([(3, .sv (.int .i64 v3.1)), (4, .sv (.int .i64 v3.2))], [])) (fun v6 => ([(3, .sv (.int .i64 v6)), (4, .any)], [])) (kW hC []) (fun v3 s h => ?_) fun v6 h => ?_
 unfold Xdw at h
 refine Xb7 ?_
 refine kL [0,3,4] [] [_,_,_] [] ?_
 refine kA h (fun v7 => ([(15, .sv (.bool v7))], [])) (fun v7 h => ?_) fun v7 h => ?_
 refine Xab ?_
 iterate 5 refine kO hT hC ?_
 refine kS h ?_ ?_ <;> intro b5 h
 iterate 2 refine kI hT hC b5 ?_
 refine kP hC true b5 ?_
 exact Vc.nil kM
 iterate 2 refine kF hC b5 ?_
 refine kP hC false b5 ?_
 exact Vc.nil kM
 refine kS h ?_ ?_ <;> intro b6 h
 refine kt b6 (Xai (Xak (Xb7 (Xch (Xab ?_)))))
 iterate 4 refine kO hT hC ?_
 refine kQ hT hC h fun h => ?_
 iterate 6 refine kO hT hC ?_
 refine Vc.nil (Xc0 (Xak (Xab ?_)))
 iterate 3 refine kO hT hC ?_
 exact Vc.nil kG
 exact kf b6 (Xcg (Xdk ku))
 refine Xak (Xac ?_)
 iterate 5 refine kO hT hC ?_
 refine Vc.nil (Xam ?_)
 obtain rfl := kj h
 exact Xe2 (τ := ⟨[(2, .ptr 16 0)], [(16, some (.box [.sv (.ints .u8 p0), .sv (.int .i64 0), .sv (.int .i64 v6)]))]⟩) (kW hC [(16, 496)]) rfl ⟨rfl, trivial⟩
def Xiw (r : (Int × Xas)) : AV := .sv (.int .i64 r.1)
def Xiv (r : (Int × Xas)) : Xbq := [(0, .box [.sv (.ints .u8 r.2.b_), .sv (.int .i64 r.2.i_), .sv (.int .i64 r.2.h_)])]
theorem Xbo {p0 r} (h : Xbe p0 = some r) : AC Try.prog 36 [.ptr 0 0] [(0, .box [.sv (.ints .u8 p0.b_), .sv (.int .i64 p0.i_), .sv (.int .i64 p0.h_)])] (Xiw r) (Xiv r) := by
 refine Xaj hT Try.func36 rfl fun C hC => ?_
 unfold Xbe at h
 refine Xac ?_
 refine kO hT hC ?_
 refine kN ?_
 iterate 10 refine kO hT hC ?_
 refine Vc.nil ?_
 refine Xkd hm ?_
 iterate 4 refine kO hT hC ?_
 refine kQ hT hC h fun h => ?_
 iterate 4 refine kO hT hC ?_
 refine kQ hT hC h fun h => ?_
 iterate 3 refine kO hT hC ?_
 refine kD ?_
 refine kL [0,3] [0] [_,_] [_] ?_
 refine kA h (fun v1 => ([(3, .sv (.int .i64 v1.1)), (0, .any)], [(0, some (.box [.sv (.ints .u8 p0.b_), .sv (.int .i64 v1.2), .sv (.int .i64 (Xag .i64 ((Xag .i64 (p0.h_ * 6364136223846793005)) + 1442695040888963407)))]))])) (fun v1 h => ?_) fun v1 h => ?_
 refine Xkd hm ?_
 iterate 10 refine kO hT hC ?_
 refine kD ?_
 refine kS h ?_ ?_ <;> intro b1 h
 refine kt b1 ?_
 refine Xkd hm ?_
 iterate 9 refine kO hT hC ?_
 refine kQ hT hC h fun h => ?_
 iterate 5 refine kO hT hC ?_
 refine kD (Xab ?_)
 iterate 9 refine kO hT hC ?_
 exact Vc.nil kM
 exact kf b1 (Xai kM)
 refine Xac ?_
 iterate 2 refine kO hT hC ?_
 refine Vc.nil (Xam ?_)
 obtain rfl := kj h
 exact Xe2 (Xea.refl _) rfl ⟨rfl, trivial⟩
def Xh4 (r : (Int × Xas)) : AV := .sv (.int .i64 r.1)
def Xh3 (r : (Int × Xas)) : Xbq := [(0, .box [.sv (.ints .u8 r.2.b_), .sv (.int .i64 r.2.i_), .sv (.int .i64 r.2.h_)])]
theorem Xaw {p0 p1 r} (h : Xar p0 p1 = some r) : AC Try.prog 35 [.ptr 0 0, .sv (.int .i64 p1)] [(0, .box [.sv (.ints .u8 p0.b_), .sv (.int .i64 p0.i_), .sv (.int .i64 p0.h_)])] (Xh4 r) (Xh3 r) := by
 refine Xaj hT Try.func35 rfl fun C hC => ?_
 unfold Xar at h
 refine Xac ?_
 refine kO hT hC ?_
 refine Vc.nil (Xb7 (Xac ?_))
 iterate 2 refine kO hT hC ?_
 refine Vc.nil ?_
 refine kS h ?_ ?_ <;> intro b1 h
 refine kt b1 (Xac ?_)
 refine kO hT hC ?_
 refine Vc.nil (Xam (Xbm ?_))
 obtain rfl := kj h
 exact Xe2 (Xea.refl _) rfl ⟨rfl, trivial⟩
 refine kf b1 (Xai (Xak (Xb7 (Xac ?_))))
 iterate 2 refine kO hT hC ?_
 refine Vc.nil ?_
 refine kS h ?_ ?_ <;> intro b2 h
 refine kt b2 (Xac ?_)
 refine kO hT hC ?_
 refine kC hC [(0, 0)] Try.call36 h (fun _ => Xbo) fun q1 h => ?_
 refine kO hT hC ?_
 refine kQ hT hC h fun h => ?_
 refine kO hT hC ?_
 refine Vc.nil (Xam (Xbm ?_))
 obtain rfl := kj h
 exact Xe2 (Xea.refl _) rfl ⟨rfl, trivial⟩
 refine kf b2 (Xai (Xak (Xac ?_)))
 refine kO hT hC ?_
 refine kC hC [(0, 0)] Try.call36 h (fun _ => Xbo) fun q2 h => ?_
 refine kO hT hC ?_
 refine kN ?_
 refine kO hT hC ?_
 refine kC hC [(0, 0)] Try.call36 h (fun _ => Xbo) fun q3 h => ?_
 refine kO hT hC ?_
 refine kN ?_
 refine kO hT hC ?_
 refine kC hC [(0, 0)] Try.call36 h (fun _ => Xbo) fun q4 h => ?_
 refine kO hT hC ?_
 refine kN ?_
 refine kO hT hC ?_
 refine kC hC [(0, 0)] Try.call36 h (fun _ => Xbo) fun q5 h => ?_
 refine kO hT hC ?_
 refine kN ?_
 iterate 11 refine kO hT hC ?_
 refine kQ hT hC h fun h => ?_
 refine kO hT hC ?_
 refine Vc.nil (Xam ?_)
 obtain rfl := kj h
 exact Xe2 (Xea.refl _) rfl ⟨rfl, trivial⟩
def Xgp (r : (List Int)) : AV := .own 16
def Xgo (r : (List Int)) : Xbq := [(16, .ints .i64 r)]
theorem Xg4 {p0 r} (h : Xco p0 = some r) : AC Try.prog 10 [.sv (.ints .u8 p0)] [] (Xgp r) (Xgo r) := by
 refine Xaj hT Try.func10 rfl fun C hC => ?_
 unfold Xco at h
 refine Xac ?_
 refine kO hT hC ?_
 refine kN ?_
 refine kO hT hC ?_
 refine kC hC [(16, 112)] Try.call33 h (fun _ => Xf9) fun q1 h => ?_
 refine kO hT hC ?_
 refine kN ?_
 refine kO hT hC ?_
 refine kC hC [(0, 112)] Try.call36 h (fun _ => Xbo) fun q2 h => ?_
 refine kN ?_
 iterate 2 refine kO hT hC ?_
 refine Vc.nil (Xb7 (Xac ?_))
 refine kO hT hC ?_
 refine Vc.nil ?_
 refine kL [3,4,5] [112,160] [_,_,_] [_,_] ?_
 refine kX h (fun v5 => ([(5, .sv (.int .i64 v5.1))], [(112, some (.box [.sv (.ints .u8 v5.2.1), .sv (.int .i64 v5.2.2.1), .sv (.int .i64 v5.2.2.2.1)])), (160, some (.ints .i64 v5.2.2.2.2))])) (fun v8 => ([(3, .any), (5, .any)], [(160, some (.ints .i64 v8)), (112, none)])) (kW hC []) (fun v5 s h => ?_) fun v8 h => ?_
 unfold Xck at h
 refine Xb7 (Xac ?_)
 iterate 2 refine kO hT hC ?_
 refine Vc.nil ?_
 refine kS h ?_ ?_ <;> intro b3 h
 refine kt b3 (Xai (Xak (Xb7 (Xch (Xab ?_)))))
 iterate 2 refine kO hT hC ?_
 refine kC hC [(0, 112)] Try.call35 h (fun _ => Xaw) fun q9 h => ?_
 refine kO hT hC ?_
 refine kT hT hC h fun h => ?_
 refine kO hT hC ?_
 refine Vc.nil (Xc0 (Xak (Xab ?_)))
 iterate 3 refine kO hT hC ?_
 refine Vc.nil ?_
 obtain rfl := kj h
 exact Xta (kW hC [(160, 304)])
 exact kf b3 (Xcg (Xdk ku))
 refine Xak (Xac ?_)
 iterate 2 refine kO hT hC ?_
 refine Vc.nil (Xam ?_)
 obtain rfl := kj h
 exact Xe2 (τ := ⟨[(2, .own 16)], [(16, some (.ints .i64 v8))]⟩) (kW hC [(16, 160)]) rfl ⟨rfl, trivial⟩
def Xjx (r : Bool) : AV := .sv (.bool r)
def Xjw (r : Bool) : Xbq := []
theorem Xca {p0 p1 p2 r} (h : Xbv p0 p1 p2 = some r) : AC Try.prog 38 [.sv (.int .i64 p0), .sv (.int .i64 p1), .sv (.int .i64 p2)] [] (Xjx r) (Xjw r) := by
 refine Xaj hT Try.func38 rfl fun C hC => ?_
 unfold Xbv at h
 refine Xac ?_
 refine kO hT hC ?_
 refine Vc.nil ?_
 refine kL [0,1,2,6] [] [_,_,_,_] [] ?_
 refine kA h (fun v1 => ([(6, .sv (.bool v1)), (0, .any), (1, .any), (2, .any)], [])) (fun v1 h => ?_) fun v1 h => ?_
 refine Xab ?_
 iterate 4 refine kO hT hC ?_
 refine kS h ?_ ?_ <;> intro b1 h
 iterate 3 refine kI hT hC b1 ?_
 refine kP hC true b1 ?_
 refine kO hT hC ?_
 exact Vc.nil kM
 iterate 3 refine kF hC b1 ?_
 refine kP hC false b1 ?_
 refine kO hT hC ?_
 exact Vc.nil kM
 exact Xam kR
def Xi2 (r : Xah) : AV := .agg [.sv (.bool r.Begun), .sv (.int .i64 r.Next), .sv (.int .i64 r.Age), .own 16, .sv (.int .i64 r.Late), .sv (.int .i64 r.Far), .sv (.int .i64 r.Twice), .sv (.int .i64 r.Over), .sv (.int .i64 r.Lost)]
def Xi1 (r : Xah) : Xbq := [(16, .row Xad r.Held)]
theorem Xf1 {p0 r} (h : Xc9 p0 = some r) : AC Try.prog 40 [.agg [.sv (.bool p0.Begun), .sv (.int .i64 p0.Next), .sv (.int .i64 p0.Age), .sv (Xad.sv p0.Held), .sv (.int .i64 p0.Late), .sv (.int .i64 p0.Far), .sv (.int .i64 p0.Twice), .sv (.int .i64 p0.Over), .sv (.int .i64 p0.Lost)]] [] (Xi2 r) (Xi1 r) := by
 refine Xaj hT Try.func40 rfl fun C hC => ?_
 unfold Xc9 at h
 refine Xac ?_
 iterate 2 refine kO hT hC ?_
 refine kN ?_
 iterate 3 refine kO hT hC ?_
 obtain ⟨hq, h⟩ := Xbh h
 refine Xn1 hT hC rfl rfl rfl rfl ⟨fun _ _ => rfl, by rw [Xao]; exact hq⟩ ?_
 rw [Xao]
 iterate 2 refine kO hT hC ?_
 refine kN ?_
 iterate 2 refine kO hT hC ?_
 refine Vc.nil (Xam ?_)
 obtain rfl := kj h
 exact Xe2 (τ := ⟨[(2, .ptr 2000000 0)], [(16, some (.row Xad (([] : List Xaa) ++ p0.Held))), (2000000, some (.box [.sv (.bool p0.Begun), .sv (.int .i64 p0.Next), .sv (.int .i64 p0.Age), .own 16, .sv (.int .i64 p0.Late), .sv (.int .i64 p0.Far), .sv (.int .i64 p0.Twice), .sv (.int .i64 p0.Over), .sv (.int .i64 p0.Lost)]))]⟩) (kW hC [(16, 96), (2000000, 32)]) rfl ⟨rfl, trivial⟩
def Xlb (r : Bool) : AV := .sv (.bool r)
def Xla (r : Bool) : Xbq := []
theorem Xa3 {p0 p1 p2 r} (h : Xa8 p0 p1 p2 = some r) : AC Try.prog 42 [.sv (.int .i64 p0), .sv (.int .i64 p1), .sv (.int .i64 p2)] [] (Xlb r) (Xla r) := by
 refine Xaj hT Try.func42 rfl fun C hC => ?_
 unfold Xa8 at h
 refine Xac ?_
 refine kO hT hC ?_
 refine Vc.nil ?_
 refine kL [0,1,2,6] [] [_,_,_,_] [] ?_
 refine kA h (fun v1 => ([(6, .sv (.bool v1)), (0, .any), (1, .any), (2, .any)], [])) (fun v1 h => ?_) fun v1 h => ?_
 refine Xab ?_
 iterate 4 refine kO hT hC ?_
 refine kS h ?_ ?_ <;> intro b1 h
 iterate 3 refine kI hT hC b1 ?_
 refine kP hC true b1 ?_
 refine kO hT hC ?_
 exact Vc.nil kM
 iterate 3 refine kF hC b1 ?_
 refine kP hC false b1 ?_
 refine kO hT hC ?_
 exact Vc.nil kM
 exact Xam kR
def Xkl (r : Int) : AV := .sv (.int .i64 r)
def Xkk (r : Int) : Xbq := []
theorem Xcd {p0 p1 r} (h : Xbx p0 p1 = some r) : AC Try.prog 58 [.sv (.int .i64 p0), .sv (.int .i64 p1)] [] (Xkl r) (Xkk r) := by
 refine Xaj hT Try.func58 rfl fun C hC => ?_
 unfold Xbx at h
 refine Xac ?_
 refine kO hT hC ?_
 refine Vc.nil (Xb7 ?_)
 refine kL [0,1] [] [_,_] [] ?_
 refine kA h (fun v1 => ([(13, .sv (.bool v1))], [])) (fun v1 h => ?_) fun v1 h => ?_
 refine Xab ?_
 refine kO hT hC ?_
 refine kC hC [] Try.call42 h (fun _ => Xa3) fun q2 h => ?_
 iterate 2 refine kO hT hC ?_
 refine kS h ?_ ?_ <;> intro b1 h
 refine kI hT hC (kn b1) ?_
 refine kE hC (kn b1) [] Try.call42 h (fun _ => Xa3) fun q3 h => ?_
 refine kI hT hC (kn b1) ?_
 refine kP hC false (kn b1) ?_
 exact Vc.nil kM
 iterate 3 refine kF hC (kn b1) ?_
 refine kP hC true (kn b1) ?_
 exact Vc.nil kM
 refine kS h ?_ ?_ <;> intro b2 h
 refine kt b2 (Xac ?_)
 refine kO hT hC ?_
 exact Vc.nil (Xam (Xbm kR))
 refine kf b2 (Xai (Xak (Xac ?_)))
 iterate 4 refine kO hT hC ?_
 refine Vc.nil ?_
 refine kL [5] [] [_] [] ?_
 refine kA h (fun v4 => ([(5, .sv (.int .i64 v4))], [])) (fun v4 h => ?_) fun v4 h => ?_
 refine Xac ?_
 iterate 2 refine kO hT hC ?_
 refine Vc.nil ?_
 refine kS h ?_ ?_ <;> intro b3 h
 refine kt b3 (Xab ?_)
 iterate 3 refine kO hT hC ?_
 exact Vc.nil kM
 exact kf b3 (Xai kM)
 refine kL [5] [] [_] [] ?_
 refine kA h (fun v5 => ([(5, .sv (.int .i64 v5))], [])) (fun v5 h => ?_) fun v5 h => ?_
 refine Xac ?_
 iterate 2 refine kO hT hC ?_
 refine Vc.nil ?_
 refine kS h ?_ ?_ <;> intro b4 h
 refine kt b4 (Xab ?_)
 iterate 3 refine kO hT hC ?_
 exact Vc.nil kM
 exact kf b4 (Xai kM)
 refine Xac ?_
 iterate 2 refine kO hT hC ?_
 exact Vc.nil (Xam kR)
def Xh0 (r : Bool) : AV := .sv (.bool r)
def Xhz (r : Bool) : Xbq := []
theorem Xft {p0 r} (h : Xcw p0 = some r) : AC Try.prog 57 [.agg [.sv (.int .i64 p0.Seq), .sv (.bool p0.First), .sv (.bool p0.Last), .sv (.str p0.Bytes)]] [] (Xh0 r) (Xhz r) := by
 refine Xaj hT Try.func57 rfl fun C hC => ?_
 unfold Xcw at h
 refine Xac ?_
 iterate 2 refine kO hT hC ?_
 refine Vc.nil ?_
 refine kL [1,2] [16] [_,_] [_] ?_
 refine kA h (fun v1 => ([(2, .sv (.bool v1)), (1, .any)], [(16, none)])) (fun v1 h => ?_) fun v1 h => ?_
 refine Xab ?_
 iterate 2 refine kO hT hC ?_
 refine kC hC [] Try.call42 h (fun _ => Xa3) fun q2 h => ?_
 refine kO hT hC ?_
 refine kS h ?_ ?_ <;> intro b1 h
 iterate 3 refine kI hT hC b1 ?_
 refine kE hC b1 [] Try.call42 h (fun _ => Xa3) fun q3 h => ?_
 refine kP hC true b1 ?_
 refine kO hT hC ?_
 exact Vc.nil kM
 iterate 4 refine kF hC b1 ?_
 refine kP hC false b1 ?_
 refine kO hT hC ?_
 exact Vc.nil kM
 exact Xam kR
def Xh6 (r : Bool) : AV := .sv (.bool r)
def Xh5 (r : Bool) : Xbq := []
theorem Xb9 {p0 r} (h : Xbi p0 = some r) : AC Try.prog 63 [.sv (.int .i64 p0)] [] (Xh6 r) (Xh5 r) := by
 refine Xaj hT Try.func63 rfl fun C hC => ?_
 unfold Xbi at h
 refine Xac ?_
 refine kO hT hC ?_
 refine kN ?_
 refine kO hT hC ?_
 refine kC hC [] Try.call42 h (fun _ => Xa3) fun q1 h => ?_
 refine kO hT hC ?_
 exact Vc.nil (Xam kR)
def Xfw (r : Bool) : AV := .sv (.bool r)
def Xfv (r : Bool) : Xbq := []
theorem Xeo {p0 r} (h : Xcq p0 = some r) : AC Try.prog 41 [.agg [.sv (.bool p0.Begun), .sv (.int .i64 p0.Next), .sv (.int .i64 p0.Age), .sv (Xad.sv p0.Held), .sv (.int .i64 p0.Late), .sv (.int .i64 p0.Far), .sv (.int .i64 p0.Twice), .sv (.int .i64 p0.Over), .sv (.int .i64 p0.Lost)]] [] (Xfw r) (Xfv r) := by
 refine Xaj hT Try.func41 rfl fun C hC => ?_
 unfold Xcq at h
 refine Xac ?_
 iterate 2 refine kO hT hC ?_
 refine Vc.nil (Xb7 (Xac ?_))
 iterate 3 refine kO hT hC ?_
 refine Vc.nil ?_
 refine kS h ?_ ?_ <;> intro b1 h
 refine kt b1 ?_
 refine kL [1,2] [16] [_,_] [_] ?_
 refine kA h (fun v1 => ([(2, .sv (.bool v1)), (1, .any)], [(16, none)])) (fun v1 h => ?_) fun v1 h => ?_
 refine Xab ?_
 iterate 4 refine kO hT hC ?_
 refine kS h ?_ ?_ <;> intro b2 h
 iterate 3 refine kI hT hC b2 ?_
 refine kP hC true b2 ?_
 refine kO hT hC ?_
 refine kS h ?_ ?_ <;> intro b3 h
 iterate 4 refine kI hT hC b3 ?_
 refine kP hC true b3 ?_
 refine kO hT hC ?_
 refine kS h ?_ ?_ <;> intro b4 h
 iterate 3 refine kI hT hC b4 ?_
 refine kP hC true b4 ?_
 refine kO hT hC ?_
 refine kS h ?_ ?_ <;> intro b5 h
 iterate 3 refine kI hT hC b5 ?_
 refine kP hC true b5 ?_
 refine kO hT hC ?_
 refine kS h ?_ ?_ <;> intro b6 h
 iterate 3 refine kI hT hC b6 ?_
 refine kP hC true b6 ?_
 refine kO hT hC ?_
 refine kS h ?_ ?_ <;> intro b7 h
 iterate 3 refine kI hT hC b7 ?_
 refine kP hC true b7 ?_
 refine kO hT hC ?_
 refine kS h ?_ ?_ <;> intro b8 h
 iterate 3 refine kI hT hC b8 ?_
 refine kP hC true b8 ?_
 refine kO hT hC ?_
 exact Vc.nil kM
 iterate 3 refine kF hC b8 ?_
 refine kP hC false b8 ?_
 refine kO hT hC ?_
 exact Vc.nil kM
 iterate 3 refine kF hC b7 ?_
 refine kP hC false b7 ?_
 refine kO hT hC ?_
 iterate 3 refine kF hC rfl ?_
 iterate 2 refine kO hT hC ?_
 exact Vc.nil kM
 iterate 3 refine kF hC b6 ?_
 refine kP hC false b6 ?_
 refine kO hT hC ?_
 iterate 3 refine kF hC rfl ?_
 iterate 2 refine kO hT hC ?_
 iterate 3 refine kF hC rfl ?_
 iterate 2 refine kO hT hC ?_
 exact Vc.nil kM
 iterate 3 refine kF hC b5 ?_
 refine kP hC false b5 ?_
 refine kO hT hC ?_
 iterate 3 refine kF hC rfl ?_
 iterate 2 refine kO hT hC ?_
 iterate 3 refine kF hC rfl ?_
 iterate 2 refine kO hT hC ?_
 iterate 3 refine kF hC rfl ?_
 iterate 2 refine kO hT hC ?_
 exact Vc.nil kM
 iterate 3 refine kF hC b4 ?_
 refine kP hC false b4 ?_
 refine kO hT hC ?_
 iterate 3 refine kF hC rfl ?_
 iterate 2 refine kO hT hC ?_
 iterate 3 refine kF hC rfl ?_
 iterate 2 refine kO hT hC ?_
 iterate 3 refine kF hC rfl ?_
 iterate 2 refine kO hT hC ?_
 iterate 3 refine kF hC rfl ?_
 iterate 2 refine kO hT hC ?_
 exact Vc.nil kM
 iterate 4 refine kF hC b3 ?_
 refine kP hC false b3 ?_
 refine kO hT hC ?_
 iterate 3 refine kF hC rfl ?_
 iterate 2 refine kO hT hC ?_
 iterate 3 refine kF hC rfl ?_
 iterate 2 refine kO hT hC ?_
 iterate 3 refine kF hC rfl ?_
 iterate 2 refine kO hT hC ?_
 iterate 3 refine kF hC rfl ?_
 iterate 2 refine kO hT hC ?_
 iterate 3 refine kF hC rfl ?_
 iterate 2 refine kO hT hC ?_
 exact Vc.nil kM
 iterate 3 refine kF hC b2 ?_
 refine kP hC false b2 ?_
 refine kO hT hC ?_
 iterate 4 refine kF hC rfl ?_
 iterate 2 refine kO hT hC ?_
 iterate 3 refine kF hC rfl ?_
 iterate 2 refine kO hT hC ?_
 iterate 3 refine kF hC rfl ?_
 iterate 2 refine kO hT hC ?_
 iterate 3 refine kF hC rfl ?_
 iterate 2 refine kO hT hC ?_
 iterate 3 refine kF hC rfl ?_
 iterate 2 refine kO hT hC ?_
 iterate 3 refine kF hC rfl ?_
 iterate 2 refine kO hT hC ?_
 exact Vc.nil kM
 exact Xam (Xbm kR)
 refine kf b1 (Xai (Xak (Xb7 ?_)))
 refine kL [1] [16] [_] [_] ?_
 refine kA h (fun v2 => ([(63, .sv (.bool v2))], [])) (fun v2 h => ?_) fun v2 h => ?_
 refine Xab ?_
 iterate 2 refine kO hT hC ?_
 refine kC hC [] Try.call42 h (fun _ => Xa3) fun q3 h => ?_
 iterate 2 refine kO hT hC ?_
 refine kS h ?_ ?_ <;> intro b9 h
 iterate 2 refine kI hT hC (kn b9) ?_
 refine kE hC (kn b9) [] Try.call42 h (fun _ => Xa3) fun q4 h => ?_
 refine kI hT hC (kn b9) ?_
 refine kP hC false (kn b9) ?_
 refine kO hT hC ?_
 refine kS h ?_ ?_ <;> intro b10 h
 iterate 4 refine kI hT hC (kn b10) ?_
 refine kP hC false (kn b10) ?_
 exact Vc.nil kM
 iterate 4 refine kF hC (kn b10) ?_
 refine kP hC true (kn b10) ?_
 exact Vc.nil kM
 iterate 4 refine kF hC (kn b9) ?_
 refine kP hC true (kn b9) ?_
 refine kO hT hC ?_
 iterate 4 refine kF hC rfl ?_
 refine kO hT hC ?_
 exact Vc.nil kM
 refine kS h ?_ ?_ <;> intro b11 h
 refine kt b11 (Xac ?_)
 refine kO hT hC ?_
 exact Vc.nil (Xam (Xbm kR))
 refine kf b11 (Xai (Xak (Xac ?_)))
 refine kO hT hC ?_
 refine Vc.nil (Xb7 (Xac ?_))
 refine kO hT hC ?_
 refine Vc.nil ?_
 refine kL [1,3,4] [16] [_,_,_] [_] ?_
 obtain ⟨o18, hl, h⟩ := Xci h
 refine Xgn (fun v9 => ([(3, .sv (.int .i64 v9.1)), (4, .sv (.int .i64 v9.2))], [])) (fun v14 => ([(3, .any), (4, .any)], [])) (fun r => Xl2 C T Try.f41.results.toList (Xfw r) (Xfv r)) hl ?_ ?_ ?_ ?_
 try dsimp only
 apply Xge hC []
 exact co
 rfl
 decide
 rfl
 intro v9 s hs
 have h := hs
 unfold Xb0 at h
 refine Xb7 (Xac ?_)
 iterate 5 refine kO hT hC ?_
 refine Vc.nil ?_
 refine kS h ?_ ?_ <;> intro b20 h
 refine kt b20 (Xai (Xak (Xb7 (Xch ?_))))
 refine Xkd hm ?_
 iterate 5 refine kO hT hC ?_
 refine kQ hT hC h fun h => ?_
 iterate 2 refine kO hT hC ?_
 refine kC hC [] Try.call58 h (fun _ => Xcd) fun q15 h => ?_
 refine kO hT hC ?_
 refine kD (Xb7 ?_)
 refine kL [1,3,4,5] [16] [_,_,_,_] [_] ?_
 refine kA h (fun v16 => ([(95, .sv (.bool v16)), (3, .any)], [])) (fun v16 h => ?_) fun v16 h => ?_
 refine Xab ?_
 iterate 3 refine kO hT hC ?_
 refine kQ hT hC h fun h => ?_
 refine kO hT hC ?_
 refine kC hC [] Try.call57 h (fun _ => Xft) fun q17 h => ?_
 iterate 2 refine kO hT hC ?_
 refine kS h ?_ ?_ <;> intro b21 h
 iterate 3 refine kI hT hC (kn b21) ?_
 refine kP hC false (kn b21) ?_
 refine kO hT hC ?_
 refine kS h ?_ ?_ <;> intro b22 h
 iterate 2 refine kF hC b22 ?_
 refine kP hC true b22 ?_
 exact Vc.nil kM
 iterate 2 refine kI hT hC b22 ?_
 refine kP hC false b22 ?_
 exact Vc.nil kM
 iterate 3 refine kF hC (kn b21) ?_
 refine kP hC true (kn b21) ?_
 refine kO hT hC ?_
 iterate 2 refine kF hC rfl ?_
 refine kO hT hC ?_
 exact Vc.nil kM
 refine kS h ?_ ?_ <;> intro b23 h
 refine kt b23 (Xac ?_)
 refine kO hT hC ?_
 refine Vc.nil (Xam (Xbm (Xkz (Xbm ?_))))
 obtain rfl := kj h
 refine Xnp (Xnk ?_)
 exact Xe2 (Xea.refl _) rfl trivial
 refine kf b23 (Xai (Xak (Xab ?_)))
 iterate 2 refine kO hT hC ?_
 refine Vc.nil (Xc0 (Xak (Xab ?_)))
 iterate 3 refine kO hT hC ?_
 exact Vc.nil kG
 exact kf b20 (Xcg (Xdk kb))
 intro v14 e
 subst e
 refine Xak ?_
 refine kL [1] [16] [_] [_] ?_
 refine kA h (fun v19 => ([(2, .sv (.bool v19)), (1, .any)], [(16, none)])) (fun v19 h => ?_) fun v19 h => ?_
 refine Xab ?_
 iterate 2 refine kO hT hC ?_
 refine kC hC [] Try.call63 h (fun _ => Xb9) fun q20 h => ?_
 refine kO hT hC ?_
 refine kS h ?_ ?_ <;> intro b24 h
 iterate 2 refine kI hT hC b24 ?_
 refine kE hC b24 [] Try.call63 h (fun _ => Xb9) fun q21 h => ?_
 refine kP hC true b24 ?_
 refine kO hT hC ?_
 refine kS h ?_ ?_ <;> intro b25 h
 iterate 2 refine kI hT hC b25 ?_
 refine kE hC b25 [] Try.call63 h (fun _ => Xb9) fun q22 h => ?_
 refine kP hC true b25 ?_
 refine kO hT hC ?_
 refine kS h ?_ ?_ <;> intro b26 h
 iterate 2 refine kI hT hC b26 ?_
 refine kE hC b26 [] Try.call63 h (fun _ => Xb9) fun q23 h => ?_
 refine kP hC true b26 ?_
 refine kO hT hC ?_
 refine kS h ?_ ?_ <;> intro b27 h
 iterate 2 refine kI hT hC b27 ?_
 refine kE hC b27 [] Try.call63 h (fun _ => Xb9) fun q24 h => ?_
 refine kP hC true b27 ?_
 refine kO hT hC ?_
 exact Vc.nil kM
 iterate 3 refine kF hC b27 ?_
 refine kP hC false b27 ?_
 refine kO hT hC ?_
 exact Vc.nil kM
 iterate 3 refine kF hC b26 ?_
 refine kP hC false b26 ?_
 refine kO hT hC ?_
 iterate 3 refine kF hC rfl ?_
 iterate 2 refine kO hT hC ?_
 exact Vc.nil kM
 iterate 3 refine kF hC b25 ?_
 refine kP hC false b25 ?_
 refine kO hT hC ?_
 iterate 3 refine kF hC rfl ?_
 iterate 2 refine kO hT hC ?_
 iterate 3 refine kF hC rfl ?_
 iterate 2 refine kO hT hC ?_
 exact Vc.nil kM
 iterate 3 refine kF hC b24 ?_
 refine kP hC false b24 ?_
 refine kO hT hC ?_
 iterate 3 refine kF hC rfl ?_
 iterate 2 refine kO hT hC ?_
 iterate 3 refine kF hC rfl ?_
 iterate 2 refine kO hT hC ?_
 iterate 3 refine kF hC rfl ?_
 iterate 2 refine kO hT hC ?_
 exact Vc.nil kM
 exact Xam kR
 intro r' σ' e hE
 subst e
 obtain rfl := kj h
 refine Xbm ?_
 exact hE
def Xfh (r : Int) : AV := .sv (.int .i64 r)
def Xfg (r : Int) : Xbq := []
theorem Xi6 {p0 r} (h : Xdi p0 = some r) : AC Try.prog 43 [.agg [.sv (.bool p0.Begun), .sv (.int .i64 p0.Next), .sv (.int .i64 p0.Age), .sv (Xad.sv p0.Held), .sv (.int .i64 p0.Late), .sv (.int .i64 p0.Far), .sv (.int .i64 p0.Twice), .sv (.int .i64 p0.Over), .sv (.int .i64 p0.Lost)]] [] (Xfh r) (Xfg r) := by
 refine Xaj hT Try.func43 rfl fun C hC => ?_
 unfold Xdi at h
 refine Xac ?_
 iterate 2 refine kO hT hC ?_
 refine Vc.nil (Xb7 (Xac ?_))
 refine kO hT hC ?_
 refine Vc.nil ?_
 refine kL [1,3] [16] [_,_] [_] ?_
 obtain ⟨o8, hl, h⟩ := Xci h
 refine Xgn (fun v3 => ([(3, .sv (.int .i64 v3))], [])) (fun v6 => ([(1, .any), (3, .any)], [(16, none)])) (fun r => Xl2 C T Try.f43.results.toList (Xfh r) (Xfg r)) hl ?_ ?_ ?_ ?_
 apply Xge hC []
 exact co
 rfl
 decide
 rfl
 intro v3 s hs
 have h := hs
 unfold Xbf at h
 refine Xb7 (Xac ?_)
 iterate 5 refine kO hT hC ?_
 refine Vc.nil ?_
 refine kS h ?_ ?_ <;> intro b7 h
 refine kt b7 (Xai (Xak (Xb7 (Xch (Xb7 ?_)))))
 refine Xkd hm ?_
 iterate 5 refine kO hT hC ?_
 refine kQ hT hC h fun h => ?_
 iterate 2 refine kO hT hC ?_
 refine kC hC [] Try.call58 h (fun _ => Xcd) fun q7 h => ?_
 iterate 2 refine kO hT hC ?_
 refine kD ?_
 refine kS h ?_ ?_ <;> intro b8 h
 refine kt b8 (Xac ?_)
 refine kO hT hC ?_
 refine Vc.nil (Xam (Xbm (Xkz (Xbm ?_))))
 obtain rfl := kj h
 refine Xnp (Xnk ?_)
 exact Xe2 (Xea.refl _) rfl trivial
 refine kf b8 (Xai (Xak (Xac ?_)))
 iterate 3 refine kO hT hC ?_
 refine kQ hT hC h fun h => ?_
 iterate 2 refine kO hT hC ?_
 refine Vc.nil ?_
 refine kS h ?_ ?_ <;> intro b9 h
 refine kt b9 (Xac ?_)
 iterate 3 refine kO hT hC ?_
 refine Vc.nil (Xam (Xkz (Xbm ?_)))
 obtain rfl := kj h
 refine Xnp (Xnk ?_)
 exact Xe2 (Xea.refl _) rfl trivial
 refine kf b9 (Xai (Xc0 (Xak (Xab ?_))))
 iterate 3 refine kO hT hC ?_
 exact Vc.nil kG
 exact kf b7 (Xcg (Xdk kb))
 intro v6 e
 subst e
 refine Xak (Xac ?_)
 refine kO hT hC ?_
 exact Vc.nil (Xam kR)
 intro r' σ' e hE
 subst e
 obtain rfl := kj h
 refine Xbm ?_
 exact hE
def Xiu (r : Int) : AV := .sv (.int .i64 r)
def Xit (r : Int) : Xbq := []
theorem Xeq {p0 p1 r} (h : Xcr p0 p1 = some r) : AC Try.prog 44 [.sv (.int .i64 p0), .sv (.int .i64 p1)] [] (Xiu r) (Xit r) := by
 refine Xaj hT Try.func44 rfl fun C hC => ?_
 unfold Xcr at h
 refine Xac ?_
 refine kO hT hC ?_
 refine Vc.nil (Xb7 ?_)
 refine kL [0,1] [] [_,_] [] ?_
 refine kA h (fun v1 => ([(12, .sv (.bool v1))], [])) (fun v1 h => ?_) fun v1 h => ?_
 refine Xab ?_
 refine kO hT hC ?_
 refine kC hC [] Try.call42 h (fun _ => Xa3) fun q2 h => ?_
 iterate 2 refine kO hT hC ?_
 refine kS h ?_ ?_ <;> intro b1 h
 refine kI hT hC (kn b1) ?_
 refine kE hC (kn b1) [] Try.call42 h (fun _ => Xa3) fun q3 h => ?_
 refine kI hT hC (kn b1) ?_
 refine kP hC false (kn b1) ?_
 exact Vc.nil kM
 iterate 3 refine kF hC (kn b1) ?_
 refine kP hC true (kn b1) ?_
 exact Vc.nil kM
 refine kS h ?_ ?_ <;> intro b2 h
 refine kt b2 (Xac ?_)
 refine kO hT hC ?_
 exact Vc.nil (Xam (Xbm kR))
 refine kf b2 (Xai (Xak (Xac ?_)))
 iterate 3 refine kO hT hC ?_
 refine kQ hT hC h fun h => ?_
 refine kO hT hC ?_
 exact Vc.nil (Xam kR)
def Xio (r : Int) : AV := .sv (.int .i64 r)
def Xin (r : Int) : Xbq := []
theorem Xkg {p0 p1 p2 r} (h : Xd1 p0 p1 p2 = some r) : AC Try.prog 64 [.sv (.int .i64 p0), .sv (.int .i64 p1), .sv (.int .i64 p2)] [] (Xio r) (Xin r) := by
 refine Xaj hT Try.func64 rfl fun C hC => ?_
 unfold Xd1 at h
 refine Xac ?_
 refine kO hT hC ?_
 refine Vc.nil (Xb7 ?_)
 refine kL [0,1,2] [] [_,_,_] [] ?_
 refine kA h (fun v1 => ([(14, .sv (.bool v1))], [])) (fun v1 h => ?_) fun v1 h => ?_
 refine Xab ?_
 iterate 4 refine kO hT hC ?_
 refine kS h ?_ ?_ <;> intro b1 h
 iterate 3 refine kF hC b1 ?_
 refine kP hC true b1 ?_
 exact Vc.nil kM
 iterate 3 refine kI hT hC b1 ?_
 refine kP hC false b1 ?_
 exact Vc.nil kM
 refine kS h ?_ ?_ <;> intro b2 h
 refine kt b2 (Xac ?_)
 iterate 2 refine kO hT hC ?_
 exact Vc.nil (Xam (Xbm kR))
 refine kf b2 (Xai (Xak (Xb7 (Xac ?_))))
 iterate 3 refine kO hT hC ?_
 refine Vc.nil ?_
 refine kS h ?_ ?_ <;> intro b3 h
 refine kt b3 (Xac ?_)
 iterate 2 refine kO hT hC ?_
 exact Vc.nil (Xam (Xbm kR))
 refine kf b3 (Xai (Xak (Xac ?_)))
 iterate 2 refine kO hT hC ?_
 exact Vc.nil (Xam kR)
def Xi5 (r : Int) : AV := .sv (.int .i64 r)
def Xi4 (r : Int) : Xbq := []
theorem Xcs {p0 r} (h : Xbu p0 = some r) : AC Try.prog 45 [.sv (.int .i64 p0)] [] (Xi5 r) (Xi4 r) := by
 refine Xaj hT Try.func45 rfl fun C hC => ?_
 unfold Xbu at h
 refine Xac ?_
 refine kO hT hC ?_
 refine kN ?_
 iterate 2 refine kO hT hC ?_
 refine kC hC [] Try.call64 h (fun _ => Xkg) fun q1 h => ?_
 refine kO hT hC ?_
 exact Vc.nil (Xam kR)
def Xg9 (r : (Xah × (List Xaa) × Int)) : AV := .tup [.agg [.sv (.bool r.1.Begun), .sv (.int .i64 r.1.Next), .sv (.int .i64 r.1.Age), .own 16, .sv (.int .i64 r.1.Late), .sv (.int .i64 r.1.Far), .sv (.int .i64 r.1.Twice), .sv (.int .i64 r.1.Over), .sv (.int .i64 r.1.Lost)], .own 17, .sv (.int .i64 r.2.2)]
def Xg8 (r : (Xah × (List Xaa) × Int)) : Xbq := [(16, .row Xad r.1.Held), (17, .row Xad r.2.1)]
theorem Xh1 {p0 p1 r} (h : Xcc p0 p1 = some r) : AC Try.prog 16 [.agg [.sv (.bool p0.Begun), .sv (.int .i64 p0.Next), .sv (.int .i64 p0.Age), .sv (Xad.sv p0.Held), .sv (.int .i64 p0.Late), .sv (.int .i64 p0.Far), .sv (.int .i64 p0.Twice), .sv (.int .i64 p0.Over), .sv (.int .i64 p0.Lost)], .sv (.int .i64 p1)] [] (Xg9 r) (Xg8 r) := by
 refine Xaj hT Try.func16 rfl fun C hC => ?_
 unfold Xcc at h
 refine Xac ?_
 iterate 4 refine kO hT hC ?_
 refine kN ?_
 iterate 2 refine kO hT hC ?_
 refine kN ?_
 refine kO hT hC ?_
 refine kC hC [(16, 208)] Try.call40 h (fun _ => Xf1) fun q1 h => ?_
 refine kO hT hC ?_
 refine Vc.nil (Xb7 ?_)
 refine kL [1,2,4,7] [32,64,176,208] [_,_,_,_] [_,_,_,_] ?_
 refine kA h (fun v2 => ([(21, .sv (.bool v2))], [])) (fun v2 h => ?_) fun v2 h => ?_
 refine Xab ?_
 refine kO hT hC ?_
 refine kC hC [] Try.call41 h (fun _ => Xeo) fun q3 h => ?_
 iterate 2 refine kO hT hC ?_
 refine kS h ?_ ?_ <;> intro b1 h
 refine kI hT hC (kn b1) ?_
 refine kE hC (kn b1) [] Try.call42 h (fun _ => Xa3) fun q4 h => ?_
 refine kI hT hC (kn b1) ?_
 refine kP hC false (kn b1) ?_
 exact Vc.nil kM
 iterate 3 refine kF hC (kn b1) ?_
 refine kP hC true (kn b1) ?_
 exact Vc.nil kM
 refine kS h ?_ ?_ <;> intro b2 h
 refine kt b2 (Xac ?_)
 iterate 5 refine kO hT hC ?_
 refine Vc.nil (Xam (Xbm ?_))
 obtain rfl := kj h
 exact Xe2 (τ := ⟨[(4, .ptr 2000000 0), (5, .own 17), (6, .sv (.int .i64 0))], [(16, some (.row Xad q1.Held)), (17, some (.row Xad ([] : List Xaa))), (2000000, some (.box [.sv (.bool q1.Begun), .sv (.int .i64 q1.Next), .sv (.int .i64 q1.Age), .own 16, .sv (.int .i64 q1.Late), .sv (.int .i64 q1.Far), .sv (.int .i64 q1.Twice), .sv (.int .i64 q1.Over), .sv (.int .i64 q1.Lost)]))]⟩) (kW hC [(16, 208), (17, 176), (2000000, 64)]) rfl ⟨rfl, rfl, trivial⟩
 refine kf b2 (Xai (Xak (Xac ?_)))
 refine kO hT hC ?_
 refine kC hC [] Try.call43 h (fun _ => Xi6) fun q5 h => ?_
 refine kO hT hC ?_
 refine Vc.nil (Xb7 (Xac ?_))
 iterate 2 refine kO hT hC ?_
 refine Vc.nil ?_
 refine kS h ?_ ?_ <;> intro b3 h
 refine kt b3 (Xac ?_)
 iterate 4 refine kO hT hC ?_
 refine kQ hT hC h fun h => ?_
 obtain ⟨hq, h⟩ := Xbh h
 refine Xn1 hT hC rfl rfl rfl rfl ⟨⟨hq.1, fun _ _ => rfl⟩, by rw [Xao]; exact hq.2⟩ ?_
 rw [Xao]
 refine kO hT hC ?_
 refine kN ?_
 iterate 3 refine kO hT hC ?_
 refine kC hC [] Try.call44 h (fun _ => Xeq) fun q6 h => ?_
 iterate 2 refine kO hT hC ?_
 refine kN ?_
 iterate 4 refine kO hT hC ?_
 refine kQ hT hC h fun h => ?_
 obtain ⟨hq, h⟩ := Xbh h
 refine Xn1 hT hC rfl rfl rfl rfl ⟨⟨hq.1, fun _ _ => rfl⟩, by rw [Xao]; exact hq.2⟩ ?_
 rw [Xao]
 iterate 2 refine kO hT hC ?_
 refine kN ?_
 iterate 2 refine kO hT hC ?_
 refine kN ?_
 iterate 5 refine kO hT hC ?_
 refine Vc.nil (Xam (Xbm ?_))
 obtain rfl := kj h
 exact Xe2 (τ := ⟨[(4, .ptr 2000000 0), (5, .own 17), (6, .sv (.int .i64 1))], [(16, some (.row Xad (([] : List Xaa) ++ ((q1.Held.drop q5.toNat).take ((q1.Held.length : Int).toNat - q5.toNat))))), (17, some (.row Xad (([] : List Xaa) ++ ((q1.Held.drop ((0 : Int).toNat)).take (q5.toNat - (0 : Int).toNat))))), (2000000, some (.box [.sv (.bool q1.Begun), .sv (.int .i64 q6), .sv (.int .i64 0), .own 16, .sv (.int .i64 q1.Late), .sv (.int .i64 q1.Far), .sv (.int .i64 q1.Twice), .sv (.int .i64 q1.Over), .sv (.int .i64 q1.Lost)]))]⟩) (kW hC [(16, 704), (17, 528), (2000000, 64)]) rfl ⟨rfl, rfl, trivial⟩
 refine kf b3 (Xai (Xak (Xb7 (Xac ?_))))
 iterate 4 refine kO hT hC ?_
 refine Vc.nil ?_
 refine kS h ?_ ?_ <;> intro b4 h
 refine kt b4 (Xac ?_)
 iterate 2 refine kO hT hC ?_
 refine kN ?_
 iterate 5 refine kO hT hC ?_
 refine Vc.nil (Xam (Xbm ?_))
 obtain rfl := kj h
 exact Xe2 (τ := ⟨[(4, .ptr 2000000 0), (5, .own 17), (6, .sv (.int .i64 0))], [(16, some (.row Xad q1.Held)), (17, some (.row Xad ([] : List Xaa))), (2000000, some (.box [.sv (.bool q1.Begun), .sv (.int .i64 q1.Next), .sv (.int .i64 0), .own 16, .sv (.int .i64 q1.Late), .sv (.int .i64 q1.Far), .sv (.int .i64 q1.Twice), .sv (.int .i64 q1.Over), .sv (.int .i64 q1.Lost)]))]⟩) (kW hC [(16, 208), (17, 176), (2000000, 64)]) rfl ⟨rfl, rfl, trivial⟩
 refine kf b4 (Xai (Xak (Xb7 (Xac ?_))))
 iterate 4 refine kO hT hC ?_
 refine Vc.nil ?_
 refine kS h ?_ ?_ <;> intro b5 h
 refine kt b5 (Xac ?_)
 iterate 5 refine kO hT hC ?_
 refine kN ?_
 iterate 5 refine kO hT hC ?_
 refine Vc.nil (Xam (Xbm ?_))
 obtain rfl := kj h
 exact Xe2 (τ := ⟨[(4, .ptr 2000000 0), (5, .own 17), (6, .sv (.int .i64 0))], [(16, some (.row Xad q1.Held)), (17, some (.row Xad ([] : List Xaa))), (2000000, some (.box [.sv (.bool q1.Begun), .sv (.int .i64 q1.Next), .sv (.int .i64 (Xag .i64 (q1.Age + 1))), .own 16, .sv (.int .i64 q1.Late), .sv (.int .i64 q1.Far), .sv (.int .i64 q1.Twice), .sv (.int .i64 q1.Over), .sv (.int .i64 q1.Lost)]))]⟩) (kW hC [(16, 208), (17, 176), (2000000, 64)]) rfl ⟨rfl, rfl, trivial⟩
 refine kf b5 (Xai (Xak (Xac ?_)))
 refine kO hT hC ?_
 refine Vc.nil (Xb7 ?_)
 refine kL [2,4,7,10] [32,64,176,208] [_,_,_,_] [_,_,_,_] ?_
 refine kX h (fun v9 => ([(10, .sv (.int .i64 v9))], [])) (fun v12 => ([(10, .sv (.int .i64 v12))], [])) (kW hC []) (fun v9 s h => ?_) fun v12 h => ?_
 unfold Xa7 at h
 refine Xb7 ?_
 refine kL [2,4,7,10] [32,64,176,208] [_,_,_,_] [_,_,_,_] ?_
 refine kA h (fun v13 => ([(90, .sv (.bool v13))], [])) (fun v13 h => ?_) fun v13 h => ?_
 refine Xl7 hm ?_
 iterate 6 refine kO hT hC ?_
 refine kS h ?_ ?_ <;> intro b12 h
 iterate 3 refine kI hT hC b12 ?_
 refine kJ hT hC b12 h fun h => ?_
 refine kI hT hC b12 ?_
 refine kJ hT hC b12 h fun h => ?_
 refine kI hT hC b12 ?_
 refine kS h ?_ ?_ <;> intro b13 h
 iterate 3 refine kI hT hC b13 ?_
 refine kJ hT hC b13 h fun h => ?_
 refine kI hT hC b13 ?_
 refine kJ hT hC b13 h fun h => ?_
 iterate 3 refine kI hT hC b13 ?_
 refine Xfj hC rfl rfl rfl rfl b12 rfl rfl (b := true) b13 rfl rfl rfl trivial ?_
 refine kI hT hC b12 ?_
 refine kP hC true b12 ?_
 exact kD kM
 iterate 9 refine kF hC b13 ?_
 refine Xfj hC rfl rfl rfl rfl b12 rfl rfl (b := false) b13 rfl rfl rfl trivial ?_
 refine kI hT hC b12 ?_
 refine kP hC true b12 ?_
 exact kD kM
 iterate 7 refine kF hC b12 ?_
 iterate 9 refine Xsu hC rfl rfl rfl rfl rfl rfl ?_
 iterate 2 refine kF hC b12 ?_
 refine kP hC false b12 ?_
 exact kD kM
 refine kS h ?_ ?_ <;> intro b14 h
 refine kt b14 (Xai (Xak (Xch (Xab ?_))))
 iterate 3 refine kO hT hC ?_
 exact Vc.nil (Xc0 kG)
 exact kf b14 (Xcg (Xdk ku))
 refine Xak ?_
 refine kL [2,4,7,10] [32,64,176,208] [_,_,_,_] [_,_,_,_] ?_
 refine kA h (fun v15 => ([], [(32, some (.box [.sv (.bool q1.Begun), .sv (.int .i64 v15), .sv (.int .i64 q1.Age), .own 208, .sv (.int .i64 q1.Late), .sv (.int .i64 q1.Far), .sv (.int .i64 q1.Twice), .sv (.int .i64 q1.Over), .sv (.int .i64 q1.Lost)]))])) (fun v15 h => ?_) fun v15 h => ?_
 refine Xac ?_
 iterate 5 refine kO hT hC ?_
 refine Vc.nil ?_
 refine kS h ?_ ?_ <;> intro b15 h
 refine kt b15 (Xab ?_)
 iterate 3 refine kO hT hC ?_
 refine kQ hT hC h fun h => ?_
 refine kO hT hC ?_
 refine kQ hT hC h fun h => ?_
 iterate 2 refine kO hT hC ?_
 exact Vc.nil kM
 refine kf b15 (Xab ?_)
 iterate 4 refine kO hT hC ?_
 refine kQ hT hC h fun h => ?_
 refine kO hT hC ?_
 refine kQ hT hC h fun h => ?_
 refine kC hC [] Try.call44 h (fun _ => Xeq) fun q16 h => ?_
 iterate 2 refine kO hT hC ?_
 exact Vc.nil kM
 refine Xac ?_
 iterate 4 refine kO hT hC ?_
 refine kQ hT hC h fun h => ?_
 obtain ⟨hq, h⟩ := Xbh h
 refine Xn1 hT hC rfl rfl rfl rfl ⟨⟨hq.1, fun _ _ => rfl⟩, by rw [Xao]; exact hq.2⟩ ?_
 rw [Xao]
 iterate 2 refine kO hT hC ?_
 refine kN ?_
 iterate 2 refine kO hT hC ?_
 refine kC hC [] Try.call45 h (fun _ => Xcs) fun q17 h => ?_
 iterate 2 refine kO hT hC ?_
 refine kN ?_
 iterate 2 refine kO hT hC ?_
 refine kN ?_
 iterate 5 refine kO hT hC ?_
 refine Vc.nil (Xam ?_)
 obtain rfl := kj h
 exact Xe2 (τ := ⟨[(4, .ptr 2000000 0), (5, .own 17), (6, .sv (.int .i64 2))], [(16, some (.row Xad (([] : List Xaa) ++ ((q1.Held.drop v12.toNat).take ((q1.Held.length : Int).toNat - v12.toNat))))), (17, some (.row Xad ([] : List Xaa))), (2000000, some (.box [.sv (.bool q1.Begun), .sv (.int .i64 v15), .sv (.int .i64 0), .own 16, .sv (.int .i64 q1.Late), .sv (.int .i64 q1.Far), .sv (.int .i64 q1.Twice), .sv (.int .i64 q1.Over), .sv (.int .i64 q17)]))]⟩) (kW hC [(16, 1904), (17, 176), (2000000, 64)]) rfl ⟨rfl, rfl, trivial⟩
def Xgy (r : Xah) : AV := .agg [.sv (.bool r.Begun), .sv (.int .i64 r.Next), .sv (.int .i64 r.Age), .own 16, .sv (.int .i64 r.Late), .sv (.int .i64 r.Far), .sv (.int .i64 r.Twice), .sv (.int .i64 r.Over), .sv (.int .i64 r.Lost)]
def Xgx (r : Xah) : Xbq := [(16, .row Xad r.Held)]
theorem Xhr {p0 r} (h : Xc3 p0 = some r) : AC Try.prog 47 [.agg [.sv (.bool p0.Begun), .sv (.int .i64 p0.Next), .sv (.int .i64 p0.Age), .sv (Xad.sv p0.Held), .sv (.int .i64 p0.Late), .sv (.int .i64 p0.Far), .sv (.int .i64 p0.Twice), .sv (.int .i64 p0.Over), .sv (.int .i64 p0.Lost)]] [] (Xgy r) (Xgx r) := by
 refine Xaj hT Try.func47 rfl fun C hC => ?_
 unfold Xc3 at h
 refine Xac ?_
 iterate 2 refine kO hT hC ?_
 refine kN ?_
 iterate 3 refine kO hT hC ?_
 obtain ⟨hq, h⟩ := Xbh h
 refine Xn1 hT hC rfl rfl rfl rfl ⟨fun _ _ => rfl, by rw [Xao]; exact hq⟩ ?_
 rw [Xao]
 iterate 2 refine kO hT hC ?_
 refine kN ?_
 iterate 2 refine kO hT hC ?_
 refine Vc.nil (Xam ?_)
 obtain rfl := kj h
 exact Xe2 (τ := ⟨[(2, .ptr 2000000 0)], [(16, some (.row Xad (([] : List Xaa) ++ p0.Held))), (2000000, some (.box [.sv (.bool p0.Begun), .sv (.int .i64 p0.Next), .sv (.int .i64 p0.Age), .own 16, .sv (.int .i64 p0.Late), .sv (.int .i64 p0.Far), .sv (.int .i64 p0.Twice), .sv (.int .i64 p0.Over), .sv (.int .i64 p0.Lost)]))]⟩) (kW hC [(16, 96), (2000000, 32)]) rfl ⟨rfl, trivial⟩
def Xhu (r : Bool) : AV := .sv (.bool r)
def Xht (r : Bool) : Xbq := []
theorem Xbs {p0 r} (h : Xba p0 = some r) : AC Try.prog 54 [.sv (.int .i64 p0)] [] (Xhu r) (Xht r) := by
 refine Xaj hT Try.func54 rfl fun C hC => ?_
 unfold Xba at h
 refine Xac ?_
 refine kO hT hC ?_
 refine kN ?_
 refine kO hT hC ?_
 refine kC hC [] Try.call38 h (fun _ => Xca) fun q1 h => ?_
 refine kO hT hC ?_
 exact Vc.nil (Xam kR)
def Xjt (r : Int) : AV := .sv (.int .i64 r)
def Xjs (r : Int) : Xbq := []
theorem Xk2 {p0 p1 r} (h : Xek p0 p1 = some r) : AC Try.prog 55 [.sv (.int .i64 p0), .sv (.int .i64 p1)] [] (Xjt r) (Xjs r) := by
 refine Xaj hT Try.func55 rfl fun C hC => ?_
 unfold Xek at h
 refine Xac ?_
 refine kO hT hC ?_
 refine Vc.nil (Xb7 ?_)
 refine kL [0,1] [] [_,_] [] ?_
 refine kA h (fun v1 => ([(13, .sv (.bool v1))], [])) (fun v1 h => ?_) fun v1 h => ?_
 refine Xab ?_
 refine kO hT hC ?_
 refine kC hC [] Try.call54 h (fun _ => Xbs) fun q2 h => ?_
 iterate 2 refine kO hT hC ?_
 refine kS h ?_ ?_ <;> intro b1 h
 refine kI hT hC (kn b1) ?_
 refine kE hC (kn b1) [] Try.call54 h (fun _ => Xbs) fun q3 h => ?_
 refine kI hT hC (kn b1) ?_
 refine kP hC false (kn b1) ?_
 exact Vc.nil kM
 iterate 3 refine kF hC (kn b1) ?_
 refine kP hC true (kn b1) ?_
 exact Vc.nil kM
 refine kS h ?_ ?_ <;> intro b2 h
 refine kt b2 (Xac ?_)
 refine kO hT hC ?_
 exact Vc.nil (Xam (Xbm kR))
 refine kf b2 (Xai (Xak (Xac ?_)))
 iterate 4 refine kO hT hC ?_
 refine kQ hT hC h fun h => ?_
 refine kO hT hC ?_
 refine Vc.nil ?_
 refine kL [5] [] [_] [] ?_
 refine kA h (fun v4 => ([(5, .sv (.int .i64 v4))], [])) (fun v4 h => ?_) fun v4 h => ?_
 refine Xac ?_
 iterate 2 refine kO hT hC ?_
 refine Vc.nil ?_
 refine kS h ?_ ?_ <;> intro b3 h
 refine kt b3 (Xab ?_)
 iterate 3 refine kO hT hC ?_
 exact Vc.nil kM
 exact kf b3 (Xai kM)
 refine Xac ?_
 iterate 2 refine kO hT hC ?_
 exact Vc.nil (Xam kR)
def Xho (r : Bool) : AV := .sv (.bool r)
def Xhn (r : Bool) : Xbq := []
theorem Xif {p0 r} (h : Xdc p0 = some r) : AC Try.prog 56 [.agg [.sv (.int .i64 p0.Seq), .sv (.bool p0.First), .sv (.bool p0.Last), .sv (.str p0.Bytes)]] [] (Xho r) (Xhn r) := by
 refine Xaj hT Try.func56 rfl fun C hC => ?_
 unfold Xdc at h
 refine Xac ?_
 iterate 2 refine kO hT hC ?_
 refine Vc.nil ?_
 refine kL [1,2] [16] [_,_] [_] ?_
 refine kA h (fun v1 => ([(2, .sv (.bool v1)), (1, .any)], [(16, none)])) (fun v1 h => ?_) fun v1 h => ?_
 refine Xab ?_
 iterate 2 refine kO hT hC ?_
 refine kC hC [] Try.call54 h (fun _ => Xbs) fun q2 h => ?_
 refine kO hT hC ?_
 refine kS h ?_ ?_ <;> intro b1 h
 iterate 3 refine kI hT hC b1 ?_
 refine kE hC b1 [] Try.call38 h (fun _ => Xca) fun q3 h => ?_
 refine kP hC true b1 ?_
 refine kO hT hC ?_
 exact Vc.nil kM
 iterate 4 refine kF hC b1 ?_
 refine kP hC false b1 ?_
 refine kO hT hC ?_
 exact Vc.nil kM
 exact Xam kR
def Xd8 (r : Bool) : AV := .sv (.bool r)
def Xd7 (r : Bool) : Xbq := []
theorem Xcl {p0 r} (h : Xa1 p0 = some r) : AC Try.prog 26 [.agg [.sv (.bool p0.Begun), .sv (.int .i64 p0.Next), .sv (.int .i64 p0.Age), .sv (Xad.sv p0.Held), .sv (.int .i64 p0.Late), .sv (.int .i64 p0.Far), .sv (.int .i64 p0.Twice), .sv (.int .i64 p0.Over), .sv (.int .i64 p0.Lost)]] [] (Xd8 r) (Xd7 r) := by
 refine Xaj hT Try.func26 rfl fun C hC => ?_
 unfold Xa1 at h
 refine Xac ?_
 iterate 2 refine kO hT hC ?_
 refine Vc.nil (Xb7 (Xac ?_))
 iterate 3 refine kO hT hC ?_
 refine Vc.nil ?_
 refine kS h ?_ ?_ <;> intro b1 h
 refine kt b1 ?_
 refine kL [1,2] [16] [_,_] [_] ?_
 refine kA h (fun v1 => ([(2, .sv (.bool v1)), (1, .any)], [(16, none)])) (fun v1 h => ?_) fun v1 h => ?_
 refine Xab ?_
 iterate 4 refine kO hT hC ?_
 refine kS h ?_ ?_ <;> intro b2 h
 iterate 3 refine kI hT hC b2 ?_
 refine kP hC true b2 ?_
 refine kO hT hC ?_
 refine kS h ?_ ?_ <;> intro b3 h
 iterate 4 refine kI hT hC b3 ?_
 refine kP hC true b3 ?_
 refine kO hT hC ?_
 refine kS h ?_ ?_ <;> intro b4 h
 iterate 3 refine kI hT hC b4 ?_
 refine kP hC true b4 ?_
 refine kO hT hC ?_
 refine kS h ?_ ?_ <;> intro b5 h
 iterate 3 refine kI hT hC b5 ?_
 refine kP hC true b5 ?_
 refine kO hT hC ?_
 refine kS h ?_ ?_ <;> intro b6 h
 iterate 3 refine kI hT hC b6 ?_
 refine kP hC true b6 ?_
 refine kO hT hC ?_
 refine kS h ?_ ?_ <;> intro b7 h
 iterate 3 refine kI hT hC b7 ?_
 refine kP hC true b7 ?_
 refine kO hT hC ?_
 refine kS h ?_ ?_ <;> intro b8 h
 iterate 3 refine kI hT hC b8 ?_
 refine kP hC true b8 ?_
 refine kO hT hC ?_
 exact Vc.nil kM
 iterate 3 refine kF hC b8 ?_
 refine kP hC false b8 ?_
 refine kO hT hC ?_
 exact Vc.nil kM
 iterate 3 refine kF hC b7 ?_
 refine kP hC false b7 ?_
 refine kO hT hC ?_
 iterate 3 refine kF hC rfl ?_
 iterate 2 refine kO hT hC ?_
 exact Vc.nil kM
 iterate 3 refine kF hC b6 ?_
 refine kP hC false b6 ?_
 refine kO hT hC ?_
 iterate 3 refine kF hC rfl ?_
 iterate 2 refine kO hT hC ?_
 iterate 3 refine kF hC rfl ?_
 iterate 2 refine kO hT hC ?_
 exact Vc.nil kM
 iterate 3 refine kF hC b5 ?_
 refine kP hC false b5 ?_
 refine kO hT hC ?_
 iterate 3 refine kF hC rfl ?_
 iterate 2 refine kO hT hC ?_
 iterate 3 refine kF hC rfl ?_
 iterate 2 refine kO hT hC ?_
 iterate 3 refine kF hC rfl ?_
 iterate 2 refine kO hT hC ?_
 exact Vc.nil kM
 iterate 3 refine kF hC b4 ?_
 refine kP hC false b4 ?_
 refine kO hT hC ?_
 iterate 3 refine kF hC rfl ?_
 iterate 2 refine kO hT hC ?_
 iterate 3 refine kF hC rfl ?_
 iterate 2 refine kO hT hC ?_
 iterate 3 refine kF hC rfl ?_
 iterate 2 refine kO hT hC ?_
 iterate 3 refine kF hC rfl ?_
 iterate 2 refine kO hT hC ?_
 exact Vc.nil kM
 iterate 4 refine kF hC b3 ?_
 refine kP hC false b3 ?_
 refine kO hT hC ?_
 iterate 3 refine kF hC rfl ?_
 iterate 2 refine kO hT hC ?_
 iterate 3 refine kF hC rfl ?_
 iterate 2 refine kO hT hC ?_
 iterate 3 refine kF hC rfl ?_
 iterate 2 refine kO hT hC ?_
 iterate 3 refine kF hC rfl ?_
 iterate 2 refine kO hT hC ?_
 iterate 3 refine kF hC rfl ?_
 iterate 2 refine kO hT hC ?_
 exact Vc.nil kM
 iterate 3 refine kF hC b2 ?_
 refine kP hC false b2 ?_
 refine kO hT hC ?_
 iterate 4 refine kF hC rfl ?_
 iterate 2 refine kO hT hC ?_
 iterate 3 refine kF hC rfl ?_
 iterate 2 refine kO hT hC ?_
 iterate 3 refine kF hC rfl ?_
 iterate 2 refine kO hT hC ?_
 iterate 3 refine kF hC rfl ?_
 iterate 2 refine kO hT hC ?_
 iterate 3 refine kF hC rfl ?_
 iterate 2 refine kO hT hC ?_
 iterate 3 refine kF hC rfl ?_
 iterate 2 refine kO hT hC ?_
 exact Vc.nil kM
 exact Xam (Xbm kR)
 refine kf b1 (Xai (Xak (Xb7 ?_)))
 refine kL [1] [16] [_] [_] ?_
 refine kA h (fun v2 => ([(66, .sv (.bool v2))], [])) (fun v2 h => ?_) fun v2 h => ?_
 refine Xab ?_
 iterate 2 refine kO hT hC ?_
 refine kC hC [] Try.call54 h (fun _ => Xbs) fun q3 h => ?_
 iterate 2 refine kO hT hC ?_
 refine kS h ?_ ?_ <;> intro b9 h
 iterate 2 refine kI hT hC (kn b9) ?_
 refine kE hC (kn b9) [] Try.call38 h (fun _ => Xca) fun q4 h => ?_
 refine kI hT hC (kn b9) ?_
 refine kP hC false (kn b9) ?_
 refine kO hT hC ?_
 refine kS h ?_ ?_ <;> intro b10 h
 iterate 4 refine kI hT hC (kn b10) ?_
 refine kP hC false (kn b10) ?_
 exact Vc.nil kM
 iterate 4 refine kF hC (kn b10) ?_
 refine kP hC true (kn b10) ?_
 exact Vc.nil kM
 iterate 4 refine kF hC (kn b9) ?_
 refine kP hC true (kn b9) ?_
 refine kO hT hC ?_
 iterate 4 refine kF hC rfl ?_
 refine kO hT hC ?_
 exact Vc.nil kM
 refine kS h ?_ ?_ <;> intro b11 h
 refine kt b11 (Xac ?_)
 refine kO hT hC ?_
 exact Vc.nil (Xam (Xbm kR))
 refine kf b11 (Xai (Xak (Xac ?_)))
 refine kO hT hC ?_
 refine Vc.nil (Xb7 (Xac ?_))
 iterate 4 refine kO hT hC ?_
 refine Vc.nil ?_
 refine kL [1,3,68,69,70] [16] [_,_,_,_,_] [_] ?_
 obtain ⟨o21, hl, h⟩ := Xci h
 refine Xgn (fun v10 => ([(3, .sv (.int .i64 v10.1)), (70, .sv (.int .i64 v10.2))], [])) (fun v16 => ([(3, .any), (68, .any), (69, .any), (70, .any)], [])) (fun r => Xl2 C T Try.f26.results.toList (Xd8 r) (Xd7 r)) hl ?_ ?_ ?_ ?_
 try dsimp only
 apply Xge hC []
 exact co
 rfl
 decide
 rfl
 intro v10 s hs
 have h := hs
 unfold Xby at h
 refine Xac ?_
 refine kO hT hC ?_
 refine Vc.nil (Xb7 ?_)
 refine kS h ?_ ?_ <;> intro b18 h
 refine kt b18 (Xai (Xak (Xb7 (Xch (Xac ?_)))))
 refine kQ hT hC h fun h => ?_
 iterate 3 refine kO hT hC ?_
 refine kN ?_
 iterate 4 refine kO hT hC ?_
 refine kC hC [] Try.call55 h (fun _ => Xk2) fun q17 h => ?_
 refine kO hT hC ?_
 refine Vc.nil (Xb7 ?_)
 refine kL [1,3,5,6,68,69,70] [16,80] [_,_,_,_,_,_,_] [_,_] ?_
 refine kA h (fun v18 => ([(88, .sv (.bool v18)), (3, .any), (5, .any)], [(80, none)])) (fun v18 h => ?_) fun v18 h => ?_
 refine Xab ?_
 refine kO hT hC ?_
 refine kC hC [] Try.call56 h (fun _ => Xif) fun q19 h => ?_
 iterate 2 refine kO hT hC ?_
 refine kS h ?_ ?_ <;> intro b19 h
 iterate 3 refine kI hT hC (kn b19) ?_
 refine kE hC (kn b19) [] Try.call38 h (fun _ => Xca) fun q20 h => ?_
 refine kI hT hC (kn b19) ?_
 refine kP hC false (kn b19) ?_
 exact Vc.nil kM
 iterate 5 refine kF hC (kn b19) ?_
 refine kP hC true (kn b19) ?_
 exact Vc.nil kM
 refine kS h ?_ ?_ <;> intro b20 h
 refine kt b20 (Xac ?_)
 refine kO hT hC ?_
 refine Vc.nil (Xam (Xbm (Xkz (Xbm ?_))))
 obtain rfl := kj h
 refine Xnp (Xnk ?_)
 exact Xe2 (Xea.refl _) rfl trivial
 refine kf b20 (Xai (Xak (Xab ?_)))
 iterate 2 refine kO hT hC ?_
 refine Vc.nil (Xc0 (Xak (Xab ?_)))
 iterate 2 refine kO hT hC ?_
 exact Vc.nil kG
 exact kf b18 (Xcg (Xdk kb))
 intro v16 e
 subst e
 refine Xak (Xb7 (Xac ?_))
 iterate 13 refine kO hT hC ?_
 refine Vc.nil ?_
 refine kL [101,102,103] [1616] [_,_,_] [_] ?_
 obtain ⟨o29, hl, h⟩ := Xci h
 refine Xgn (fun v24 => ([(103, .sv (.int .i64 v24))], [])) (fun v27 => ([(101, .any), (102, .any), (103, .any)], [(1616, none)])) (fun r => Xl2 C T Try.f26.results.toList (Xd8 r) (Xd7 r)) hl ?_ ?_ ?_ ?_
 apply Xge hC []
 exact co
 rfl
 decide
 rfl
 intro v24 s hs
 have h := hs
 unfold Xbc at h
 refine Xac ?_
 refine kO hT hC ?_
 refine Vc.nil (Xb7 ?_)
 refine kS h ?_ ?_ <;> intro b25 h
 refine kt b25 (Xai (Xak (Xb7 (Xch (Xac ?_)))))
 iterate 2 refine kQ hT hC h fun h => ?_
 refine kO hT hC ?_
 refine kN ?_
 refine kO hT hC ?_
 refine kC hC [] Try.call38 h (fun _ => Xca) fun q28 h => ?_
 refine kO hT hC ?_
 refine Vc.nil ?_
 refine kS h ?_ ?_ <;> intro b26 h
 refine kt b26 (Xac ?_)
 refine kO hT hC ?_
 refine Vc.nil (Xam (Xkz (Xbm ?_)))
 obtain rfl := kj h
 refine Xnp (Xnk ?_)
 exact Xe2 (Xea.refl _) rfl trivial
 refine kf b26 (Xai (Xc0 (Xak (Xab ?_))))
 iterate 2 refine kO hT hC ?_
 exact Vc.nil kG
 exact kf b25 (Xcg (Xdk kb))
 intro v27 e
 subst e
 refine Xak (Xac ?_)
 refine kO hT hC ?_
 exact Vc.nil (Xam kR)
 intro r' σ' e hE
 subst e
 obtain rfl := kj h
 refine Xbm ?_
 exact hE
 intro r' σ' e hE
 subst e
 obtain rfl := kj h
 refine Xbm ?_
 exact hE
def Xii (r : Int) : AV := .sv (.int .i64 r)
def Xih (r : Int) : Xbq := []
theorem Xel {p0 p1 r} (h : Xcm p0 p1 = some r) : AC Try.prog 48 [.sv (.int .i64 p0), .sv (.int .i64 p1)] [] (Xii r) (Xih r) := by
 refine Xaj hT Try.func48 rfl fun C hC => ?_
 unfold Xcm at h
 refine Xac ?_
 refine kO hT hC ?_
 refine Vc.nil (Xb7 ?_)
 refine kL [0,1] [] [_,_] [] ?_
 refine kA h (fun v1 => ([(12, .sv (.bool v1))], [])) (fun v1 h => ?_) fun v1 h => ?_
 refine Xab ?_
 refine kO hT hC ?_
 refine kC hC [] Try.call54 h (fun _ => Xbs) fun q2 h => ?_
 iterate 2 refine kO hT hC ?_
 refine kS h ?_ ?_ <;> intro b1 h
 refine kI hT hC (kn b1) ?_
 refine kE hC (kn b1) [] Try.call54 h (fun _ => Xbs) fun q3 h => ?_
 refine kI hT hC (kn b1) ?_
 refine kP hC false (kn b1) ?_
 exact Vc.nil kM
 iterate 3 refine kF hC (kn b1) ?_
 refine kP hC true (kn b1) ?_
 exact Vc.nil kM
 refine kS h ?_ ?_ <;> intro b2 h
 refine kt b2 (Xac ?_)
 refine kO hT hC ?_
 exact Vc.nil (Xam (Xbm kR))
 refine kf b2 (Xai (Xak (Xac ?_)))
 iterate 3 refine kO hT hC ?_
 refine kQ hT hC h fun h => ?_
 refine kO hT hC ?_
 exact Vc.nil (Xam kR)
def Xik (r : Int) : AV := .sv (.int .i64 r)
def Xij (r : Int) : Xbq := []
theorem Xju {p0 r} (h : Xdz p0 = some r) : AC Try.prog 49 [.sv (.int .i64 p0)] [] (Xik r) (Xij r) := by
 refine Xaj hT Try.func49 rfl fun C hC => ?_
 unfold Xdz at h
 refine Xac ?_
 refine kO hT hC ?_
 refine kN ?_
 iterate 4 refine kO hT hC ?_
 exact Vc.nil (Xam kR)
def Xex (r : (Xah × (List Xaa) × Int)) : AV := .tup [.agg [.sv (.bool r.1.Begun), .sv (.int .i64 r.1.Next), .sv (.int .i64 r.1.Age), .own 16, .sv (.int .i64 r.1.Late), .sv (.int .i64 r.1.Far), .sv (.int .i64 r.1.Twice), .sv (.int .i64 r.1.Over), .sv (.int .i64 r.1.Lost)], .own 17, .sv (.int .i64 r.2.2)]
def Xew (r : (Xah × (List Xaa) × Int)) : Xbq := [(16, .row Xad r.1.Held), (17, .row Xad r.2.1)]
theorem Xhp {p0 p1 r} (h : Xc2 p0 p1 = some r) : AC Try.prog 18 [.agg [.sv (.bool p0.Begun), .sv (.int .i64 p0.Next), .sv (.int .i64 p0.Age), .sv (Xad.sv p0.Held), .sv (.int .i64 p0.Late), .sv (.int .i64 p0.Far), .sv (.int .i64 p0.Twice), .sv (.int .i64 p0.Over), .sv (.int .i64 p0.Lost)], .sv (.int .i64 p1)] [] (Xex r) (Xew r) := by
 refine Xaj hT Try.func18 rfl fun C hC => ?_
 unfold Xc2 at h
 refine Xac ?_
 iterate 4 refine kO hT hC ?_
 refine kN ?_
 refine kO hT hC ?_
 refine kC hC [(16, 240)] Try.call47 h (fun _ => Xhr) fun q1 h => ?_
 iterate 2 refine kO hT hC ?_
 refine kN ?_
 iterate 2 refine kO hT hC ?_
 refine Vc.nil (Xb7 ?_)
 refine kL [1,2,4,7,8] [32,64,112,240,256] [_,_,_,_,_] [_,_,_,_,_] ?_
 refine kA h (fun v2 => ([(24, .sv (.bool v2))], [])) (fun v2 h => ?_) fun v2 h => ?_
 refine Xab ?_
 refine kO hT hC ?_
 refine kC hC [] Try.call26 h (fun _ => Xcl) fun q3 h => ?_
 iterate 2 refine kO hT hC ?_
 refine kS h ?_ ?_ <;> intro b1 h
 refine kI hT hC (kn b1) ?_
 refine kE hC (kn b1) [] Try.call38 h (fun _ => Xca) fun q4 h => ?_
 refine kI hT hC (kn b1) ?_
 refine kP hC false (kn b1) ?_
 exact Vc.nil kM
 iterate 3 refine kF hC (kn b1) ?_
 refine kP hC true (kn b1) ?_
 exact Vc.nil kM
 refine kS h ?_ ?_ <;> intro b2 h
 refine kt b2 (Xac ?_)
 iterate 5 refine kO hT hC ?_
 refine Vc.nil (Xam (Xbm ?_))
 obtain rfl := kj h
 exact Xe2 (τ := ⟨[(4, .ptr 2000000 0), (5, .own 17), (6, .sv (.int .i64 0))], [(16, some (.row Xad q1.Held)), (17, some (.row Xad ([] : List Xaa))), (2000000, some (.box [.sv (.bool q1.Begun), .sv (.int .i64 q1.Next), .sv (.int .i64 q1.Age), .own 16, .sv (.int .i64 q1.Late), .sv (.int .i64 q1.Far), .sv (.int .i64 q1.Twice), .sv (.int .i64 q1.Over), .sv (.int .i64 q1.Lost)]))]⟩) (kW hC [(16, 240), (17, 256), (2000000, 64)]) rfl ⟨rfl, rfl, trivial⟩
 refine kf b2 (Xai (Xak (Xb7 (Xac ?_))))
 iterate 4 refine kO hT hC ?_
 refine Vc.nil ?_
 refine kL [1,2,4,7,8,28,29,30] [32,64,112,240,256] [_,_,_,_,_,_,_,_] [_,_,_,_,_] ?_
 obtain ⟨o15, hl, h⟩ := Xci h
 refine Xgn (fun v8 => ([(30, .sv (.int .i64 v8))], [])) (fun v12 => ([(28, .any), (29, .any), (30, .any)], [])) (fun r => Xl2 C T Try.f18.results.toList (Xex r) (Xew r)) hl ?_ ?_ ?_ ?_
 apply Xge hC []
 exact co
 rfl
 decide
 rfl
 intro v8 s hs
 have h := hs
 unfold Xa4 at h
 refine Xac ?_
 refine kO hT hC ?_
 refine Vc.nil (Xb7 ?_)
 refine kS h ?_ ?_ <;> intro b9 h
 refine kt b9 (Xai (Xak (Xb7 (Xch (Xac ?_)))))
 refine kO hT hC ?_
 iterate 2 refine kQ hT hC h fun h => ?_
 iterate 3 refine kO hT hC ?_
 refine Vc.nil (Xb7 ?_)
 refine Xkd hm ?_
 iterate 5 refine kO hT hC ?_
 refine kC hC [] Try.call48 h (fun _ => Xel) fun q13 h => ?_
 refine kO hT hC ?_
 refine kD ?_
 refine kS h ?_ ?_ <;> intro b10 h
 refine kt b10 (Xcg (Xdk ?_))
 refine Xqi rfl ?_
 exact Xdk kb
 refine kf b10 (Xai (Xak (Xac ?_)))
 iterate 2 refine kO hT hC ?_
 refine Vc.nil ?_
 refine kS h ?_ ?_ <;> intro b11 h
 refine kt b11 (Xac ?_)
 iterate 5 refine kO hT hC ?_
 refine kQ hT hC h fun h => ?_
 obtain ⟨hq, h⟩ := Xbh h
 refine Xn1 hT hC rfl rfl rfl rfl ⟨⟨hq.1, fun _ _ => rfl⟩, by rw [Xao]; exact hq.2⟩ ?_
 rw [Xao]
 refine kO hT hC ?_
 refine kN ?_
 iterate 5 refine kO hT hC ?_
 refine kQ hT hC h fun h => ?_
 obtain ⟨hq, h⟩ := Xbh h
 refine Xn1 hT hC rfl rfl rfl rfl ⟨⟨hq.1, fun _ _ => rfl⟩, by rw [Xao]; exact hq.2⟩ ?_
 rw [Xao]
 iterate 2 refine kO hT hC ?_
 refine kN ?_
 iterate 2 refine kO hT hC ?_
 refine kC hC [] Try.call48 h (fun _ => Xel) fun q14 h => ?_
 iterate 2 refine kO hT hC ?_
 refine kN ?_
 iterate 2 refine kO hT hC ?_
 refine kN ?_
 iterate 5 refine kO hT hC ?_
 refine Vc.nil (Xam (Xkz (Xbm ?_)))
 obtain rfl := kj h
 refine Xnp (Xnk ?_)
 refine Xe2 (τ := ⟨[(4, .ptr 2000000 0), (5, .own 17), (6, .sv (.int .i64 1))], [(16, some (.row Xad (([] : List Xaa) ++ ((q1.Held.drop ((Xag .i64 (v8 + 1)).toNat)).take ((q1.Held.length : Int).toNat - (Xag .i64 (v8 + 1)).toNat))))), (17, some (.row Xad (([] : List Xaa) ++ ((q1.Held.drop ((0 : Int).toNat)).take ((Xag .i64 (v8 + 1)).toNat - (0 : Int).toNat))))), (2000000, some (.box [.sv (.bool q1.Begun), .sv (.int .i64 q14), .sv (.int .i64 0), .own 16, .sv (.int .i64 q1.Late), .sv (.int .i64 q1.Far), .sv (.int .i64 q1.Twice), .sv (.int .i64 q1.Over), .sv (.int .i64 q1.Lost)]))]⟩) ?_ rfl ⟨rfl, rfl, trivial⟩
 apply Xge hC [(16, 912), (17, 800), (2000000, 64)]
 exact co
 rfl
 decide
 rfl
 refine kf b11 (Xai (Xc0 (Xak (Xab ?_))))
 iterate 2 refine kO hT hC ?_
 exact Vc.nil kG
 exact kf b9 (Xcg (Xdk kb))
 intro v12 e
 subst e
 refine Xak (Xb7 (Xch (Xac ?_)))
 iterate 5 refine kO hT hC ?_
 refine Vc.nil ?_
 refine kS h ?_ ?_ <;> intro b12 h
 refine kt b12 (Xac ?_)
 iterate 2 refine kO hT hC ?_
 refine kN ?_
 iterate 5 refine kO hT hC ?_
 refine Vc.nil (Xam (Xkz (Xbm ?_)))
 obtain rfl := kj h
 exact Xe2 (τ := ⟨[(4, .ptr 2000000 0), (5, .own 17), (6, .sv (.int .i64 0))], [(16, some (.row Xad q1.Held)), (17, some (.row Xad ([] : List Xaa))), (2000000, some (.box [.sv (.bool q1.Begun), .sv (.int .i64 q1.Next), .sv (.int .i64 0), .own 16, .sv (.int .i64 q1.Late), .sv (.int .i64 q1.Far), .sv (.int .i64 q1.Twice), .sv (.int .i64 q1.Over), .sv (.int .i64 q1.Lost)]))]⟩) (kW hC [(16, 240), (17, 256), (2000000, 64)]) rfl ⟨rfl, rfl, trivial⟩
 refine kf b12 (Xac ?_)
 iterate 5 refine kO hT hC ?_
 refine Vc.nil ?_
 refine kS h ?_ ?_ <;> intro b13 h
 refine kt b13 (Xac ?_)
 iterate 5 refine kO hT hC ?_
 refine kN ?_
 iterate 5 refine kO hT hC ?_
 refine Vc.nil (Xam (Xkz (Xbm ?_)))
 obtain rfl := kj h
 exact Xe2 (τ := ⟨[(4, .ptr 2000000 0), (5, .own 17), (6, .sv (.int .i64 0))], [(16, some (.row Xad q1.Held)), (17, some (.row Xad ([] : List Xaa))), (2000000, some (.box [.sv (.bool q1.Begun), .sv (.int .i64 q1.Next), .sv (.int .i64 (Xag .i64 (q1.Age + 1))), .own 16, .sv (.int .i64 q1.Late), .sv (.int .i64 q1.Far), .sv (.int .i64 q1.Twice), .sv (.int .i64 q1.Over), .sv (.int .i64 q1.Lost)]))]⟩) (kW hC [(16, 240), (17, 256), (2000000, 64)]) rfl ⟨rfl, rfl, trivial⟩
 refine kf b13 (Xai (Xc0 (Xak (Xac ?_))))
 iterate 2 refine kO hT hC ?_
 refine kC hC [] Try.call49 h (fun _ => Xju) fun q16 h => ?_
 iterate 2 refine kO hT hC ?_
 refine kN ?_
 iterate 2 refine kO hT hC ?_
 refine kN ?_
 iterate 6 refine kO hT hC ?_
 refine kQ hT hC h fun h => ?_
 iterate 2 refine kO hT hC ?_
 refine kC hC [] Try.call48 h (fun _ => Xel) fun q17 h => ?_
 iterate 2 refine kO hT hC ?_
 refine kN ?_
 iterate 3 refine kO hT hC ?_
 refine Vc.nil (Xb7 (Xac ?_))
 iterate 4 refine kO hT hC ?_
 refine Vc.nil ?_
 refine kL [2,4,7,8,105,106,107] [32,64,112,256] [_,_,_,_,_,_,_] [_,_,_,_] ?_
 refine kX h (fun v20 => ([(107, .sv (.int .i64 v20))], [])) (fun v23 => ([(2, .any), (8, .any), (105, .any), (106, .any), (107, .any)], [(112, some (.box [.sv (.bool q1.Begun), .sv (.int .i64 v23.1), .sv (.int .i64 0), .own 256, .sv (.int .i64 q1.Late), .sv (.int .i64 q1.Far), .sv (.int .i64 q1.Twice), .sv (.int .i64 q1.Over), .sv (.int .i64 q16)])), (256, some (.row Xad v23.2)), (32, none)])) (kW hC []) (fun v20 s h => ?_) fun v23 h => ?_
 unfold Xa5 at h
 refine Xac ?_
 refine kO hT hC ?_
 refine Vc.nil (Xb7 ?_)
 refine kS h ?_ ?_ <;> intro b20 h
 refine kt b20 (Xai (Xak (Xb7 (Xch (Xac ?_)))))
 refine kO hT hC ?_
 refine kQ hT hC h fun h => ?_
 iterate 4 refine kO hT hC ?_
 refine Vc.nil ?_
 refine kL [2,4,7,8,12,13,105,106,107] [32,64,112,208,256] [_,_,_,_,_,_,_,_,_] [_,_,_,_,_] ?_
 refine kA h (fun v24 => ([(120, .sv (.bool v24))], [])) (fun v24 h => ?_) fun v24 h => ?_
 refine Xab ?_
 iterate 3 refine kO hT hC ?_
 refine kS h ?_ ?_ <;> intro b21 h
 iterate 5 refine kI hT hC b21 ?_
 refine kP hC true b21 ?_
 exact Vc.nil kM
 iterate 5 refine kF hC b21 ?_
 refine kP hC false b21 ?_
 exact Vc.nil kM
 refine kS h ?_ ?_ <;> intro b22 h
 refine kt b22 (Xac ?_)
 iterate 4 refine kO hT hC ?_
 refine kN ?_
 iterate 4 refine kO hT hC ?_
 refine kQ hT hC h fun h => ?_
 obtain ⟨hq, h⟩ := Xbh h
 refine Xn1 hT hC rfl rfl rfl rfl ⟨fun _ _ => rfl, by rw [Xao]; exact hq⟩ ?_
 rw [Xao]
 iterate 2 refine kO hT hC ?_
 refine Vc.nil (Xcg ?_)
 refine Xqi rfl ?_
 refine Xdk ?_
 obtain rfl := kj h
 exact Xpg (Xs9 (kW hC [(256, 2064)]))
 refine kf b22 (Xai (Xc0 (Xak (Xab ?_))))
 iterate 2 refine kO hT hC ?_
 exact Vc.nil kG
 exact kf b20 (Xcg (Xdk ku))
 refine Xak (Xac ?_)
 iterate 5 refine kO hT hC ?_
 refine Vc.nil (Xam ?_)
 obtain rfl := kj h
 exact Xe2 (τ := ⟨[(4, .ptr 2000000 0), (5, .own 17), (6, .sv (.int .i64 2))], [(16, some (.row Xad v23.2)), (17, some (.row Xad ([] : List Xaa))), (2000000, some (.box [.sv (.bool q1.Begun), .sv (.int .i64 v23.1), .sv (.int .i64 0), .own 16, .sv (.int .i64 q1.Late), .sv (.int .i64 q1.Far), .sv (.int .i64 q1.Twice), .sv (.int .i64 q1.Over), .sv (.int .i64 q16)]))]⟩) (kW hC [(16, 256), (17, 2128), (2000000, 64)]) rfl ⟨rfl, rfl, trivial⟩
 intro r' σ' e hE
 subst e
 obtain rfl := kj h
 refine Xbm ?_
 exact hE
def Xiy (r : (Bool × Xas)) : AV := .sv (.bool r.1)
def Xix (r : (Bool × Xas)) : Xbq := [(0, .box [.sv (.ints .u8 r.2.b_), .sv (.int .i64 r.2.i_), .sv (.int .i64 r.2.h_)])]
theorem Xb2 {p0 p1 r} (h : Xbk p0 p1 = some r) : AC Try.prog 66 [.ptr 0 0, .sv (.int .i64 p1)] [(0, .box [.sv (.ints .u8 p0.b_), .sv (.int .i64 p0.i_), .sv (.int .i64 p0.h_)])] (Xiy r) (Xix r) := by
 refine Xaj hT Try.func66 rfl fun C hC => ?_
 unfold Xbk at h
 refine Xac ?_
 refine kO hT hC ?_
 refine kN ?_
 iterate 2 refine kO hT hC ?_
 refine kC hC [(0, 0)] Try.call35 h (fun _ => Xaw) fun q1 h => ?_
 iterate 2 refine kO hT hC ?_
 refine Vc.nil (Xam ?_)
 obtain rfl := kj h
 exact Xe2 (Xea.refl _) rfl ⟨rfl, trivial⟩
def Xgr (r : (Int × Xas)) : AV := .sv (.int .i64 r.1)
def Xgq (r : (Int × Xas)) : Xbq := [(0, .box [.sv (.ints .u8 r.2.b_), .sv (.int .i64 r.2.i_), .sv (.int .i64 r.2.h_)])]
theorem Xe0 {p0 p1 r} (h : Xbp p0 p1 = some r) : AC Try.prog 67 [.ptr 0 0, .sv (.ints .i64 p1)] [(0, .box [.sv (.ints .u8 p0.b_), .sv (.int .i64 p0.i_), .sv (.int .i64 p0.h_)])] (Xgr r) (Xgq r) := by
 refine Xaj hT Try.func67 rfl fun C hC => ?_
 unfold Xbp at h
 refine Xac ?_
 refine kO hT hC ?_
 refine kN ?_
 iterate 4 refine kO hT hC ?_
 refine kC hC [(0, 0)] Try.call35 h (fun _ => Xaw) fun q1 h => ?_
 refine kQ hT hC h fun h => ?_
 iterate 2 refine kO hT hC ?_
 refine Vc.nil (Xam ?_)
 obtain rfl := kj h
 exact Xe2 (Xea.refl _) rfl ⟨rfl, trivial⟩
def Xkr (r : (Int × Xas)) : AV := .sv (.int .i64 r.1)
def Xkq (r : (Int × Xas)) : Xbq := [(0, .box [.sv (.ints .u8 r.2.b_), .sv (.int .i64 r.2.i_), .sv (.int .i64 r.2.h_)])]
theorem Xlc {p0 r} (h : Xes p0 = some r) : AC Try.prog 65 [.ptr 0 0] [(0, .box [.sv (.ints .u8 p0.b_), .sv (.int .i64 p0.i_), .sv (.int .i64 p0.h_)])] (Xkr r) (Xkq r) := by
 refine Xaj hT Try.func65 rfl fun C hC => ?_
 unfold Xes at h
 refine Xac ?_
 refine kO hT hC ?_
 refine Vc.nil (Xb7 (Xac ?_))
 refine kO hT hC ?_
 refine kC hC [(0, 0)] Try.call66 h (fun _ => Xb2) fun q1 h => ?_
 refine Vc.nil ?_
 refine kS h ?_ ?_ <;> intro b1 h
 refine kt b1 (Xac ?_)
 refine kO hT hC ?_
 refine Xsv hT hC rfl rfl rfl rfl trivial rfl ?_
 refine kC hC [(0, 0)] Try.call67 h (fun _ => Xe0) fun q2 h => ?_
 refine kO hT hC ?_
 refine Vc.nil (Xam (Xbm ?_))
 obtain rfl := kj h
 exact Xe2 (Xea.refl _) rfl ⟨rfl, trivial⟩
 refine kf b1 (Xai (Xak (Xac ?_)))
 refine kO hT hC ?_
 refine kC hC [(0, 0)] Try.call35 h (fun _ => Xaw) fun q3 h => ?_
 refine kO hT hC ?_
 refine Vc.nil (Xam ?_)
 obtain rfl := kj h
 exact Xe2 (Xea.refl _) rfl ⟨rfl, trivial⟩
def Xi0 (r : (ByteArray × Xas)) : AV := .sv (.str r.1)
def Xiz (r : (ByteArray × Xas)) : Xbq := [(0, .box [.sv (.ints .u8 r.2.b_), .sv (.int .i64 r.2.i_), .sv (.int .i64 r.2.h_)])]
theorem Xko {p0 p1 r} (h : Xd3 p0 p1 = some r) : AC Try.prog 68 [.ptr 0 0, .sv (.int .i64 p1)] [(0, .box [.sv (.ints .u8 p0.b_), .sv (.int .i64 p0.i_), .sv (.int .i64 p0.h_)])] (Xi0 r) (Xiz r) := by
 refine Xaj hT Try.func68 rfl fun C hC => ?_
 unfold Xd3 at h
 refine Xac ?_
 refine kO hT hC ?_
 refine Vc.nil ?_
 refine kL [0,1] [0] [_,_] [_] ?_
 refine kA h (fun v1 => ([(1, .sv (.int .i64 v1))], [])) (fun v1 h => ?_) fun v1 h => ?_
 refine Xac ?_
 iterate 2 refine kO hT hC ?_
 refine Vc.nil ?_
 refine kS h ?_ ?_ <;> intro b1 h
 refine kt b1 (Xab ?_)
 refine kO hT hC ?_
 exact Vc.nil kM
 exact kf b1 (Xai kM)
 refine Xac ?_
 iterate 2 refine kO hT hC ?_
 refine Vc.nil (Xb7 (Xac ?_))
 refine kO hT hC ?_
 refine Vc.nil ?_
 refine kL [0,1,5,6] [0,144] [_,_,_,_] [_,_] ?_
 refine kX h (fun v4 => ([(6, .sv (.int .i64 v4.1))], [(0, some (.box [.sv (.ints .u8 v4.2.1), .sv (.int .i64 v4.2.2.1), .sv (.int .i64 v4.2.2.2.1)])), (144, some (.ints .u8 v4.2.2.2.2))])) (fun v7 => ([(0, .any), (1, .any), (6, .any)], [(0, some (.box [.sv (.ints .u8 v7.2.1), .sv (.int .i64 v7.2.2.1), .sv (.int .i64 v7.2.2.2)])), (144, some (.ints .u8 v7.1))])) (kW hC []) (fun v4 s h => ?_) fun v7 h => ?_
 unfold Xdh at h
 refine Xb7 (Xac ?_)
 iterate 3 refine kO hT hC ?_
 refine Vc.nil ?_
 refine kS h ?_ ?_ <;> intro b4 h
 refine kt b4 (Xai (Xak (Xb7 (Xch (Xab ?_)))))
 iterate 2 refine kO hT hC ?_
 refine kC hC [(0, 0)] Try.call36 h (fun _ => Xbo) fun q8 h => ?_
 iterate 2 refine kO hT hC ?_
 refine kT hT hC h fun h => ?_
 refine kO hT hC ?_
 refine Vc.nil (Xc0 (Xak (Xab ?_)))
 iterate 3 refine kO hT hC ?_
 refine Vc.nil ?_
 obtain rfl := kj h
 exact Xta (kW hC [(144, 320)])
 exact kf b4 (Xcg (Xdk ku))
 refine Xak (Xac ?_)
 iterate 3 refine kO hT hC ?_
 refine Vc.nil (Xam ?_)
 obtain rfl := kj h
 exact Xe2 (Xea.refl _) rfl ⟨rfl, trivial⟩
def Xhb (r : (Xaa × Xas)) : AV := .agg [.sv (.int .i64 r.1.Seq), .sv (.bool r.1.First), .sv (.bool r.1.Last), .sv (.str r.1.Bytes)]
def Xha (r : (Xaa × Xas)) : Xbq := [(0, .box [.sv (.ints .u8 r.2.b_), .sv (.int .i64 r.2.i_), .sv (.int .i64 r.2.h_)])]
theorem Xfe {p0 p1 r} (h : Xcf p0 p1 = some r) : AC Try.prog 53 [.ptr 0 0, .sv (.int .i64 p1)] [(0, .box [.sv (.ints .u8 p0.b_), .sv (.int .i64 p0.i_), .sv (.int .i64 p0.h_)])] (Xhb r) (Xha r) := by
 refine Xaj hT Try.func53 rfl fun C hC => ?_
 unfold Xcf at h
 refine Xac ?_
 refine kO hT hC ?_
 refine kN ?_
 refine kO hT hC ?_
 refine kC hC [(0, 0)] Try.call35 h (fun _ => Xaw) fun q1 h => ?_
 iterate 2 refine kO hT hC ?_
 refine Vc.nil ?_
 refine kL [0,1,4,5] [0,64] [_,_,_,_] [_,_] ?_
 refine kA h (fun v2 => ([(5, .sv (.int .i64 v2.1))], [(0, some (.box [.sv (.ints .u8 v2.2.1), .sv (.int .i64 v2.2.2.1), .sv (.int .i64 v2.2.2.2)]))])) (fun v2 h => ?_) fun v2 h => ?_
 refine Xac ?_
 refine kO hT hC ?_
 refine kC hC [(0, 0)] Try.call35 h (fun _ => Xaw) fun q3 h => ?_
 refine Vc.nil (Xch (Xac ?_))
 iterate 2 refine kO hT hC ?_
 refine Vc.nil ?_
 refine kS h ?_ ?_ <;> intro b1 h
 refine kt b1 (Xab ?_)
 refine kO hT hC ?_
 refine kC hC [(0, 0)] Try.call35 h (fun _ => Xaw) fun q4 h => ?_
 iterate 2 refine kO hT hC ?_
 exact Vc.nil (Xc0 kM)
 refine kf b1 (Xac ?_)
 iterate 2 refine kO hT hC ?_
 refine Vc.nil ?_
 refine kS h ?_ ?_ <;> intro b2 h
 refine kt b2 (Xab ?_)
 refine kO hT hC ?_
 refine Xsv hT hC rfl rfl rfl rfl trivial rfl ?_
 refine kC hC [(0, 0)] Try.call67 h (fun _ => Xe0) fun q5 h => ?_
 refine kO hT hC ?_
 exact Vc.nil (Xc0 kM)
 exact kf b2 (Xai (Xc0 kM))
 refine Xac ?_
 iterate 4 refine kO hT hC ?_
 refine kQ hT hC h fun h => ?_
 refine kO hT hC ?_
 refine kC hC [(0, 0)] Try.call66 h (fun _ => Xb2) fun q6 h => ?_
 refine kO hT hC ?_
 refine kC hC [(0, 0)] Try.call66 h (fun _ => Xb2) fun q7 h => ?_
 iterate 2 refine kO hT hC ?_
 refine kC hC [(0, 0)] Try.call35 h (fun _ => Xaw) fun q8 h => ?_
 refine kO hT hC ?_
 refine kC hC [(0, 0)] Try.call68 h (fun _ => Xko) fun q9 h => ?_
 iterate 3 refine kO hT hC ?_
 refine kN ?_
 iterate 2 refine kO hT hC ?_
 refine Vc.nil (Xam ?_)
 obtain rfl := kj h
 exact Xe2 (Xea.refl _) rfl ⟨rfl, trivial⟩
def Xfd (r : Bool) : AV := .sv (.bool r)
def Xfc (r : Bool) : Xbq := []
theorem Xip {p0 p1 r} (h : Xdg p0 p1 = some r) : AC Try.prog 59 [.agg [.sv (.bool p0.Begun), .sv (.int .i64 p0.Next), .sv (.int .i64 p0.Age), .sv (Xad.sv p0.Held), .sv (.int .i64 p0.Late), .sv (.int .i64 p0.Far), .sv (.int .i64 p0.Twice), .sv (.int .i64 p0.Over), .sv (.int .i64 p0.Lost)], .sv (.int .i64 p1)] [] (Xfd r) (Xfc r) := by
 refine Xaj hT Try.func59 rfl fun C hC => ?_
 unfold Xdg at h
 refine Xac ?_
 iterate 2 refine kO hT hC ?_
 refine Vc.nil (Xb7 (Xac ?_))
 refine kO hT hC ?_
 refine kC hC [] Try.call41 h (fun _ => Xeo) fun q1 h => ?_
 refine kO hT hC ?_
 refine Vc.nil ?_
 refine kS h ?_ ?_ <;> intro b1 h
 refine kt b1 (Xac ?_)
 refine kO hT hC ?_
 exact Vc.nil (Xam (Xbm kR))
 refine kf b1 (Xai (Xak (Xb7 (Xac ?_))))
 refine kO hT hC ?_
 refine Vc.nil ?_
 refine kL [1,2,5] [32] [_,_,_] [_] ?_
 obtain ⟨o6, hl, h⟩ := Xci h
 refine Xgn (fun v3 => ([(5, .sv (.int .i64 v3))], [])) (fun v5 => ([(1, .any), (2, .any), (5, .any)], [(32, none)])) (fun r => Xl2 C T Try.f59.results.toList (Xfd r) (Xfc r)) hl ?_ ?_ ?_ ?_
 apply Xge hC []
 exact co
 rfl
 decide
 rfl
 intro v3 s hs
 have h := hs
 unfold Xb8 at h
 refine Xb7 (Xac ?_)
 iterate 5 refine kO hT hC ?_
 refine Vc.nil ?_
 refine kS h ?_ ?_ <;> intro b6 h
 refine kt b6 (Xai (Xak (Xb7 (Xch (Xac ?_)))))
 iterate 3 refine kO hT hC ?_
 refine kQ hT hC h fun h => ?_
 iterate 4 refine kO hT hC ?_
 refine Vc.nil ?_
 refine kS h ?_ ?_ <;> intro b7 h
 refine kt b7 (Xac ?_)
 refine kO hT hC ?_
 refine Vc.nil (Xam (Xkz (Xbm ?_)))
 obtain rfl := kj h
 refine Xnp (Xnk ?_)
 exact Xe2 (Xea.refl _) rfl trivial
 refine kf b7 (Xai (Xc0 (Xak (Xab ?_))))
 iterate 3 refine kO hT hC ?_
 exact Vc.nil kG
 exact kf b6 (Xcg (Xdk kb))
 intro v5 e
 subst e
 refine Xak (Xac ?_)
 refine kO hT hC ?_
 exact Vc.nil (Xam kR)
 intro r' σ' e hE
 subst e
 obtain rfl := kj h
 refine Xbm ?_
 exact hE
def Xkt (r : Xah) : AV := .agg [.sv (.bool r.Begun), .sv (.int .i64 r.Next), .sv (.int .i64 r.Age), .own 16, .sv (.int .i64 r.Late), .sv (.int .i64 r.Far), .sv (.int .i64 r.Twice), .sv (.int .i64 r.Over), .sv (.int .i64 r.Lost)]
def Xks (r : Xah) : Xbq := [(16, .row Xad r.Held)]
theorem Xgb {p0 p1 r} (h : Xds p0 p1 = some r) : AC Try.prog 60 [.agg [.sv (.bool p0.Begun), .sv (.int .i64 p0.Next), .sv (.int .i64 p0.Age), .sv (Xad.sv p0.Held), .sv (.int .i64 p0.Late), .sv (.int .i64 p0.Far), .sv (.int .i64 p0.Twice), .sv (.int .i64 p0.Over), .sv (.int .i64 p0.Lost)], .agg [.sv (.int .i64 p1.Seq), .sv (.bool p1.First), .sv (.bool p1.Last), .sv (.str p1.Bytes)]] [] (Xkt r) (Xks r) := by
 refine Xaj hT Try.func60 rfl fun C hC => ?_
 unfold Xds at h
 refine Xac ?_
 iterate 3 refine kO hT hC ?_
 refine kN ?_
 iterate 4 refine kO hT hC ?_
 refine kC hC [] Try.call58 h (fun _ => Xcd) fun q1 h => ?_
 refine kO hT hC ?_
 refine kN ?_
 iterate 2 refine kO hT hC ?_
 refine kN ?_
 refine kO hT hC ?_
 refine Vc.nil (Xb7 (Xac ?_))
 refine kO hT hC ?_
 refine Vc.nil ?_
 refine kL [2,3,4,5,6,7,8] [32,48,64,224] [_,_,_,_,_,_,_] [_,_,_,_] ?_
 refine kX h (fun v5 => ([(7, .sv (.bool v5.1)), (8, .sv (.int .i64 v5.2.1))], [(224, some (.row Xad v5.2.2))])) (fun v10 => ([(7, .sv (.bool v10.1)), (5, .any), (8, .any)], [(224, some (.row Xad v10.2))])) (kW hC []) (fun v5 s h => ?_) fun v10 h => ?_
 unfold Xbl at h
 refine Xb7 (Xac ?_)
 iterate 5 refine kO hT hC ?_
 refine Vc.nil ?_
 refine kS h ?_ ?_ <;> intro b6 h
 refine kt b6 (Xai (Xak (Xb7 (Xch ?_))))
 refine kL [2,3,4,5,6,7,8] [32,48,64,224] [_,_,_,_,_,_,_] [_,_,_,_] ?_
 refine kA h (fun v11 => ([(7, .sv (.bool v11.1))], [(224, some (.row Xad v11.2))])) (fun v11 h => ?_) fun v11 h => ?_
 refine kL [2,3,4,5,6,7,8] [32,48,64,224] [_,_,_,_,_,_,_] [_,_,_,_] ?_
 refine kA h (fun v12 => ([(36, .sv (.bool v12))], [])) (fun v12 h => ?_) fun v12 h => ?_
 refine Xl7 hm ?_
 iterate 3 refine kO hT hC ?_
 refine kS h ?_ ?_ <;> intro b7 h
 iterate 11 refine kF hC (kn b7) ?_
 refine kP hC false (kn b7) ?_
 exact kD kM
 iterate 5 refine kI hT hC (kn b7) ?_
 refine kJ hT hC (kn b7) h fun h => ?_
 iterate 2 refine kI hT hC (kn b7) ?_
 refine kE hC (kn b7) [] Try.call58 h (fun _ => Xcd) fun q13 h => ?_
 iterate 2 refine kI hT hC (kn b7) ?_
 refine kP hC true (kn b7) ?_
 exact kD kM
 refine kS h ?_ ?_ <;> intro b8 h
 refine kt b8 (Xac ?_)
 iterate 3 refine kO hT hC ?_
 obtain ⟨hq, h⟩ := Xbh h
 refine Xn1 hT hC rfl rfl rfl rfl ⟨fun _ _ => rfl, by rw [Xao]; exact hq⟩ ?_
 rw [Xao]
 refine kO hT hC ?_
 refine Vc.nil (Xab ?_)
 refine kO hT hC ?_
 refine Vc.nil ?_
 obtain rfl := kj h
 exact Xjz (kW hC [(224, 640)])
 exact kf b8 (Xai kM)
 refine Xab ?_
 iterate 4 refine kO hT hC ?_
 refine kQ hT hC h fun h => ?_
 iterate 2 refine kO hT hC ?_
 obtain ⟨hq, h⟩ := Xbh h
 refine Xn1 hT hC rfl rfl rfl rfl ⟨fun _ _ => rfl, by rw [Xao]; exact hq⟩ ?_
 rw [Xao]
 refine kO hT hC ?_
 refine Vc.nil (Xc0 (Xak (Xab ?_)))
 iterate 3 refine kO hT hC ?_
 refine Vc.nil ?_
 obtain rfl := kj h
 exact Xta (kW hC [(224, 768)])
 exact kf b6 (Xcg (Xdk ku))
 refine Xak ?_
 refine kL [2,3,4,6,7] [32,48,64,224] [_,_,_,_,_] [_,_,_,_] ?_
 refine kA h (fun v15 => ([(3, .any), (7, .any)], [(224, some (.row Xad v15)), (48, none)])) (fun v15 h => ?_) fun v15 h => ?_
 refine Xac ?_
 iterate 2 refine kO hT hC ?_
 refine Vc.nil ?_
 refine kS h ?_ ?_ <;> intro b9 h
 refine kt b9 (Xab ?_)
 iterate 3 refine kO hT hC ?_
 obtain ⟨hq, h⟩ := Xbh h
 refine Xn1 hT hC rfl rfl rfl rfl ⟨fun _ _ => rfl, by rw [Xao]; exact hq⟩ ?_
 rw [Xao]
 refine kO hT hC ?_
 refine Vc.nil ?_
 obtain rfl := kj h
 exact Xjz (kW hC [(224, 864)])
 exact kf b9 (Xai kM)
 refine Xac ?_
 iterate 3 refine kO hT hC ?_
 refine kN ?_
 iterate 2 refine kO hT hC ?_
 refine Vc.nil (Xam ?_)
 obtain rfl := kj h
 exact Xe2 (τ := ⟨[(4, .ptr 2000000 0)], [(16, some (.row Xad v15)), (2000000, some (.box [.sv (.bool p0.Begun), .sv (.int .i64 p0.Next), .sv (.int .i64 p0.Age), .own 16, .sv (.int .i64 p0.Late), .sv (.int .i64 p0.Far), .sv (.int .i64 p0.Twice), .sv (.int .i64 p0.Over), .sv (.int .i64 p0.Lost)]))]⟩) (kW hC [(16, 224), (2000000, 64)]) rfl ⟨rfl, trivial⟩
def Xis (r : (Xah × Int)) : AV := .tup [.agg [.sv (.bool r.1.Begun), .sv (.int .i64 r.1.Next), .sv (.int .i64 r.1.Age), .own 16, .sv (.int .i64 r.1.Late), .sv (.int .i64 r.1.Far), .sv (.int .i64 r.1.Twice), .sv (.int .i64 r.1.Over), .sv (.int .i64 r.1.Lost)], .sv (.int .i64 r.2)]
def Xir (r : (Xah × Int)) : Xbq := [(16, .row Xad r.1.Held)]
theorem Xki {p0 p1 r} (h : Xd2 p0 p1 = some r) : AC Try.prog 28 [.agg [.sv (.bool p0.Begun), .sv (.int .i64 p0.Next), .sv (.int .i64 p0.Age), .sv (Xad.sv p0.Held), .sv (.int .i64 p0.Late), .sv (.int .i64 p0.Far), .sv (.int .i64 p0.Twice), .sv (.int .i64 p0.Over), .sv (.int .i64 p0.Lost)], .agg [.sv (.int .i64 p1.Seq), .sv (.bool p1.First), .sv (.bool p1.Last), .sv (.str p1.Bytes)]] [] (Xis r) (Xir r) := by
 refine Xaj hT Try.func28 rfl fun C hC => ?_
 unfold Xd2 at h
 refine Xac ?_
 iterate 4 refine kO hT hC ?_
 refine kN ?_
 refine kO hT hC ?_
 refine kC hC [(16, 144)] Try.call40 h (fun _ => Xf1) fun q1 h => ?_
 refine kO hT hC ?_
 refine Vc.nil (Xb7 (Xac ?_))
 refine kO hT hC ?_
 refine kC hC [] Try.call41 h (fun _ => Xeo) fun q2 h => ?_
 refine kO hT hC ?_
 refine Vc.nil ?_
 refine kS h ?_ ?_ <;> intro b1 h
 refine kt b1 (Xac ?_)
 iterate 3 refine kO hT hC ?_
 refine Vc.nil (Xam (Xbm ?_))
 obtain rfl := kj h
 exact Xe2 (τ := ⟨[(4, .ptr 2000000 0), (5, .sv (.int .i64 1))], [(16, some (.row Xad q1.Held)), (2000000, some (.box [.sv (.bool q1.Begun), .sv (.int .i64 q1.Next), .sv (.int .i64 q1.Age), .own 16, .sv (.int .i64 q1.Late), .sv (.int .i64 q1.Far), .sv (.int .i64 q1.Twice), .sv (.int .i64 q1.Over), .sv (.int .i64 q1.Lost)]))]⟩) (kW hC [(16, 144), (2000000, 64)]) rfl ⟨rfl, trivial⟩
 refine kf b1 (Xai (Xak (Xb7 (Xac ?_))))
 refine kO hT hC ?_
 refine kC hC [] Try.call57 h (fun _ => Xft) fun q3 h => ?_
 refine kO hT hC ?_
 refine Vc.nil ?_
 refine kS h ?_ ?_ <;> intro b2 h
 refine kt b2 (Xac ?_)
 iterate 3 refine kO hT hC ?_
 refine Vc.nil (Xam (Xbm ?_))
 obtain rfl := kj h
 exact Xe2 (τ := ⟨[(4, .ptr 2000000 0), (5, .sv (.int .i64 2))], [(16, some (.row Xad q1.Held)), (2000000, some (.box [.sv (.bool q1.Begun), .sv (.int .i64 q1.Next), .sv (.int .i64 q1.Age), .own 16, .sv (.int .i64 q1.Late), .sv (.int .i64 q1.Far), .sv (.int .i64 q1.Twice), .sv (.int .i64 q1.Over), .sv (.int .i64 q1.Lost)]))]⟩) (kW hC [(16, 144), (2000000, 64)]) rfl ⟨rfl, trivial⟩
 refine kf b2 (Xai (Xak (Xb7 (Xac ?_))))
 iterate 3 refine kO hT hC ?_
 refine Vc.nil ?_
 refine kS h ?_ ?_ <;> intro b3 h
 refine kt b3 (Xac ?_)
 iterate 7 refine kO hT hC ?_
 refine Vc.nil (Xam (Xbm ?_))
 obtain rfl := kj h
 exact Xe2 (τ := ⟨[(4, .ptr 2000000 0), (5, .sv (.int .i64 0))], [(16, some (.row Xad ([p1]))), (2000000, some (.box [.sv (.bool true), .sv (.int .i64 p1.Seq), .sv (.int .i64 0), .own 16, .sv (.int .i64 0), .sv (.int .i64 0), .sv (.int .i64 0), .sv (.int .i64 0), .sv (.int .i64 0)]))]⟩) (kW hC [(16, 384), (2000000, 64)]) rfl ⟨rfl, trivial⟩
 refine kf b3 (Xai (Xak (Xac ?_)))
 iterate 4 refine kO hT hC ?_
 refine kC hC [] Try.call58 h (fun _ => Xcd) fun q4 h => ?_
 refine kO hT hC ?_
 refine Vc.nil (Xb7 ?_)
 refine kL [2,3,4,6] [32,48,64,144] [_,_,_,_] [_,_,_,_] ?_
 refine kA h (fun v5 => ([(36, .sv (.bool v5))], [])) (fun v5 h => ?_) fun v5 h => ?_
 refine Xab ?_
 iterate 3 refine kO hT hC ?_
 refine kS h ?_ ?_ <;> intro b4 h
 iterate 2 refine kF hC b4 ?_
 refine kP hC true b4 ?_
 exact Vc.nil kM
 iterate 2 refine kI hT hC b4 ?_
 refine kP hC false b4 ?_
 exact Vc.nil kM
 refine kS h ?_ ?_ <;> intro b5 h
 refine kt b5 (Xac ?_)
 iterate 2 refine kO hT hC ?_
 refine kC hC [] Try.call45 h (fun _ => Xcs) fun q6 h => ?_
 iterate 2 refine kO hT hC ?_
 refine kN ?_
 iterate 4 refine kO hT hC ?_
 refine kN ?_
 iterate 4 refine kO hT hC ?_
 refine kN ?_
 iterate 2 refine kO hT hC ?_
 refine kN ?_
 iterate 3 refine kO hT hC ?_
 refine Vc.nil (Xam (Xbm ?_))
 obtain rfl := kj h
 exact Xe2 (τ := ⟨[(4, .ptr 2000000 0), (5, .sv (.int .i64 4))], [(16, some (.row Xad ([p1]))), (2000000, some (.box [.sv (.bool q1.Begun), .sv (.int .i64 p1.Seq), .sv (.int .i64 0), .own 16, .sv (.int .i64 q1.Late), .sv (.int .i64 q6), .sv (.int .i64 q1.Twice), .sv (.int .i64 q1.Over), .sv (.int .i64 q1.Lost)]))]⟩) (kW hC [(16, 672), (2000000, 64)]) rfl ⟨rfl, trivial⟩
 refine kf b5 (Xai (Xak (Xb7 (Xac ?_))))
 iterate 2 refine kO hT hC ?_
 refine Vc.nil ?_
 refine kS h ?_ ?_ <;> intro b6 h
 refine kt b6 (Xac ?_)
 iterate 2 refine kO hT hC ?_
 refine kC hC [] Try.call45 h (fun _ => Xcs) fun q7 h => ?_
 iterate 2 refine kO hT hC ?_
 refine kN ?_
 iterate 3 refine kO hT hC ?_
 refine Vc.nil (Xam (Xbm ?_))
 obtain rfl := kj h
 exact Xe2 (τ := ⟨[(4, .ptr 2000000 0), (5, .sv (.int .i64 3))], [(16, some (.row Xad q1.Held)), (2000000, some (.box [.sv (.bool q1.Begun), .sv (.int .i64 q1.Next), .sv (.int .i64 q1.Age), .own 16, .sv (.int .i64 q7), .sv (.int .i64 q1.Far), .sv (.int .i64 q1.Twice), .sv (.int .i64 q1.Over), .sv (.int .i64 q1.Lost)]))]⟩) (kW hC [(16, 144), (2000000, 64)]) rfl ⟨rfl, trivial⟩
 refine kf b6 (Xai (Xak (Xb7 (Xac ?_))))
 iterate 3 refine kO hT hC ?_
 refine kC hC [] Try.call59 h (fun _ => Xip) fun q8 h => ?_
 refine Vc.nil ?_
 refine kS h ?_ ?_ <;> intro b7 h
 refine kt b7 (Xac ?_)
 iterate 2 refine kO hT hC ?_
 refine kC hC [] Try.call45 h (fun _ => Xcs) fun q9 h => ?_
 iterate 2 refine kO hT hC ?_
 refine kN ?_
 iterate 3 refine kO hT hC ?_
 refine Vc.nil (Xam (Xbm ?_))
 obtain rfl := kj h
 exact Xe2 (τ := ⟨[(4, .ptr 2000000 0), (5, .sv (.int .i64 5))], [(16, some (.row Xad q1.Held)), (2000000, some (.box [.sv (.bool q1.Begun), .sv (.int .i64 q1.Next), .sv (.int .i64 q1.Age), .own 16, .sv (.int .i64 q1.Late), .sv (.int .i64 q1.Far), .sv (.int .i64 q9), .sv (.int .i64 q1.Over), .sv (.int .i64 q1.Lost)]))]⟩) (kW hC [(16, 144), (2000000, 64)]) rfl ⟨rfl, trivial⟩
 refine kf b7 (Xai (Xak (Xb7 (Xac ?_))))
 iterate 4 refine kO hT hC ?_
 refine Vc.nil ?_
 refine kS h ?_ ?_ <;> intro b8 h
 refine kt b8 (Xac ?_)
 iterate 2 refine kO hT hC ?_
 refine kC hC [(16, 1136)] Try.call60 h (fun _ => Xgb) fun q10 h => ?_
 iterate 2 refine kO hT hC ?_
 refine Vc.nil (Xam (Xbm ?_))
 obtain rfl := kj h
 exact Xe2 (τ := ⟨[(4, .ptr 2000000 0), (5, .sv (.int .i64 0))], [(16, some (.row Xad q10.Held)), (2000000, some (.box [.sv (.bool q10.Begun), .sv (.int .i64 q10.Next), .sv (.int .i64 q10.Age), .own 16, .sv (.int .i64 q10.Late), .sv (.int .i64 q10.Far), .sv (.int .i64 q10.Twice), .sv (.int .i64 q10.Over), .sv (.int .i64 q10.Lost)]))]⟩) (kW hC [(16, 1136), (2000000, 64)]) rfl ⟨rfl, trivial⟩
 refine kf b8 (Xai (Xak (Xac ?_)))
 refine kO hT hC ?_
 refine Vc.nil (Xb7 ?_)
 refine kL [2,3,4,7] [32,48,64,144] [_,_,_,_] [_,_,_,_] ?_
 refine kX h (fun v13 => ([(7, .sv (.int .i64 v13))], [])) (fun v16 => ([(7, .sv (.int .i64 v16))], [])) (kW hC []) (fun v13 s h => ?_) fun v16 h => ?_
 unfold Xcp at h
 refine Xb7 ?_
 refine kL [2,3,4,7] [32,48,64,144] [_,_,_,_] [_,_,_,_] ?_
 refine kA h (fun v17 => ([(86, .sv (.bool v17))], [])) (fun v17 h => ?_) fun v17 h => ?_
 refine Xab ?_
 iterate 7 refine kO hT hC ?_
 refine kS h ?_ ?_ <;> intro b13 h
 iterate 3 refine kI hT hC b13 ?_
 refine kJ hT hC b13 h fun h => ?_
 refine kI hT hC b13 ?_
 refine kJ hT hC b13 h fun h => ?_
 refine kI hT hC b13 ?_
 refine kP hC true b13 ?_
 exact Vc.nil kM
 iterate 7 refine kF hC b13 ?_
 refine kP hC false b13 ?_
 exact Vc.nil kM
 refine kS h ?_ ?_ <;> intro b14 h
 refine kt b14 (Xai (Xak (Xch (Xab ?_))))
 iterate 3 refine kO hT hC ?_
 exact Vc.nil (Xc0 kG)
 exact kf b14 (Xcg (Xdk ku))
 refine Xak (Xac ?_)
 iterate 2 refine kO hT hC ?_
 refine kC hC [] Try.call45 h (fun _ => Xcs) fun q19 h => ?_
 iterate 2 refine kO hT hC ?_
 refine kN ?_
 iterate 3 refine kO hT hC ?_
 refine kQ hT hC h fun h => ?_
 refine kO hT hC ?_
 refine kQ hT hC h fun h => ?_
 refine kC hC [] Try.call44 h (fun _ => Xeq) fun q20 h => ?_
 iterate 2 refine kO hT hC ?_
 refine kN ?_
 iterate 5 refine kO hT hC ?_
 refine kQ hT hC h fun h => ?_
 obtain ⟨hq, h⟩ := Xbh h
 refine Xn1 hT hC rfl rfl rfl rfl ⟨⟨hq.1, fun _ _ => rfl⟩, by rw [Xao]; exact hq.2⟩ ?_
 rw [Xao]
 iterate 2 refine kO hT hC ?_
 refine kN ?_
 iterate 2 refine kO hT hC ?_
 refine Vc.nil ?_
 refine kL [2,3,4] [32,48,64,1712] [_,_,_] [_,_,_,_] ?_
 refine kA h (fun v21 => ([(3, .any)], [(32, some (.box [.sv (.bool v21.1), .sv (.int .i64 v21.2.1), .sv (.int .i64 v21.2.2.1), .own 1712, .sv (.int .i64 v21.2.2.2.1), .sv (.int .i64 v21.2.2.2.2.1), .sv (.int .i64 v21.2.2.2.2.2.1), .sv (.int .i64 v21.2.2.2.2.2.2.1), .sv (.int .i64 v21.2.2.2.2.2.2.2.1)])), (1712, some (.row Xad v21.2.2.2.2.2.2.2.2)), (48, none)])) (fun v21 h => ?_) fun v21 h => ?_
 refine Xac ?_
 iterate 4 refine kO hT hC ?_
 refine kC hC [] Try.call58 h (fun _ => Xcd) fun q22 h => ?_
 refine kC hC [] Try.call42 h (fun _ => Xa3) fun q23 h => ?_
 refine Vc.nil ?_
 refine kS h ?_ ?_ <;> intro b15 h
 refine kt b15 (Xab ?_)
 iterate 2 refine kO hT hC ?_
 refine kC hC [(16, 1888)] Try.call60 h (fun _ => Xgb) fun q24 h => ?_
 refine kO hT hC ?_
 refine Vc.nil ?_
 obtain rfl := kj h
 exact Xjz (kW hC [(1712, 1888)])
 exact kf b15 (Xai kM)
 refine Xac ?_
 iterate 3 refine kO hT hC ?_
 refine Vc.nil (Xam ?_)
 obtain rfl := kj h
 exact Xe2 (τ := ⟨[(4, .ptr 2000000 0), (5, .sv (.int .i64 6))], [(16, some (.row Xad v21.2.2.2.2.2.2.2.2)), (2000000, some (.box [.sv (.bool v21.1), .sv (.int .i64 v21.2.1), .sv (.int .i64 v21.2.2.1), .own 16, .sv (.int .i64 v21.2.2.2.1), .sv (.int .i64 v21.2.2.2.2.1), .sv (.int .i64 v21.2.2.2.2.2.1), .sv (.int .i64 v21.2.2.2.2.2.2.1), .sv (.int .i64 v21.2.2.2.2.2.2.2.1)]))]⟩) (kW hC [(16, 1712), (2000000, 64)]) rfl ⟨rfl, trivial⟩
def Xh8 (r : (Xah × Xas)) : AV := .agg [.sv (.bool r.1.Begun), .sv (.int .i64 r.1.Next), .sv (.int .i64 r.1.Age), .own 16, .sv (.int .i64 r.1.Late), .sv (.int .i64 r.1.Far), .sv (.int .i64 r.1.Twice), .sv (.int .i64 r.1.Over), .sv (.int .i64 r.1.Lost)]
def Xh7 (r : (Xah × Xas)) : Xbq := [(16, .row Xad r.1.Held), (0, .box [.sv (.ints .u8 r.2.b_), .sv (.int .i64 r.2.i_), .sv (.int .i64 r.2.h_)])]
theorem Xi8 {p0 r} (h : Xdj p0 = some r) : AC Try.prog 52 [.ptr 0 0] [(0, .box [.sv (.ints .u8 p0.b_), .sv (.int .i64 p0.i_), .sv (.int .i64 p0.h_)])] (Xh8 r) (Xh7 r) := by
 refine Xaj hT Try.func52 rfl fun C hC => ?_
 unfold Xdj at h
 refine Xac ?_
 refine kO hT hC ?_
 refine kN ?_
 iterate 3 refine kO hT hC ?_
 refine kN ?_
 refine kO hT hC ?_
 refine kC hC [(0, 0)] Try.call65 h (fun _ => Xlc) fun q1 h => ?_
 refine kO hT hC ?_
 refine kN ?_
 refine kO hT hC ?_
 refine kC hC [(0, 0)] Try.call35 h (fun _ => Xaw) fun q2 h => ?_
 refine kO hT hC ?_
 refine Vc.nil ?_
 refine kL [0,2,3,4,5] [0,32,48] [_,_,_,_,_] [_,_,_] ?_
 refine kA h (fun v3 => ([(5, .sv (.int .i64 v3.1))], [(0, some (.box [.sv (.ints .u8 v3.2.1), .sv (.int .i64 v3.2.2.1), .sv (.int .i64 v3.2.2.2)]))])) (fun v3 h => ?_) fun v3 h => ?_
 refine Xac ?_
 refine kO hT hC ?_
 refine kC hC [(0, 0)] Try.call66 h (fun _ => Xb2) fun q4 h => ?_
 refine Vc.nil ?_
 refine kS h ?_ ?_ <;> intro b1 h
 refine kt b1 (Xab ?_)
 iterate 3 refine kO hT hC ?_
 exact Vc.nil kM
 exact kf b1 (Xai kM)
 refine Xb7 (Xac ?_)
 refine kO hT hC ?_
 refine Vc.nil ?_
 refine kL [0,2,3,4,5,6] [0,32,48] [_,_,_,_,_,_] [_,_,_] ?_
 obtain ⟨v26, hl, h⟩ := Xci h
 refine Xss (fun v15 => ([(4, .sv (.int .i64 v15.1)), (6, .sv (.int .i64 v15.2.1))], [(0, some (.box [.sv (.ints .u8 v15.2.2.1), .sv (.int .i64 v15.2.2.2.1), .sv (.int .i64 v15.2.2.2.2.1)])), (48, some (.box [.sv (.bool v15.2.2.2.2.2.1), .sv (.int .i64 v15.2.2.2.2.2.2.1), .sv (.int .i64 v15.2.2.2.2.2.2.2.1), .own 809, .sv (.int .i64 v15.2.2.2.2.2.2.2.2.1), .sv (.int .i64 v15.2.2.2.2.2.2.2.2.2.1), .sv (.int .i64 v15.2.2.2.2.2.2.2.2.2.2.1), .sv (.int .i64 v15.2.2.2.2.2.2.2.2.2.2.2.1), .sv (.int .i64 v15.2.2.2.2.2.2.2.2.2.2.2.2.1)])), (809, some (.row Xad v15.2.2.2.2.2.2.2.2.2.2.2.2.2))])) (fun v26 => ([(0, .any), (4, .any), (5, .any), (6, .any)], [(0, some (.box [.sv (.ints .u8 v26.2.2.2.2.2.2.2.2.1), .sv (.int .i64 v26.2.2.2.2.2.2.2.2.2.1), .sv (.int .i64 v26.2.2.2.2.2.2.2.2.2.2.1)])), (48, some (.box [.sv (.bool v26.1), .sv (.int .i64 v26.2.1), .sv (.int .i64 v26.2.2.1), .own 812, .sv (.int .i64 v26.2.2.2.1), .sv (.int .i64 v26.2.2.2.2.1), .sv (.int .i64 v26.2.2.2.2.2.1), .sv (.int .i64 v26.2.2.2.2.2.2.1), .sv (.int .i64 v26.2.2.2.2.2.2.2.1)])), (812, some (.row Xad v26.2.2.2.2.2.2.2.2.2.2.2))])) hl ?_ ?_ ?_
 refine Xt7 hC 48 3 814 (.row Xad []) rfl rfl rfl rfl rfl Xlk ?_
 try dsimp only
 apply Xge hC [(809, 814)]
 exact co
 rfl
 decide
 rfl
 intro v15 s hs
 have h := hs
 unfold Xc6 at h
 refine Xb7 (Xac ?_)
 iterate 3 refine kO hT hC ?_
 refine Vc.nil ?_
 refine kS h ?_ ?_ <;> intro b10 h
 refine kt b10 (Xai (Xak ?_))
 refine kL [0,2,3,4,5,6] [0,32,48,809] [_,_,_,_,_,_] [_,_,_,_] ?_
 refine kA h (fun v27 => ([(4, .sv (.int .i64 v27.1))], [(0, some (.box [.sv (.ints .u8 v27.2.1), .sv (.int .i64 v27.2.2.1), .sv (.int .i64 v27.2.2.2.1)])), (48, some (.box [.sv (.bool v27.2.2.2.2.1), .sv (.int .i64 v27.2.2.2.2.2.1), .sv (.int .i64 v27.2.2.2.2.2.2.1), .own 813, .sv (.int .i64 v27.2.2.2.2.2.2.2.1), .sv (.int .i64 v27.2.2.2.2.2.2.2.2.1), .sv (.int .i64 v27.2.2.2.2.2.2.2.2.2.1), .sv (.int .i64 v27.2.2.2.2.2.2.2.2.2.2.1), .sv (.int .i64 v27.2.2.2.2.2.2.2.2.2.2.2.1)])), (813, some (.row Xad v27.2.2.2.2.2.2.2.2.2.2.2.2)), (809, none)])) (fun v27 h => ?_) fun v27 h => ?_
 refine Xch ?_
 refine Xkd hm ?_
 iterate 3 refine kO hT hC ?_
 refine kC hC [(0, 0)] Try.call53 h (fun _ => Xfe) fun q28 h => ?_
 refine kC hC [(16, 416)] Try.call28 h (fun _ => Xki) fun q29 h => ?_
 iterate 4 refine kO hT hC ?_
 refine kD ?_
 refine kL [0,2,3,4,5,6] [0,32,48,416] [_,_,_,_,_,_] [_,_,_,_] ?_
 refine kA h (fun v30 => ([], [(0, some (.box [.sv (.ints .u8 v30.1), .sv (.int .i64 v30.2.1), .sv (.int .i64 v30.2.2.1)])), (48, some (.box [.sv (.bool v30.2.2.2.1), .sv (.int .i64 v30.2.2.2.2.1), .sv (.int .i64 v30.2.2.2.2.2.1), .own 416, .sv (.int .i64 v30.2.2.2.2.2.2.1), .sv (.int .i64 v30.2.2.2.2.2.2.2.1), .sv (.int .i64 v30.2.2.2.2.2.2.2.2.1), .sv (.int .i64 v30.2.2.2.2.2.2.2.2.2.1), .sv (.int .i64 v30.2.2.2.2.2.2.2.2.2.2.1)])), (416, some (.row Xad v30.2.2.2.2.2.2.2.2.2.2.2))])) (fun v30 h => ?_) fun v30 h => ?_
 refine Xac ?_
 refine kO hT hC ?_
 refine kC hC [(0, 0)] Try.call66 h (fun _ => Xb2) fun q31 h => ?_
 refine Vc.nil ?_
 refine kS h ?_ ?_ <;> intro b11 h
 refine kt b11 ?_
 refine Xl7 hm ?_
 iterate 2 refine kO hT hC ?_
 refine kC hC [(0, 0)] Try.call35 h (fun _ => Xaw) fun q32 h => ?_
 obtain ⟨q33, hq, h⟩ := Xci h
 refine Xrn hC [(16, 560), (17, 561)] rfl rfl rfl rfl Try.call16 (Xh1 hq) rfl (by decide) trivial rfl (.inr ⟨rfl, ⟨fun _ => rfl, fun _ => rfl, trivial⟩⟩) rfl ?_
 iterate 5 refine kO hT hC ?_
 refine kD ?_
 obtain rfl := kj h
 exact Xjz (kW hC [(416, 560)])
 exact kf b11 (Xai kM)
 refine kL [0,2,3,4,5,6] [0,32,48,416] [_,_,_,_,_,_] [_,_,_,_] ?_
 refine kA h (fun v34 => ([(4, .sv (.int .i64 v34))], [])) (fun v34 h => ?_) fun v34 h => ?_
 refine Xac ?_
 iterate 2 refine kO hT hC ?_
 refine Vc.nil ?_
 refine kS h ?_ ?_ <;> intro b12 h
 refine kt b12 (Xab ?_)
 iterate 3 refine kO hT hC ?_
 exact Vc.nil kM
 exact kf b12 (Xai kM)
 refine Xac ?_
 refine kO hT hC ?_
 refine kC hC [(0, 0)] Try.call66 h (fun _ => Xb2) fun q35 h => ?_
 refine Vc.nil ?_
 refine kS h ?_ ?_ <;> intro b13 h
 refine kt b13 (Xab ?_)
 iterate 2 refine kO hT hC ?_
 refine kQ hT hC h fun h => ?_
 refine kO hT hC ?_
 refine Vc.nil (Xc0 ?_)
 obtain rfl := kj h
 exact Xjz (kW hC [(813, 416)])
 refine kf b13 (Xai (Xc0 ?_))
 obtain rfl := kj h
 exact Xjz (kW hC [(813, 416)])
 refine Xab ?_
 iterate 3 refine kO hT hC ?_
 refine Vc.nil ?_
 obtain rfl := kj h
 exact Xta (kW hC [(809, 813)])
 refine kf b10 (Xcg (Xdk ?_))
 obtain rfl := kj h
 exact Xpg (Xs9 (kW hC [(812, 809)]))
 refine Xak (Xac ?_)
 iterate 2 refine kO hT hC ?_
 refine Vc.nil (Xam ?_)
 obtain rfl := kj h
 exact Xe2 (τ := ⟨[(2, .ptr 2000000 0)], [(16, some (.row Xad v26.2.2.2.2.2.2.2.2.2.2.2)), (0, some (.box [.sv (.ints .u8 v26.2.2.2.2.2.2.2.2.1), .sv (.int .i64 v26.2.2.2.2.2.2.2.2.2.1), .sv (.int .i64 v26.2.2.2.2.2.2.2.2.2.2.1)])), (2000000, some (.box [.sv (.bool v26.1), .sv (.int .i64 v26.2.1), .sv (.int .i64 v26.2.2.1), .own 16, .sv (.int .i64 v26.2.2.2.1), .sv (.int .i64 v26.2.2.2.2.1), .sv (.int .i64 v26.2.2.2.2.2.1), .sv (.int .i64 v26.2.2.2.2.2.2.1), .sv (.int .i64 v26.2.2.2.2.2.2.2.1)]))]⟩) (kW hC [(16, 812), (2000000, 32)]) rfl ⟨rfl, rfl, trivial⟩
def Xg7 (r : (Xah × (List Xaa))) : AV := .tup [.agg [.sv (.bool r.1.Begun), .sv (.int .i64 r.1.Next), .sv (.int .i64 r.1.Age), .own 16, .sv (.int .i64 r.1.Late), .sv (.int .i64 r.1.Far), .sv (.int .i64 r.1.Twice), .sv (.int .i64 r.1.Over), .sv (.int .i64 r.1.Lost)], .own 17]
def Xg6 (r : (Xah × (List Xaa))) : Xbq := [(16, .row Xad r.1.Held), (17, .row Xad r.2)]
theorem Xfb {p0 r} (h : Xcb p0 = some r) : AC Try.prog 25 [.sv (.ints .u8 p0)] [] (Xg7 r) (Xg6 r) := by
 refine Xaj hT Try.func25 rfl fun C hC => ?_
 unfold Xcb at h
 refine Xac ?_
 iterate 2 refine kO hT hC ?_
 refine kN ?_
 refine kO hT hC ?_
 refine kC hC [(16, 144)] Try.call33 h (fun _ => Xf9) fun q1 h => ?_
 refine kO hT hC ?_
 refine kN ?_
 refine kO hT hC ?_
 refine kC hC [(16, 176), (0, 144)] Try.call52 h (fun _ => Xi8) fun q2 h => ?_
 iterate 2 refine kO hT hC ?_
 refine kN ?_
 iterate 2 refine kO hT hC ?_
 refine Vc.nil (Xb7 (Xac ?_))
 refine kO hT hC ?_
 refine Vc.nil ?_
 refine kL [2,4,5,6,7] [32,80,144,176,192] [_,_,_,_,_] [_,_,_,_,_] ?_
 refine kX h (fun v6 => ([(7, .sv (.int .i64 v6.1))], [(144, some (.box [.sv (.ints .u8 v6.2.1), .sv (.int .i64 v6.2.2.1), .sv (.int .i64 v6.2.2.2.1)])), (192, some (.row Xad v6.2.2.2.2))])) (fun v10 => ([(4, .any), (7, .any)], [(192, some (.row Xad v10)), (144, none)])) (kW hC []) (fun v6 s h => ?_) fun v10 h => ?_
 unfold Xcv at h
 refine Xb7 (Xac ?_)
 iterate 2 refine kO hT hC ?_
 refine kC hC [(0, 144)] Try.call35 h (fun _ => Xaw) fun q11 h => ?_
 iterate 2 refine kO hT hC ?_
 refine Vc.nil ?_
 refine kS h ?_ ?_ <;> intro b3 h
 refine kt b3 (Xai (Xak (Xb7 (Xch (Xab ?_)))))
 iterate 4 refine kO hT hC ?_
 refine kC hC [(0, 144)] Try.call53 h (fun _ => Xfe) fun q12 h => ?_
 refine kO hT hC ?_
 obtain ⟨hq, h⟩ := Xbh h
 refine Xn1 hT hC rfl rfl rfl rfl ⟨fun _ _ => rfl, by rw [Xao]; exact hq⟩ ?_
 rw [Xao]
 refine kO hT hC ?_
 refine Vc.nil (Xc0 (Xak (Xab ?_)))
 iterate 3 refine kO hT hC ?_
 refine Vc.nil ?_
 obtain rfl := kj h
 exact Xta (kW hC [(192, 416)])
 exact kf b3 (Xcg (Xdk ku))
 refine Xak (Xac ?_)
 iterate 4 refine kO hT hC ?_
 refine Vc.nil (Xam ?_)
 obtain rfl := kj h
 exact Xe2 (τ := ⟨[(2, .ptr 2000000 0), (3, .own 17)], [(16, some (.row Xad q2.1.Held)), (17, some (.row Xad v10)), (2000000, some (.box [.sv (.bool q2.1.Begun), .sv (.int .i64 q2.1.Next), .sv (.int .i64 q2.1.Age), .own 16, .sv (.int .i64 q2.1.Late), .sv (.int .i64 q2.1.Far), .sv (.int .i64 q2.1.Twice), .sv (.int .i64 q2.1.Over), .sv (.int .i64 q2.1.Lost)]))]⟩) (kW hC [(16, 176), (17, 192), (2000000, 32)]) rfl ⟨rfl, rfl, trivial⟩
def Xez (r : Bool) : AV := .sv (.bool r)
def Xey (r : Bool) : Xbq := []
theorem Xhv {p0 r} (h : Xdu p0 = some r) : AC Try.prog 5 [.sv (.ints .u8 p0)] [] (Xez r) (Xey r) := by
 refine Xaj hT Try.func5 rfl fun C hC => ?_
 unfold Xdu at h
 refine Xac ?_
 refine kO hT hC ?_
 refine Vc.nil (Xb7 (Xac ?_))
 refine kO hT hC ?_
 refine kC hC [] Try.call8 h (fun _ => Xoc) fun q1 h => ?_
 refine Vc.nil ?_
 refine kS h ?_ ?_ <;> intro b1 h
 refine kt b1 (Xac ?_)
 refine kO hT hC ?_
 exact Vc.nil (Xam (Xbm kR))
 refine kf b1 (Xai (Xak (Xac ?_)))
 refine kO hT hC ?_
 refine kC hC [(16, 288), (17, 289)] Try.call25 h (fun _ => Xfb) fun q2 h => ?_
 iterate 6 refine kO hT hC ?_
 refine kN ?_
 refine kO hT hC ?_
 refine kC hC [(16, 352)] Try.call10 h (fun _ => Xg4) fun q3 h => ?_
 refine kO hT hC ?_
 refine kN ?_
 refine kO hT hC ?_
 iterate 3 refine kQ hT hC h fun h => ?_
 refine kO hT hC ?_
 refine kN ?_
 iterate 6 refine kO hT hC ?_
 refine Vc.nil (Xb7 (Xac ?_))
 refine kO hT hC ?_
 refine Vc.nil ?_
 refine kL [0,3,6,7,8] [48,288] [_,_,_,_,_] [_,_] ?_
 obtain ⟨o26, hl, h⟩ := Xci h
 refine Xgn (fun v11 => ([(8, .sv (.int .i64 v11.1))], [(48, some (.box [.sv (.bool v11.2.1), .sv (.int .i64 v11.2.2.1), .sv (.int .i64 v11.2.2.2.1), .own 288, .sv (.int .i64 v11.2.2.2.2.1), .sv (.int .i64 v11.2.2.2.2.2.1), .sv (.int .i64 v11.2.2.2.2.2.2.1), .sv (.int .i64 v11.2.2.2.2.2.2.2.1), .sv (.int .i64 v11.2.2.2.2.2.2.2.2.1)])), (288, some (.row Xad v11.2.2.2.2.2.2.2.2.2))])) (fun v19 => ([(6, .any), (7, .any), (8, .any)], [(48, some (.box [.sv (.bool v19.1), .sv (.int .i64 v19.2.1), .sv (.int .i64 v19.2.2.1), .own 288, .sv (.int .i64 v19.2.2.2.1), .sv (.int .i64 v19.2.2.2.2.1), .sv (.int .i64 v19.2.2.2.2.2.1), .sv (.int .i64 v19.2.2.2.2.2.2.1), .sv (.int .i64 v19.2.2.2.2.2.2.2.1)])), (288, some (.row Xad v19.2.2.2.2.2.2.2.2))])) (fun r => Xl2 C T Try.f5.results.toList (Xez r) (Xey r)) hl ?_ ?_ ?_ ?_
 try dsimp only
 apply Xge hC []
 exact co
 rfl
 decide
 rfl
 intro v11 s hs
 have h := hs
 unfold Xcu at h
 refine Xb7 (Xac ?_)
 iterate 3 refine kO hT hC ?_
 refine Vc.nil ?_
 refine kS h ?_ ?_ <;> intro b26 h
 refine kt b26 (Xai (Xak (Xb7 (Xch (Xac ?_)))))
 iterate 2 refine kO hT hC ?_
 obtain ⟨q20, hq, h⟩ := Xci h
 refine Xrn hC [(16, 640), (17, 641)] rfl rfl rfl rfl Try.call18 (Xhp hq) rfl (by decide) trivial rfl (.inr ⟨rfl, ⟨fun _ => rfl, fun _ => rfl, trivial⟩⟩) rfl ?_
 iterate 8 refine kO hT hC ?_
 refine Vc.nil (Xb7 ?_)
 refine kL [0,3,6,7,8,9,10,11] [48,144,288,640,641] [_,_,_,_,_,_,_,_] [_,_,_,_,_] ?_
 refine kA h (fun v21 => ([(76, .sv (.bool v21)), (10, .any), (11, .any)], [(641, none)])) (fun v21 h => ?_) fun v21 h => ?_
 refine Xab ?_
 iterate 3 refine kO hT hC ?_
 refine kS h ?_ ?_ <;> intro b27 h
 iterate 3 refine kI hT hC b27 ?_
 refine kP hC true b27 ?_
 refine kO hT hC ?_
 refine kS h ?_ ?_ <;> intro b28 h
 iterate 3 refine kF hC b28 ?_
 iterate 3 refine Xsu hC rfl rfl rfl rfl rfl rfl ?_
 refine kF hC b28 ?_
 refine kP hC true b28 ?_
 refine kO hT hC ?_
 iterate 10 refine kF hC rfl ?_
 iterate 2 refine kO hT hC ?_
 iterate 3 refine kF hC rfl ?_
 refine kO hT hC ?_
 exact Vc.nil kM
 iterate 3 refine kI hT hC b28 ?_
 refine kS h ?_ ?_ <;> intro b29 h
 iterate 3 refine kI hT hC b29 ?_
 refine Xfj hC rfl rfl rfl rfl b28 rfl rfl (b := true) b29 rfl rfl rfl trivial ?_
 refine kP hC false b28 ?_
 refine kO hT hC ?_
 refine kS h ?_ ?_ <;> intro b30 h
 iterate 10 refine kF hC b30 ?_
 refine kP hC true b30 ?_
 refine kO hT hC ?_
 iterate 3 refine kF hC rfl ?_
 refine kO hT hC ?_
 exact Vc.nil kM
 iterate 10 refine kI hT hC b30 ?_
 refine kP hC false b30 ?_
 refine kO hT hC ?_
 refine kS h ?_ ?_ <;> intro b31 h
 iterate 3 refine kF hC b31 ?_
 refine kP hC true b31 ?_
 exact Vc.nil kM
 refine kI hT hC b31 ?_
 refine kE hC b31 [] Try.call26 h (fun _ => Xcl) fun q22 h => ?_
 refine kI hT hC b31 ?_
 refine kP hC false b31 ?_
 exact Vc.nil kM
 iterate 3 refine kF hC b29 ?_
 refine Xfj hC rfl rfl rfl rfl b28 rfl rfl (b := false) b29 rfl rfl rfl trivial ?_
 refine kP hC false b28 ?_
 refine kO hT hC ?_
 iterate 10 refine kI hT hC rfl ?_
 iterate 2 refine kO hT hC ?_
 refine kS h ?_ ?_ <;> intro b32 h
 iterate 3 refine kF hC b32 ?_
 refine kP hC true b32 ?_
 exact Vc.nil kM
 refine kI hT hC b32 ?_
 refine kE hC b32 [] Try.call26 h (fun _ => Xcl) fun q23 h => ?_
 refine kI hT hC b32 ?_
 refine kP hC false b32 ?_
 exact Vc.nil kM
 iterate 3 refine kF hC b27 ?_
 refine kP hC false b27 ?_
 refine kO hT hC ?_
 iterate 3 refine kI hT hC rfl ?_
 refine kS h ?_ ?_ <;> intro b33 h
 iterate 3 refine kI hT hC b33 ?_
 refine Xfj hC rfl rfl rfl rfl rfl rfl rfl (b := true) b33 rfl rfl rfl trivial ?_
 iterate 2 refine kO hT hC ?_
 refine kS h ?_ ?_ <;> intro b34 h
 iterate 10 refine kF hC b34 ?_
 refine kP hC true b34 ?_
 refine kO hT hC ?_
 iterate 3 refine kF hC rfl ?_
 refine kO hT hC ?_
 exact Vc.nil kM
 iterate 10 refine kI hT hC b34 ?_
 refine kP hC false b34 ?_
 refine kO hT hC ?_
 refine kS h ?_ ?_ <;> intro b35 h
 iterate 3 refine kF hC b35 ?_
 refine kP hC true b35 ?_
 exact Vc.nil kM
 refine kI hT hC b35 ?_
 refine kE hC b35 [] Try.call26 h (fun _ => Xcl) fun q24 h => ?_
 refine kI hT hC b35 ?_
 refine kP hC false b35 ?_
 exact Vc.nil kM
 iterate 3 refine kF hC b33 ?_
 refine Xfj hC rfl rfl rfl rfl rfl rfl rfl (b := false) b33 rfl rfl rfl trivial ?_
 iterate 2 refine kO hT hC ?_
 iterate 10 refine kI hT hC rfl ?_
 iterate 2 refine kO hT hC ?_
 refine kS h ?_ ?_ <;> intro b36 h
 iterate 3 refine kF hC b36 ?_
 refine kP hC true b36 ?_
 exact Vc.nil kM
 refine kI hT hC b36 ?_
 refine kE hC b36 [] Try.call26 h (fun _ => Xcl) fun q25 h => ?_
 refine kI hT hC b36 ?_
 refine kP hC false b36 ?_
 exact Vc.nil kM
 refine kS h ?_ ?_ <;> intro b37 h
 refine kt b37 (Xac ?_)
 refine kO hT hC ?_
 refine Vc.nil (Xam (Xbm (Xkz (Xbm ?_))))
 obtain rfl := kj h
 refine Xnp (Xnk ?_)
 exact Xe2 (Xea.refl _) rfl trivial
 refine kf b37 (Xai (Xak (Xab ?_)))
 iterate 2 refine kO hT hC ?_
 refine Vc.nil (Xc0 (Xak (Xab ?_)))
 iterate 3 refine kO hT hC ?_
 refine Vc.nil ?_
 obtain rfl := kj h
 exact Xta (kW hC [(288, 640)])
 exact kf b26 (Xcg (Xdk kb))
 intro v19 e
 subst e
 refine Xak (Xac ?_)
 refine kO hT hC ?_
 refine kC hC [(16, 1280), (17, 1281)] Try.call25 h (fun _ => Xfb) fun q27 h => ?_
 iterate 6 refine kO hT hC ?_
 refine Vc.nil ?_
 refine kL [3,12] [48,192,288,1280] [_,_] [_,_,_,_] ?_
 refine kA h (fun v28 => ([(2, .sv (.bool v28)), (3, .any), (12, .any)], [(48, none), (192, none), (288, none), (1280, none)])) (fun v28 h => ?_) fun v28 h => ?_
 refine Xab ?_
 iterate 5 refine kO hT hC ?_
 refine kS h ?_ ?_ <;> intro b38 h
 iterate 5 refine kI hT hC b38 ?_
 refine kP hC true b38 ?_
 refine kO hT hC ?_
 exact Vc.nil kM
 iterate 5 refine kF hC b38 ?_
 refine kP hC false b38 ?_
 refine kO hT hC ?_
 exact Vc.nil kM
 exact Xam kR
 intro r' σ' e hE
 subst e
 obtain rfl := kj h
 refine Xbm ?_
 exact hE
end
end Go.Proofs.Ytlebkepfhdjnmaa.A
