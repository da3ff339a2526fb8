/- Contracts of the functions that the law FnQueues reaches, part 0: each comes to what its pure function tells. Written by a program of this session. Conditions: as each statement tells. -/
import Derived.Test.YtlebkepfhdjnmaaBFnQueues
namespace Go.Proofs.Ytlebkepfhdjnmaa.A
open Go Go.Proofs Go.Proofs.YtlebkepfhdjnmaaAL Go.RowKit
set_option linter.unusedVariables false
set_option linter.unusedSimpArgs false
set_option maxRecDepth 100000
set_option maxHeartbeats 8000000
noncomputable section
def Xof (r : Bool) : AV := .sv (.bool r)
def Xoe (r : Bool) : Xbo := []
theorem Xpe {p0 r} (h : Xkk p0 = some r) : AC Try.prog 8 [.sv (.ints .u8 p0)] [] (Xof r) (Xoe r) := by
 refine Xai hT Try.func8 rfl fun C hC => ?_
 unfold Xkk at h
 refine Xac ?_
 refine kO hT hC ?_
 refine kN ?_
 iterate 4 refine kO hT hC ?_
 exact Vc.nil (Xam kR)
def Xlp (r : Xat) : AV := .ptr 16 0
def Xlo (r : Xat) : Xbo := [(16, .box [.sv (.ints .u8 r.b_), .sv (.int .i64 r.i_), .sv (.int .i64 r.h_)])]
theorem Xha {p0 r} (h : Xee p0 = some r) : AC Try.prog 33 [.sv (.ints .u8 p0)] [] (Xlp r) (Xlo r) := by
 refine Xai hT Try.func33 rfl fun C hC => ?_
 unfold Xee at h
 refine Xac ?_
 refine kO hT hC ?_
 refine kN ?_
 iterate 4 refine kO hT hC ?_
 refine Vc.nil (Xb3 (Xac ?_))
 refine kO hT hC ?_
 refine Vc.nil ?_
 refine kL [0,3,4] [] [_,_,_] [] ?_
 refine kX h (fun v3 => ([(3, .sv (.int .i64 v3.1)), (4, .sv (.int .i64 v3.2))], [])) (fun v6 => ([(3, .sv (.int .i64 v6)), (4, .any)], [])) (kW hC []) (fun v3 s h => ?_) fun v6 h => ?_
 unfold Xej at h
 refine Xb3 ?_
 refine kL [0,3,4] [] [_,_,_] [] ?_
 refine kA h (fun v7 => ([(15, .sv (.bool v7))], [])) (fun v7 h => ?_) fun v7 h => ?_
 refine Xab ?_
 iterate 5 refine kO hT hC ?_
 refine kS h ?_ ?_ <;> intro b5 h
 iterate 2 refine kI hT hC b5 ?_
 refine kP hC true b5 ?_
 exact Vc.nil kM
 iterate 2 refine kF hC b5 ?_
 refine kP hC false b5 ?_
 exact Vc.nil kM
 refine kS h ?_ ?_ <;> intro b6 h
 refine kt b6 (Xag (Xal (Xb3 (Xbp (Xab ?_)))))
 iterate 4 refine kO hT hC ?_
 refine kQ hT hC h fun h => ?_
 iterate 6 refine kO hT hC ?_
 refine Vc.nil (Xcc (Xal (Xab ?_)))
 iterate 3 refine kO hT hC ?_
 exact Vc.nil kG
 exact kf b6 (Xb4 (Xda ku))
 refine Xal (Xac ?_)
 iterate 5 refine kO hT hC ?_
 refine Vc.nil (Xam ?_)
 obtain rfl := kj h
 exact Xd6 (τ := ⟨[(2, .ptr 16 0)], [(16, some (.box [.sv (.ints .u8 p0), .sv (.int .i64 0), .sv (.int .i64 v6)]))]⟩) (kW hC [(16, 496)]) rfl ⟨rfl, trivial⟩
def Xj4 (r : (Int × Xat)) : AV := .sv (.int .i64 r.1)
def Xj3 (r : (Int × Xat)) : Xbo := [(0, .box [.sv (.ints .u8 r.2.b_), .sv (.int .i64 r.2.i_), .sv (.int .i64 r.2.h_)])]
theorem Xb0 {p0 r} (h : Xbj p0 = some r) : AC Try.prog 36 [.ptr 0 0] [(0, .box [.sv (.ints .u8 p0.b_), .sv (.int .i64 p0.i_), .sv (.int .i64 p0.h_)])] (Xj4 r) (Xj3 r) := by
 refine Xai hT Try.func36 rfl fun C hC => ?_
 unfold Xbj at h
 refine Xac ?_
 refine kO hT hC ?_
 refine kN ?_
 iterate 10 refine kO hT hC ?_
 refine Vc.nil ?_
 refine Xf0 hm ?_
 iterate 4 refine kO hT hC ?_
 refine kQ hT hC h fun h => ?_
 iterate 4 refine kO hT hC ?_
 refine kQ hT hC h fun h => ?_
 iterate 3 refine kO hT hC ?_
 refine kD ?_
 refine kL [0,3] [0] [_,_] [_] ?_
 refine kA h (fun v1 => ([(3, .sv (.int .i64 v1.1)), (0, .any)], [(0, some (.box [.sv (.ints .u8 p0.b_), .sv (.int .i64 v1.2), .sv (.int .i64 (Xaj .i64 ((Xaj .i64 (p0.h_ * 6364136223846793005)) + 1442695040888963407)))]))])) (fun v1 h => ?_) fun v1 h => ?_
 refine Xf0 hm ?_
 iterate 10 refine kO hT hC ?_
 refine kD ?_
 refine kS h ?_ ?_ <;> intro b1 h
 refine kt b1 ?_
 refine Xf0 hm ?_
 iterate 9 refine kO hT hC ?_
 refine kQ hT hC h fun h => ?_
 iterate 5 refine kO hT hC ?_
 refine kD (Xab ?_)
 iterate 9 refine kO hT hC ?_
 exact Vc.nil kM
 exact kf b1 (Xag kM)
 refine Xac ?_
 iterate 2 refine kO hT hC ?_
 refine Vc.nil (Xam ?_)
 obtain rfl := kj h
 exact Xd6 (Xdj.refl _) rfl ⟨rfl, trivial⟩
def Xi3 (r : (Int × Xat)) : AV := .sv (.int .i64 r.1)
def Xi2 (r : (Int × Xat)) : Xbo := [(0, .box [.sv (.ints .u8 r.2.b_), .sv (.int .i64 r.2.i_), .sv (.int .i64 r.2.h_)])]
theorem Xax {p0 p1 r} (h : Xar p0 p1 = some r) : AC Try.prog 35 [.ptr 0 0, .sv (.int .i64 p1)] [(0, .box [.sv (.ints .u8 p0.b_), .sv (.int .i64 p0.i_), .sv (.int .i64 p0.h_)])] (Xi3 r) (Xi2 r) := by
 refine Xai hT Try.func35 rfl fun C hC => ?_
 unfold Xar at h
 refine Xac ?_
 refine kO hT hC ?_
 refine Vc.nil (Xb3 (Xac ?_))
 iterate 2 refine kO hT hC ?_
 refine Vc.nil ?_
 refine kS h ?_ ?_ <;> intro b1 h
 refine kt b1 (Xac ?_)
 refine kO hT hC ?_
 refine Vc.nil (Xam (Xa3 ?_))
 obtain rfl := kj h
 exact Xd6 (Xdj.refl _) rfl ⟨rfl, trivial⟩
 refine kf b1 (Xag (Xal (Xb3 (Xac ?_))))
 iterate 2 refine kO hT hC ?_
 refine Vc.nil ?_
 refine kS h ?_ ?_ <;> intro b2 h
 refine kt b2 (Xac ?_)
 refine kO hT hC ?_
 refine kC hC [(0, 0)] Try.call36 h (fun _ => Xb0) fun q1 h => ?_
 refine kO hT hC ?_
 refine kQ hT hC h fun h => ?_
 refine kO hT hC ?_
 refine Vc.nil (Xam (Xa3 ?_))
 obtain rfl := kj h
 exact Xd6 (Xdj.refl _) rfl ⟨rfl, trivial⟩
 refine kf b2 (Xag (Xal (Xac ?_)))
 refine kO hT hC ?_
 refine kC hC [(0, 0)] Try.call36 h (fun _ => Xb0) fun q2 h => ?_
 refine kO hT hC ?_
 refine kN ?_
 refine kO hT hC ?_
 refine kC hC [(0, 0)] Try.call36 h (fun _ => Xb0) fun q3 h => ?_
 refine kO hT hC ?_
 refine kN ?_
 refine kO hT hC ?_
 refine kC hC [(0, 0)] Try.call36 h (fun _ => Xb0) fun q4 h => ?_
 refine kO hT hC ?_
 refine kN ?_
 refine kO hT hC ?_
 refine kC hC [(0, 0)] Try.call36 h (fun _ => Xb0) fun q5 h => ?_
 refine kO hT hC ?_
 refine kN ?_
 iterate 11 refine kO hT hC ?_
 refine kQ hT hC h fun h => ?_
 refine kO hT hC ?_
 refine Vc.nil (Xam ?_)
 obtain rfl := kj h
 exact Xd6 (Xdj.refl _) rfl ⟨rfl, trivial⟩
def Xho (r : (List Int)) : AV := .own 16
def Xhn (r : (List Int)) : Xbo := [(16, .ints .i64 r)]
theorem Xh6 {p0 r} (h : Xc4 p0 = some r) : AC Try.prog 10 [.sv (.ints .u8 p0)] [] (Xho r) (Xhn r) := by
 refine Xai hT Try.func10 rfl fun C hC => ?_
 unfold Xc4 at h
 refine Xac ?_
 refine kO hT hC ?_
 refine kN ?_
 refine kO hT hC ?_
 refine kC hC [(16, 112)] Try.call33 h (fun _ => Xha) fun q1 h => ?_
 refine kO hT hC ?_
 refine kN ?_
 refine kO hT hC ?_
 refine kC hC [(0, 112)] Try.call36 h (fun _ => Xb0) fun q2 h => ?_
 refine kN ?_
 iterate 2 refine kO hT hC ?_
 refine Vc.nil (Xb3 (Xac ?_))
 refine kO hT hC ?_
 refine Vc.nil ?_
 refine kL [3,4,5] [112,160] [_,_,_] [_,_] ?_
 refine kX h (fun v5 => ([(5, .sv (.int .i64 v5.1))], [(112, some (.box [.sv (.ints .u8 v5.2.1), .sv (.int .i64 v5.2.2.1), .sv (.int .i64 v5.2.2.2.1)])), (160, some (.ints .i64 v5.2.2.2.2))])) (fun v8 => ([(3, .any), (5, .any)], [(160, some (.ints .i64 v8)), (112, none)])) (kW hC []) (fun v5 s h => ?_) fun v8 h => ?_
 unfold Xcy at h
 refine Xb3 (Xac ?_)
 iterate 2 refine kO hT hC ?_
 refine Vc.nil ?_
 refine kS h ?_ ?_ <;> intro b3 h
 refine kt b3 (Xag (Xal (Xb3 (Xbp (Xab ?_)))))
 iterate 2 refine kO hT hC ?_
 refine kC hC [(0, 112)] Try.call35 h (fun _ => Xax) fun q9 h => ?_
 refine kO hT hC ?_
 refine kT hT hC h fun h => ?_
 refine kO hT hC ?_
 refine Vc.nil (Xcc (Xal (Xab ?_)))
 iterate 3 refine kO hT hC ?_
 refine Vc.nil ?_
 obtain rfl := kj h
 exact Xuo (kW hC [(160, 304)])
 exact kf b3 (Xb4 (Xda ku))
 refine Xal (Xac ?_)
 iterate 2 refine kO hT hC ?_
 refine Vc.nil (Xam ?_)
 obtain rfl := kj h
 exact Xd6 (τ := ⟨[(2, .own 16)], [(16, some (.ints .i64 v8))]⟩) (kW hC [(16, 160)]) rfl ⟨rfl, trivial⟩
def Xk2 (r : Bool) : AV := .sv (.bool r)
def Xk1 (r : Bool) : Xbo := []
theorem Xca {p0 p1 p2 r} (h : Xbx p0 p1 p2 = some r) : AC Try.prog 38 [.sv (.int .i64 p0), .sv (.int .i64 p1), .sv (.int .i64 p2)] [] (Xk2 r) (Xk1 r) := by
 refine Xai hT Try.func38 rfl fun C hC => ?_
 unfold Xbx at h
 refine Xac ?_
 refine kO hT hC ?_
 refine Vc.nil ?_
 refine kL [0,1,2,6] [] [_,_,_,_] [] ?_
 refine kA h (fun v1 => ([(6, .sv (.bool v1)), (0, .any), (1, .any), (2, .any)], [])) (fun v1 h => ?_) fun v1 h => ?_
 refine Xab ?_
 iterate 4 refine kO hT hC ?_
 refine kS h ?_ ?_ <;> intro b1 h
 iterate 3 refine kI hT hC b1 ?_
 refine kP hC true b1 ?_
 refine kO hT hC ?_
 exact Vc.nil kM
 iterate 3 refine kF hC b1 ?_
 refine kP hC false b1 ?_
 refine kO hT hC ?_
 exact Vc.nil kM
 exact Xam kR
def Xka (r : Xah) : AV := .agg [.sv (.bool r.Begun), .sv (.int .i64 r.Next), .sv (.int .i64 r.Age), .own 16, .sv (.int .i64 r.Late), .sv (.int .i64 r.Far), .sv (.int .i64 r.Twice), .sv (.int .i64 r.Over), .sv (.int .i64 r.Lost)]
def Xj9 (r : Xah) : Xbo := [(16, .row Xae r.Held)]
theorem Xgz {p0 r} (h : Xds p0 = some r) : AC Try.prog 40 [.agg [.sv (.bool p0.Begun), .sv (.int .i64 p0.Next), .sv (.int .i64 p0.Age), .sv (Xae.sv p0.Held), .sv (.int .i64 p0.Late), .sv (.int .i64 p0.Far), .sv (.int .i64 p0.Twice), .sv (.int .i64 p0.Over), .sv (.int .i64 p0.Lost)]] [] (Xka r) (Xj9 r) := by
 refine Xai hT Try.func40 rfl fun C hC => ?_
 unfold Xds at h
 refine Xac ?_
 iterate 2 refine kO hT hC ?_
 refine kN ?_
 iterate 3 refine kO hT hC ?_
 obtain ⟨hq, h⟩ := Xa5 h
 refine Xmy hT hC rfl rfl rfl rfl ⟨fun _ _ => rfl, by rw [Xao]; exact hq⟩ ?_
 rw [Xao]
 iterate 2 refine kO hT hC ?_
 refine kN ?_
 iterate 2 refine kO hT hC ?_
 refine Vc.nil (Xam ?_)
 obtain rfl := kj h
 exact Xd6 (τ := ⟨[(2, .ptr 2000000 0)], [(16, some (.row Xae (([] : List Xaa) ++ p0.Held))), (2000000, some (.box [.sv (.bool p0.Begun), .sv (.int .i64 p0.Next), .sv (.int .i64 p0.Age), .own 16, .sv (.int .i64 p0.Late), .sv (.int .i64 p0.Far), .sv (.int .i64 p0.Twice), .sv (.int .i64 p0.Over), .sv (.int .i64 p0.Lost)]))]⟩) (kW hC [(16, 96), (2000000, 32)]) rfl ⟨rfl, trivial⟩
def Xl7 (r : Bool) : AV := .sv (.bool r)
def Xl6 (r : Bool) : Xbo := []
theorem Xa6 {p0 p1 p2 r} (h : Xbe p0 p1 p2 = some r) : AC Try.prog 42 [.sv (.int .i64 p0), .sv (.int .i64 p1), .sv (.int .i64 p2)] [] (Xl7 r) (Xl6 r) := by
 refine Xai hT Try.func42 rfl fun C hC => ?_
 unfold Xbe at h
 refine Xac ?_
 refine kO hT hC ?_
 refine Vc.nil ?_
 refine kL [0,1,2,6] [] [_,_,_,_] [] ?_
 refine kA h (fun v1 => ([(6, .sv (.bool v1)), (0, .any), (1, .any), (2, .any)], [])) (fun v1 h => ?_) fun v1 h => ?_
 refine Xab ?_
 iterate 4 refine kO hT hC ?_
 refine kS h ?_ ?_ <;> intro b1 h
 iterate 3 refine kI hT hC b1 ?_
 refine kP hC true b1 ?_
 refine kO hT hC ?_
 exact Vc.nil kM
 iterate 3 refine kF hC b1 ?_
 refine kP hC false b1 ?_
 refine kO hT hC ?_
 exact Vc.nil kM
 exact Xam kR
def Xln (r : Int) : AV := .sv (.int .i64 r)
def Xlm (r : Int) : Xbo := []
theorem Xcu {p0 p1 r} (h : Xcb p0 p1 = some r) : AC Try.prog 58 [.sv (.int .i64 p0), .sv (.int .i64 p1)] [] (Xln r) (Xlm r) := by
 refine Xai hT Try.func58 rfl fun C hC => ?_
 unfold Xcb at h
 refine Xac ?_
 refine kO hT hC ?_
 refine Vc.nil (Xb3 ?_)
 refine kL [0,1] [] [_,_] [] ?_
 refine kA h (fun v1 => ([(13, .sv (.bool v1))], [])) (fun v1 h => ?_) fun v1 h => ?_
 refine Xab ?_
 refine kO hT hC ?_
 refine kC hC [] Try.call42 h (fun _ => Xa6) fun q2 h => ?_
 iterate 2 refine kO hT hC ?_
 refine kS h ?_ ?_ <;> intro b1 h
 refine kI hT hC (kn b1) ?_
 refine kE hC (kn b1) [] Try.call42 h (fun _ => Xa6) fun q3 h => ?_
 refine kI hT hC (kn b1) ?_
 refine kP hC false (kn b1) ?_
 exact Vc.nil kM
 iterate 3 refine kF hC (kn b1) ?_
 refine kP hC true (kn b1) ?_
 exact Vc.nil kM
 refine kS h ?_ ?_ <;> intro b2 h
 refine kt b2 (Xac ?_)
 refine kO hT hC ?_
 exact Vc.nil (Xam (Xa3 kR))
 refine kf b2 (Xag (Xal (Xac ?_)))
 iterate 4 refine kO hT hC ?_
 refine Vc.nil ?_
 refine kL [5] [] [_] [] ?_
 refine kA h (fun v4 => ([(5, .sv (.int .i64 v4))], [])) (fun v4 h => ?_) fun v4 h => ?_
 refine Xac ?_
 iterate 2 refine kO hT hC ?_
 refine Vc.nil ?_
 refine kS h ?_ ?_ <;> intro b3 h
 refine kt b3 (Xab ?_)
 iterate 3 refine kO hT hC ?_
 exact Vc.nil kM
 exact kf b3 (Xag kM)
 refine kL [5] [] [_] [] ?_
 refine kA h (fun v5 => ([(5, .sv (.int .i64 v5))], [])) (fun v5 h => ?_) fun v5 h => ?_
 refine Xac ?_
 iterate 2 refine kO hT hC ?_
 refine Vc.nil ?_
 refine kS h ?_ ?_ <;> intro b4 h
 refine kt b4 (Xab ?_)
 iterate 3 refine kO hT hC ?_
 exact Vc.nil kM
 exact kf b4 (Xag kM)
 refine Xac ?_
 iterate 2 refine kO hT hC ?_
 exact Vc.nil (Xam kR)
def Xi1 (r : Bool) : AV := .sv (.bool r)
def Xi0 (r : Bool) : Xbo := []
theorem Xgn {p0 r} (h : Xdd p0 = some r) : AC Try.prog 57 [.agg [.sv (.int .i64 p0.Seq), .sv (.bool p0.First), .sv (.bool p0.Last), .sv (.str p0.Bytes)]] [] (Xi1 r) (Xi0 r) := by
 refine Xai hT Try.func57 rfl fun C hC => ?_
 unfold Xdd at h
 refine Xac ?_
 iterate 2 refine kO hT hC ?_
 refine Vc.nil ?_
 refine kL [1,2] [16] [_,_] [_] ?_
 refine kA h (fun v1 => ([(2, .sv (.bool v1)), (1, .any)], [(16, none)])) (fun v1 h => ?_) fun v1 h => ?_
 refine Xab ?_
 iterate 2 refine kO hT hC ?_
 refine kC hC [] Try.call42 h (fun _ => Xa6) fun q2 h => ?_
 refine kO hT hC ?_
 refine kS h ?_ ?_ <;> intro b1 h
 iterate 3 refine kI hT hC b1 ?_
 refine kE hC b1 [] Try.call42 h (fun _ => Xa6) fun q3 h => ?_
 refine kP hC true b1 ?_
 refine kO hT hC ?_
 exact Vc.nil kM
 iterate 4 refine kF hC b1 ?_
 refine kP hC false b1 ?_
 refine kO hT hC ?_
 exact Vc.nil kM
 exact Xam kR
def Xi5 (r : Bool) : AV := .sv (.bool r)
def Xi4 (r : Bool) : Xbo := []
theorem Xcq {p0 r} (h : Xbq p0 = some r) : AC Try.prog 63 [.sv (.int .i64 p0)] [] (Xi5 r) (Xi4 r) := by
 refine Xai hT Try.func63 rfl fun C hC => ?_
 unfold Xbq at h
 refine Xac ?_
 refine kO hT hC ?_
 refine kN ?_
 refine kO hT hC ?_
 refine kC hC [] Try.call42 h (fun _ => Xa6) fun q1 h => ?_
 refine kO hT hC ?_
 exact Vc.nil (Xam kR)
def Xgq (r : Bool) : AV := .sv (.bool r)
def Xgp (r : Bool) : Xbo := []
theorem Xfb {p0 r} (h : Xc6 p0 = some r) : AC Try.prog 41 [.agg [.sv (.bool p0.Begun), .sv (.int .i64 p0.Next), .sv (.int .i64 p0.Age), .sv (Xae.sv p0.Held), .sv (.int .i64 p0.Late), .sv (.int .i64 p0.Far), .sv (.int .i64 p0.Twice), .sv (.int .i64 p0.Over), .sv (.int .i64 p0.Lost)]] [] (Xgq r) (Xgp r) := by
 refine Xai hT Try.func41 rfl fun C hC => ?_
 unfold Xc6 at h
 refine Xac ?_
 iterate 2 refine kO hT hC ?_
 refine Vc.nil (Xb3 (Xac ?_))
 iterate 3 refine kO hT hC ?_
 refine Vc.nil ?_
 refine kS h ?_ ?_ <;> intro b1 h
 refine kt b1 ?_
 refine kL [1,2] [16] [_,_] [_] ?_
 refine kA h (fun v1 => ([(2, .sv (.bool v1)), (1, .any)], [(16, none)])) (fun v1 h => ?_) fun v1 h => ?_
 refine Xab ?_
 iterate 4 refine kO hT hC ?_
 refine kS h ?_ ?_ <;> intro b2 h
 iterate 3 refine kI hT hC b2 ?_
 refine kP hC true b2 ?_
 refine kO hT hC ?_
 refine kS h ?_ ?_ <;> intro b3 h
 iterate 4 refine kI hT hC b3 ?_
 refine kP hC true b3 ?_
 refine kO hT hC ?_
 refine kS h ?_ ?_ <;> intro b4 h
 iterate 3 refine kI hT hC b4 ?_
 refine kP hC true b4 ?_
 refine kO hT hC ?_
 refine kS h ?_ ?_ <;> intro b5 h
 iterate 3 refine kI hT hC b5 ?_
 refine kP hC true b5 ?_
 refine kO hT hC ?_
 refine kS h ?_ ?_ <;> intro b6 h
 iterate 3 refine kI hT hC b6 ?_
 refine kP hC true b6 ?_
 refine kO hT hC ?_
 refine kS h ?_ ?_ <;> intro b7 h
 iterate 3 refine kI hT hC b7 ?_
 refine kP hC true b7 ?_
 refine kO hT hC ?_
 refine kS h ?_ ?_ <;> intro b8 h
 iterate 3 refine kI hT hC b8 ?_
 refine kP hC true b8 ?_
 refine kO hT hC ?_
 exact Vc.nil kM
 iterate 3 refine kF hC b8 ?_
 refine kP hC false b8 ?_
 refine kO hT hC ?_
 exact Vc.nil kM
 iterate 3 refine kF hC b7 ?_
 refine kP hC false b7 ?_
 refine kO hT hC ?_
 iterate 3 refine kF hC rfl ?_
 iterate 2 refine kO hT hC ?_
 exact Vc.nil kM
 iterate 3 refine kF hC b6 ?_
 refine kP hC false b6 ?_
 refine kO hT hC ?_
 iterate 3 refine kF hC rfl ?_
 iterate 2 refine kO hT hC ?_
 iterate 3 refine kF hC rfl ?_
 iterate 2 refine kO hT hC ?_
 exact Vc.nil kM
 iterate 3 refine kF hC b5 ?_
 refine kP hC false b5 ?_
 refine kO hT hC ?_
 iterate 3 refine kF hC rfl ?_
 iterate 2 refine kO hT hC ?_
 iterate 3 refine kF hC rfl ?_
 iterate 2 refine kO hT hC ?_
 iterate 3 refine kF hC rfl ?_
 iterate 2 refine kO hT hC ?_
 exact Vc.nil kM
 iterate 3 refine kF hC b4 ?_
 refine kP hC false b4 ?_
 refine kO hT hC ?_
 iterate 3 refine kF hC rfl ?_
 iterate 2 refine kO hT hC ?_
 iterate 3 refine kF hC rfl ?_
 iterate 2 refine kO hT hC ?_
 iterate 3 refine kF hC rfl ?_
 iterate 2 refine kO hT hC ?_
 iterate 3 refine kF hC rfl ?_
 iterate 2 refine kO hT hC ?_
 exact Vc.nil kM
 iterate 4 refine kF hC b3 ?_
 refine kP hC false b3 ?_
 refine kO hT hC ?_
 iterate 3 refine kF hC rfl ?_
 iterate 2 refine kO hT hC ?_
 iterate 3 refine kF hC rfl ?_
 iterate 2 refine kO hT hC ?_
 iterate 3 refine kF hC rfl ?_
 iterate 2 refine kO hT hC ?_
 iterate 3 refine kF hC rfl ?_
 iterate 2 refine kO hT hC ?_
 iterate 3 refine kF hC rfl ?_
 iterate 2 refine kO hT hC ?_
 exact Vc.nil kM
 iterate 3 refine kF hC b2 ?_
 refine kP hC false b2 ?_
 refine kO hT hC ?_
 iterate 4 refine kF hC rfl ?_
 iterate 2 refine kO hT hC ?_
 iterate 3 refine kF hC rfl ?_
 iterate 2 refine kO hT hC ?_
 iterate 3 refine kF hC rfl ?_
 iterate 2 refine kO hT hC ?_
 iterate 3 refine kF hC rfl ?_
 iterate 2 refine kO hT hC ?_
 iterate 3 refine kF hC rfl ?_
 iterate 2 refine kO hT hC ?_
 iterate 3 refine kF hC rfl ?_
 iterate 2 refine kO hT hC ?_
 exact Vc.nil kM
 exact Xam (Xa3 kR)
 refine kf b1 (Xag (Xal (Xb3 ?_)))
 refine kL [1] [16] [_] [_] ?_
 refine kA h (fun v2 => ([(63, .sv (.bool v2))], [])) (fun v2 h => ?_) fun v2 h => ?_
 refine Xab ?_
 iterate 2 refine kO hT hC ?_
 refine kC hC [] Try.call42 h (fun _ => Xa6) fun q3 h => ?_
 iterate 2 refine kO hT hC ?_
 refine kS h ?_ ?_ <;> intro b9 h
 iterate 2 refine kI hT hC (kn b9) ?_
 refine kE hC (kn b9) [] Try.call42 h (fun _ => Xa6) fun q4 h => ?_
 refine kI hT hC (kn b9) ?_
 refine kP hC false (kn b9) ?_
 refine kO hT hC ?_
 refine kS h ?_ ?_ <;> intro b10 h
 iterate 4 refine kI hT hC (kn b10) ?_
 refine kP hC false (kn b10) ?_
 exact Vc.nil kM
 iterate 4 refine kF hC (kn b10) ?_
 refine kP hC true (kn b10) ?_
 exact Vc.nil kM
 iterate 4 refine kF hC (kn b9) ?_
 refine kP hC true (kn b9) ?_
 refine kO hT hC ?_
 iterate 4 refine kF hC rfl ?_
 refine kO hT hC ?_
 exact Vc.nil kM
 refine kS h ?_ ?_ <;> intro b11 h
 refine kt b11 (Xac ?_)
 refine kO hT hC ?_
 exact Vc.nil (Xam (Xa3 kR))
 refine kf b11 (Xag (Xal (Xac ?_)))
 refine kO hT hC ?_
 refine Vc.nil (Xb3 (Xac ?_))
 refine kO hT hC ?_
 refine Vc.nil ?_
 refine kL [1,3,4] [16] [_,_,_] [_] ?_
 obtain ⟨o18, hl, h⟩ := Xb6 h
 refine Xgj (fun v9 => ([(3, .sv (.int .i64 v9.1)), (4, .sv (.int .i64 v9.2))], [])) (fun v14 => ([(3, .any), (4, .any)], [])) (fun r => Xjg C T Try.f41.results.toList (Xgq r) (Xgp r)) hl ?_ ?_ ?_ ?_
 try dsimp only
 apply Xgb hC []
 exact co
 rfl
 decide
 rfl
 intro v9 s hs
 have h := hs
 unfold Xce at h
 refine Xb3 (Xac ?_)
 iterate 5 refine kO hT hC ?_
 refine Vc.nil ?_
 refine kS h ?_ ?_ <;> intro b20 h
 refine kt b20 (Xag (Xal (Xb3 (Xbp ?_))))
 refine Xf0 hm ?_
 iterate 5 refine kO hT hC ?_
 refine kQ hT hC h fun h => ?_
 iterate 2 refine kO hT hC ?_
 refine kC hC [] Try.call58 h (fun _ => Xcu) fun q15 h => ?_
 refine kO hT hC ?_
 refine kD (Xb3 ?_)
 refine kL [1,3,4,5] [16] [_,_,_,_] [_] ?_
 refine kA h (fun v16 => ([(95, .sv (.bool v16)), (3, .any)], [])) (fun v16 h => ?_) fun v16 h => ?_
 refine Xab ?_
 iterate 3 refine kO hT hC ?_
 refine kQ hT hC h fun h => ?_
 refine kO hT hC ?_
 refine kC hC [] Try.call57 h (fun _ => Xgn) fun q17 h => ?_
 iterate 2 refine kO hT hC ?_
 refine kS h ?_ ?_ <;> intro b21 h
 iterate 3 refine kI hT hC (kn b21) ?_
 refine kP hC false (kn b21) ?_
 refine kO hT hC ?_
 refine kS h ?_ ?_ <;> intro b22 h
 iterate 2 refine kF hC b22 ?_
 refine kP hC true b22 ?_
 exact Vc.nil kM
 iterate 2 refine kI hT hC b22 ?_
 refine kP hC false b22 ?_
 exact Vc.nil kM
 iterate 3 refine kF hC (kn b21) ?_
 refine kP hC true (kn b21) ?_
 refine kO hT hC ?_
 iterate 2 refine kF hC rfl ?_
 refine kO hT hC ?_
 exact Vc.nil kM
 refine kS h ?_ ?_ <;> intro b23 h
 refine kt b23 (Xac ?_)
 refine kO hT hC ?_
 refine Vc.nil (Xam (Xa3 (Xfm (Xa3 ?_))))
 obtain rfl := kj h
 refine Xjt (Xjs ?_)
 exact Xd6 (Xdj.refl _) rfl trivial
 refine kf b23 (Xag (Xal (Xab ?_)))
 iterate 2 refine kO hT hC ?_
 refine Vc.nil (Xcc (Xal (Xab ?_)))
 iterate 3 refine kO hT hC ?_
 exact Vc.nil kG
 exact kf b20 (Xb4 (Xda kb))
 intro v14 e
 subst e
 refine Xal ?_
 refine kL [1] [16] [_] [_] ?_
 refine kA h (fun v19 => ([(2, .sv (.bool v19)), (1, .any)], [(16, none)])) (fun v19 h => ?_) fun v19 h => ?_
 refine Xab ?_
 iterate 2 refine kO hT hC ?_
 refine kC hC [] Try.call63 h (fun _ => Xcq) fun q20 h => ?_
 refine kO hT hC ?_
 refine kS h ?_ ?_ <;> intro b24 h
 iterate 2 refine kI hT hC b24 ?_
 refine kE hC b24 [] Try.call63 h (fun _ => Xcq) fun q21 h => ?_
 refine kP hC true b24 ?_
 refine kO hT hC ?_
 refine kS h ?_ ?_ <;> intro b25 h
 iterate 2 refine kI hT hC b25 ?_
 refine kE hC b25 [] Try.call63 h (fun _ => Xcq) fun q22 h => ?_
 refine kP hC true b25 ?_
 refine kO hT hC ?_
 refine kS h ?_ ?_ <;> intro b26 h
 iterate 2 refine kI hT hC b26 ?_
 refine kE hC b26 [] Try.call63 h (fun _ => Xcq) fun q23 h => ?_
 refine kP hC true b26 ?_
 refine kO hT hC ?_
 refine kS h ?_ ?_ <;> intro b27 h
 iterate 2 refine kI hT hC b27 ?_
 refine kE hC b27 [] Try.call63 h (fun _ => Xcq) fun q24 h => ?_
 refine kP hC true b27 ?_
 refine kO hT hC ?_
 exact Vc.nil kM
 iterate 3 refine kF hC b27 ?_
 refine kP hC false b27 ?_
 refine kO hT hC ?_
 exact Vc.nil kM
 iterate 3 refine kF hC b26 ?_
 refine kP hC false b26 ?_
 refine kO hT hC ?_
 iterate 3 refine kF hC rfl ?_
 iterate 2 refine kO hT hC ?_
 exact Vc.nil kM
 iterate 3 refine kF hC b25 ?_
 refine kP hC false b25 ?_
 refine kO hT hC ?_
 iterate 3 refine kF hC rfl ?_
 iterate 2 refine kO hT hC ?_
 iterate 3 refine kF hC rfl ?_
 iterate 2 refine kO hT hC ?_
 exact Vc.nil kM
 iterate 3 refine kF hC b24 ?_
 refine kP hC false b24 ?_
 refine kO hT hC ?_
 iterate 3 refine kF hC rfl ?_
 iterate 2 refine kO hT hC ?_
 iterate 3 refine kF hC rfl ?_
 iterate 2 refine kO hT hC ?_
 iterate 3 refine kF hC rfl ?_
 iterate 2 refine kO hT hC ?_
 exact Vc.nil kM
 exact Xam kR
 intro r' σ' e hE
 subst e
 obtain rfl := kj h
 refine Xa3 ?_
 exact hE
def Xf9 (r : Int) : AV := .sv (.int .i64 r)
def Xf8 (r : Int) : Xbo := []
theorem Xke {p0 r} (h : Xd3 p0 = some r) : AC Try.prog 43 [.agg [.sv (.bool p0.Begun), .sv (.int .i64 p0.Next), .sv (.int .i64 p0.Age), .sv (Xae.sv p0.Held), .sv (.int .i64 p0.Late), .sv (.int .i64 p0.Far), .sv (.int .i64 p0.Twice), .sv (.int .i64 p0.Over), .sv (.int .i64 p0.Lost)]] [] (Xf9 r) (Xf8 r) := by
 refine Xai hT Try.func43 rfl fun C hC => ?_
 unfold Xd3 at h
 refine Xac ?_
 iterate 2 refine kO hT hC ?_
 refine Vc.nil (Xb3 (Xac ?_))
 refine kO hT hC ?_
 refine Vc.nil ?_
 refine kL [1,3] [16] [_,_] [_] ?_
 obtain ⟨o8, hl, h⟩ := Xb6 h
 refine Xgj (fun v3 => ([(3, .sv (.int .i64 v3))], [])) (fun v6 => ([(1, .any), (3, .any)], [(16, none)])) (fun r => Xjg C T Try.f43.results.toList (Xf9 r) (Xf8 r)) hl ?_ ?_ ?_ ?_
 apply Xgb hC []
 exact co
 rfl
 decide
 rfl
 intro v3 s hs
 have h := hs
 unfold Xbn at h
 refine Xb3 (Xac ?_)
 iterate 5 refine kO hT hC ?_
 refine Vc.nil ?_
 refine kS h ?_ ?_ <;> intro b7 h
 refine kt b7 (Xag (Xal (Xb3 (Xbp (Xb3 ?_)))))
 refine Xf0 hm ?_
 iterate 5 refine kO hT hC ?_
 refine kQ hT hC h fun h => ?_
 iterate 2 refine kO hT hC ?_
 refine kC hC [] Try.call58 h (fun _ => Xcu) fun q7 h => ?_
 iterate 2 refine kO hT hC ?_
 refine kD ?_
 refine kS h ?_ ?_ <;> intro b8 h
 refine kt b8 (Xac ?_)
 refine kO hT hC ?_
 refine Vc.nil (Xam (Xa3 (Xfm (Xa3 ?_))))
 obtain rfl := kj h
 refine Xjt (Xjs ?_)
 exact Xd6 (Xdj.refl _) rfl trivial
 refine kf b8 (Xag (Xal (Xac ?_)))
 iterate 3 refine kO hT hC ?_
 refine kQ hT hC h fun h => ?_
 iterate 2 refine kO hT hC ?_
 refine Vc.nil ?_
 refine kS h ?_ ?_ <;> intro b9 h
 refine kt b9 (Xac ?_)
 iterate 3 refine kO hT hC ?_
 refine Vc.nil (Xam (Xfm (Xa3 ?_)))
 obtain rfl := kj h
 refine Xjt (Xjs ?_)
 exact Xd6 (Xdj.refl _) rfl trivial
 refine kf b9 (Xag (Xcc (Xal (Xab ?_))))
 iterate 3 refine kO hT hC ?_
 exact Vc.nil kG
 exact kf b7 (Xb4 (Xda kb))
 intro v6 e
 subst e
 refine Xal (Xac ?_)
 refine kO hT hC ?_
 exact Vc.nil (Xam kR)
 intro r' σ' e hE
 subst e
 obtain rfl := kj h
 refine Xa3 ?_
 exact hE
def Xj2 (r : Int) : AV := .sv (.int .i64 r)
def Xj1 (r : Int) : Xbo := []
theorem Xfd {p0 p1 r} (h : Xc7 p0 p1 = some r) : AC Try.prog 44 [.sv (.int .i64 p0), .sv (.int .i64 p1)] [] (Xj2 r) (Xj1 r) := by
 refine Xai hT Try.func44 rfl fun C hC => ?_
 unfold Xc7 at h
 refine Xac ?_
 refine kO hT hC ?_
 refine Vc.nil (Xb3 ?_)
 refine kL [0,1] [] [_,_] [] ?_
 refine kA h (fun v1 => ([(12, .sv (.bool v1))], [])) (fun v1 h => ?_) fun v1 h => ?_
 refine Xab ?_
 refine kO hT hC ?_
 refine kC hC [] Try.call42 h (fun _ => Xa6) fun q2 h => ?_
 iterate 2 refine kO hT hC ?_
 refine kS h ?_ ?_ <;> intro b1 h
 refine kI hT hC (kn b1) ?_
 refine kE hC (kn b1) [] Try.call42 h (fun _ => Xa6) fun q3 h => ?_
 refine kI hT hC (kn b1) ?_
 refine kP hC false (kn b1) ?_
 exact Vc.nil kM
 iterate 3 refine kF hC (kn b1) ?_
 refine kP hC true (kn b1) ?_
 exact Vc.nil kM
 refine kS h ?_ ?_ <;> intro b2 h
 refine kt b2 (Xac ?_)
 refine kO hT hC ?_
 exact Vc.nil (Xam (Xa3 kR))
 refine kf b2 (Xag (Xal (Xac ?_)))
 iterate 3 refine kO hT hC ?_
 refine kQ hT hC h fun h => ?_
 refine kO hT hC ?_
 exact Vc.nil (Xam kR)
def Xjw (r : Int) : AV := .sv (.int .i64 r)
def Xjv (r : Int) : Xbo := []
theorem Xlk {p0 p1 p2 r} (h : Xep p0 p1 p2 = some r) : AC Try.prog 64 [.sv (.int .i64 p0), .sv (.int .i64 p1), .sv (.int .i64 p2)] [] (Xjw r) (Xjv r) := by
 refine Xai hT Try.func64 rfl fun C hC => ?_
 unfold Xep at h
 refine Xac ?_
 refine kO hT hC ?_
 refine Vc.nil (Xb3 ?_)
 refine kL [0,1,2] [] [_,_,_] [] ?_
 refine kA h (fun v1 => ([(14, .sv (.bool v1))], [])) (fun v1 h => ?_) fun v1 h => ?_
 refine Xab ?_
 iterate 4 refine kO hT hC ?_
 refine kS h ?_ ?_ <;> intro b1 h
 iterate 3 refine kF hC b1 ?_
 refine kP hC true b1 ?_
 exact Vc.nil kM
 iterate 3 refine kI hT hC b1 ?_
 refine kP hC false b1 ?_
 exact Vc.nil kM
 refine kS h ?_ ?_ <;> intro b2 h
 refine kt b2 (Xac ?_)
 iterate 2 refine kO hT hC ?_
 exact Vc.nil (Xam (Xa3 kR))
 refine kf b2 (Xag (Xal (Xb3 (Xac ?_))))
 iterate 3 refine kO hT hC ?_
 refine Vc.nil ?_
 refine kS h ?_ ?_ <;> intro b3 h
 refine kt b3 (Xac ?_)
 iterate 2 refine kO hT hC ?_
 exact Vc.nil (Xam (Xa3 kR))
 refine kf b3 (Xag (Xal (Xac ?_)))
 iterate 2 refine kO hT hC ?_
 exact Vc.nil (Xam kR)
def Xkd (r : Int) : AV := .sv (.int .i64 r)
def Xkc (r : Int) : Xbo := []
theorem Xc8 {p0 r} (h : Xb9 p0 = some r) : AC Try.prog 45 [.sv (.int .i64 p0)] [] (Xkd r) (Xkc r) := by
 refine Xai hT Try.func45 rfl fun C hC => ?_
 unfold Xb9 at h
 refine Xac ?_
 refine kO hT hC ?_
 refine kN ?_
 iterate 2 refine kO hT hC ?_
 refine kC hC [] Try.call64 h (fun _ => Xlk) fun q1 h => ?_
 refine kO hT hC ?_
 exact Vc.nil (Xam kR)
def Xib (r : (Xah × (List Xaa) × Int)) : AV := .tup [.agg [.sv (.bool r.1.Begun), .sv (.int .i64 r.1.Next), .sv (.int .i64 r.1.Age), .own 16, .sv (.int .i64 r.1.Late), .sv (.int .i64 r.1.Far), .sv (.int .i64 r.1.Twice), .sv (.int .i64 r.1.Over), .sv (.int .i64 r.1.Lost)], .own 17, .sv (.int .i64 r.2.2)]
def Xia (r : (Xah × (List Xaa) × Int)) : Xbo := [(16, .row Xae r.1.Held), (17, .row Xae r.2.1)]
theorem Xf4 {p0 p1 r} (h : Xbu p0 p1 = some r) : AC Try.prog 16 [.agg [.sv (.bool p0.Begun), .sv (.int .i64 p0.Next), .sv (.int .i64 p0.Age), .sv (Xae.sv p0.Held), .sv (.int .i64 p0.Late), .sv (.int .i64 p0.Far), .sv (.int .i64 p0.Twice), .sv (.int .i64 p0.Over), .sv (.int .i64 p0.Lost)], .sv (.int .i64 p1)] [] (Xib r) (Xia r) := by
 refine Xai hT Try.func16 rfl fun C hC => ?_
 unfold Xbu at h
 refine Xac ?_
 iterate 4 refine kO hT hC ?_
 refine kN ?_
 iterate 2 refine kO hT hC ?_
 refine kN ?_
 refine kO hT hC ?_
 refine kC hC [(16, 208)] Try.call40 h (fun _ => Xgz) fun q1 h => ?_
 refine kO hT hC ?_
 refine Vc.nil (Xb3 ?_)
 refine kL [1,2,4,7] [32,64,176,208] [_,_,_,_] [_,_,_,_] ?_
 refine kA h (fun v2 => ([(21, .sv (.bool v2))], [])) (fun v2 h => ?_) fun v2 h => ?_
 refine Xab ?_
 refine kO hT hC ?_
 refine kC hC [] Try.call41 h (fun _ => Xfb) fun q3 h => ?_
 iterate 2 refine kO hT hC ?_
 refine kS h ?_ ?_ <;> intro b1 h
 refine kI hT hC (kn b1) ?_
 refine kE hC (kn b1) [] Try.call42 h (fun _ => Xa6) fun q4 h => ?_
 refine kI hT hC (kn b1) ?_
 refine kP hC false (kn b1) ?_
 exact Vc.nil kM
 iterate 3 refine kF hC (kn b1) ?_
 refine kP hC true (kn b1) ?_
 exact Vc.nil kM
 refine kS h ?_ ?_ <;> intro b2 h
 refine kt b2 (Xac ?_)
 iterate 5 refine kO hT hC ?_
 refine Vc.nil (Xam (Xa3 ?_))
 obtain rfl := kj h
 exact Xd6 (τ := ⟨[(4, .ptr 2000000 0), (5, .own 17), (6, .sv (.int .i64 0))], [(16, some (.row Xae q1.Held)), (17, some (.row Xae ([] : List Xaa))), (2000000, some (.box [.sv (.bool q1.Begun), .sv (.int .i64 q1.Next), .sv (.int .i64 q1.Age), .own 16, .sv (.int .i64 q1.Late), .sv (.int .i64 q1.Far), .sv (.int .i64 q1.Twice), .sv (.int .i64 q1.Over), .sv (.int .i64 q1.Lost)]))]⟩) (kW hC [(16, 208), (17, 176), (2000000, 64)]) rfl ⟨rfl, rfl, trivial⟩
 refine kf b2 (Xag (Xal (Xac ?_)))
 refine kO hT hC ?_
 refine kC hC [] Try.call43 h (fun _ => Xke) fun q5 h => ?_
 refine kO hT hC ?_
 refine Vc.nil (Xb3 (Xac ?_))
 iterate 2 refine kO hT hC ?_
 refine Vc.nil ?_
 refine kS h ?_ ?_ <;> intro b3 h
 refine kt b3 (Xac ?_)
 iterate 4 refine kO hT hC ?_
 refine kQ hT hC h fun h => ?_
 obtain ⟨hq, h⟩ := Xa5 h
 refine Xmy hT hC rfl rfl rfl rfl ⟨⟨hq.1, fun _ _ => rfl⟩, by rw [Xao]; exact hq.2⟩ ?_
 rw [Xao]
 refine kO hT hC ?_
 refine kN ?_
 iterate 3 refine kO hT hC ?_
 refine kC hC [] Try.call44 h (fun _ => Xfd) fun q6 h => ?_
 iterate 2 refine kO hT hC ?_
 refine kN ?_
 iterate 4 refine kO hT hC ?_
 refine kQ hT hC h fun h => ?_
 obtain ⟨hq, h⟩ := Xa5 h
 refine Xmy hT hC rfl rfl rfl rfl ⟨⟨hq.1, fun _ _ => rfl⟩, by rw [Xao]; exact hq.2⟩ ?_
 rw [Xao]
 iterate 2 refine kO hT hC ?_
 refine kN ?_
 iterate 2 refine kO hT hC ?_
 refine kN ?_
 iterate 5 refine kO hT hC ?_
 refine Vc.nil (Xam (Xa3 ?_))
 obtain rfl := kj h
 exact Xd6 (τ := ⟨[(4, .ptr 2000000 0), (5, .own 17), (6, .sv (.int .i64 1))], [(16, some (.row Xae (([] : List Xaa) ++ ((q1.Held.drop q5.toNat).take ((q1.Held.length : Int).toNat - q5.toNat))))), (17, some (.row Xae (([] : List Xaa) ++ ((q1.Held.drop ((0 : Int).toNat)).take (q5.toNat - (0 : Int).toNat))))), (2000000, some (.box [.sv (.bool q1.Begun), .sv (.int .i64 q6), .sv (.int .i64 0), .own 16, .sv (.int .i64 q1.Late), .sv (.int .i64 q1.Far), .sv (.int .i64 q1.Twice), .sv (.int .i64 q1.Over), .sv (.int .i64 q1.Lost)]))]⟩) (kW hC [(16, 704), (17, 528), (2000000, 64)]) rfl ⟨rfl, rfl, trivial⟩
 refine kf b3 (Xag (Xal (Xb3 (Xac ?_))))
 iterate 4 refine kO hT hC ?_
 refine Vc.nil ?_
 refine kS h ?_ ?_ <;> intro b4 h
 refine kt b4 (Xac ?_)
 iterate 2 refine kO hT hC ?_
 refine kN ?_
 iterate 5 refine kO hT hC ?_
 refine Vc.nil (Xam (Xa3 ?_))
 obtain rfl := kj h
 exact Xd6 (τ := ⟨[(4, .ptr 2000000 0), (5, .own 17), (6, .sv (.int .i64 0))], [(16, some (.row Xae q1.Held)), (17, some (.row Xae ([] : List Xaa))), (2000000, some (.box [.sv (.bool q1.Begun), .sv (.int .i64 q1.Next), .sv (.int .i64 0), .own 16, .sv (.int .i64 q1.Late), .sv (.int .i64 q1.Far), .sv (.int .i64 q1.Twice), .sv (.int .i64 q1.Over), .sv (.int .i64 q1.Lost)]))]⟩) (kW hC [(16, 208), (17, 176), (2000000, 64)]) rfl ⟨rfl, rfl, trivial⟩
 refine kf b4 (Xag (Xal (Xb3 (Xac ?_))))
 iterate 4 refine kO hT hC ?_
 refine Vc.nil ?_
 refine kS h ?_ ?_ <;> intro b5 h
 refine kt b5 (Xac ?_)
 iterate 5 refine kO hT hC ?_
 refine kN ?_
 iterate 5 refine kO hT hC ?_
 refine Vc.nil (Xam (Xa3 ?_))
 obtain rfl := kj h
 exact Xd6 (τ := ⟨[(4, .ptr 2000000 0), (5, .own 17), (6, .sv (.int .i64 0))], [(16, some (.row Xae q1.Held)), (17, some (.row Xae ([] : List Xaa))), (2000000, some (.box [.sv (.bool q1.Begun), .sv (.int .i64 q1.Next), .sv (.int .i64 (Xaj .i64 (q1.Age + 1))), .own 16, .sv (.int .i64 q1.Late), .sv (.int .i64 q1.Far), .sv (.int .i64 q1.Twice), .sv (.int .i64 q1.Over), .sv (.int .i64 q1.Lost)]))]⟩) (kW hC [(16, 208), (17, 176), (2000000, 64)]) rfl ⟨rfl, rfl, trivial⟩
 refine kf b5 (Xag (Xal (Xac ?_)))
 refine kO hT hC ?_
 refine Vc.nil (Xb3 ?_)
 refine kL [2,4,7,10] [32,64,176,208] [_,_,_,_] [_,_,_,_] ?_
 refine kX h (fun v9 => ([(10, .sv (.int .i64 v9))], [])) (fun v12 => ([(10, .sv (.int .i64 v12))], [])) (kW hC []) (fun v9 s h => ?_) fun v12 h => ?_
 unfold Xbd at h
 refine Xb3 ?_
 refine kL [2,4,7,10] [32,64,176,208] [_,_,_,_] [_,_,_,_] ?_
 refine kA h (fun v13 => ([(90, .sv (.bool v13))], [])) (fun v13 h => ?_) fun v13 h => ?_
 refine Xij hm ?_
 iterate 6 refine kO hT hC ?_
 refine kS h ?_ ?_ <;> intro b12 h
 iterate 3 refine kI hT hC b12 ?_
 refine kJ hT hC b12 h fun h => ?_
 refine kI hT hC b12 ?_
 refine kJ hT hC b12 h fun h => ?_
 refine kI hT hC b12 ?_
 refine kS h ?_ ?_ <;> intro b13 h
 iterate 3 refine kI hT hC b13 ?_
 refine kJ hT hC b13 h fun h => ?_
 refine kI hT hC b13 ?_
 refine kJ hT hC b13 h fun h => ?_
 iterate 3 refine kI hT hC b13 ?_
 refine Xo2 hC rfl rfl rfl rfl b12 rfl rfl (b := true) b13 rfl rfl rfl trivial ?_
 refine kI hT hC b12 ?_
 refine kP hC true b12 ?_
 exact kD kM
 iterate 9 refine kF hC b13 ?_
 refine Xo2 hC rfl rfl rfl rfl b12 rfl rfl (b := false) b13 rfl rfl rfl trivial ?_
 refine kI hT hC b12 ?_
 refine kP hC true b12 ?_
 exact kD kM
 iterate 7 refine kF hC b12 ?_
 iterate 9 refine Xvl hC rfl rfl rfl rfl rfl rfl ?_
 iterate 2 refine kF hC b12 ?_
 refine kP hC false b12 ?_
 exact kD kM
 refine kS h ?_ ?_ <;> intro b14 h
 refine kt b14 (Xag (Xal (Xbp (Xab ?_))))
 iterate 3 refine kO hT hC ?_
 exact Vc.nil (Xcc kG)
 exact kf b14 (Xb4 (Xda ku))
 refine Xal ?_
 refine kL [2,4,7,10] [32,64,176,208] [_,_,_,_] [_,_,_,_] ?_
 refine kA h (fun v15 => ([], [(32, some (.box [.sv (.bool q1.Begun), .sv (.int .i64 v15), .sv (.int .i64 q1.Age), .own 208, .sv (.int .i64 q1.Late), .sv (.int .i64 q1.Far), .sv (.int .i64 q1.Twice), .sv (.int .i64 q1.Over), .sv (.int .i64 q1.Lost)]))])) (fun v15 h => ?_) fun v15 h => ?_
 refine Xac ?_
 iterate 5 refine kO hT hC ?_
 refine Vc.nil ?_
 refine kS h ?_ ?_ <;> intro b15 h
 refine kt b15 (Xab ?_)
 iterate 3 refine kO hT hC ?_
 refine kQ hT hC h fun h => ?_
 refine kO hT hC ?_
 refine kQ hT hC h fun h => ?_
 iterate 2 refine kO hT hC ?_
 exact Vc.nil kM
 refine kf b15 (Xab ?_)
 iterate 4 refine kO hT hC ?_
 refine kQ hT hC h fun h => ?_
 refine kO hT hC ?_
 refine kQ hT hC h fun h => ?_
 refine kC hC [] Try.call44 h (fun _ => Xfd) fun q16 h => ?_
 iterate 2 refine kO hT hC ?_
 exact Vc.nil kM
 refine Xac ?_
 iterate 4 refine kO hT hC ?_
 refine kQ hT hC h fun h => ?_
 obtain ⟨hq, h⟩ := Xa5 h
 refine Xmy hT hC rfl rfl rfl rfl ⟨⟨hq.1, fun _ _ => rfl⟩, by rw [Xao]; exact hq.2⟩ ?_
 rw [Xao]
 iterate 2 refine kO hT hC ?_
 refine kN ?_
 iterate 2 refine kO hT hC ?_
 refine kC hC [] Try.call45 h (fun _ => Xc8) fun q17 h => ?_
 iterate 2 refine kO hT hC ?_
 refine kN ?_
 iterate 2 refine kO hT hC ?_
 refine kN ?_
 iterate 5 refine kO hT hC ?_
 refine Vc.nil (Xam ?_)
 obtain rfl := kj h
 exact Xd6 (τ := ⟨[(4, .ptr 2000000 0), (5, .own 17), (6, .sv (.int .i64 2))], [(16, some (.row Xae (([] : List Xaa) ++ ((q1.Held.drop v12.toNat).take ((q1.Held.length : Int).toNat - v12.toNat))))), (17, some (.row Xae ([] : List Xaa))), (2000000, some (.box [.sv (.bool q1.Begun), .sv (.int .i64 v15), .sv (.int .i64 0), .own 16, .sv (.int .i64 q1.Late), .sv (.int .i64 q1.Far), .sv (.int .i64 q1.Twice), .sv (.int .i64 q1.Over), .sv (.int .i64 q17)]))]⟩) (kW hC [(16, 1904), (17, 176), (2000000, 64)]) rfl ⟨rfl, rfl, trivial⟩
def Xhy (r : Xah) : AV := .agg [.sv (.bool r.Begun), .sv (.int .i64 r.Next), .sv (.int .i64 r.Age), .own 16, .sv (.int .i64 r.Late), .sv (.int .i64 r.Far), .sv (.int .i64 r.Twice), .sv (.int .i64 r.Over), .sv (.int .i64 r.Lost)]
def Xhx (r : Xah) : Xbo := [(16, .row Xae r.Held)]
theorem Xfu {p0 r} (h : Xcs p0 = some r) : AC Try.prog 47 [.agg [.sv (.bool p0.Begun), .sv (.int .i64 p0.Next), .sv (.int .i64 p0.Age), .sv (Xae.sv p0.Held), .sv (.int .i64 p0.Late), .sv (.int .i64 p0.Far), .sv (.int .i64 p0.Twice), .sv (.int .i64 p0.Over), .sv (.int .i64 p0.Lost)]] [] (Xhy r) (Xhx r) := by
 refine Xai hT Try.func47 rfl fun C hC => ?_
 unfold Xcs at h
 refine Xac ?_
 iterate 2 refine kO hT hC ?_
 refine kN ?_
 iterate 3 refine kO hT hC ?_
 obtain ⟨hq, h⟩ := Xa5 h
 refine Xmy hT hC rfl rfl rfl rfl ⟨fun _ _ => rfl, by rw [Xao]; exact hq⟩ ?_
 rw [Xao]
 iterate 2 refine kO hT hC ?_
 refine kN ?_
 iterate 2 refine kO hT hC ?_
 refine Vc.nil (Xam ?_)
 obtain rfl := kj h
 exact Xd6 (τ := ⟨[(2, .ptr 2000000 0)], [(16, some (.row Xae (([] : List Xaa) ++ p0.Held))), (2000000, some (.box [.sv (.bool p0.Begun), .sv (.int .i64 p0.Next), .sv (.int .i64 p0.Age), .own 16, .sv (.int .i64 p0.Late), .sv (.int .i64 p0.Far), .sv (.int .i64 p0.Twice), .sv (.int .i64 p0.Over), .sv (.int .i64 p0.Lost)]))]⟩) (kW hC [(16, 96), (2000000, 32)]) rfl ⟨rfl, trivial⟩
def Xiw (r : Bool) : AV := .sv (.bool r)
def Xiv (r : Bool) : Xbo := []
theorem Xb5 {p0 r} (h : Xbg p0 = some r) : AC Try.prog 54 [.sv (.int .i64 p0)] [] (Xiw r) (Xiv r) := by
 refine Xai hT Try.func54 rfl fun C hC => ?_
 unfold Xbg at h
 refine Xac ?_
 refine kO hT hC ?_
 refine kN ?_
 refine kO hT hC ?_
 refine kC hC [] Try.call38 h (fun _ => Xca) fun q1 h => ?_
 refine kO hT hC ?_
 exact Vc.nil (Xam kR)
def Xk0 (r : Int) : AV := .sv (.int .i64 r)
def Xkz (r : Int) : Xbo := []
theorem Xdh {p0 p1 r} (h : Xcl p0 p1 = some r) : AC Try.prog 55 [.sv (.int .i64 p0), .sv (.int .i64 p1)] [] (Xk0 r) (Xkz r) := by
 refine Xai hT Try.func55 rfl fun C hC => ?_
 unfold Xcl at h
 refine Xac ?_
 refine kO hT hC ?_
 refine Vc.nil (Xb3 ?_)
 refine kL [0,1] [] [_,_] [] ?_
 refine kA h (fun v1 => ([(13, .sv (.bool v1))], [])) (fun v1 h => ?_) fun v1 h => ?_
 refine Xab ?_
 refine kO hT hC ?_
 refine kC hC [] Try.call54 h (fun _ => Xb5) fun q2 h => ?_
 iterate 2 refine kO hT hC ?_
 refine kS h ?_ ?_ <;> intro b1 h
 refine kI hT hC (kn b1) ?_
 refine kE hC (kn b1) [] Try.call54 h (fun _ => Xb5) fun q3 h => ?_
 refine kI hT hC (kn b1) ?_
 refine kP hC false (kn b1) ?_
 exact Vc.nil kM
 iterate 3 refine kF hC (kn b1) ?_
 refine kP hC true (kn b1) ?_
 exact Vc.nil kM
 refine kS h ?_ ?_ <;> intro b2 h
 refine kt b2 (Xac ?_)
 refine kO hT hC ?_
 exact Vc.nil (Xam (Xa3 kR))
 refine kf b2 (Xag (Xal (Xac ?_)))
 iterate 4 refine kO hT hC ?_
 refine kQ hT hC h fun h => ?_
 refine kO hT hC ?_
 refine Vc.nil ?_
 refine kL [5] [] [_] [] ?_
 refine kA h (fun v4 => ([(5, .sv (.int .i64 v4))], [])) (fun v4 h => ?_) fun v4 h => ?_
 refine Xac ?_
 iterate 2 refine kO hT hC ?_
 refine Vc.nil ?_
 refine kS h ?_ ?_ <;> intro b3 h
 refine kt b3 (Xab ?_)
 iterate 3 refine kO hT hC ?_
 exact Vc.nil kM
 exact kf b3 (Xag kM)
 refine Xac ?_
 iterate 2 refine kO hT hC ?_
 exact Vc.nil (Xam kR)
def Xis (r : Bool) : AV := .sv (.bool r)
def Xir (r : Bool) : Xbo := []
theorem Xgl {p0 r} (h : Xdb p0 = some r) : AC Try.prog 56 [.agg [.sv (.int .i64 p0.Seq), .sv (.bool p0.First), .sv (.bool p0.Last), .sv (.str p0.Bytes)]] [] (Xis r) (Xir r) := by
 refine Xai hT Try.func56 rfl fun C hC => ?_
 unfold Xdb at h
 refine Xac ?_
 iterate 2 refine kO hT hC ?_
 refine Vc.nil ?_
 refine kL [1,2] [16] [_,_] [_] ?_
 refine kA h (fun v1 => ([(2, .sv (.bool v1)), (1, .any)], [(16, none)])) (fun v1 h => ?_) fun v1 h => ?_
 refine Xab ?_
 iterate 2 refine kO hT hC ?_
 refine kC hC [] Try.call54 h (fun _ => Xb5) fun q2 h => ?_
 refine kO hT hC ?_
 refine kS h ?_ ?_ <;> intro b1 h
 iterate 3 refine kI hT hC b1 ?_
 refine kE hC b1 [] Try.call38 h (fun _ => Xca) fun q3 h => ?_
 refine kP hC true b1 ?_
 refine kO hT hC ?_
 exact Vc.nil kM
 iterate 4 refine kF hC b1 ?_
 refine kP hC false b1 ?_
 refine kO hT hC ?_
 exact Vc.nil kM
 exact Xam kR
def Xex (r : Bool) : AV := .sv (.bool r)
def Xew (r : Bool) : Xbo := []
theorem Xcz {p0 r} (h : Xbr p0 = some r) : AC Try.prog 26 [.agg [.sv (.bool p0.Begun), .sv (.int .i64 p0.Next), .sv (.int .i64 p0.Age), .sv (Xae.sv p0.Held), .sv (.int .i64 p0.Late), .sv (.int .i64 p0.Far), .sv (.int .i64 p0.Twice), .sv (.int .i64 p0.Over), .sv (.int .i64 p0.Lost)]] [] (Xex r) (Xew r) := by
 refine Xai hT Try.func26 rfl fun C hC => ?_
 unfold Xbr at h
 refine Xac ?_
 iterate 2 refine kO hT hC ?_
 refine Vc.nil (Xb3 (Xac ?_))
 iterate 3 refine kO hT hC ?_
 refine Vc.nil ?_
 refine kS h ?_ ?_ <;> intro b1 h
 refine kt b1 ?_
 refine kL [1,2] [16] [_,_] [_] ?_
 refine kA h (fun v1 => ([(2, .sv (.bool v1)), (1, .any)], [(16, none)])) (fun v1 h => ?_) fun v1 h => ?_
 refine Xab ?_
 iterate 4 refine kO hT hC ?_
 refine kS h ?_ ?_ <;> intro b2 h
 iterate 3 refine kI hT hC b2 ?_
 refine kP hC true b2 ?_
 refine kO hT hC ?_
 refine kS h ?_ ?_ <;> intro b3 h
 iterate 4 refine kI hT hC b3 ?_
 refine kP hC true b3 ?_
 refine kO hT hC ?_
 refine kS h ?_ ?_ <;> intro b4 h
 iterate 3 refine kI hT hC b4 ?_
 refine kP hC true b4 ?_
 refine kO hT hC ?_
 refine kS h ?_ ?_ <;> intro b5 h
 iterate 3 refine kI hT hC b5 ?_
 refine kP hC true b5 ?_
 refine kO hT hC ?_
 refine kS h ?_ ?_ <;> intro b6 h
 iterate 3 refine kI hT hC b6 ?_
 refine kP hC true b6 ?_
 refine kO hT hC ?_
 refine kS h ?_ ?_ <;> intro b7 h
 iterate 3 refine kI hT hC b7 ?_
 refine kP hC true b7 ?_
 refine kO hT hC ?_
 refine kS h ?_ ?_ <;> intro b8 h
 iterate 3 refine kI hT hC b8 ?_
 refine kP hC true b8 ?_
 refine kO hT hC ?_
 exact Vc.nil kM
 iterate 3 refine kF hC b8 ?_
 refine kP hC false b8 ?_
 refine kO hT hC ?_
 exact Vc.nil kM
 iterate 3 refine kF hC b7 ?_
 refine kP hC false b7 ?_
 refine kO hT hC ?_
 iterate 3 refine kF hC rfl ?_
 iterate 2 refine kO hT hC ?_
 exact Vc.nil kM
 iterate 3 refine kF hC b6 ?_
 refine kP hC false b6 ?_
 refine kO hT hC ?_
 iterate 3 refine kF hC rfl ?_
 iterate 2 refine kO hT hC ?_
 iterate 3 refine kF hC rfl ?_
 iterate 2 refine kO hT hC ?_
 exact Vc.nil kM
 iterate 3 refine kF hC b5 ?_
 refine kP hC false b5 ?_
 refine kO hT hC ?_
 iterate 3 refine kF hC rfl ?_
 iterate 2 refine kO hT hC ?_
 iterate 3 refine kF hC rfl ?_
 iterate 2 refine kO hT hC ?_
 iterate 3 refine kF hC rfl ?_
 iterate 2 refine kO hT hC ?_
 exact Vc.nil kM
 iterate 3 refine kF hC b4 ?_
 refine kP hC false b4 ?_
 refine kO hT hC ?_
 iterate 3 refine kF hC rfl ?_
 iterate 2 refine kO hT hC ?_
 iterate 3 refine kF hC rfl ?_
 iterate 2 refine kO hT hC ?_
 iterate 3 refine kF hC rfl ?_
 iterate 2 refine kO hT hC ?_
 iterate 3 refine kF hC rfl ?_
 iterate 2 refine kO hT hC ?_
 exact Vc.nil kM
 iterate 4 refine kF hC b3 ?_
 refine kP hC false b3 ?_
 refine kO hT hC ?_
 iterate 3 refine kF hC rfl ?_
 iterate 2 refine kO hT hC ?_
 iterate 3 refine kF hC rfl ?_
 iterate 2 refine kO hT hC ?_
 iterate 3 refine kF hC rfl ?_
 iterate 2 refine kO hT hC ?_
 iterate 3 refine kF hC rfl ?_
 iterate 2 refine kO hT hC ?_
 iterate 3 refine kF hC rfl ?_
 iterate 2 refine kO hT hC ?_
 exact Vc.nil kM
 iterate 3 refine kF hC b2 ?_
 refine kP hC false b2 ?_
 refine kO hT hC ?_
 iterate 4 refine kF hC rfl ?_
 iterate 2 refine kO hT hC ?_
 iterate 3 refine kF hC rfl ?_
 iterate 2 refine kO hT hC ?_
 iterate 3 refine kF hC rfl ?_
 iterate 2 refine kO hT hC ?_
 iterate 3 refine kF hC rfl ?_
 iterate 2 refine kO hT hC ?_
 iterate 3 refine kF hC rfl ?_
 iterate 2 refine kO hT hC ?_
 iterate 3 refine kF hC rfl ?_
 iterate 2 refine kO hT hC ?_
 exact Vc.nil kM
 exact Xam (Xa3 kR)
 refine kf b1 (Xag (Xal (Xb3 ?_)))
 refine kL [1] [16] [_] [_] ?_
 refine kA h (fun v2 => ([(66, .sv (.bool v2))], [])) (fun v2 h => ?_) fun v2 h => ?_
 refine Xab ?_
 iterate 2 refine kO hT hC ?_
 refine kC hC [] Try.call54 h (fun _ => Xb5) fun q3 h => ?_
 iterate 2 refine kO hT hC ?_
 refine kS h ?_ ?_ <;> intro b9 h
 iterate 2 refine kI hT hC (kn b9) ?_
 refine kE hC (kn b9) [] Try.call38 h (fun _ => Xca) fun q4 h => ?_
 refine kI hT hC (kn b9) ?_
 refine kP hC false (kn b9) ?_
 refine kO hT hC ?_
 refine kS h ?_ ?_ <;> intro b10 h
 iterate 4 refine kI hT hC (kn b10) ?_
 refine kP hC false (kn b10) ?_
 exact Vc.nil kM
 iterate 4 refine kF hC (kn b10) ?_
 refine kP hC true (kn b10) ?_
 exact Vc.nil kM
 iterate 4 refine kF hC (kn b9) ?_
 refine kP hC true (kn b9) ?_
 refine kO hT hC ?_
 iterate 4 refine kF hC rfl ?_
 refine kO hT hC ?_
 exact Vc.nil kM
 refine kS h ?_ ?_ <;> intro b11 h
 refine kt b11 (Xac ?_)
 refine kO hT hC ?_
 exact Vc.nil (Xam (Xa3 kR))
 refine kf b11 (Xag (Xal (Xac ?_)))
 refine kO hT hC ?_
 refine Vc.nil (Xb3 (Xac ?_))
 iterate 4 refine kO hT hC ?_
 refine Vc.nil ?_
 refine kL [1,3,68,69,70] [16] [_,_,_,_,_] [_] ?_
 obtain ⟨o21, hl, h⟩ := Xb6 h
 refine Xgj (fun v10 => ([(3, .sv (.int .i64 v10.1)), (70, .sv (.int .i64 v10.2))], [])) (fun v16 => ([(3, .any), (68, .any), (69, .any), (70, .any)], [])) (fun r => Xjg C T Try.f26.results.toList (Xex r) (Xew r)) hl ?_ ?_ ?_ ?_
 try dsimp only
 apply Xgb hC []
 exact co
 rfl
 decide
 rfl
 intro v10 s hs
 have h := hs
 unfold Xcd at h
 refine Xac ?_
 refine kO hT hC ?_
 refine Vc.nil (Xb3 ?_)
 refine kS h ?_ ?_ <;> intro b18 h
 refine kt b18 (Xag (Xal (Xb3 (Xbp (Xac ?_)))))
 refine kQ hT hC h fun h => ?_
 iterate 3 refine kO hT hC ?_
 refine kN ?_
 iterate 4 refine kO hT hC ?_
 refine kC hC [] Try.call55 h (fun _ => Xdh) fun q17 h => ?_
 refine kO hT hC ?_
 refine Vc.nil (Xb3 ?_)
 refine kL [1,3,5,6,68,69,70] [16,80] [_,_,_,_,_,_,_] [_,_] ?_
 refine kA h (fun v18 => ([(88, .sv (.bool v18)), (3, .any), (5, .any)], [(80, none)])) (fun v18 h => ?_) fun v18 h => ?_
 refine Xab ?_
 refine kO hT hC ?_
 refine kC hC [] Try.call56 h (fun _ => Xgl) fun q19 h => ?_
 iterate 2 refine kO hT hC ?_
 refine kS h ?_ ?_ <;> intro b19 h
 iterate 3 refine kI hT hC (kn b19) ?_
 refine kE hC (kn b19) [] Try.call38 h (fun _ => Xca) fun q20 h => ?_
 refine kI hT hC (kn b19) ?_
 refine kP hC false (kn b19) ?_
 exact Vc.nil kM
 iterate 5 refine kF hC (kn b19) ?_
 refine kP hC true (kn b19) ?_
 exact Vc.nil kM
 refine kS h ?_ ?_ <;> intro b20 h
 refine kt b20 (Xac ?_)
 refine kO hT hC ?_
 refine Vc.nil (Xam (Xa3 (Xfm (Xa3 ?_))))
 obtain rfl := kj h
 refine Xjt (Xjs ?_)
 exact Xd6 (Xdj.refl _) rfl trivial
 refine kf b20 (Xag (Xal (Xab ?_)))
 iterate 2 refine kO hT hC ?_
 refine Vc.nil (Xcc (Xal (Xab ?_)))
 iterate 2 refine kO hT hC ?_
 exact Vc.nil kG
 exact kf b18 (Xb4 (Xda kb))
 intro v16 e
 subst e
 refine Xal (Xb3 (Xac ?_))
 iterate 13 refine kO hT hC ?_
 refine Vc.nil ?_
 refine kL [101,102,103] [1616] [_,_,_] [_] ?_
 obtain ⟨o29, hl, h⟩ := Xb6 h
 refine Xgj (fun v24 => ([(103, .sv (.int .i64 v24))], [])) (fun v27 => ([(101, .any), (102, .any), (103, .any)], [(1616, none)])) (fun r => Xjg C T Try.f26.results.toList (Xex r) (Xew r)) hl ?_ ?_ ?_ ?_
 apply Xgb hC []
 exact co
 rfl
 decide
 rfl
 intro v24 s hs
 have h := hs
 unfold Xbi at h
 refine Xac ?_
 refine kO hT hC ?_
 refine Vc.nil (Xb3 ?_)
 refine kS h ?_ ?_ <;> intro b25 h
 refine kt b25 (Xag (Xal (Xb3 (Xbp (Xac ?_)))))
 iterate 2 refine kQ hT hC h fun h => ?_
 refine kO hT hC ?_
 refine kN ?_
 refine kO hT hC ?_
 refine kC hC [] Try.call38 h (fun _ => Xca) fun q28 h => ?_
 refine kO hT hC ?_
 refine Vc.nil ?_
 refine kS h ?_ ?_ <;> intro b26 h
 refine kt b26 (Xac ?_)
 refine kO hT hC ?_
 refine Vc.nil (Xam (Xfm (Xa3 ?_)))
 obtain rfl := kj h
 refine Xjt (Xjs ?_)
 exact Xd6 (Xdj.refl _) rfl trivial
 refine kf b26 (Xag (Xcc (Xal (Xab ?_))))
 iterate 2 refine kO hT hC ?_
 exact Vc.nil kG
 exact kf b25 (Xb4 (Xda kb))
 intro v27 e
 subst e
 refine Xal (Xac ?_)
 refine kO hT hC ?_
 exact Vc.nil (Xam kR)
 intro r' σ' e hE
 subst e
 obtain rfl := kj h
 refine Xa3 ?_
 exact hE
 intro r' σ' e hE
 subst e
 obtain rfl := kj h
 refine Xa3 ?_
 exact hE
def Xjn (r : Int) : AV := .sv (.int .i64 r)
def Xjm (r : Int) : Xbo := []
theorem Xdx {p0 p1 r} (h : Xcj p0 p1 = some r) : AC Try.prog 48 [.sv (.int .i64 p0), .sv (.int .i64 p1)] [] (Xjn r) (Xjm r) := by
 refine Xai hT Try.func48 rfl fun C hC => ?_
 unfold Xcj at h
 refine Xac ?_
 refine kO hT hC ?_
 refine Vc.nil (Xb3 ?_)
 refine kL [0,1] [] [_,_] [] ?_
 refine kA h (fun v1 => ([(12, .sv (.bool v1))], [])) (fun v1 h => ?_) fun v1 h => ?_
 refine Xab ?_
 refine kO hT hC ?_
 refine kC hC [] Try.call54 h (fun _ => Xb5) fun q2 h => ?_
 iterate 2 refine kO hT hC ?_
 refine kS h ?_ ?_ <;> intro b1 h
 refine kI hT hC (kn b1) ?_
 refine kE hC (kn b1) [] Try.call54 h (fun _ => Xb5) fun q3 h => ?_
 refine kI hT hC (kn b1) ?_
 refine kP hC false (kn b1) ?_
 exact Vc.nil kM
 iterate 3 refine kF hC (kn b1) ?_
 refine kP hC true (kn b1) ?_
 exact Vc.nil kM
 refine kS h ?_ ?_ <;> intro b2 h
 refine kt b2 (Xac ?_)
 refine kO hT hC ?_
 exact Vc.nil (Xam (Xa3 kR))
 refine kf b2 (Xag (Xal (Xac ?_)))
 iterate 3 refine kO hT hC ?_
 refine kQ hT hC h fun h => ?_
 refine kO hT hC ?_
 exact Vc.nil (Xam kR)
def Xjp (r : Int) : AV := .sv (.int .i64 r)
def Xjo (r : Int) : Xbo := []
theorem Xc1 {p0 r} (h : Xb7 p0 = some r) : AC Try.prog 49 [.sv (.int .i64 p0)] [] (Xjp r) (Xjo r) := by
 refine Xai hT Try.func49 rfl fun C hC => ?_
 unfold Xb7 at h
 refine Xac ?_
 refine kO hT hC ?_
 refine kN ?_
 iterate 4 refine kO hT hC ?_
 exact Vc.nil (Xam kR)
def Xfj (r : (Xah × (List Xaa) × Int)) : AV := .tup [.agg [.sv (.bool r.1.Begun), .sv (.int .i64 r.1.Next), .sv (.int .i64 r.1.Age), .own 16, .sv (.int .i64 r.1.Late), .sv (.int .i64 r.1.Far), .sv (.int .i64 r.1.Twice), .sv (.int .i64 r.1.Over), .sv (.int .i64 r.1.Lost)], .own 17, .sv (.int .i64 r.2.2)]
def Xfi (r : (Xah × (List Xaa) × Int)) : Xbo := [(16, .row Xae r.1.Held), (17, .row Xae r.2.1)]
theorem Xit {p0 p1 r} (h : Xcr p0 p1 = some r) : AC Try.prog 18 [.agg [.sv (.bool p0.Begun), .sv (.int .i64 p0.Next), .sv (.int .i64 p0.Age), .sv (Xae.sv p0.Held), .sv (.int .i64 p0.Late), .sv (.int .i64 p0.Far), .sv (.int .i64 p0.Twice), .sv (.int .i64 p0.Over), .sv (.int .i64 p0.Lost)], .sv (.int .i64 p1)] [] (Xfj r) (Xfi r) := by
 refine Xai hT Try.func18 rfl fun C hC => ?_
 unfold Xcr at h
 refine Xac ?_
 iterate 4 refine kO hT hC ?_
 refine kN ?_
 refine kO hT hC ?_
 refine kC hC [(16, 240)] Try.call47 h (fun _ => Xfu) fun q1 h => ?_
 iterate 2 refine kO hT hC ?_
 refine kN ?_
 iterate 2 refine kO hT hC ?_
 refine Vc.nil (Xb3 ?_)
 refine kL [1,2,4,7,8] [32,64,112,240,256] [_,_,_,_,_] [_,_,_,_,_] ?_
 refine kA h (fun v2 => ([(24, .sv (.bool v2))], [])) (fun v2 h => ?_) fun v2 h => ?_
 refine Xab ?_
 refine kO hT hC ?_
 refine kC hC [] Try.call26 h (fun _ => Xcz) fun q3 h => ?_
 iterate 2 refine kO hT hC ?_
 refine kS h ?_ ?_ <;> intro b1 h
 refine kI hT hC (kn b1) ?_
 refine kE hC (kn b1) [] Try.call38 h (fun _ => Xca) fun q4 h => ?_
 refine kI hT hC (kn b1) ?_
 refine kP hC false (kn b1) ?_
 exact Vc.nil kM
 iterate 3 refine kF hC (kn b1) ?_
 refine kP hC true (kn b1) ?_
 exact Vc.nil kM
 refine kS h ?_ ?_ <;> intro b2 h
 refine kt b2 (Xac ?_)
 iterate 5 refine kO hT hC ?_
 refine Vc.nil (Xam (Xa3 ?_))
 obtain rfl := kj h
 exact Xd6 (τ := ⟨[(4, .ptr 2000000 0), (5, .own 17), (6, .sv (.int .i64 0))], [(16, some (.row Xae q1.Held)), (17, some (.row Xae ([] : List Xaa))), (2000000, some (.box [.sv (.bool q1.Begun), .sv (.int .i64 q1.Next), .sv (.int .i64 q1.Age), .own 16, .sv (.int .i64 q1.Late), .sv (.int .i64 q1.Far), .sv (.int .i64 q1.Twice), .sv (.int .i64 q1.Over), .sv (.int .i64 q1.Lost)]))]⟩) (kW hC [(16, 240), (17, 256), (2000000, 64)]) rfl ⟨rfl, rfl, trivial⟩
 refine kf b2 (Xag (Xal (Xb3 (Xac ?_))))
 iterate 4 refine kO hT hC ?_
 refine Vc.nil ?_
 refine kL [1,2,4,7,8,28,29,30] [32,64,112,240,256] [_,_,_,_,_,_,_,_] [_,_,_,_,_] ?_
 obtain ⟨o15, hl, h⟩ := Xb6 h
 refine Xgj (fun v8 => ([(30, .sv (.int .i64 v8))], [])) (fun v12 => ([(28, .any), (29, .any), (30, .any)], [])) (fun r => Xjg C T Try.f18.results.toList (Xfj r) (Xfi r)) hl ?_ ?_ ?_ ?_
 apply Xgb hC []
 exact co
 rfl
 decide
 rfl
 intro v8 s hs
 have h := hs
 unfold Xa9 at h
 refine Xac ?_
 refine kO hT hC ?_
 refine Vc.nil (Xb3 ?_)
 refine kS h ?_ ?_ <;> intro b9 h
 refine kt b9 (Xag (Xal (Xb3 (Xbp (Xac ?_)))))
 refine kO hT hC ?_
 iterate 2 refine kQ hT hC h fun h => ?_
 iterate 3 refine kO hT hC ?_
 refine Vc.nil (Xb3 ?_)
 refine Xf0 hm ?_
 iterate 5 refine kO hT hC ?_
 refine kC hC [] Try.call48 h (fun _ => Xdx) fun q13 h => ?_
 refine kO hT hC ?_
 refine kD ?_
 refine kS h ?_ ?_ <;> intro b10 h
 refine kt b10 (Xb4 (Xda ?_))
 refine Xrq rfl ?_
 exact Xda kb
 refine kf b10 (Xag (Xal (Xac ?_)))
 iterate 2 refine kO hT hC ?_
 refine Vc.nil ?_
 refine kS h ?_ ?_ <;> intro b11 h
 refine kt b11 (Xac ?_)
 iterate 5 refine kO hT hC ?_
 refine kQ hT hC h fun h => ?_
 obtain ⟨hq, h⟩ := Xa5 h
 refine Xmy hT hC rfl rfl rfl rfl ⟨⟨hq.1, fun _ _ => rfl⟩, by rw [Xao]; exact hq.2⟩ ?_
 rw [Xao]
 refine kO hT hC ?_
 refine kN ?_
 iterate 5 refine kO hT hC ?_
 refine kQ hT hC h fun h => ?_
 obtain ⟨hq, h⟩ := Xa5 h
 refine Xmy hT hC rfl rfl rfl rfl ⟨⟨hq.1, fun _ _ => rfl⟩, by rw [Xao]; exact hq.2⟩ ?_
 rw [Xao]
 iterate 2 refine kO hT hC ?_
 refine kN ?_
 iterate 2 refine kO hT hC ?_
 refine kC hC [] Try.call48 h (fun _ => Xdx) fun q14 h => ?_
 iterate 2 refine kO hT hC ?_
 refine kN ?_
 iterate 2 refine kO hT hC ?_
 refine kN ?_
 iterate 5 refine kO hT hC ?_
 refine Vc.nil (Xam (Xfm (Xa3 ?_)))
 obtain rfl := kj h
 refine Xjt (Xjs ?_)
 refine Xd6 (τ := ⟨[(4, .ptr 2000000 0), (5, .own 17), (6, .sv (.int .i64 1))], [(16, some (.row Xae (([] : List Xaa) ++ ((q1.Held.drop ((Xaj .i64 (v8 + 1)).toNat)).take ((q1.Held.length : Int).toNat - (Xaj .i64 (v8 + 1)).toNat))))), (17, some (.row Xae (([] : List Xaa) ++ ((q1.Held.drop ((0 : Int).toNat)).take ((Xaj .i64 (v8 + 1)).toNat - (0 : Int).toNat))))), (2000000, some (.box [.sv (.bool q1.Begun), .sv (.int .i64 q14), .sv (.int .i64 0), .own 16, .sv (.int .i64 q1.Late), .sv (.int .i64 q1.Far), .sv (.int .i64 q1.Twice), .sv (.int .i64 q1.Over), .sv (.int .i64 q1.Lost)]))]⟩) ?_ rfl ⟨rfl, rfl, trivial⟩
 apply Xgb hC [(16, 912), (17, 800), (2000000, 64)]
 exact co
 rfl
 decide
 rfl
 refine kf b11 (Xag (Xcc (Xal (Xab ?_))))
 iterate 2 refine kO hT hC ?_
 exact Vc.nil kG
 exact kf b9 (Xb4 (Xda kb))
 intro v12 e
 subst e
 refine Xal (Xb3 (Xbp (Xac ?_)))
 iterate 5 refine kO hT hC ?_
 refine Vc.nil ?_
 refine kS h ?_ ?_ <;> intro b12 h
 refine kt b12 (Xac ?_)
 iterate 2 refine kO hT hC ?_
 refine kN ?_
 iterate 5 refine kO hT hC ?_
 refine Vc.nil (Xam (Xfm (Xa3 ?_)))
 obtain rfl := kj h
 exact Xd6 (τ := ⟨[(4, .ptr 2000000 0), (5, .own 17), (6, .sv (.int .i64 0))], [(16, some (.row Xae q1.Held)), (17, some (.row Xae ([] : List Xaa))), (2000000, some (.box [.sv (.bool q1.Begun), .sv (.int .i64 q1.Next), .sv (.int .i64 0), .own 16, .sv (.int .i64 q1.Late), .sv (.int .i64 q1.Far), .sv (.int .i64 q1.Twice), .sv (.int .i64 q1.Over), .sv (.int .i64 q1.Lost)]))]⟩) (kW hC [(16, 240), (17, 256), (2000000, 64)]) rfl ⟨rfl, rfl, trivial⟩
 refine kf b12 (Xac ?_)
 iterate 5 refine kO hT hC ?_
 refine Vc.nil ?_
 refine kS h ?_ ?_ <;> intro b13 h
 refine kt b13 (Xac ?_)
 iterate 5 refine kO hT hC ?_
 refine kN ?_
 iterate 5 refine kO hT hC ?_
 refine Vc.nil (Xam (Xfm (Xa3 ?_)))
 obtain rfl := kj h
 exact Xd6 (τ := ⟨[(4, .ptr 2000000 0), (5, .own 17), (6, .sv (.int .i64 0))], [(16, some (.row Xae q1.Held)), (17, some (.row Xae ([] : List Xaa))), (2000000, some (.box [.sv (.bool q1.Begun), .sv (.int .i64 q1.Next), .sv (.int .i64 (Xaj .i64 (q1.Age + 1))), .own 16, .sv (.int .i64 q1.Late), .sv (.int .i64 q1.Far), .sv (.int .i64 q1.Twice), .sv (.int .i64 q1.Over), .sv (.int .i64 q1.Lost)]))]⟩) (kW hC [(16, 240), (17, 256), (2000000, 64)]) rfl ⟨rfl, rfl, trivial⟩
 refine kf b13 (Xag (Xcc (Xal (Xac ?_))))
 iterate 2 refine kO hT hC ?_
 refine kC hC [] Try.call49 h (fun _ => Xc1) fun q16 h => ?_
 iterate 2 refine kO hT hC ?_
 refine kN ?_
 iterate 2 refine kO hT hC ?_
 refine kN ?_
 iterate 6 refine kO hT hC ?_
 refine kQ hT hC h fun h => ?_
 iterate 2 refine kO hT hC ?_
 refine kC hC [] Try.call48 h (fun _ => Xdx) fun q17 h => ?_
 iterate 2 refine kO hT hC ?_
 refine kN ?_
 iterate 3 refine kO hT hC ?_
 refine Vc.nil (Xb3 (Xac ?_))
 iterate 4 refine kO hT hC ?_
 refine Vc.nil ?_
 refine kL [2,4,7,8,105,106,107] [32,64,112,256] [_,_,_,_,_,_,_] [_,_,_,_] ?_
 refine kX h (fun v20 => ([(107, .sv (.int .i64 v20))], [])) (fun v23 => ([(2, .any), (8, .any), (105, .any), (106, .any), (107, .any)], [(112, some (.box [.sv (.bool q1.Begun), .sv (.int .i64 v23.1), .sv (.int .i64 0), .own 256, .sv (.int .i64 q1.Late), .sv (.int .i64 q1.Far), .sv (.int .i64 q1.Twice), .sv (.int .i64 q1.Over), .sv (.int .i64 q16)])), (256, some (.row Xae v23.2)), (32, none)])) (kW hC []) (fun v20 s h => ?_) fun v23 h => ?_
 unfold Xba at h
 refine Xac ?_
 refine kO hT hC ?_
 refine Vc.nil (Xb3 ?_)
 refine kS h ?_ ?_ <;> intro b20 h
 refine kt b20 (Xag (Xal (Xb3 (Xbp (Xac ?_)))))
 refine kO hT hC ?_
 refine kQ hT hC h fun h => ?_
 iterate 4 refine kO hT hC ?_
 refine Vc.nil ?_
 refine kL [2,4,7,8,12,13,105,106,107] [32,64,112,208,256] [_,_,_,_,_,_,_,_,_] [_,_,_,_,_] ?_
 refine kA h (fun v24 => ([(120, .sv (.bool v24))], [])) (fun v24 h => ?_) fun v24 h => ?_
 refine Xab ?_
 iterate 3 refine kO hT hC ?_
 refine kS h ?_ ?_ <;> intro b21 h
 iterate 5 refine kI hT hC b21 ?_
 refine kP hC true b21 ?_
 exact Vc.nil kM
 iterate 5 refine kF hC b21 ?_
 refine kP hC false b21 ?_
 exact Vc.nil kM
 refine kS h ?_ ?_ <;> intro b22 h
 refine kt b22 (Xac ?_)
 iterate 4 refine kO hT hC ?_
 refine kN ?_
 iterate 4 refine kO hT hC ?_
 refine kQ hT hC h fun h => ?_
 obtain ⟨hq, h⟩ := Xa5 h
 refine Xmy hT hC rfl rfl rfl rfl ⟨fun _ _ => rfl, by rw [Xao]; exact hq⟩ ?_
 rw [Xao]
 iterate 2 refine kO hT hC ?_
 refine Vc.nil (Xb4 ?_)
 refine Xrq rfl ?_
 refine Xda ?_
 obtain rfl := kj h
 exact Xqm (Xun (kW hC [(256, 2064)]))
 refine kf b22 (Xag (Xcc (Xal (Xab ?_))))
 iterate 2 refine kO hT hC ?_
 exact Vc.nil kG
 exact kf b20 (Xb4 (Xda ku))
 refine Xal (Xac ?_)
 iterate 5 refine kO hT hC ?_
 refine Vc.nil (Xam ?_)
 obtain rfl := kj h
 exact Xd6 (τ := ⟨[(4, .ptr 2000000 0), (5, .own 17), (6, .sv (.int .i64 2))], [(16, some (.row Xae v23.2)), (17, some (.row Xae ([] : List Xaa))), (2000000, some (.box [.sv (.bool q1.Begun), .sv (.int .i64 v23.1), .sv (.int .i64 0), .own 16, .sv (.int .i64 q1.Late), .sv (.int .i64 q1.Far), .sv (.int .i64 q1.Twice), .sv (.int .i64 q1.Over), .sv (.int .i64 q16)]))]⟩) (kW hC [(16, 256), (17, 2128), (2000000, 64)]) rfl ⟨rfl, rfl, trivial⟩
 intro r' σ' e hE
 subst e
 obtain rfl := kj h
 refine Xa3 ?_
 exact hE
def Xj6 (r : (Bool × Xat)) : AV := .sv (.bool r.1)
def Xj5 (r : (Bool × Xat)) : Xbo := [(0, .box [.sv (.ints .u8 r.2.b_), .sv (.int .i64 r.2.i_), .sv (.int .i64 r.2.h_)])]
theorem Xcg {p0 p1 r} (h : Xbv p0 p1 = some r) : AC Try.prog 66 [.ptr 0 0, .sv (.int .i64 p1)] [(0, .box [.sv (.ints .u8 p0.b_), .sv (.int .i64 p0.i_), .sv (.int .i64 p0.h_)])] (Xj6 r) (Xj5 r) := by
 refine Xai hT Try.func66 rfl fun C hC => ?_
 unfold Xbv at h
 refine Xac ?_
 refine kO hT hC ?_
 refine kN ?_
 iterate 2 refine kO hT hC ?_
 refine kC hC [(0, 0)] Try.call35 h (fun _ => Xax) fun q1 h => ?_
 iterate 2 refine kO hT hC ?_
 refine Vc.nil (Xam ?_)
 obtain rfl := kj h
 exact Xd6 (Xdj.refl _) rfl ⟨rfl, trivial⟩
def Xhq (r : (Int × Xat)) : AV := .sv (.int .i64 r.1)
def Xhp (r : (Int × Xat)) : Xbo := [(0, .box [.sv (.ints .u8 r.2.b_), .sv (.int .i64 r.2.i_), .sv (.int .i64 r.2.h_)])]
theorem Xfk {p0 p1 r} (h : Xb1 p0 p1 = some r) : AC Try.prog 67 [.ptr 0 0, .sv (.ints .i64 p1)] [(0, .box [.sv (.ints .u8 p0.b_), .sv (.int .i64 p0.i_), .sv (.int .i64 p0.h_)])] (Xhq r) (Xhp r) := by
 refine Xai hT Try.func67 rfl fun C hC => ?_
 unfold Xb1 at h
 refine Xac ?_
 refine kO hT hC ?_
 refine kN ?_
 iterate 4 refine kO hT hC ?_
 refine kC hC [(0, 0)] Try.call35 h (fun _ => Xax) fun q1 h => ?_
 refine kQ hT hC h fun h => ?_
 iterate 2 refine kO hT hC ?_
 refine Vc.nil (Xam ?_)
 obtain rfl := kj h
 exact Xd6 (Xdj.refl _) rfl ⟨rfl, trivial⟩
def Xlt (r : (Int × Xat)) : AV := .sv (.int .i64 r.1)
def Xls (r : (Int × Xat)) : Xbo := [(0, .box [.sv (.ints .u8 r.2.b_), .sv (.int .i64 r.2.i_), .sv (.int .i64 r.2.h_)])]
theorem Xl8 {p0 r} (h : Xff p0 = some r) : AC Try.prog 65 [.ptr 0 0] [(0, .box [.sv (.ints .u8 p0.b_), .sv (.int .i64 p0.i_), .sv (.int .i64 p0.h_)])] (Xlt r) (Xls r) := by
 refine Xai hT Try.func65 rfl fun C hC => ?_
 unfold Xff at h
 refine Xac ?_
 refine kO hT hC ?_
 refine Vc.nil (Xb3 (Xac ?_))
 refine kO hT hC ?_
 refine kC hC [(0, 0)] Try.call66 h (fun _ => Xcg) fun q1 h => ?_
 refine Vc.nil ?_
 refine kS h ?_ ?_ <;> intro b1 h
 refine kt b1 (Xac ?_)
 refine kO hT hC ?_
 refine Xt6 hT hC rfl rfl rfl rfl trivial rfl ?_
 refine kC hC [(0, 0)] Try.call67 h (fun _ => Xfk) fun q2 h => ?_
 refine kO hT hC ?_
 refine Vc.nil (Xam (Xa3 ?_))
 obtain rfl := kj h
 exact Xd6 (Xdj.refl _) rfl ⟨rfl, trivial⟩
 refine kf b1 (Xag (Xal (Xac ?_)))
 refine kO hT hC ?_
 refine kC hC [(0, 0)] Try.call35 h (fun _ => Xax) fun q3 h => ?_
 refine kO hT hC ?_
 refine Vc.nil (Xam ?_)
 obtain rfl := kj h
 exact Xd6 (Xdj.refl _) rfl ⟨rfl, trivial⟩
def Xj8 (r : (ByteArray × Xat)) : AV := .sv (.str r.1)
def Xj7 (r : (ByteArray × Xat)) : Xbo := [(0, .box [.sv (.ints .u8 r.2.b_), .sv (.int .i64 r.2.i_), .sv (.int .i64 r.2.h_)])]
theorem Xlq {p0 p1 r} (h : Xeq p0 p1 = some r) : AC Try.prog 68 [.ptr 0 0, .sv (.int .i64 p1)] [(0, .box [.sv (.ints .u8 p0.b_), .sv (.int .i64 p0.i_), .sv (.int .i64 p0.h_)])] (Xj8 r) (Xj7 r) := by
 refine Xai hT Try.func68 rfl fun C hC => ?_
 unfold Xeq at h
 refine Xac ?_
 refine kO hT hC ?_
 refine Vc.nil ?_
 refine kL [0,1] [0] [_,_] [_] ?_
 refine kA h (fun v1 => ([(1, .sv (.int .i64 v1))], [])) (fun v1 h => ?_) fun v1 h => ?_
 refine Xac ?_
 iterate 2 refine kO hT hC ?_
 refine Vc.nil ?_
 refine kS h ?_ ?_ <;> intro b1 h
 refine kt b1 (Xab ?_)
 refine kO hT hC ?_
 exact Vc.nil kM
 exact kf b1 (Xag kM)
 refine Xac ?_
 iterate 2 refine kO hT hC ?_
 refine Vc.nil (Xb3 (Xac ?_))
 refine kO hT hC ?_
 refine Vc.nil ?_
 refine kL [0,1,5,6] [0,144] [_,_,_,_] [_,_] ?_
 refine kX h (fun v4 => ([(6, .sv (.int .i64 v4.1))], [(0, some (.box [.sv (.ints .u8 v4.2.1), .sv (.int .i64 v4.2.2.1), .sv (.int .i64 v4.2.2.2.1)])), (144, some (.ints .u8 v4.2.2.2.2))])) (fun v7 => ([(0, .any), (1, .any), (6, .any)], [(0, some (.box [.sv (.ints .u8 v7.2.1), .sv (.int .i64 v7.2.2.1), .sv (.int .i64 v7.2.2.2)])), (144, some (.ints .u8 v7.1))])) (kW hC []) (fun v4 s h => ?_) fun v7 h => ?_
 unfold Xd2 at h
 refine Xb3 (Xac ?_)
 iterate 3 refine kO hT hC ?_
 refine Vc.nil ?_
 refine kS h ?_ ?_ <;> intro b4 h
 refine kt b4 (Xag (Xal (Xb3 (Xbp (Xab ?_)))))
 iterate 2 refine kO hT hC ?_
 refine kC hC [(0, 0)] Try.call36 h (fun _ => Xb0) fun q8 h => ?_
 iterate 2 refine kO hT hC ?_
 refine kT hT hC h fun h => ?_
 refine kO hT hC ?_
 refine Vc.nil (Xcc (Xal (Xab ?_)))
 iterate 3 refine kO hT hC ?_
 refine Vc.nil ?_
 obtain rfl := kj h
 exact Xuo (kW hC [(144, 320)])
 exact kf b4 (Xb4 (Xda ku))
 refine Xal (Xac ?_)
 iterate 3 refine kO hT hC ?_
 refine Vc.nil (Xam ?_)
 obtain rfl := kj h
 exact Xd6 (Xdj.refl _) rfl ⟨rfl, trivial⟩
def Xid (r : (Xaa × Xat)) : AV := .agg [.sv (.int .i64 r.1.Seq), .sv (.bool r.1.First), .sv (.bool r.1.Last), .sv (.str r.1.Bytes)]
def Xic (r : (Xaa × Xat)) : Xbo := [(0, .box [.sv (.ints .u8 r.2.b_), .sv (.int .i64 r.2.i_), .sv (.int .i64 r.2.h_)])]
theorem Xf6 {p0 p1 r} (h : Xcw p0 p1 = some r) : AC Try.prog 53 [.ptr 0 0, .sv (.int .i64 p1)] [(0, .box [.sv (.ints .u8 p0.b_), .sv (.int .i64 p0.i_), .sv (.int .i64 p0.h_)])] (Xid r) (Xic r) := by
 refine Xai hT Try.func53 rfl fun C hC => ?_
 unfold Xcw at h
 refine Xac ?_
 refine kO hT hC ?_
 refine kN ?_
 refine kO hT hC ?_
 refine kC hC [(0, 0)] Try.call35 h (fun _ => Xax) fun q1 h => ?_
 iterate 2 refine kO hT hC ?_
 refine Vc.nil ?_
 refine kL [0,1,4,5] [0,64] [_,_,_,_] [_,_] ?_
 refine kA h (fun v2 => ([(5, .sv (.int .i64 v2.1))], [(0, some (.box [.sv (.ints .u8 v2.2.1), .sv (.int .i64 v2.2.2.1), .sv (.int .i64 v2.2.2.2)]))])) (fun v2 h => ?_) fun v2 h => ?_
 refine Xac ?_
 refine kO hT hC ?_
 refine kC hC [(0, 0)] Try.call35 h (fun _ => Xax) fun q3 h => ?_
 refine Vc.nil (Xbp (Xac ?_))
 iterate 2 refine kO hT hC ?_
 refine Vc.nil ?_
 refine kS h ?_ ?_ <;> intro b1 h
 refine kt b1 (Xab ?_)
 refine kO hT hC ?_
 refine kC hC [(0, 0)] Try.call35 h (fun _ => Xax) fun q4 h => ?_
 iterate 2 refine kO hT hC ?_
 exact Vc.nil (Xcc kM)
 refine kf b1 (Xac ?_)
 iterate 2 refine kO hT hC ?_
 refine Vc.nil ?_
 refine kS h ?_ ?_ <;> intro b2 h
 refine kt b2 (Xab ?_)
 refine kO hT hC ?_
 refine Xt6 hT hC rfl rfl rfl rfl trivial rfl ?_
 refine kC hC [(0, 0)] Try.call67 h (fun _ => Xfk) fun q5 h => ?_
 refine kO hT hC ?_
 exact Vc.nil (Xcc kM)
 exact kf b2 (Xag (Xcc kM))
 refine Xac ?_
 iterate 4 refine kO hT hC ?_
 refine kQ hT hC h fun h => ?_
 refine kO hT hC ?_
 refine kC hC [(0, 0)] Try.call66 h (fun _ => Xcg) fun q6 h => ?_
 refine kO hT hC ?_
 refine kC hC [(0, 0)] Try.call66 h (fun _ => Xcg) fun q7 h => ?_
 iterate 2 refine kO hT hC ?_
 refine kC hC [(0, 0)] Try.call35 h (fun _ => Xax) fun q8 h => ?_
 refine kO hT hC ?_
 refine kC hC [(0, 0)] Try.call68 h (fun _ => Xlq) fun q9 h => ?_
 iterate 3 refine kO hT hC ?_
 refine kN ?_
 iterate 2 refine kO hT hC ?_
 refine Vc.nil (Xam ?_)
 obtain rfl := kj h
 exact Xd6 (Xdj.refl _) rfl ⟨rfl, trivial⟩
def Xf3 (r : Bool) : AV := .sv (.bool r)
def Xf2 (r : Bool) : Xbo := []
theorem Xjx {p0 p1 r} (h : Xd1 p0 p1 = some r) : AC Try.prog 59 [.agg [.sv (.bool p0.Begun), .sv (.int .i64 p0.Next), .sv (.int .i64 p0.Age), .sv (Xae.sv p0.Held), .sv (.int .i64 p0.Late), .sv (.int .i64 p0.Far), .sv (.int .i64 p0.Twice), .sv (.int .i64 p0.Over), .sv (.int .i64 p0.Lost)], .sv (.int .i64 p1)] [] (Xf3 r) (Xf2 r) := by
 refine Xai hT Try.func59 rfl fun C hC => ?_
 unfold Xd1 at h
 refine Xac ?_
 iterate 2 refine kO hT hC ?_
 refine Vc.nil (Xb3 (Xac ?_))
 refine kO hT hC ?_
 refine kC hC [] Try.call41 h (fun _ => Xfb) fun q1 h => ?_
 refine kO hT hC ?_
 refine Vc.nil ?_
 refine kS h ?_ ?_ <;> intro b1 h
 refine kt b1 (Xac ?_)
 refine kO hT hC ?_
 exact Vc.nil (Xam (Xa3 kR))
 refine kf b1 (Xag (Xal (Xb3 (Xac ?_))))
 refine kO hT hC ?_
 refine Vc.nil ?_
 refine kL [1,2,5] [32] [_,_,_] [_] ?_
 obtain ⟨o6, hl, h⟩ := Xb6 h
 refine Xgj (fun v3 => ([(5, .sv (.int .i64 v3))], [])) (fun v5 => ([(1, .any), (2, .any), (5, .any)], [(32, none)])) (fun r => Xjg C T Try.f59.results.toList (Xf3 r) (Xf2 r)) hl ?_ ?_ ?_ ?_
 apply Xgb hC []
 exact co
 rfl
 decide
 rfl
 intro v3 s hs
 have h := hs
 unfold Xcp at h
 refine Xb3 (Xac ?_)
 iterate 5 refine kO hT hC ?_
 refine Vc.nil ?_
 refine kS h ?_ ?_ <;> intro b6 h
 refine kt b6 (Xag (Xal (Xb3 (Xbp (Xac ?_)))))
 iterate 3 refine kO hT hC ?_
 refine kQ hT hC h fun h => ?_
 iterate 4 refine kO hT hC ?_
 refine Vc.nil ?_
 refine kS h ?_ ?_ <;> intro b7 h
 refine kt b7 (Xac ?_)
 refine kO hT hC ?_
 refine Vc.nil (Xam (Xfm (Xa3 ?_)))
 obtain rfl := kj h
 refine Xjt (Xjs ?_)
 exact Xd6 (Xdj.refl _) rfl trivial
 refine kf b7 (Xag (Xcc (Xal (Xab ?_))))
 iterate 3 refine kO hT hC ?_
 exact Vc.nil kG
 exact kf b6 (Xb4 (Xda kb))
 intro v5 e
 subst e
 refine Xal (Xac ?_)
 refine kO hT hC ?_
 exact Vc.nil (Xam kR)
 intro r' σ' e hE
 subst e
 obtain rfl := kj h
 refine Xa3 ?_
 exact hE
def Xlv (r : Xah) : AV := .agg [.sv (.bool r.Begun), .sv (.int .i64 r.Next), .sv (.int .i64 r.Age), .own 16, .sv (.int .i64 r.Late), .sv (.int .i64 r.Far), .sv (.int .i64 r.Twice), .sv (.int .i64 r.Over), .sv (.int .i64 r.Lost)]
def Xlu (r : Xah) : Xbo := [(16, .row Xae r.Held)]
theorem Xhc {p0 p1 r} (h : Xef p0 p1 = some r) : AC Try.prog 60 [.agg [.sv (.bool p0.Begun), .sv (.int .i64 p0.Next), .sv (.int .i64 p0.Age), .sv (Xae.sv p0.Held), .sv (.int .i64 p0.Late), .sv (.int .i64 p0.Far), .sv (.int .i64 p0.Twice), .sv (.int .i64 p0.Over), .sv (.int .i64 p0.Lost)], .agg [.sv (.int .i64 p1.Seq), .sv (.bool p1.First), .sv (.bool p1.Last), .sv (.str p1.Bytes)]] [] (Xlv r) (Xlu r) := by
 refine Xai hT Try.func60 rfl fun C hC => ?_
 unfold Xef at h
 refine Xac ?_
 iterate 3 refine kO hT hC ?_
 refine kN ?_
 iterate 4 refine kO hT hC ?_
 refine kC hC [] Try.call58 h (fun _ => Xcu) fun q1 h => ?_
 refine kO hT hC ?_
 refine kN ?_
 iterate 2 refine kO hT hC ?_
 refine kN ?_
 refine kO hT hC ?_
 refine Vc.nil (Xb3 (Xac ?_))
 refine kO hT hC ?_
 refine Vc.nil ?_
 refine kL [2,3,4,5,6,7,8] [32,48,64,224] [_,_,_,_,_,_,_] [_,_,_,_] ?_
 refine kX h (fun v5 => ([(7, .sv (.bool v5.1)), (8, .sv (.int .i64 v5.2.1))], [(224, some (.row Xae v5.2.2))])) (fun v10 => ([(7, .sv (.bool v10.1)), (5, .any), (8, .any)], [(224, some (.row Xae v10.2))])) (kW hC []) (fun v5 s h => ?_) fun v10 h => ?_
 unfold Xbw at h
 refine Xb3 (Xac ?_)
 iterate 5 refine kO hT hC ?_
 refine Vc.nil ?_
 refine kS h ?_ ?_ <;> intro b6 h
 refine kt b6 (Xag (Xal (Xb3 (Xbp ?_))))
 refine kL [2,3,4,5,6,7,8] [32,48,64,224] [_,_,_,_,_,_,_] [_,_,_,_] ?_
 refine kA h (fun v11 => ([(7, .sv (.bool v11.1))], [(224, some (.row Xae v11.2))])) (fun v11 h => ?_) fun v11 h => ?_
 refine kL [2,3,4,5,6,7,8] [32,48,64,224] [_,_,_,_,_,_,_] [_,_,_,_] ?_
 refine kA h (fun v12 => ([(36, .sv (.bool v12))], [])) (fun v12 h => ?_) fun v12 h => ?_
 refine Xij hm ?_
 iterate 3 refine kO hT hC ?_
 refine kS h ?_ ?_ <;> intro b7 h
 iterate 11 refine kF hC (kn b7) ?_
 refine kP hC false (kn b7) ?_
 exact kD kM
 iterate 5 refine kI hT hC (kn b7) ?_
 refine kJ hT hC (kn b7) h fun h => ?_
 iterate 2 refine kI hT hC (kn b7) ?_
 refine kE hC (kn b7) [] Try.call58 h (fun _ => Xcu) fun q13 h => ?_
 iterate 2 refine kI hT hC (kn b7) ?_
 refine kP hC true (kn b7) ?_
 exact kD kM
 refine kS h ?_ ?_ <;> intro b8 h
 refine kt b8 (Xac ?_)
 iterate 3 refine kO hT hC ?_
 obtain ⟨hq, h⟩ := Xa5 h
 refine Xmy hT hC rfl rfl rfl rfl ⟨fun _ _ => rfl, by rw [Xao]; exact hq⟩ ?_
 rw [Xao]
 refine kO hT hC ?_
 refine Vc.nil (Xab ?_)
 refine kO hT hC ?_
 refine Vc.nil ?_
 obtain rfl := kj h
 exact Xje (kW hC [(224, 640)])
 exact kf b8 (Xag kM)
 refine Xab ?_
 iterate 4 refine kO hT hC ?_
 refine kQ hT hC h fun h => ?_
 iterate 2 refine kO hT hC ?_
 obtain ⟨hq, h⟩ := Xa5 h
 refine Xmy hT hC rfl rfl rfl rfl ⟨fun _ _ => rfl, by rw [Xao]; exact hq⟩ ?_
 rw [Xao]
 refine kO hT hC ?_
 refine Vc.nil (Xcc (Xal (Xab ?_)))
 iterate 3 refine kO hT hC ?_
 refine Vc.nil ?_
 obtain rfl := kj h
 exact Xuo (kW hC [(224, 768)])
 exact kf b6 (Xb4 (Xda ku))
 refine Xal ?_
 refine kL [2,3,4,6,7] [32,48,64,224] [_,_,_,_,_] [_,_,_,_] ?_
 refine kA h (fun v15 => ([(3, .any), (7, .any)], [(224, some (.row Xae v15)), (48, none)])) (fun v15 h => ?_) fun v15 h => ?_
 refine Xac ?_
 iterate 2 refine kO hT hC ?_
 refine Vc.nil ?_
 refine kS h ?_ ?_ <;> intro b9 h
 refine kt b9 (Xab ?_)
 iterate 3 refine kO hT hC ?_
 obtain ⟨hq, h⟩ := Xa5 h
 refine Xmy hT hC rfl rfl rfl rfl ⟨fun _ _ => rfl, by rw [Xao]; exact hq⟩ ?_
 rw [Xao]
 refine kO hT hC ?_
 refine Vc.nil ?_
 obtain rfl := kj h
 exact Xje (kW hC [(224, 864)])
 exact kf b9 (Xag kM)
 refine Xac ?_
 iterate 3 refine kO hT hC ?_
 refine kN ?_
 iterate 2 refine kO hT hC ?_
 refine Vc.nil (Xam ?_)
 obtain rfl := kj h
 exact Xd6 (τ := ⟨[(4, .ptr 2000000 0)], [(16, some (.row Xae v15)), (2000000, some (.box [.sv (.bool p0.Begun), .sv (.int .i64 p0.Next), .sv (.int .i64 p0.Age), .own 16, .sv (.int .i64 p0.Late), .sv (.int .i64 p0.Far), .sv (.int .i64 p0.Twice), .sv (.int .i64 p0.Over), .sv (.int .i64 p0.Lost)]))]⟩) (kW hC [(16, 224), (2000000, 64)]) rfl ⟨rfl, trivial⟩
def Xj0 (r : (Xah × Int)) : AV := .tup [.agg [.sv (.bool r.1.Begun), .sv (.int .i64 r.1.Next), .sv (.int .i64 r.1.Age), .own 16, .sv (.int .i64 r.1.Late), .sv (.int .i64 r.1.Far), .sv (.int .i64 r.1.Twice), .sv (.int .i64 r.1.Over), .sv (.int .i64 r.1.Lost)], .sv (.int .i64 r.2)]
def Xjz (r : (Xah × Int)) : Xbo := [(16, .row Xae r.1.Held)]
theorem Xgx {p0 p1 r} (h : Xdr p0 p1 = some r) : AC Try.prog 28 [.agg [.sv (.bool p0.Begun), .sv (.int .i64 p0.Next), .sv (.int .i64 p0.Age), .sv (Xae.sv p0.Held), .sv (.int .i64 p0.Late), .sv (.int .i64 p0.Far), .sv (.int .i64 p0.Twice), .sv (.int .i64 p0.Over), .sv (.int .i64 p0.Lost)], .agg [.sv (.int .i64 p1.Seq), .sv (.bool p1.First), .sv (.bool p1.Last), .sv (.str p1.Bytes)]] [] (Xj0 r) (Xjz r) := by
 refine Xai hT Try.func28 rfl fun C hC => ?_
 unfold Xdr at h
 refine Xac ?_
 iterate 4 refine kO hT hC ?_
 refine kN ?_
 refine kO hT hC ?_
 refine kC hC [(16, 144)] Try.call40 h (fun _ => Xgz) fun q1 h => ?_
 refine kO hT hC ?_
 refine Vc.nil (Xb3 (Xac ?_))
 refine kO hT hC ?_
 refine kC hC [] Try.call41 h (fun _ => Xfb) fun q2 h => ?_
 refine kO hT hC ?_
 refine Vc.nil ?_
 refine kS h ?_ ?_ <;> intro b1 h
 refine kt b1 (Xac ?_)
 iterate 3 refine kO hT hC ?_
 refine Vc.nil (Xam (Xa3 ?_))
 obtain rfl := kj h
 exact Xd6 (τ := ⟨[(4, .ptr 2000000 0), (5, .sv (.int .i64 1))], [(16, some (.row Xae q1.Held)), (2000000, some (.box [.sv (.bool q1.Begun), .sv (.int .i64 q1.Next), .sv (.int .i64 q1.Age), .own 16, .sv (.int .i64 q1.Late), .sv (.int .i64 q1.Far), .sv (.int .i64 q1.Twice), .sv (.int .i64 q1.Over), .sv (.int .i64 q1.Lost)]))]⟩) (kW hC [(16, 144), (2000000, 64)]) rfl ⟨rfl, trivial⟩
 refine kf b1 (Xag (Xal (Xb3 (Xac ?_))))
 refine kO hT hC ?_
 refine kC hC [] Try.call57 h (fun _ => Xgn) fun q3 h => ?_
 refine kO hT hC ?_
 refine Vc.nil ?_
 refine kS h ?_ ?_ <;> intro b2 h
 refine kt b2 (Xac ?_)
 iterate 3 refine kO hT hC ?_
 refine Vc.nil (Xam (Xa3 ?_))
 obtain rfl := kj h
 exact Xd6 (τ := ⟨[(4, .ptr 2000000 0), (5, .sv (.int .i64 2))], [(16, some (.row Xae q1.Held)), (2000000, some (.box [.sv (.bool q1.Begun), .sv (.int .i64 q1.Next), .sv (.int .i64 q1.Age), .own 16, .sv (.int .i64 q1.Late), .sv (.int .i64 q1.Far), .sv (.int .i64 q1.Twice), .sv (.int .i64 q1.Over), .sv (.int .i64 q1.Lost)]))]⟩) (kW hC [(16, 144), (2000000, 64)]) rfl ⟨rfl, trivial⟩
 refine kf b2 (Xag (Xal (Xb3 (Xac ?_))))
 iterate 3 refine kO hT hC ?_
 refine Vc.nil ?_
 refine kS h ?_ ?_ <;> intro b3 h
 refine kt b3 (Xac ?_)
 iterate 7 refine kO hT hC ?_
 refine Vc.nil (Xam (Xa3 ?_))
 obtain rfl := kj h
 exact Xd6 (τ := ⟨[(4, .ptr 2000000 0), (5, .sv (.int .i64 0))], [(16, some (.row Xae ([p1]))), (2000000, some (.box [.sv (.bool true), .sv (.int .i64 p1.Seq), .sv (.int .i64 0), .own 16, .sv (.int .i64 0), .sv (.int .i64 0), .sv (.int .i64 0), .sv (.int .i64 0), .sv (.int .i64 0)]))]⟩) (kW hC [(16, 384), (2000000, 64)]) rfl ⟨rfl, trivial⟩
 refine kf b3 (Xag (Xal (Xac ?_)))
 iterate 4 refine kO hT hC ?_
 refine kC hC [] Try.call58 h (fun _ => Xcu) fun q4 h => ?_
 refine kO hT hC ?_
 refine Vc.nil (Xb3 ?_)
 refine kL [2,3,4,6] [32,48,64,144] [_,_,_,_] [_,_,_,_] ?_
 refine kA h (fun v5 => ([(36, .sv (.bool v5))], [])) (fun v5 h => ?_) fun v5 h => ?_
 refine Xab ?_
 iterate 3 refine kO hT hC ?_
 refine kS h ?_ ?_ <;> intro b4 h
 iterate 2 refine kF hC b4 ?_
 refine kP hC true b4 ?_
 exact Vc.nil kM
 iterate 2 refine kI hT hC b4 ?_
 refine kP hC false b4 ?_
 exact Vc.nil kM
 refine kS h ?_ ?_ <;> intro b5 h
 refine kt b5 (Xac ?_)
 iterate 2 refine kO hT hC ?_
 refine kC hC [] Try.call45 h (fun _ => Xc8) fun q6 h => ?_
 iterate 2 refine kO hT hC ?_
 refine kN ?_
 iterate 4 refine kO hT hC ?_
 refine kN ?_
 iterate 4 refine kO hT hC ?_
 refine kN ?_
 iterate 2 refine kO hT hC ?_
 refine kN ?_
 iterate 3 refine kO hT hC ?_
 refine Vc.nil (Xam (Xa3 ?_))
 obtain rfl := kj h
 exact Xd6 (τ := ⟨[(4, .ptr 2000000 0), (5, .sv (.int .i64 4))], [(16, some (.row Xae ([p1]))), (2000000, some (.box [.sv (.bool q1.Begun), .sv (.int .i64 p1.Seq), .sv (.int .i64 0), .own 16, .sv (.int .i64 q1.Late), .sv (.int .i64 q6), .sv (.int .i64 q1.Twice), .sv (.int .i64 q1.Over), .sv (.int .i64 q1.Lost)]))]⟩) (kW hC [(16, 672), (2000000, 64)]) rfl ⟨rfl, trivial⟩
 refine kf b5 (Xag (Xal (Xb3 (Xac ?_))))
 iterate 2 refine kO hT hC ?_
 refine Vc.nil ?_
 refine kS h ?_ ?_ <;> intro b6 h
 refine kt b6 (Xac ?_)
 iterate 2 refine kO hT hC ?_
 refine kC hC [] Try.call45 h (fun _ => Xc8) fun q7 h => ?_
 iterate 2 refine kO hT hC ?_
 refine kN ?_
 iterate 3 refine kO hT hC ?_
 refine Vc.nil (Xam (Xa3 ?_))
 obtain rfl := kj h
 exact Xd6 (τ := ⟨[(4, .ptr 2000000 0), (5, .sv (.int .i64 3))], [(16, some (.row Xae q1.Held)), (2000000, some (.box [.sv (.bool q1.Begun), .sv (.int .i64 q1.Next), .sv (.int .i64 q1.Age), .own 16, .sv (.int .i64 q7), .sv (.int .i64 q1.Far), .sv (.int .i64 q1.Twice), .sv (.int .i64 q1.Over), .sv (.int .i64 q1.Lost)]))]⟩) (kW hC [(16, 144), (2000000, 64)]) rfl ⟨rfl, trivial⟩
 refine kf b6 (Xag (Xal (Xb3 (Xac ?_))))
 iterate 3 refine kO hT hC ?_
 refine kC hC [] Try.call59 h (fun _ => Xjx) fun q8 h => ?_
 refine Vc.nil ?_
 refine kS h ?_ ?_ <;> intro b7 h
 refine kt b7 (Xac ?_)
 iterate 2 refine kO hT hC ?_
 refine kC hC [] Try.call45 h (fun _ => Xc8) fun q9 h => ?_
 iterate 2 refine kO hT hC ?_
 refine kN ?_
 iterate 3 refine kO hT hC ?_
 refine Vc.nil (Xam (Xa3 ?_))
 obtain rfl := kj h
 exact Xd6 (τ := ⟨[(4, .ptr 2000000 0), (5, .sv (.int .i64 5))], [(16, some (.row Xae q1.Held)), (2000000, some (.box [.sv (.bool q1.Begun), .sv (.int .i64 q1.Next), .sv (.int .i64 q1.Age), .own 16, .sv (.int .i64 q1.Late), .sv (.int .i64 q1.Far), .sv (.int .i64 q9), .sv (.int .i64 q1.Over), .sv (.int .i64 q1.Lost)]))]⟩) (kW hC [(16, 144), (2000000, 64)]) rfl ⟨rfl, trivial⟩
 refine kf b7 (Xag (Xal (Xb3 (Xac ?_))))
 iterate 4 refine kO hT hC ?_
 refine Vc.nil ?_
 refine kS h ?_ ?_ <;> intro b8 h
 refine kt b8 (Xac ?_)
 iterate 2 refine kO hT hC ?_
 refine kC hC [(16, 1136)] Try.call60 h (fun _ => Xhc) fun q10 h => ?_
 iterate 2 refine kO hT hC ?_
 refine Vc.nil (Xam (Xa3 ?_))
 obtain rfl := kj h
 exact Xd6 (τ := ⟨[(4, .ptr 2000000 0), (5, .sv (.int .i64 0))], [(16, some (.row Xae q10.Held)), (2000000, some (.box [.sv (.bool q10.Begun), .sv (.int .i64 q10.Next), .sv (.int .i64 q10.Age), .own 16, .sv (.int .i64 q10.Late), .sv (.int .i64 q10.Far), .sv (.int .i64 q10.Twice), .sv (.int .i64 q10.Over), .sv (.int .i64 q10.Lost)]))]⟩) (kW hC [(16, 1136), (2000000, 64)]) rfl ⟨rfl, trivial⟩
 refine kf b8 (Xag (Xal (Xac ?_)))
 refine kO hT hC ?_
 refine Vc.nil (Xb3 ?_)
 refine kL [2,3,4,7] [32,48,64,144] [_,_,_,_] [_,_,_,_] ?_
 refine kX h (fun v13 => ([(7, .sv (.int .i64 v13))], [])) (fun v16 => ([(7, .sv (.int .i64 v16))], [])) (kW hC []) (fun v13 s h => ?_) fun v16 h => ?_
 unfold Xc5 at h
 refine Xb3 ?_
 refine kL [2,3,4,7] [32,48,64,144] [_,_,_,_] [_,_,_,_] ?_
 refine kA h (fun v17 => ([(86, .sv (.bool v17))], [])) (fun v17 h => ?_) fun v17 h => ?_
 refine Xab ?_
 iterate 7 refine kO hT hC ?_
 refine kS h ?_ ?_ <;> intro b13 h
 iterate 3 refine kI hT hC b13 ?_
 refine kJ hT hC b13 h fun h => ?_
 refine kI hT hC b13 ?_
 refine kJ hT hC b13 h fun h => ?_
 refine kI hT hC b13 ?_
 refine kP hC true b13 ?_
 exact Vc.nil kM
 iterate 7 refine kF hC b13 ?_
 refine kP hC false b13 ?_
 exact Vc.nil kM
 refine kS h ?_ ?_ <;> intro b14 h
 refine kt b14 (Xag (Xal (Xbp (Xab ?_))))
 iterate 3 refine kO hT hC ?_
 exact Vc.nil (Xcc kG)
 exact kf b14 (Xb4 (Xda ku))
 refine Xal (Xac ?_)
 iterate 2 refine kO hT hC ?_
 refine kC hC [] Try.call45 h (fun _ => Xc8) fun q19 h => ?_
 iterate 2 refine kO hT hC ?_
 refine kN ?_
 iterate 3 refine kO hT hC ?_
 refine kQ hT hC h fun h => ?_
 refine kO hT hC ?_
 refine kQ hT hC h fun h => ?_
 refine kC hC [] Try.call44 h (fun _ => Xfd) fun q20 h => ?_
 iterate 2 refine kO hT hC ?_
 refine kN ?_
 iterate 5 refine kO hT hC ?_
 refine kQ hT hC h fun h => ?_
 obtain ⟨hq, h⟩ := Xa5 h
 refine Xmy hT hC rfl rfl rfl rfl ⟨⟨hq.1, fun _ _ => rfl⟩, by rw [Xao]; exact hq.2⟩ ?_
 rw [Xao]
 iterate 2 refine kO hT hC ?_
 refine kN ?_
 iterate 2 refine kO hT hC ?_
 refine Vc.nil ?_
 refine kL [2,3,4] [32,48,64,1712] [_,_,_] [_,_,_,_] ?_
 refine kA h (fun v21 => ([(3, .any)], [(32, some (.box [.sv (.bool v21.1), .sv (.int .i64 v21.2.1), .sv (.int .i64 v21.2.2.1), .own 1712, .sv (.int .i64 v21.2.2.2.1), .sv (.int .i64 v21.2.2.2.2.1), .sv (.int .i64 v21.2.2.2.2.2.1), .sv (.int .i64 v21.2.2.2.2.2.2.1), .sv (.int .i64 v21.2.2.2.2.2.2.2.1)])), (1712, some (.row Xae v21.2.2.2.2.2.2.2.2)), (48, none)])) (fun v21 h => ?_) fun v21 h => ?_
 refine Xac ?_
 iterate 4 refine kO hT hC ?_
 refine kC hC [] Try.call58 h (fun _ => Xcu) fun q22 h => ?_
 refine kC hC [] Try.call42 h (fun _ => Xa6) fun q23 h => ?_
 refine Vc.nil ?_
 refine kS h ?_ ?_ <;> intro b15 h
 refine kt b15 (Xab ?_)
 iterate 2 refine kO hT hC ?_
 refine kC hC [(16, 1888)] Try.call60 h (fun _ => Xhc) fun q24 h => ?_
 refine kO hT hC ?_
 refine Vc.nil ?_
 obtain rfl := kj h
 exact Xje (kW hC [(1712, 1888)])
 exact kf b15 (Xag kM)
 refine Xac ?_
 iterate 3 refine kO hT hC ?_
 refine Vc.nil (Xam ?_)
 obtain rfl := kj h
 exact Xd6 (τ := ⟨[(4, .ptr 2000000 0), (5, .sv (.int .i64 6))], [(16, some (.row Xae v21.2.2.2.2.2.2.2.2)), (2000000, some (.box [.sv (.bool v21.1), .sv (.int .i64 v21.2.1), .sv (.int .i64 v21.2.2.1), .own 16, .sv (.int .i64 v21.2.2.2.1), .sv (.int .i64 v21.2.2.2.2.1), .sv (.int .i64 v21.2.2.2.2.2.1), .sv (.int .i64 v21.2.2.2.2.2.2.1), .sv (.int .i64 v21.2.2.2.2.2.2.2.1)]))]⟩) (kW hC [(16, 1712), (2000000, 64)]) rfl ⟨rfl, trivial⟩
def Xi7 (r : (Xah × Xat)) : AV := .agg [.sv (.bool r.1.Begun), .sv (.int .i64 r.1.Next), .sv (.int .i64 r.1.Age), .own 16, .sv (.int .i64 r.1.Late), .sv (.int .i64 r.1.Far), .sv (.int .i64 r.1.Twice), .sv (.int .i64 r.1.Over), .sv (.int .i64 r.1.Lost)]
def Xi6 (r : (Xah × Xat)) : Xbo := [(16, .row Xae r.1.Held), (0, .box [.sv (.ints .u8 r.2.b_), .sv (.int .i64 r.2.i_), .sv (.int .i64 r.2.h_)])]
theorem Xkg {p0 r} (h : Xd4 p0 = some r) : AC Try.prog 52 [.ptr 0 0] [(0, .box [.sv (.ints .u8 p0.b_), .sv (.int .i64 p0.i_), .sv (.int .i64 p0.h_)])] (Xi7 r) (Xi6 r) := by
 refine Xai hT Try.func52 rfl fun C hC => ?_
 unfold Xd4 at h
 refine Xac ?_
 refine kO hT hC ?_
 refine kN ?_
 iterate 3 refine kO hT hC ?_
 refine kN ?_
 refine kO hT hC ?_
 refine kC hC [(0, 0)] Try.call65 h (fun _ => Xl8) fun q1 h => ?_
 refine kO hT hC ?_
 refine kN ?_
 refine kO hT hC ?_
 refine kC hC [(0, 0)] Try.call35 h (fun _ => Xax) fun q2 h => ?_
 refine kO hT hC ?_
 refine Vc.nil ?_
 refine kL [0,2,3,4,5] [0,32,48] [_,_,_,_,_] [_,_,_] ?_
 refine kA h (fun v3 => ([(5, .sv (.int .i64 v3.1))], [(0, some (.box [.sv (.ints .u8 v3.2.1), .sv (.int .i64 v3.2.2.1), .sv (.int .i64 v3.2.2.2)]))])) (fun v3 h => ?_) fun v3 h => ?_
 refine Xac ?_
 refine kO hT hC ?_
 refine kC hC [(0, 0)] Try.call66 h (fun _ => Xcg) fun q4 h => ?_
 refine Vc.nil ?_
 refine kS h ?_ ?_ <;> intro b1 h
 refine kt b1 (Xab ?_)
 iterate 3 refine kO hT hC ?_
 exact Vc.nil kM
 exact kf b1 (Xag kM)
 refine Xb3 (Xac ?_)
 refine kO hT hC ?_
 refine Vc.nil ?_
 refine kL [0,2,3,4,5,6] [0,32,48] [_,_,_,_,_,_] [_,_,_] ?_
 obtain ⟨v26, hl, h⟩ := Xb6 h
 refine Xt4 (fun v15 => ([(4, .sv (.int .i64 v15.1)), (6, .sv (.int .i64 v15.2.1))], [(0, some (.box [.sv (.ints .u8 v15.2.2.1), .sv (.int .i64 v15.2.2.2.1), .sv (.int .i64 v15.2.2.2.2.1)])), (48, some (.box [.sv (.bool v15.2.2.2.2.2.1), .sv (.int .i64 v15.2.2.2.2.2.2.1), .sv (.int .i64 v15.2.2.2.2.2.2.2.1), .own 809, .sv (.int .i64 v15.2.2.2.2.2.2.2.2.1), .sv (.int .i64 v15.2.2.2.2.2.2.2.2.2.1), .sv (.int .i64 v15.2.2.2.2.2.2.2.2.2.2.1), .sv (.int .i64 v15.2.2.2.2.2.2.2.2.2.2.2.1), .sv (.int .i64 v15.2.2.2.2.2.2.2.2.2.2.2.2.1)])), (809, some (.row Xae v15.2.2.2.2.2.2.2.2.2.2.2.2.2))])) (fun v26 => ([(0, .any), (4, .any), (5, .any), (6, .any)], [(0, some (.box [.sv (.ints .u8 v26.2.2.2.2.2.2.2.2.1), .sv (.int .i64 v26.2.2.2.2.2.2.2.2.2.1), .sv (.int .i64 v26.2.2.2.2.2.2.2.2.2.2.1)])), (48, some (.box [.sv (.bool v26.1), .sv (.int .i64 v26.2.1), .sv (.int .i64 v26.2.2.1), .own 812, .sv (.int .i64 v26.2.2.2.1), .sv (.int .i64 v26.2.2.2.2.1), .sv (.int .i64 v26.2.2.2.2.2.1), .sv (.int .i64 v26.2.2.2.2.2.2.1), .sv (.int .i64 v26.2.2.2.2.2.2.2.1)])), (812, some (.row Xae v26.2.2.2.2.2.2.2.2.2.2.2))])) hl ?_ ?_ ?_
 refine Xvn hC 48 3 814 (.row Xae []) rfl rfl rfl rfl rfl Xik ?_
 try dsimp only
 apply Xgb hC [(809, 814)]
 exact co
 rfl
 decide
 rfl
 intro v15 s hs
 have h := hs
 unfold Xdm at h
 refine Xb3 (Xac ?_)
 iterate 3 refine kO hT hC ?_
 refine Vc.nil ?_
 refine kS h ?_ ?_ <;> intro b10 h
 refine kt b10 (Xag (Xal ?_))
 refine kL [0,2,3,4,5,6] [0,32,48,809] [_,_,_,_,_,_] [_,_,_,_] ?_
 refine kA h (fun v27 => ([(4, .sv (.int .i64 v27.1))], [(0, some (.box [.sv (.ints .u8 v27.2.1), .sv (.int .i64 v27.2.2.1), .sv (.int .i64 v27.2.2.2.1)])), (48, some (.box [.sv (.bool v27.2.2.2.2.1), .sv (.int .i64 v27.2.2.2.2.2.1), .sv (.int .i64 v27.2.2.2.2.2.2.1), .own 813, .sv (.int .i64 v27.2.2.2.2.2.2.2.1), .sv (.int .i64 v27.2.2.2.2.2.2.2.2.1), .sv (.int .i64 v27.2.2.2.2.2.2.2.2.2.1), .sv (.int .i64 v27.2.2.2.2.2.2.2.2.2.2.1), .sv (.int .i64 v27.2.2.2.2.2.2.2.2.2.2.2.1)])), (813, some (.row Xae v27.2.2.2.2.2.2.2.2.2.2.2.2)), (809, none)])) (fun v27 h => ?_) fun v27 h => ?_
 refine Xbp ?_
 refine Xf0 hm ?_
 iterate 3 refine kO hT hC ?_
 refine kC hC [(0, 0)] Try.call53 h (fun _ => Xf6) fun q28 h => ?_
 refine kC hC [(16, 416)] Try.call28 h (fun _ => Xgx) fun q29 h => ?_
 iterate 4 refine kO hT hC ?_
 refine kD ?_
 refine kL [0,2,3,4,5,6] [0,32,48,416] [_,_,_,_,_,_] [_,_,_,_] ?_
 refine kA h (fun v30 => ([], [(0, some (.box [.sv (.ints .u8 v30.1), .sv (.int .i64 v30.2.1), .sv (.int .i64 v30.2.2.1)])), (48, some (.box [.sv (.bool v30.2.2.2.1), .sv (.int .i64 v30.2.2.2.2.1), .sv (.int .i64 v30.2.2.2.2.2.1), .own 416, .sv (.int .i64 v30.2.2.2.2.2.2.1), .sv (.int .i64 v30.2.2.2.2.2.2.2.1), .sv (.int .i64 v30.2.2.2.2.2.2.2.2.1), .sv (.int .i64 v30.2.2.2.2.2.2.2.2.2.1), .sv (.int .i64 v30.2.2.2.2.2.2.2.2.2.2.1)])), (416, some (.row Xae v30.2.2.2.2.2.2.2.2.2.2.2))])) (fun v30 h => ?_) fun v30 h => ?_
 refine Xac ?_
 refine kO hT hC ?_
 refine kC hC [(0, 0)] Try.call66 h (fun _ => Xcg) fun q31 h => ?_
 refine Vc.nil ?_
 refine kS h ?_ ?_ <;> intro b11 h
 refine kt b11 ?_
 refine Xij hm ?_
 iterate 2 refine kO hT hC ?_
 refine kC hC [(0, 0)] Try.call35 h (fun _ => Xax) fun q32 h => ?_
 obtain ⟨q33, hq, h⟩ := Xb6 h
 refine Xqx hC [(16, 560), (17, 561)] rfl rfl rfl rfl Try.call16 (Xf4 hq) rfl (by decide) trivial rfl (.inr ⟨rfl, ⟨fun _ => rfl, fun _ => rfl, trivial⟩⟩) rfl ?_
 iterate 5 refine kO hT hC ?_
 refine kD ?_
 obtain rfl := kj h
 exact Xje (kW hC [(416, 560)])
 exact kf b11 (Xag kM)
 refine kL [0,2,3,4,5,6] [0,32,48,416] [_,_,_,_,_,_] [_,_,_,_] ?_
 refine kA h (fun v34 => ([(4, .sv (.int .i64 v34))], [])) (fun v34 h => ?_) fun v34 h => ?_
 refine Xac ?_
 iterate 2 refine kO hT hC ?_
 refine Vc.nil ?_
 refine kS h ?_ ?_ <;> intro b12 h
 refine kt b12 (Xab ?_)
 iterate 3 refine kO hT hC ?_
 exact Vc.nil kM
 exact kf b12 (Xag kM)
 refine Xac ?_
 refine kO hT hC ?_
 refine kC hC [(0, 0)] Try.call66 h (fun _ => Xcg) fun q35 h => ?_
 refine Vc.nil ?_
 refine kS h ?_ ?_ <;> intro b13 h
 refine kt b13 (Xab ?_)
 iterate 2 refine kO hT hC ?_
 refine kQ hT hC h fun h => ?_
 refine kO hT hC ?_
 refine Vc.nil (Xcc ?_)
 obtain rfl := kj h
 exact Xje (kW hC [(813, 416)])
 refine kf b13 (Xag (Xcc ?_))
 obtain rfl := kj h
 exact Xje (kW hC [(813, 416)])
 refine Xab ?_
 iterate 3 refine kO hT hC ?_
 refine Vc.nil ?_
 obtain rfl := kj h
 exact Xuo (kW hC [(809, 813)])
 refine kf b10 (Xb4 (Xda ?_))
 obtain rfl := kj h
 exact Xqm (Xun (kW hC [(812, 809)]))
 refine Xal (Xac ?_)
 iterate 2 refine kO hT hC ?_
 refine Vc.nil (Xam ?_)
 obtain rfl := kj h
 exact Xd6 (τ := ⟨[(2, .ptr 2000000 0)], [(16, some (.row Xae v26.2.2.2.2.2.2.2.2.2.2.2)), (0, some (.box [.sv (.ints .u8 v26.2.2.2.2.2.2.2.2.1), .sv (.int .i64 v26.2.2.2.2.2.2.2.2.2.1), .sv (.int .i64 v26.2.2.2.2.2.2.2.2.2.2.1)])), (2000000, some (.box [.sv (.bool v26.1), .sv (.int .i64 v26.2.1), .sv (.int .i64 v26.2.2.1), .own 16, .sv (.int .i64 v26.2.2.2.1), .sv (.int .i64 v26.2.2.2.2.1), .sv (.int .i64 v26.2.2.2.2.2.1), .sv (.int .i64 v26.2.2.2.2.2.2.1), .sv (.int .i64 v26.2.2.2.2.2.2.2.1)]))]⟩) (kW hC [(16, 812), (2000000, 32)]) rfl ⟨rfl, rfl, trivial⟩
def Xh9 (r : (Xah × (List Xaa))) : AV := .tup [.agg [.sv (.bool r.1.Begun), .sv (.int .i64 r.1.Next), .sv (.int .i64 r.1.Age), .own 16, .sv (.int .i64 r.1.Late), .sv (.int .i64 r.1.Far), .sv (.int .i64 r.1.Twice), .sv (.int .i64 r.1.Over), .sv (.int .i64 r.1.Lost)], .own 17]
def Xh8 (r : (Xah × (List Xaa))) : Xbo := [(16, .row Xae r.1.Held), (17, .row Xae r.2)]
theorem Xf1 {p0 r} (h : Xct p0 = some r) : AC Try.prog 25 [.sv (.ints .u8 p0)] [] (Xh9 r) (Xh8 r) := by
 refine Xai hT Try.func25 rfl fun C hC => ?_
 unfold Xct at h
 refine Xac ?_
 iterate 2 refine kO hT hC ?_
 refine kN ?_
 refine kO hT hC ?_
 refine kC hC [(16, 144)] Try.call33 h (fun _ => Xha) fun q1 h => ?_
 refine kO hT hC ?_
 refine kN ?_
 refine kO hT hC ?_
 refine kC hC [(16, 176), (0, 144)] Try.call52 h (fun _ => Xkg) fun q2 h => ?_
 iterate 2 refine kO hT hC ?_
 refine kN ?_
 iterate 2 refine kO hT hC ?_
 refine Vc.nil (Xb3 (Xac ?_))
 refine kO hT hC ?_
 refine Vc.nil ?_
 refine kL [2,4,5,6,7] [32,80,144,176,192] [_,_,_,_,_] [_,_,_,_,_] ?_
 refine kX h (fun v6 => ([(7, .sv (.int .i64 v6.1))], [(144, some (.box [.sv (.ints .u8 v6.2.1), .sv (.int .i64 v6.2.2.1), .sv (.int .i64 v6.2.2.2.1)])), (192, some (.row Xae v6.2.2.2.2))])) (fun v10 => ([(4, .any), (7, .any)], [(192, some (.row Xae v10)), (144, none)])) (kW hC []) (fun v6 s h => ?_) fun v10 h => ?_
 unfold Xdc at h
 refine Xb3 (Xac ?_)
 iterate 2 refine kO hT hC ?_
 refine kC hC [(0, 144)] Try.call35 h (fun _ => Xax) fun q11 h => ?_
 iterate 2 refine kO hT hC ?_
 refine Vc.nil ?_
 refine kS h ?_ ?_ <;> intro b3 h
 refine kt b3 (Xag (Xal (Xb3 (Xbp (Xab ?_)))))
 iterate 4 refine kO hT hC ?_
 refine kC hC [(0, 144)] Try.call53 h (fun _ => Xf6) fun q12 h => ?_
 refine kO hT hC ?_
 obtain ⟨hq, h⟩ := Xa5 h
 refine Xmy hT hC rfl rfl rfl rfl ⟨fun _ _ => rfl, by rw [Xao]; exact hq⟩ ?_
 rw [Xao]
 refine kO hT hC ?_
 refine Vc.nil (Xcc (Xal (Xab ?_)))
 iterate 3 refine kO hT hC ?_
 refine Vc.nil ?_
 obtain rfl := kj h
 exact Xuo (kW hC [(192, 416)])
 exact kf b3 (Xb4 (Xda ku))
 refine Xal (Xac ?_)
 iterate 4 refine kO hT hC ?_
 refine Vc.nil (Xam ?_)
 obtain rfl := kj h
 exact Xd6 (τ := ⟨[(2, .ptr 2000000 0), (3, .own 17)], [(16, some (.row Xae q2.1.Held)), (17, some (.row Xae v10)), (2000000, some (.box [.sv (.bool q2.1.Begun), .sv (.int .i64 q2.1.Next), .sv (.int .i64 q2.1.Age), .own 16, .sv (.int .i64 q2.1.Late), .sv (.int .i64 q2.1.Far), .sv (.int .i64 q2.1.Twice), .sv (.int .i64 q2.1.Over), .sv (.int .i64 q2.1.Lost)]))]⟩) (kW hC [(16, 176), (17, 192), (2000000, 32)]) rfl ⟨rfl, rfl, trivial⟩
def Xft (r : Bool) : AV := .sv (.bool r)
def Xfs (r : Bool) : Xbo := []
theorem Xji {p0 p1 r} (h : Xdw p0 p1 = some r) : AC Try.prog 61 [.agg [.sv (.bool p0.Begun), .sv (.int .i64 p0.Next), .sv (.int .i64 p0.Age), .sv (Xae.sv p0.Held), .sv (.int .i64 p0.Late), .sv (.int .i64 p0.Far), .sv (.int .i64 p0.Twice), .sv (.int .i64 p0.Over), .sv (.int .i64 p0.Lost)], .sv (.int .i64 p1)] [] (Xft r) (Xfs r) := by
 refine Xai hT Try.func61 rfl fun C hC => ?_
 unfold Xdw at h
 refine Xac ?_
 iterate 2 refine kO hT hC ?_
 refine Vc.nil (Xb3 (Xac ?_))
 refine kO hT hC ?_
 refine kC hC [] Try.call26 h (fun _ => Xcz) fun q1 h => ?_
 refine kO hT hC ?_
 refine Vc.nil ?_
 refine kS h ?_ ?_ <;> intro b1 h
 refine kt b1 (Xac ?_)
 refine kO hT hC ?_
 exact Vc.nil (Xam (Xa3 kR))
 refine kf b1 (Xag (Xal (Xb3 (Xac ?_))))
 iterate 4 refine kO hT hC ?_
 refine Vc.nil ?_
 refine kL [1,11,12,13] [] [_,_,_,_] [] ?_
 obtain ⟨o6, hl, h⟩ := Xb6 h
 refine Xgj (fun v3 => ([(13, .sv (.int .i64 v3))], [])) (fun v5 => ([(1, .any), (11, .any), (12, .any), (13, .any)], [])) (fun r => Xjg C T Try.f61.results.toList (Xft r) (Xfs r)) hl ?_ ?_ ?_ ?_
 apply Xgb hC []
 exact co
 rfl
 decide
 rfl
 intro v3 s hs
 have h := hs
 unfold Xco at h
 refine Xac ?_
 refine kO hT hC ?_
 refine Vc.nil (Xb3 ?_)
 refine kS h ?_ ?_ <;> intro b6 h
 refine kt b6 (Xag (Xal (Xb3 (Xbp (Xac ?_)))))
 refine kQ hT hC h fun h => ?_
 iterate 3 refine kO hT hC ?_
 refine kN ?_
 iterate 4 refine kO hT hC ?_
 refine Vc.nil ?_
 refine kS h ?_ ?_ <;> intro b7 h
 refine kt b7 (Xac ?_)
 refine kO hT hC ?_
 refine Vc.nil (Xam (Xfm (Xa3 ?_)))
 obtain rfl := kj h
 refine Xjt (Xjs ?_)
 exact Xd6 (Xdj.refl _) rfl trivial
 refine kf b7 (Xag (Xcc (Xal (Xab ?_))))
 iterate 2 refine kO hT hC ?_
 exact Vc.nil kG
 exact kf b6 (Xb4 (Xda kb))
 intro v5 e
 subst e
 refine Xal (Xac ?_)
 refine kO hT hC ?_
 exact Vc.nil (Xam kR)
 intro r' σ' e hE
 subst e
 obtain rfl := kj h
 refine Xa3 ?_
 exact hE
def Xgw (r : Xah) : AV := .tup []
def Xgv (r : Xah) : Xbo := [(0, .box [.sv (.bool r.Begun), .sv (.int .i64 r.Next), .sv (.int .i64 r.Age), .own 16, .sv (.int .i64 r.Late), .sv (.int .i64 r.Far), .sv (.int .i64 r.Twice), .sv (.int .i64 r.Over), .sv (.int .i64 r.Lost)]), (16, .row Xae r.Held)]
theorem Xe1 {p0 p1 r} (h : Xbb p0 p1 = some r) : AC Try.prog 62 [.ptr 0 0, .agg [.sv (.int .i64 p1.Seq), .sv (.bool p1.First), .sv (.bool p1.Last), .sv (.str p1.Bytes)]] [(0, .box [.sv (.bool p0.Begun), .sv (.int .i64 p0.Next), .sv (.int .i64 p0.Age), .own 2, .sv (.int .i64 p0.Late), .sv (.int .i64 p0.Far), .sv (.int .i64 p0.Twice), .sv (.int .i64 p0.Over), .sv (.int .i64 p0.Lost)]), (2, .row Xae p0.Held)] (Xgw r) (Xgv r) := by
 refine Xai hT Try.func62 rfl fun C hC => ?_
 unfold Xbb at h
 refine Xac ?_
 refine kO hT hC ?_
 refine kN ?_
 refine kO hT hC ?_
 refine Vc.nil (Xb3 ?_)
 refine kL [0,3,4] [0,2,48] [_,_,_] [_,_,_] ?_
 refine kX h (fun v5 => ([(4, .sv (.int .i64 v5))], [])) (fun v10 => ([(4, .sv (.int .i64 v10))], [])) (kW hC []) (fun v5 s h => ?_) fun v10 h => ?_
 unfold Xa7 at h
 refine Xb3 ?_
 refine kL [0,3,4] [0,2,48] [_,_,_] [_,_,_] ?_
 refine kA h (fun v11 => ([(35, .sv (.bool v11))], [])) (fun v11 h => ?_) fun v11 h => ?_
 refine Xij hm ?_
 iterate 8 refine kO hT hC ?_
 refine kS h ?_ ?_ <;> intro b5 h
 iterate 9 refine kI hT hC b5 ?_
 refine kJ hT hC b5 h fun h => ?_
 refine kI hT hC b5 ?_
 refine kJ hT hC b5 h fun h => ?_
 refine kE hC b5 [] Try.call55 h (fun _ => Xdh) fun q12 h => ?_
 iterate 6 refine kI hT hC b5 ?_
 refine kE hC b5 [] Try.call55 h (fun _ => Xdh) fun q13 h => ?_
 refine kI hT hC b5 ?_
 refine kP hC true b5 ?_
 exact kD kM
 iterate 21 refine kF hC b5 ?_
 refine kP hC false b5 ?_
 exact kD kM
 refine kS h ?_ ?_ <;> intro b6 h
 refine kt b6 (Xag (Xal (Xbp (Xab ?_))))
 iterate 3 refine kO hT hC ?_
 exact Vc.nil (Xcc kG)
 exact kf b6 (Xb4 (Xda ku))
 refine Xal (Xac ?_)
 iterate 6 refine kO hT hC ?_
 refine kQ hT hC h fun h => ?_
 obtain ⟨hq, h⟩ := Xa5 h
 refine Xmy hT hC rfl rfl rfl rfl ⟨⟨hq.1, fun _ _ => rfl⟩, by rw [Xao]; exact hq.2⟩ ?_
 rw [Xao]
 refine kO hT hC ?_
 refine Vc.nil ?_
 refine Xij hm ?_
 iterate 4 refine kO hT hC ?_
 obtain ⟨hq, h⟩ := Xa5 h
 refine Xmy hT hC rfl rfl rfl rfl ⟨fun _ _ => rfl, by rw [Xao]; exact hq⟩ ?_
 rw [Xao]
 iterate 5 refine kO hT hC ?_
 refine kQ hT hC h fun h => ?_
 obtain ⟨hq, h⟩ := Xa5 h
 refine Xmy hT hC rfl rfl rfl rfl ⟨⟨hq.1, fun _ _ => rfl⟩, by rw [Xao]; exact hq.2⟩ ?_
 rw [Xao]
 iterate 3 refine kO hT hC ?_
 refine kD ?_
 obtain rfl := kj h
 refine Xu6 (τ := ⟨[], [(16, some (.row Xae (((([] : List Xaa) ++ ((p0.Held.drop ((0 : Int).toNat)).take (v10.toNat - (0 : Int).toNat))) ++ ([p1])) ++ ((p0.Held.drop v10.toNat).take ((p0.Held.length : Int).toNat - v10.toNat))))), (0, some (.box [.sv (.bool p0.Begun), .sv (.int .i64 p0.Next), .sv (.int .i64 p0.Age), .own 16, .sv (.int .i64 p0.Late), .sv (.int .i64 p0.Far), .sv (.int .i64 p0.Twice), .sv (.int .i64 p0.Over), .sv (.int .i64 p0.Lost)]))]⟩) ?_ rfl ⟨rfl, rfl, trivial⟩
 apply Xgb hC [(16, 912)]
 exact co
 rfl
 decide
 rfl
def Xjl (r : (Xah × Int)) : AV := .tup [.agg [.sv (.bool r.1.Begun), .sv (.int .i64 r.1.Next), .sv (.int .i64 r.1.Age), .own 16, .sv (.int .i64 r.1.Late), .sv (.int .i64 r.1.Far), .sv (.int .i64 r.1.Twice), .sv (.int .i64 r.1.Over), .sv (.int .i64 r.1.Lost)], .sv (.int .i64 r.2)]
def Xjk (r : (Xah × Int)) : Xbo := [(16, .row Xae r.1.Held)]
theorem Xgt {p0 p1 r} (h : Xdp p0 p1 = some r) : AC Try.prog 30 [.agg [.sv (.bool p0.Begun), .sv (.int .i64 p0.Next), .sv (.int .i64 p0.Age), .sv (Xae.sv p0.Held), .sv (.int .i64 p0.Late), .sv (.int .i64 p0.Far), .sv (.int .i64 p0.Twice), .sv (.int .i64 p0.Over), .sv (.int .i64 p0.Lost)], .agg [.sv (.int .i64 p1.Seq), .sv (.bool p1.First), .sv (.bool p1.Last), .sv (.str p1.Bytes)]] [] (Xjl r) (Xjk r) := by
 refine Xai hT Try.func30 rfl fun C hC => ?_
 unfold Xdp at h
 refine Xac ?_
 iterate 4 refine kO hT hC ?_
 refine kN ?_
 refine kO hT hC ?_
 refine kC hC [(16, 160)] Try.call47 h (fun _ => Xfu) fun q1 h => ?_
 iterate 2 refine kO hT hC ?_
 refine Vc.nil (Xb3 (Xbp (Xac ?_)))
 refine kO hT hC ?_
 refine kC hC [] Try.call26 h (fun _ => Xcz) fun q2 h => ?_
 iterate 2 refine kO hT hC ?_
 refine Vc.nil ?_
 refine kS h ?_ ?_ <;> intro b1 h
 refine kt b1 (Xac ?_)
 iterate 3 refine kO hT hC ?_
 refine Vc.nil (Xam (Xfm (Xa3 ?_)))
 obtain rfl := kj h
 exact Xd6 (τ := ⟨[(4, .ptr 2000000 0), (5, .sv (.int .i64 1))], [(16, some (.row Xae q1.Held)), (2000000, some (.box [.sv (.bool q1.Begun), .sv (.int .i64 q1.Next), .sv (.int .i64 q1.Age), .own 16, .sv (.int .i64 q1.Late), .sv (.int .i64 q1.Far), .sv (.int .i64 q1.Twice), .sv (.int .i64 q1.Over), .sv (.int .i64 q1.Lost)]))]⟩) (kW hC [(16, 160), (2000000, 64)]) rfl ⟨rfl, trivial⟩
 refine kf b1 (Xac ?_)
 refine kO hT hC ?_
 refine kC hC [] Try.call56 h (fun _ => Xgl) fun q3 h => ?_
 iterate 2 refine kO hT hC ?_
 refine Vc.nil ?_
 refine kS h ?_ ?_ <;> intro b2 h
 refine kt b2 (Xac ?_)
 iterate 3 refine kO hT hC ?_
 refine Vc.nil (Xam (Xfm (Xa3 ?_)))
 obtain rfl := kj h
 exact Xd6 (τ := ⟨[(4, .ptr 2000000 0), (5, .sv (.int .i64 2))], [(16, some (.row Xae q1.Held)), (2000000, some (.box [.sv (.bool q1.Begun), .sv (.int .i64 q1.Next), .sv (.int .i64 q1.Age), .own 16, .sv (.int .i64 q1.Late), .sv (.int .i64 q1.Far), .sv (.int .i64 q1.Twice), .sv (.int .i64 q1.Over), .sv (.int .i64 q1.Lost)]))]⟩) (kW hC [(16, 160), (2000000, 64)]) rfl ⟨rfl, trivial⟩
 refine kf b2 (Xac ?_)
 iterate 4 refine kO hT hC ?_
 refine Vc.nil ?_
 refine kS h ?_ ?_ <;> intro b3 h
 refine kt b3 (Xac ?_)
 iterate 2 refine kO hT hC ?_
 refine kN ?_
 iterate 4 refine kO hT hC ?_
 refine kN ?_
 iterate 4 refine kO hT hC ?_
 refine kN ?_
 iterate 3 refine kO hT hC ?_
 refine Vc.nil (Xam (Xfm (Xa3 ?_)))
 obtain rfl := kj h
 exact Xd6 (τ := ⟨[(4, .ptr 2000000 0), (5, .sv (.int .i64 0))], [(16, some (.row Xae ([p1]))), (2000000, some (.box [.sv (.bool true), .sv (.int .i64 p1.Seq), .sv (.int .i64 q1.Age), .own 16, .sv (.int .i64 q1.Late), .sv (.int .i64 q1.Far), .sv (.int .i64 q1.Twice), .sv (.int .i64 q1.Over), .sv (.int .i64 q1.Lost)]))]⟩) (kW hC [(16, 480), (2000000, 64)]) rfl ⟨rfl, trivial⟩
 refine kf b3 (Xag (Xcc (Xal (Xac ?_))))
 iterate 4 refine kO hT hC ?_
 refine kC hC [] Try.call55 h (fun _ => Xdh) fun q4 h => ?_
 refine kO hT hC ?_
 refine Vc.nil (Xb3 (Xbp ?_))
 refine kL [2,3,4,6,7] [32,48,64,96,160] [_,_,_,_,_] [_,_,_,_,_] ?_
 refine kA h (fun v5 => ([(38, .sv (.bool v5))], [])) (fun v5 h => ?_) fun v5 h => ?_
 refine Xab ?_
 iterate 3 refine kO hT hC ?_
 refine kS h ?_ ?_ <;> intro b4 h
 iterate 2 refine kF hC b4 ?_
 refine kP hC true b4 ?_
 refine kO hT hC ?_
 exact Vc.nil kM
 iterate 2 refine kI hT hC b4 ?_
 refine kP hC false b4 ?_
 refine kO hT hC ?_
 exact Vc.nil kM
 refine kS h ?_ ?_ <;> intro b5 h
 refine kt b5 (Xac ?_)
 iterate 2 refine kO hT hC ?_
 refine kC hC [] Try.call49 h (fun _ => Xc1) fun q6 h => ?_
 iterate 2 refine kO hT hC ?_
 refine kN ?_
 iterate 4 refine kO hT hC ?_
 refine kN ?_
 iterate 4 refine kO hT hC ?_
 refine kN ?_
 iterate 2 refine kO hT hC ?_
 refine kN ?_
 iterate 3 refine kO hT hC ?_
 refine Vc.nil (Xam (Xfm (Xa3 ?_)))
 obtain rfl := kj h
 exact Xd6 (τ := ⟨[(4, .ptr 2000000 0), (5, .sv (.int .i64 4))], [(16, some (.row Xae ([p1]))), (2000000, some (.box [.sv (.bool q1.Begun), .sv (.int .i64 p1.Seq), .sv (.int .i64 0), .own 16, .sv (.int .i64 q1.Late), .sv (.int .i64 q6), .sv (.int .i64 q1.Twice), .sv (.int .i64 q1.Over), .sv (.int .i64 q1.Lost)]))]⟩) (kW hC [(16, 848), (2000000, 64)]) rfl ⟨rfl, trivial⟩
 refine kf b5 (Xac ?_)
 iterate 3 refine kO hT hC ?_
 refine Vc.nil ?_
 refine kS h ?_ ?_ <;> intro b6 h
 refine kt b6 (Xac ?_)
 iterate 2 refine kO hT hC ?_
 refine kC hC [] Try.call49 h (fun _ => Xc1) fun q7 h => ?_
 iterate 2 refine kO hT hC ?_
 refine kN ?_
 iterate 3 refine kO hT hC ?_
 refine Vc.nil (Xam (Xfm (Xa3 ?_)))
 obtain rfl := kj h
 exact Xd6 (τ := ⟨[(4, .ptr 2000000 0), (5, .sv (.int .i64 3))], [(16, some (.row Xae q1.Held)), (2000000, some (.box [.sv (.bool q1.Begun), .sv (.int .i64 q1.Next), .sv (.int .i64 q1.Age), .own 16, .sv (.int .i64 q7), .sv (.int .i64 q1.Far), .sv (.int .i64 q1.Twice), .sv (.int .i64 q1.Over), .sv (.int .i64 q1.Lost)]))]⟩) (kW hC [(16, 160), (2000000, 64)]) rfl ⟨rfl, trivial⟩
 refine kf b6 (Xac ?_)
 iterate 3 refine kO hT hC ?_
 refine kC hC [] Try.call61 h (fun _ => Xji) fun q8 h => ?_
 refine kO hT hC ?_
 refine Vc.nil ?_
 refine kS h ?_ ?_ <;> intro b7 h
 refine kt b7 (Xac ?_)
 iterate 2 refine kO hT hC ?_
 refine kC hC [] Try.call49 h (fun _ => Xc1) fun q9 h => ?_
 iterate 2 refine kO hT hC ?_
 refine kN ?_
 iterate 3 refine kO hT hC ?_
 refine Vc.nil (Xam (Xfm (Xa3 ?_)))
 obtain rfl := kj h
 exact Xd6 (τ := ⟨[(4, .ptr 2000000 0), (5, .sv (.int .i64 5))], [(16, some (.row Xae q1.Held)), (2000000, some (.box [.sv (.bool q1.Begun), .sv (.int .i64 q1.Next), .sv (.int .i64 q1.Age), .own 16, .sv (.int .i64 q1.Late), .sv (.int .i64 q1.Far), .sv (.int .i64 q9), .sv (.int .i64 q1.Over), .sv (.int .i64 q1.Lost)]))]⟩) (kW hC [(16, 160), (2000000, 64)]) rfl ⟨rfl, trivial⟩
 refine kf b7 (Xac ?_)
 iterate 5 refine kO hT hC ?_
 refine Vc.nil ?_
 refine kS h ?_ ?_ <;> intro b8 h
 refine kt b8 (Xac ?_)
 iterate 2 refine kO hT hC ?_
 refine kC hC [] Try.call49 h (fun _ => Xc1) fun q10 h => ?_
 iterate 2 refine kO hT hC ?_
 refine kN ?_
 refine kO hT hC ?_
 refine Vc.nil (Xb3 ?_)
 refine kL [2,3,4,6,8] [32,48,64,96,160] [_,_,_,_,_] [_,_,_,_,_] ?_
 refine kX h (fun v13 => ([(8, .sv (.int .i64 v13))], [])) (fun v16 => ([(8, .sv (.int .i64 v16))], [])) (kW hC []) (fun v13 s h => ?_) fun v16 h => ?_
 unfold Xa4 at h
 refine Xb3 ?_
 refine kL [2,3,4,6,8] [32,48,64,96,160] [_,_,_,_,_] [_,_,_,_,_] ?_
 refine kA h (fun v17 => ([(98, .sv (.bool v17))], [])) (fun v17 h => ?_) fun v17 h => ?_
 refine Xab ?_
 iterate 7 refine kO hT hC ?_
 refine kS h ?_ ?_ <;> intro b13 h
 iterate 3 refine kI hT hC b13 ?_
 refine kJ hT hC b13 h fun h => ?_
 iterate 3 refine kI hT hC b13 ?_
 refine kP hC true b13 ?_
 exact Vc.nil kM
 iterate 7 refine kF hC b13 ?_
 refine kP hC false b13 ?_
 exact Vc.nil kM
 refine kS h ?_ ?_ <;> intro b14 h
 refine kt b14 (Xag (Xal (Xbp (Xab ?_))))
 iterate 3 refine kO hT hC ?_
 exact Vc.nil (Xcc kG)
 exact kf b14 (Xb4 (Xda ku))
 refine Xal (Xac ?_)
 iterate 3 refine kO hT hC ?_
 refine kQ hT hC h fun h => ?_
 iterate 2 refine kO hT hC ?_
 refine kC hC [] Try.call48 h (fun _ => Xdx) fun q19 h => ?_
 iterate 2 refine kO hT hC ?_
 refine kN ?_
 iterate 4 refine kO hT hC ?_
 obtain ⟨hq, h⟩ := Xa5 h
 refine Xmy hT hC rfl rfl rfl rfl hq ?_
 iterate 2 refine kO hT hC ?_
 refine Vc.nil ?_
 refine Xo8 (Xvo hC 96 3 160 2066 rfl rfl rfl rfl Xik (by omega) rfl rfl (Xdj.refl _)) ?_
 refine Xac ?_
 iterate 2 refine kO hT hC ?_
 refine Vc.nil ?_
 refine kL [3,4,6] [48,64,96,2066] [_,_,_] [_,_,_,_] ?_
 refine kA h (fun v20 => ([(3, .any)], [(96, some (.box [.sv (.bool v20.1), .sv (.int .i64 v20.2.1), .sv (.int .i64 v20.2.2.1), .own 2066, .sv (.int .i64 v20.2.2.2.1), .sv (.int .i64 v20.2.2.2.2.1), .sv (.int .i64 v20.2.2.2.2.2.1), .sv (.int .i64 v20.2.2.2.2.2.2.1), .sv (.int .i64 v20.2.2.2.2.2.2.2.1)])), (2066, some (.row Xae v20.2.2.2.2.2.2.2.2)), (48, none)])) (fun v20 h => ?_) fun v20 h => ?_
 refine Xac ?_
 iterate 4 refine kO hT hC ?_
 refine kC hC [] Try.call55 h (fun _ => Xdh) fun q21 h => ?_
 refine kC hC [] Try.call38 h (fun _ => Xca) fun q22 h => ?_
 refine Vc.nil ?_
 refine kS h ?_ ?_ <;> intro b15 h
 refine kt b15 (Xab ?_)
 refine kO hT hC ?_
 refine kC hC [(0, 96), (16, 1969), (2, 2066)] Try.call62 h (fun _ => Xe1) fun q23 h => ?_
 refine Vc.nil ?_
 obtain rfl := kj h
 exact Xje (kW hC [(2066, 1969)])
 exact kf b15 (Xag kM)
 refine Xac ?_
 iterate 3 refine kO hT hC ?_
 refine Vc.nil (Xam (Xfm (Xa3 ?_)))
 obtain rfl := kj h
 exact Xd6 (τ := ⟨[(4, .ptr 2000000 0), (5, .sv (.int .i64 6))], [(16, some (.row Xae v20.2.2.2.2.2.2.2.2)), (2000000, some (.box [.sv (.bool v20.1), .sv (.int .i64 v20.2.1), .sv (.int .i64 v20.2.2.1), .own 16, .sv (.int .i64 v20.2.2.2.1), .sv (.int .i64 v20.2.2.2.2.1), .sv (.int .i64 v20.2.2.2.2.2.1), .sv (.int .i64 v20.2.2.2.2.2.2.1), .sv (.int .i64 v20.2.2.2.2.2.2.2.1)]))]⟩) (kW hC [(16, 2066), (2000000, 64)]) rfl ⟨rfl, trivial⟩
 refine kf b8 (Xag (Xcc (Xal (Xac ?_))))
 refine kO hT hC ?_
 refine kC hC [(0, 96), (16, 2017), (2, 160)] Try.call62 h (fun _ => Xe1) fun q24 h => ?_
 refine kN ?_
 iterate 3 refine kO hT hC ?_
 refine Vc.nil (Xam ?_)
 obtain rfl := kj h
 exact Xd6 (τ := ⟨[(4, .ptr 2000000 0), (5, .sv (.int .i64 0))], [(16, some (.row Xae q24.Held)), (2000000, some (.box [.sv (.bool q24.Begun), .sv (.int .i64 q24.Next), .sv (.int .i64 q24.Age), .own 16, .sv (.int .i64 q24.Late), .sv (.int .i64 q24.Far), .sv (.int .i64 q24.Twice), .sv (.int .i64 q24.Over), .sv (.int .i64 q24.Lost)]))]⟩) (kW hC [(16, 2017), (2000000, 64)]) rfl ⟨rfl, trivial⟩
def Xe3 (r : Bool) : AV := .sv (.bool r)
def Xe2 (r : Bool) : Xbo := []
theorem Xe9 {p0 p1 r} (h : Xbl p0 p1 = some r) : AC Try.prog 32 [.sv (Xae.sv p0), .sv (Xae.sv p1)] [] (Xe3 r) (Xe2 r) := by
 refine Xai hT Try.func32 rfl fun C hC => ?_
 unfold Xbl at h
 refine Xac ?_
 refine kO hT hC ?_
 refine Vc.nil (Xb3 (Xac ?_))
 iterate 5 refine kO hT hC ?_
 refine Vc.nil ?_
 refine kS h ?_ ?_ <;> intro b1 h
 refine kt b1 (Xac ?_)
 refine kO hT hC ?_
 exact Vc.nil (Xam (Xa3 kR))
 refine kf b1 (Xag (Xal (Xb3 (Xac ?_))))
 refine kO hT hC ?_
 refine Vc.nil ?_
 refine kL [0,1,5] [] [_,_,_] [] ?_
 obtain ⟨o5, hl, h⟩ := Xb6 h
 refine Xgj (fun v2 => ([(5, .sv (.int .i64 v2))], [])) (fun v4 => ([(0, .any), (1, .any), (5, .any)], [])) (fun r => Xjg C T Try.f32.results.toList (Xe3 r) (Xe2 r)) hl ?_ ?_ ?_ ?_
 apply Xgb hC []
 exact co
 rfl
 decide
 rfl
 intro v2 s hs
 have h := hs
 unfold Xby at h
 refine Xb3 (Xac ?_)
 iterate 4 refine kO hT hC ?_
 refine Vc.nil ?_
 refine kS h ?_ ?_ <;> intro b6 h
 refine kt b6 (Xag (Xal (Xb3 (Xbp ?_))))
 refine Xf0 hm ?_
 iterate 2 refine kO hT hC ?_
 refine kQ hT hC h fun h => ?_
 iterate 3 refine kO hT hC ?_
 refine kQ hT hC h fun h => ?_
 refine kO hT hC ?_
 refine Xwh hC rfl rfl rfl rfl Xu8 rfl rfl ?_
 refine kD ?_
 refine kS h ?_ ?_ <;> intro b7 h
 refine kt b7 (Xac ?_)
 refine kO hT hC ?_
 refine Vc.nil (Xam (Xfm (Xa3 ?_)))
 obtain rfl := kj h
 refine Xjt (Xjs ?_)
 exact Xd6 (Xdj.refl _) rfl trivial
 refine kf b7 (Xag (Xcc (Xal (Xab ?_))))
 iterate 3 refine kO hT hC ?_
 exact Vc.nil kG
 exact kf b6 (Xb4 (Xda kb))
 intro v4 e
 subst e
 refine Xal (Xac ?_)
 refine kO hT hC ?_
 exact Vc.nil (Xam kR)
 intro r' σ' e hE
 subst e
 obtain rfl := kj h
 refine Xa3 ?_
 exact hE
def Xh1 (r : Bool) : AV := .sv (.bool r)
def Xh0 (r : Bool) : Xbo := []
theorem Xd8 {p0 p1 r} (h : Xbt p0 p1 = some r) : AC Try.prog 31 [.agg [.sv (.bool p0.Begun), .sv (.int .i64 p0.Next), .sv (.int .i64 p0.Age), .sv (Xae.sv p0.Held), .sv (.int .i64 p0.Late), .sv (.int .i64 p0.Far), .sv (.int .i64 p0.Twice), .sv (.int .i64 p0.Over), .sv (.int .i64 p0.Lost)], .agg [.sv (.bool p1.Begun), .sv (.int .i64 p1.Next), .sv (.int .i64 p1.Age), .sv (Xae.sv p1.Held), .sv (.int .i64 p1.Late), .sv (.int .i64 p1.Far), .sv (.int .i64 p1.Twice), .sv (.int .i64 p1.Over), .sv (.int .i64 p1.Lost)]] [] (Xh1 r) (Xh0 r) := by
 refine Xai hT Try.func31 rfl fun C hC => ?_
 unfold Xbt at h
 refine Xac ?_
 iterate 3 refine kO hT hC ?_
 refine Vc.nil ?_
 refine kL [2,3,4] [32,48] [_,_,_] [_,_] ?_
 refine kA h (fun v1 => ([(4, .sv (.bool v1)), (2, .any), (3, .any)], [(32, none), (48, none)])) (fun v1 h => ?_) fun v1 h => ?_
 refine Xab ?_
 iterate 6 refine kO hT hC ?_
 refine kS h ?_ ?_ <;> intro b1 h
 iterate 5 refine kI hT hC b1 ?_
 refine kP hC true b1 ?_
 refine kO hT hC ?_
 refine kS h ?_ ?_ <;> intro b2 h
 iterate 5 refine kI hT hC b2 ?_
 refine kP hC true b2 ?_
 refine kO hT hC ?_
 refine kS h ?_ ?_ <;> intro b3 h
 iterate 4 refine kI hT hC b3 ?_
 refine kE hC b3 [] Try.call32 h (fun _ => Xe9) fun q2 h => ?_
 refine kP hC true b3 ?_
 refine kO hT hC ?_
 refine kS h ?_ ?_ <;> intro b4 h
 iterate 5 refine kI hT hC b4 ?_
 refine kP hC true b4 ?_
 refine kO hT hC ?_
 refine kS h ?_ ?_ <;> intro b5 h
 iterate 5 refine kI hT hC b5 ?_
 refine kP hC true b5 ?_
 refine kO hT hC ?_
 refine kS h ?_ ?_ <;> intro b6 h
 iterate 5 refine kI hT hC b6 ?_
 refine kP hC true b6 ?_
 refine kO hT hC ?_
 refine kS h ?_ ?_ <;> intro b7 h
 iterate 5 refine kI hT hC b7 ?_
 refine kP hC true b7 ?_
 refine kO hT hC ?_
 refine kS h ?_ ?_ <;> intro b8 h
 iterate 5 refine kI hT hC b8 ?_
 refine kP hC true b8 ?_
 refine kO hT hC ?_
 exact Vc.nil kM
 iterate 5 refine kF hC b8 ?_
 refine kP hC false b8 ?_
 refine kO hT hC ?_
 exact Vc.nil kM
 iterate 5 refine kF hC b7 ?_
 refine kP hC false b7 ?_
 refine kO hT hC ?_
 iterate 5 refine kF hC rfl ?_
 iterate 2 refine kO hT hC ?_
 exact Vc.nil kM
 iterate 5 refine kF hC b6 ?_
 refine kP hC false b6 ?_
 refine kO hT hC ?_
 iterate 5 refine kF hC rfl ?_
 iterate 2 refine kO hT hC ?_
 iterate 5 refine kF hC rfl ?_
 iterate 2 refine kO hT hC ?_
 exact Vc.nil kM
 iterate 5 refine kF hC b5 ?_
 refine kP hC false b5 ?_
 refine kO hT hC ?_
 iterate 5 refine kF hC rfl ?_
 iterate 2 refine kO hT hC ?_
 iterate 5 refine kF hC rfl ?_
 iterate 2 refine kO hT hC ?_
 iterate 5 refine kF hC rfl ?_
 iterate 2 refine kO hT hC ?_
 exact Vc.nil kM
 iterate 5 refine kF hC b4 ?_
 refine kP hC false b4 ?_
 refine kO hT hC ?_
 iterate 5 refine kF hC rfl ?_
 iterate 2 refine kO hT hC ?_
 iterate 5 refine kF hC rfl ?_
 iterate 2 refine kO hT hC ?_
 iterate 5 refine kF hC rfl ?_
 iterate 2 refine kO hT hC ?_
 iterate 5 refine kF hC rfl ?_
 iterate 2 refine kO hT hC ?_
 exact Vc.nil kM
 iterate 5 refine kF hC b3 ?_
 refine kP hC false b3 ?_
 refine kO hT hC ?_
 iterate 5 refine kF hC rfl ?_
 iterate 2 refine kO hT hC ?_
 iterate 5 refine kF hC rfl ?_
 iterate 2 refine kO hT hC ?_
 iterate 5 refine kF hC rfl ?_
 iterate 2 refine kO hT hC ?_
 iterate 5 refine kF hC rfl ?_
 iterate 2 refine kO hT hC ?_
 iterate 5 refine kF hC rfl ?_
 iterate 2 refine kO hT hC ?_
 exact Vc.nil kM
 iterate 5 refine kF hC b2 ?_
 refine kP hC false b2 ?_
 refine kO hT hC ?_
 iterate 5 refine kF hC rfl ?_
 iterate 2 refine kO hT hC ?_
 iterate 5 refine kF hC rfl ?_
 iterate 2 refine kO hT hC ?_
 iterate 5 refine kF hC rfl ?_
 iterate 2 refine kO hT hC ?_
 iterate 5 refine kF hC rfl ?_
 iterate 2 refine kO hT hC ?_
 iterate 5 refine kF hC rfl ?_
 iterate 2 refine kO hT hC ?_
 iterate 5 refine kF hC rfl ?_
 iterate 2 refine kO hT hC ?_
 exact Vc.nil kM
 iterate 5 refine kF hC b1 ?_
 refine kP hC false b1 ?_
 refine kO hT hC ?_
 iterate 5 refine kF hC rfl ?_
 iterate 2 refine kO hT hC ?_
 iterate 5 refine kF hC rfl ?_
 iterate 2 refine kO hT hC ?_
 iterate 5 refine kF hC rfl ?_
 iterate 2 refine kO hT hC ?_
 iterate 5 refine kF hC rfl ?_
 iterate 2 refine kO hT hC ?_
 iterate 5 refine kF hC rfl ?_
 iterate 2 refine kO hT hC ?_
 iterate 5 refine kF hC rfl ?_
 iterate 2 refine kO hT hC ?_
 iterate 5 refine kF hC rfl ?_
 iterate 2 refine kO hT hC ?_
 exact Vc.nil kM
 exact Xam kR
def Xfy (r : Bool) : AV := .sv (.bool r)
def Xfx (r : Bool) : Xbo := []
theorem Xjq {p0 r} (h : Xe7 p0 = some r) : AC Try.prog 7 [.sv (.ints .u8 p0)] [] (Xfy r) (Xfx r) := by
 refine Xai hT Try.func7 rfl fun C hC => ?_
 unfold Xe7 at h
 refine Xac ?_
 refine kO hT hC ?_
 refine Vc.nil (Xb3 (Xac ?_))
 refine kO hT hC ?_
 refine kC hC [] Try.call8 h (fun _ => Xpe) fun q1 h => ?_
 refine Vc.nil ?_
 refine kS h ?_ ?_ <;> intro b1 h
 refine kt b1 (Xac ?_)
 refine kO hT hC ?_
 exact Vc.nil (Xam (Xa3 kR))
 refine kf b1 (Xag (Xal (Xac ?_)))
 refine kO hT hC ?_
 refine kC hC [(16, 400), (17, 401)] Try.call25 h (fun _ => Xf1) fun q2 h => ?_
 iterate 6 refine kO hT hC ?_
 refine kN ?_
 refine kO hT hC ?_
 refine kC hC [(16, 480), (17, 481)] Try.call25 h (fun _ => Xf1) fun q3 h => ?_
 iterate 6 refine kO hT hC ?_
 refine kN ?_
 refine kO hT hC ?_
 refine kC hC [(16, 544)] Try.call10 h (fun _ => Xh6) fun q4 h => ?_
 refine kO hT hC ?_
 refine Vc.nil (Xb3 (Xac ?_))
 refine kO hT hC ?_
 refine Vc.nil ?_
 refine kL [3,4,5,7,8] [48,80,400,401,480,544] [_,_,_,_,_] [_,_,_,_,_,_] ?_
 obtain ⟨o57, hl, h⟩ := Xb6 h
 refine Xgj (fun v22 => ([(8, .sv (.int .i64 v22.1))], [(48, some (.box [.sv (.bool v22.2.1), .sv (.int .i64 v22.2.2.1), .sv (.int .i64 v22.2.2.2.1), .own 400, .sv (.int .i64 v22.2.2.2.2.1), .sv (.int .i64 v22.2.2.2.2.2.1), .sv (.int .i64 v22.2.2.2.2.2.2.1), .sv (.int .i64 v22.2.2.2.2.2.2.2.1), .sv (.int .i64 v22.2.2.2.2.2.2.2.2.1)])), (80, some (.box [.sv (.bool v22.2.2.2.2.2.2.2.2.2.1), .sv (.int .i64 v22.2.2.2.2.2.2.2.2.2.2.1), .sv (.int .i64 v22.2.2.2.2.2.2.2.2.2.2.2.1), .own 480, .sv (.int .i64 v22.2.2.2.2.2.2.2.2.2.2.2.2.1), .sv (.int .i64 v22.2.2.2.2.2.2.2.2.2.2.2.2.2.1), .sv (.int .i64 v22.2.2.2.2.2.2.2.2.2.2.2.2.2.2.1), .sv (.int .i64 v22.2.2.2.2.2.2.2.2.2.2.2.2.2.2.2.1), .sv (.int .i64 v22.2.2.2.2.2.2.2.2.2.2.2.2.2.2.2.2.1)])), (400, some (.row Xae v22.2.2.2.2.2.2.2.2.2.2.2.2.2.2.2.2.2.1)), (480, some (.row Xae v22.2.2.2.2.2.2.2.2.2.2.2.2.2.2.2.2.2.2))])) (fun v40 => ([(3, .any), (4, .any), (5, .any), (7, .any), (8, .any)], [(48, none), (80, none), (400, none), (401, none), (480, none), (544, none)])) (fun r => Xjg C T Try.f7.results.toList (Xfy r) (Xfx r)) hl ?_ ?_ ?_ ?_
 try dsimp only
 apply Xgb hC []
 exact co
 rfl
 decide
 rfl
 intro v22 s hs
 have h := hs
 unfold Xdl at h
 refine Xb3 (Xac ?_)
 iterate 4 refine kO hT hC ?_
 refine Vc.nil ?_
 refine kS h ?_ ?_ <;> intro b28 h
 refine kt b28 (Xag (Xal ?_))
 refine kL [3,4,5,7,8] [48,80,400,401,480,544] [_,_,_,_,_] [_,_,_,_,_,_] ?_
 refine Xpx h (fun (v41 : (Bool × Int × Int × Int × Int × Int × Int × Int × Bool × Int × Int × Int × Int × Int × Int × Int × (List Xaa) × (List Xaa))) => ([], [(48, some (.box [.sv (.bool v41.1), .sv (.int .i64 v41.2.1), .sv (.int .i64 v41.2.2.1), .own 2475, .sv (.int .i64 v41.2.2.2.1), .sv (.int .i64 v41.2.2.2.2.1), .sv (.int .i64 v41.2.2.2.2.2.1), .sv (.int .i64 v41.2.2.2.2.2.2.1), .sv (.int .i64 v41.2.2.2.2.2.2.2.1)])), (80, some (.box [.sv (.bool v41.2.2.2.2.2.2.2.2.1), .sv (.int .i64 v41.2.2.2.2.2.2.2.2.2.1), .sv (.int .i64 v41.2.2.2.2.2.2.2.2.2.2.1), .own 2476, .sv (.int .i64 v41.2.2.2.2.2.2.2.2.2.2.2.1), .sv (.int .i64 v41.2.2.2.2.2.2.2.2.2.2.2.2.1), .sv (.int .i64 v41.2.2.2.2.2.2.2.2.2.2.2.2.2.1), .sv (.int .i64 v41.2.2.2.2.2.2.2.2.2.2.2.2.2.2.1), .sv (.int .i64 v41.2.2.2.2.2.2.2.2.2.2.2.2.2.2.2.1)])), (2475, some (.row Xae v41.2.2.2.2.2.2.2.2.2.2.2.2.2.2.2.2.1)), (2476, some (.row Xae v41.2.2.2.2.2.2.2.2.2.2.2.2.2.2.2.2.2)), (400, none), (480, none)])) (fun v41 h => ?_) (fun h => ?_)
 refine Xab ?_
 iterate 3 refine kO hT hC ?_
 refine Vc.nil ?_
 obtain rfl := kj h
 exact Xuo (kW hC [(400, 2475), (480, 2476)])
 refine Xbp ?_
 refine Xf0 hm ?_
 iterate 3 refine kO hT hC ?_
 iterate 2 refine kQ hT hC h fun h => ?_
 refine kC hC [(16, 752)] Try.call30 h (fun _ => Xgt) fun q42 h => ?_
 iterate 6 refine kO hT hC ?_
 refine kD ?_
 refine Xf0 hm ?_
 iterate 3 refine kO hT hC ?_
 iterate 2 refine kQ hT hC h fun h => ?_
 refine kC hC [(16, 896)] Try.call28 h (fun _ => Xgx) fun q43 h => ?_
 iterate 6 refine kO hT hC ?_
 refine kD (Xb3 ?_)
 refine kL [3,4,5,7,8,9,10,11,12] [48,80,144,176,400,401,480,544,752,896] [_,_,_,_,_,_,_,_,_] [_,_,_,_,_,_,_,_,_,_] ?_
 refine kA h (fun v44 => ([(78, .sv (.bool v44)), (12, .any)], [])) (fun v44 h => ?_) fun v44 h => ?_
 refine Xab ?_
 iterate 4 refine kO hT hC ?_
 refine kS h ?_ ?_ <;> intro b29 h
 iterate 4 refine kF hC b29 ?_
 refine kP hC true b29 ?_
 refine kO hT hC ?_
 iterate 3 refine kF hC rfl ?_
 iterate 2 refine kO hT hC ?_
 iterate 4 refine kF hC rfl ?_
 refine kO hT hC ?_
 exact Vc.nil kM
 iterate 2 refine kI hT hC b29 ?_
 refine kE hC b29 [] Try.call31 h (fun _ => Xd8) fun q45 h => ?_
 refine kI hT hC b29 ?_
 refine kP hC false b29 ?_
 refine kO hT hC ?_
 refine kS h ?_ ?_ <;> intro b30 h
 refine kI hT hC (kn b30) ?_
 refine kE hC (kn b30) [] Try.call26 h (fun _ => Xcz) fun q46 h => ?_
 refine kI hT hC (kn b30) ?_
 refine kP hC false (kn b30) ?_
 refine kO hT hC ?_
 refine kS h ?_ ?_ <;> intro b31 h
 iterate 4 refine kI hT hC (kn b31) ?_
 refine kP hC false (kn b31) ?_
 exact Vc.nil kM
 iterate 4 refine kF hC (kn b31) ?_
 refine kP hC true (kn b31) ?_
 exact Vc.nil kM
 iterate 3 refine kF hC (kn b30) ?_
 refine kP hC true (kn b30) ?_
 refine kO hT hC ?_
 iterate 4 refine kF hC rfl ?_
 refine kO hT hC ?_
 exact Vc.nil kM
 refine kS h ?_ ?_ <;> intro b32 h
 refine kt b32 (Xac ?_)
 refine kO hT hC ?_
 refine Vc.nil (Xam (Xa3 (Xfm (Xtf ?_))))
 obtain rfl := kj h
 refine Xjt (Xjs ?_)
 exact Xd6 (Xdj.refl _) rfl trivial
 refine kf b32 (Xag (Xal ?_))
 refine kL [3,4,5,7,8,9,10,11] [48,80,144,176,400,401,480,544,752,896] [_,_,_,_,_,_,_,_] [_,_,_,_,_,_,_,_,_,_] ?_
 refine Xpx h (fun (v47 : Unit) => ([(10, .any)], [])) (fun v47 h => ?_) (fun h => ?_)
 refine Xac ?_
 iterate 2 refine kO hT hC ?_
 refine kN ?_
 iterate 2 refine kO hT hC ?_
 refine kN ?_
 iterate 2 refine kO hT hC ?_
 iterate 4 refine kQ hT hC h fun h => ?_
 refine kO hT hC ?_
 refine Vc.nil ?_
 refine kS h ?_ ?_ <;> intro b36 h
 refine kt b36 ?_
 refine Xf0 hm ?_
 iterate 2 refine kO hT hC ?_
 iterate 3 refine kQ hT hC h fun h => ?_
 obtain ⟨q51, hq, h⟩ := Xb6 h
 refine Xqx hC [(16, 1872), (17, 1873)] rfl rfl rfl rfl Try.call18 (Xit hq) rfl (by decide) trivial rfl (.inr ⟨rfl, ⟨fun _ => rfl, fun _ => rfl, trivial⟩⟩) rfl ?_
 iterate 8 refine kO hT hC ?_
 refine kD ?_
 refine Xf0 hm ?_
 iterate 2 refine kO hT hC ?_
 iterate 3 refine kQ hT hC h fun h => ?_
 obtain ⟨q52, hq, h⟩ := Xb6 h
 refine Xqx hC [(16, 2032), (17, 2033)] rfl rfl rfl rfl Try.call16 (Xf4 hq) rfl (by decide) trivial rfl (.inr ⟨rfl, ⟨fun _ => rfl, fun _ => rfl, trivial⟩⟩) rfl ?_
 iterate 8 refine kO hT hC ?_
 refine kD (Xb3 ?_)
 refine kL [3,4,5,7,8,15,16,17,18,19,20] [48,80,240,288,401,544,752,896,1872,1873,2032,2033] [_,_,_,_,_,_,_,_,_,_,_] [_,_,_,_,_,_,_,_,_,_,_,_] ?_
 refine kA h (fun v53 => ([(150, .sv (.bool v53)), (16, .any), (17, .any), (19, .any), (20, .any)], [(1873, none), (2033, none)])) (fun v53 h => ?_) fun v53 h => ?_
 refine Xab ?_
 iterate 4 refine kO hT hC ?_
 refine kS h ?_ ?_ <;> intro b37 h
 iterate 4 refine kF hC b37 ?_
 refine kP hC true b37 ?_
 refine kO hT hC ?_
 iterate 4 refine kF hC rfl ?_
 iterate 2 refine kO hT hC ?_
 iterate 3 refine kF hC rfl ?_
 refine kO hT hC ?_
 exact Vc.nil kM
 iterate 2 refine kI hT hC b37 ?_
 refine kE hC b37 [] Try.call32 h (fun _ => Xe9) fun q54 h => ?_
 refine kI hT hC b37 ?_
 refine kP hC false b37 ?_
 refine kO hT hC ?_
 refine kS h ?_ ?_ <;> intro b38 h
 iterate 2 refine kI hT hC (kn b38) ?_
 refine kE hC (kn b38) [] Try.call31 h (fun _ => Xd8) fun q55 h => ?_
 refine kI hT hC (kn b38) ?_
 refine kP hC false (kn b38) ?_
 refine kO hT hC ?_
 refine kS h ?_ ?_ <;> intro b39 h
 refine kI hT hC (kn b39) ?_
 refine kE hC (kn b39) [] Try.call26 h (fun _ => Xcz) fun q56 h => ?_
 refine kI hT hC (kn b39) ?_
 refine kP hC false (kn b39) ?_
 exact Vc.nil kM
 iterate 3 refine kF hC (kn b39) ?_
 refine kP hC true (kn b39) ?_
 exact Vc.nil kM
 iterate 4 refine kF hC (kn b38) ?_
 refine kP hC true (kn b38) ?_
 refine kO hT hC ?_
 iterate 3 refine kF hC rfl ?_
 refine kO hT hC ?_
 exact Vc.nil kM
 refine kS h ?_ ?_ <;> intro b40 h
 refine kt b40 (Xac ?_)
 refine kO hT hC ?_
 refine Vc.nil (Xam (Xa3 (Xfm (Xtf ?_))))
 obtain rfl := kj h
 refine Xjt (Xjs ?_)
 exact Xd6 (Xdj.refl _) rfl trivial
 refine kf b40 (Xag (Xal (Xac ?_)))
 iterate 2 refine kO hT hC ?_
 refine Vc.nil (Xab ?_)
 iterate 2 refine kO hT hC ?_
 refine Vc.nil (Xcc ?_)
 exact Xp6 (q51.1.Begun, q51.1.Next, q51.1.Age, q51.1.Late, q51.1.Far, q51.1.Twice, q51.1.Over, q51.1.Lost, q52.1.Begun, q52.1.Next, q52.1.Age, q52.1.Late, q52.1.Far, q52.1.Twice, q52.1.Over, q52.1.Lost, q51.1.Held, q52.1.Held) h (kW hC [(2475, 1872), (2476, 2032)])
 refine kf b36 (Xag (Xcc ?_))
 exact Xp6 (q42.1.Begun, q42.1.Next, q42.1.Age, q42.1.Late, q42.1.Far, q42.1.Twice, q42.1.Over, q42.1.Lost, q43.1.Begun, q43.1.Next, q43.1.Age, q43.1.Late, q43.1.Far, q43.1.Twice, q43.1.Over, q43.1.Lost, q42.1.Held, q43.1.Held) h (kW hC [(2475, 752), (2476, 896)])
 refine Xac ?_
 iterate 2 refine kO hT hC ?_
 refine Vc.nil ?_
 refine kS h ?_ ?_ <;> intro b33 h
 refine kt b33 ?_
 refine Xf0 hm ?_
 iterate 3 refine kO hT hC ?_
 iterate 2 refine kQ hT hC h fun h => ?_
 refine kC hC [(16, 1392)] Try.call30 h (fun _ => Xgt) fun q48 h => ?_
 iterate 6 refine kO hT hC ?_
 refine kD (Xac ?_)
 iterate 5 refine kO hT hC ?_
 refine Vc.nil ?_
 refine kL [3,4,5,7,8,9,11,13,14] [48,80,144,176,208,400,401,480,544,752,896,1392] [_,_,_,_,_,_,_,_,_] [_,_,_,_,_,_,_,_,_,_,_,_] ?_
 refine kA h (fun v49 => ([(101, .sv (.bool v49)), (13, .any), (14, .any)], [(208, none), (1392, none)])) (fun v49 h => ?_) fun v49 h => ?_
 refine Xab ?_
 iterate 3 refine kO hT hC ?_
 refine kS h ?_ ?_ <;> intro b34 h
 iterate 4 refine kF hC b34 ?_
 refine kP hC true b34 ?_
 exact Vc.nil kM
 iterate 2 refine kI hT hC b34 ?_
 refine kE hC b34 [] Try.call31 h (fun _ => Xd8) fun q50 h => ?_
 refine kI hT hC b34 ?_
 refine kP hC false b34 ?_
 exact Vc.nil kM
 refine kS h ?_ ?_ <;> intro b35 h
 refine kt b35 (Xac ?_)
 refine kO hT hC ?_
 refine Vc.nil (Xam (Xtf (Xfm (Xtf ?_))))
 obtain rfl := kj h
 refine Xjt (Xjs ?_)
 exact Xd6 (Xdj.refl _) rfl trivial
 refine kf b35 (Xag ?_)
 exact Xp6 () h (kW hC [])
 refine kf b33 (Xag ?_)
 exact Xp6 () h (kW hC [])
 exact kf b28 (Xb4 (Xda kb))
 intro v40 e
 subst e
 refine Xal (Xac ?_)
 refine kO hT hC ?_
 exact Vc.nil (Xam kR)
 intro r' σ' e hE
 subst e
 obtain rfl := kj h
 refine Xa3 ?_
 exact hE
end
end Go.Proofs.Ytlebkepfhdjnmaa.A
