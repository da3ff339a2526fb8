/- Contracts of the functions that the law FnExactQueueIn reaches, part 0: each comes to what its pure function tells. Written by a program of this session. Conditions: as each statement tells. -/
import Derived.Test.YtlebkepfhdjnmaaBFnExactQueueIn
namespace Go.Proofs.Ytlebkepfhdjnmaa.A
open Go Go.Proofs Go.Proofs.YtlebkepfhdjnmaaAL Go.RowKit
set_option linter.unusedVariables false
set_option linter.unusedSimpArgs false
set_option maxRecDepth 100000
set_option maxHeartbeats 8000000
noncomputable section
def Xjx (r : Bool) : AV := .sv (.bool r)
def Xjw (r : Bool) : Xa4 := []
theorem Xb0 {p0 p1 p2 r} (h : Xbf p0 p1 p2 = some r) : AC Try.prog 38 [.sv (.int .i64 p0), .sv (.int .i64 p1), .sv (.int .i64 p2)] [] (Xjx r) (Xjw r) := by
 refine Xah hT Try.func38 rfl fun C hC => ?_
 unfold Xbf at h
 refine Xaa ?_
 refine kO hT hC ?_
 refine Vc.nil ?_
 refine kL [0,1,2,6] [] [_,_,_,_] [] ?_
 refine kA h (fun v1 => ([(6, .sv (.bool v1)), (0, .any), (1, .any), (2, .any)], [])) (fun v1 h => ?_) fun v1 h => ?_
 refine Xac ?_
 iterate 4 refine kO hT hC ?_
 refine kS h ?_ ?_ <;> intro b1 h
 iterate 3 refine kI hT hC b1 ?_
 refine kP hC true b1 ?_
 refine kO hT hC ?_
 exact Vc.nil kM
 iterate 3 refine kF hC b1 ?_
 refine kP hC false b1 ?_
 refine kO hT hC ?_
 exact Vc.nil kM
 exact Xae kR
def Xhu (r : Int) : AV := .sv (.int .i64 r)
def Xht (r : Int) : Xa4 := []
theorem Xfd {p0 p1 r} (h : Xb8 p0 p1 = some r) : AC Try.prog 27 [.agg [.sv (.int .i64 p0.Seq), .sv (.bool p0.First), .sv (.bool p0.Last), .sv (.str p0.Bytes)], .sv (.int .i64 p1)] [] (Xhu r) (Xht r) := by
 refine Xah hT Try.func27 rfl fun C hC => ?_
 unfold Xb8 at h
 refine Xaa ?_
 iterate 2 refine kO hT hC ?_
 refine kN ?_
 iterate 6 refine kO hT hC ?_
 refine Vc.nil (Xa5 (Xaa ?_))
 iterate 2 refine kO hT hC ?_
 refine Vc.nil ?_
 refine kS h ?_ ?_ <;> intro b1 h
 refine kt b1 (Xaa ?_)
 refine kO hT hC ?_
 exact Vc.nil (Xae (Xal kR))
 refine kf b1 (Xab (Xag (Xaa ?_)))
 iterate 2 refine kO hT hC ?_
 exact Vc.nil (Xae kR)
def Xeh (r : Int) : AV := .sv (.int .i64 r)
def Xeg (r : Int) : Xa4 := []
theorem Xhr {p0 p1 r} (h : Xci p0 p1 = some r) : AC Try.prog 39 [.sv (Xaf.sv p0), .sv (.int .i64 p1)] [] (Xeh r) (Xeg r) := by
 refine Xah hT Try.func39 rfl fun C hC => ?_
 unfold Xci at h
 refine Xaa ?_
 refine kO hT hC ?_
 refine kN ?_
 iterate 5 refine kO hT hC ?_
 refine Vc.nil (Xa5 (Xaa ?_))
 iterate 2 refine kO hT hC ?_
 refine Vc.nil ?_
 refine kS h ?_ ?_ <;> intro b1 h
 refine kt b1 (Xaa ?_)
 refine kO hT hC ?_
 exact Vc.nil (Xae (Xal kR))
 refine kf b1 (Xab (Xag (Xa5 (Xaa ?_))))
 refine kO hT hC ?_
 refine Vc.nil ?_
 refine kL [0,1,5] [] [_,_,_] [] ?_
 obtain ⟨o8, hl, h⟩ := Xba h
 refine Xfs (fun v3 => ([(1, .sv (.int .i64 v3.1)), (5, .sv (.int .i64 v3.2))], [])) (fun v6 => ([(1, .sv (.int .i64 v6)), (0, .any), (5, .any)], [])) (fun r => Xje C T Try.f39.results.toList (Xeh r) (Xeg r)) hl ?_ ?_ ?_ ?_
 try dsimp only
 apply Xga hC []
 exact co
 rfl
 decide
 rfl
 intro v3 s hs
 have h := hs
 unfold Xbi at h
 refine Xa5 (Xaa ?_)
 iterate 4 refine kO hT hC ?_
 refine Vc.nil ?_
 refine kS h ?_ ?_ <;> intro b6 h
 refine kt b6 (Xab (Xag (Xa5 (Xb5 (Xaa ?_)))))
 iterate 2 refine kO hT hC ?_
 refine kQ hT hC h fun h => ?_
 iterate 2 refine kO hT hC ?_
 refine kC hC [] Try.call27 h (fun _ => Xfd) fun q7 h => ?_
 refine kO hT hC ?_
 refine kN ?_
 iterate 2 refine kO hT hC ?_
 refine Vc.nil ?_
 refine kS h ?_ ?_ <;> intro b7 h
 refine kt b7 (Xaa ?_)
 refine kO hT hC ?_
 refine Vc.nil (Xae (Xfj (Xal ?_)))
 obtain rfl := kj h
 refine Xj5 (Xj3 ?_)
 exact Xfm (Xdx.refl _) rfl trivial
 refine kf b7 (Xab (Xdh (Xag (Xac ?_))))
 iterate 3 refine kO hT hC ?_
 exact Vc.nil kG
 exact kf b6 (Xcp (Xea kb))
 intro v6 e
 subst e
 refine Xag (Xaa ?_)
 iterate 2 refine kO hT hC ?_
 exact Vc.nil (Xae kR)
 intro r' σ' e hE
 subst e
 obtain rfl := kj h
 refine Xal ?_
 exact hE
def Xip (r : Int) : AV := .sv (.int .i64 r)
def Xio (r : Int) : Xa4 := []
theorem Xjy {p0 p1 r} (h : Xdj p0 p1 = some r) : AC Try.prog 15 [.agg [.sv (.bool p0.Begun), .sv (.int .i64 p0.Next), .sv (.int .i64 p0.Age), .sv (Xaf.sv p0.Held), .sv (.int .i64 p0.Late), .sv (.int .i64 p0.Far), .sv (.int .i64 p0.Twice), .sv (.int .i64 p0.Over), .sv (.int .i64 p0.Lost)], .sv (.int .i64 p1)] [] (Xip r) (Xio r) := by
 refine Xah hT Try.func15 rfl fun C hC => ?_
 unfold Xdj at h
 refine Xaa ?_
 iterate 2 refine kO hT hC ?_
 refine kN ?_
 iterate 3 refine kO hT hC ?_
 refine kC hC [] Try.call39 h (fun _ => Xhr) fun q1 h => ?_
 refine kO hT hC ?_
 refine Vc.nil (Xa5 (Xaa ?_))
 iterate 2 refine kO hT hC ?_
 refine Vc.nil ?_
 refine kS h ?_ ?_ <;> intro b1 h
 refine kt b1 (Xaa ?_)
 refine kO hT hC ?_
 exact Vc.nil (Xae (Xal kR))
 refine kf b1 (Xab (Xag (Xaa ?_)))
 iterate 2 refine kO hT hC ?_
 exact Vc.nil (Xae kR)
def Xhy (r : Packet) : AV := .agg [.sv (.int .i64 r.Seq), .sv (.bool r.First), .sv (.bool r.Last), .sv (.str r.Bytes)]
def Xhx (r : Packet) : Xa4 := []
theorem Xco {p0 r} (h : Xbd p0 = some r) : AC Try.prog 29 [.agg [.sv (.int .i64 p0.Seq), .sv (.bool p0.First), .sv (.bool p0.Last), .sv (.str p0.Bytes)]] [] (Xhy r) (Xhx r) := by
 refine Xah hT Try.func29 rfl fun C hC => ?_
 unfold Xbd at h
 refine Xaa ?_
 iterate 2 refine kO hT hC ?_
 refine kN ?_
 refine kO hT hC ?_
 refine kN ?_
 iterate 4 refine kO hT hC ?_
 refine kN ?_
 iterate 4 refine kO hT hC ?_
 refine kN ?_
 iterate 4 refine kO hT hC ?_
 refine kN ?_
 iterate 4 refine kO hT hC ?_
 refine kN ?_
 iterate 2 refine kO hT hC ?_
 exact Vc.nil (Xae kR)
def Xgz (r : (List Packet)) : AV := .own 16
def Xgy (r : (List Packet)) : Xa4 := [(16, .row Xaf r)]
theorem Xhv {p0 r} (h : Xcj p0 = some r) : AC Try.prog 46 [.sv (Xaf.sv p0)] [] (Xgz r) (Xgy r) := by
 refine Xah hT Try.func46 rfl fun C hC => ?_
 unfold Xcj at h
 refine Xaa ?_
 refine kO hT hC ?_
 refine kN ?_
 iterate 2 refine kO hT hC ?_
 obtain ⟨hq, h⟩ := Xaz h
 refine Xmk hT hC rfl rfl rfl rfl ⟨hq.1, hq.2.1, hq.2.2, by decide⟩ ?_
 refine kO hT hC ?_
 refine Vc.nil (Xa5 (Xaa ?_))
 refine kO hT hC ?_
 refine Vc.nil ?_
 refine kL [0,3,4] [112] [_,_,_] [_] ?_
 refine kX h (fun v4 => ([(4, .sv (.int .i64 v4.1))], [(112, some (.row Xaf v4.2))])) (fun v8 => ([(0, .any), (4, .any)], [(112, some (.row Xaf v8))])) (kW hC []) (fun v4 s h => ?_) fun v8 h => ?_
 unfold Xbj at h
 refine Xa5 (Xaa ?_)
 iterate 4 refine kO hT hC ?_
 refine Vc.nil ?_
 refine kS h ?_ ?_ <;> intro b3 h
 refine kt b3 (Xab (Xag (Xa5 (Xb5 (Xac ?_)))))
 iterate 4 refine kO hT hC ?_
 refine kQ hT hC h fun h => ?_
 refine kO hT hC ?_
 refine kC hC [] Try.call29 h (fun _ => Xco) fun q9 h => ?_
 refine kQ hT hC h fun h => ?_
 obtain ⟨hq, h⟩ := Xaz h
 obtain ⟨s10, hs, h⟩ := Xba h
 injection hs with hs
 refine Xmk hT hC rfl rfl rfl rfl hq ?_
 rw [hs]
 refine Vc.nil (Xdh (Xag (Xac ?_)))
 iterate 3 refine kO hT hC ?_
 exact Vc.nil kG
 exact kf b3 (Xcp (Xea ku))
 refine Xag (Xaa ?_)
 iterate 2 refine kO hT hC ?_
 refine Vc.nil (Xae ?_)
 obtain rfl := kj h
 exact Xfm (τ := ⟨[(2, .own 16)], [(16, some (.row Xaf v8))]⟩) (kW hC [(16, 112)]) rfl ⟨rfl, trivial⟩
def Xir (r : Queue) : AV := .agg [.sv (.bool r.Begun), .sv (.int .i64 r.Next), .sv (.int .i64 r.Age), .own 16, .sv (.int .i64 r.Late), .sv (.int .i64 r.Far), .sv (.int .i64 r.Twice), .sv (.int .i64 r.Over), .sv (.int .i64 r.Lost)]
def Xiq (r : Queue) : Xa4 := [(16, .row Xaf r.Held)]
theorem Xc2 {p0 r} (h : Xbn p0 = some r) : AC Try.prog 17 [.agg [.sv (.bool p0.Begun), .sv (.int .i64 p0.Next), .sv (.int .i64 p0.Age), .sv (Xaf.sv p0.Held), .sv (.int .i64 p0.Late), .sv (.int .i64 p0.Far), .sv (.int .i64 p0.Twice), .sv (.int .i64 p0.Over), .sv (.int .i64 p0.Lost)]] [] (Xir r) (Xiq r) := by
 refine Xah hT Try.func17 rfl fun C hC => ?_
 unfold Xbn at h
 refine Xaa ?_
 iterate 2 refine kO hT hC ?_
 refine kN ?_
 refine kO hT hC ?_
 refine kN ?_
 iterate 4 refine kO hT hC ?_
 refine kN ?_
 iterate 4 refine kO hT hC ?_
 refine kN ?_
 iterate 4 refine kO hT hC ?_
 refine kN ?_
 iterate 2 refine kO hT hC ?_
 refine kC hC [(16, 240)] Try.call46 h (fun _ => Xhv) fun q1 h => ?_
 iterate 2 refine kO hT hC ?_
 refine kN ?_
 iterate 4 refine kO hT hC ?_
 refine kN ?_
 iterate 4 refine kO hT hC ?_
 refine kN ?_
 iterate 4 refine kO hT hC ?_
 refine kN ?_
 iterate 4 refine kO hT hC ?_
 refine kN ?_
 iterate 4 refine kO hT hC ?_
 refine kN ?_
 iterate 2 refine kO hT hC ?_
 refine Vc.nil (Xae ?_)
 obtain rfl := kj h
 exact Xfm (τ := ⟨[(2, .ptr 2000000 0)], [(16, some (.row Xaf q1)), (2000000, some (.box [.sv (.bool p0.Begun), .sv (.int .i64 p0.Next), .sv (.int .i64 p0.Age), .own 16, .sv (.int .i64 p0.Late), .sv (.int .i64 p0.Far), .sv (.int .i64 p0.Twice), .sv (.int .i64 p0.Over), .sv (.int .i64 p0.Lost)]))]⟩) (kW hC [(16, 240), (2000000, 32)]) rfl ⟨rfl, trivial⟩
def Xi4 (r : Queue) : AV := .agg [.sv (.bool r.Begun), .sv (.int .i64 r.Next), .sv (.int .i64 r.Age), .own 16, .sv (.int .i64 r.Late), .sv (.int .i64 r.Far), .sv (.int .i64 r.Twice), .sv (.int .i64 r.Over), .sv (.int .i64 r.Lost)]
def Xi3 (r : Queue) : Xa4 := [(16, .row Xaf r.Held)]
theorem Xkr {p0 r} (h : Xdo p0 = some r) : AC Try.prog 40 [.agg [.sv (.bool p0.Begun), .sv (.int .i64 p0.Next), .sv (.int .i64 p0.Age), .sv (Xaf.sv p0.Held), .sv (.int .i64 p0.Late), .sv (.int .i64 p0.Far), .sv (.int .i64 p0.Twice), .sv (.int .i64 p0.Over), .sv (.int .i64 p0.Lost)]] [] (Xi4 r) (Xi3 r) := by
 refine Xah hT Try.func40 rfl fun C hC => ?_
 unfold Xdo at h
 refine Xaa ?_
 iterate 2 refine kO hT hC ?_
 refine kN ?_
 iterate 3 refine kO hT hC ?_
 obtain ⟨hq, h⟩ := Xaz h
 refine Xmk hT hC rfl rfl rfl rfl ⟨fun _ _ => rfl, by rw [Xao]; exact hq⟩ ?_
 rw [Xao]
 iterate 2 refine kO hT hC ?_
 refine kN ?_
 iterate 2 refine kO hT hC ?_
 refine Vc.nil (Xae ?_)
 obtain rfl := kj h
 exact Xfm (τ := ⟨[(2, .ptr 2000000 0)], [(16, some (.row Xaf (([] : List Packet) ++ p0.Held))), (2000000, some (.box [.sv (.bool p0.Begun), .sv (.int .i64 p0.Next), .sv (.int .i64 p0.Age), .own 16, .sv (.int .i64 p0.Late), .sv (.int .i64 p0.Far), .sv (.int .i64 p0.Twice), .sv (.int .i64 p0.Over), .sv (.int .i64 p0.Lost)]))]⟩) (kW hC [(16, 96), (2000000, 32)]) rfl ⟨rfl, trivial⟩
def Xk5 (r : Bool) : AV := .sv (.bool r)
def Xk4 (r : Bool) : Xa4 := []
theorem Xav {p0 p1 p2 r} (h : Xa0 p0 p1 p2 = some r) : AC Try.prog 42 [.sv (.int .i64 p0), .sv (.int .i64 p1), .sv (.int .i64 p2)] [] (Xk5 r) (Xk4 r) := by
 refine Xah hT Try.func42 rfl fun C hC => ?_
 unfold Xa0 at h
 refine Xaa ?_
 refine kO hT hC ?_
 refine Vc.nil ?_
 refine kL [0,1,2,6] [] [_,_,_,_] [] ?_
 refine kA h (fun v1 => ([(6, .sv (.bool v1)), (0, .any), (1, .any), (2, .any)], [])) (fun v1 h => ?_) fun v1 h => ?_
 refine Xac ?_
 iterate 4 refine kO hT hC ?_
 refine kS h ?_ ?_ <;> intro b1 h
 iterate 3 refine kI hT hC b1 ?_
 refine kP hC true b1 ?_
 refine kO hT hC ?_
 exact Vc.nil kM
 iterate 3 refine kF hC b1 ?_
 refine kP hC false b1 ?_
 refine kO hT hC ?_
 exact Vc.nil kM
 exact Xae kR
def Xko (r : Int) : AV := .sv (.int .i64 r)
def Xkn (r : Int) : Xa4 := []
theorem Xck {p0 p1 r} (h : Xbs p0 p1 = some r) : AC Try.prog 58 [.sv (.int .i64 p0), .sv (.int .i64 p1)] [] (Xko r) (Xkn r) := by
 refine Xah hT Try.func58 rfl fun C hC => ?_
 unfold Xbs at h
 refine Xaa ?_
 refine kO hT hC ?_
 refine Vc.nil (Xa5 ?_)
 refine kL [0,1] [] [_,_] [] ?_
 refine kA h (fun v1 => ([(13, .sv (.bool v1))], [])) (fun v1 h => ?_) fun v1 h => ?_
 refine Xac ?_
 refine kO hT hC ?_
 refine kC hC [] Try.call42 h (fun _ => Xav) fun q2 h => ?_
 iterate 2 refine kO hT hC ?_
 refine kS h ?_ ?_ <;> intro b1 h
 refine kI hT hC (kn b1) ?_
 refine kE hC (kn b1) [] Try.call42 h (fun _ => Xav) fun q3 h => ?_
 refine kI hT hC (kn b1) ?_
 refine kP hC false (kn b1) ?_
 exact Vc.nil kM
 iterate 3 refine kF hC (kn b1) ?_
 refine kP hC true (kn b1) ?_
 exact Vc.nil kM
 refine kS h ?_ ?_ <;> intro b2 h
 refine kt b2 (Xaa ?_)
 refine kO hT hC ?_
 exact Vc.nil (Xae (Xal kR))
 refine kf b2 (Xab (Xag (Xaa ?_)))
 iterate 4 refine kO hT hC ?_
 refine Vc.nil ?_
 refine kL [5] [] [_] [] ?_
 refine kA h (fun v4 => ([(5, .sv (.int .i64 v4))], [])) (fun v4 h => ?_) fun v4 h => ?_
 refine Xaa ?_
 iterate 2 refine kO hT hC ?_
 refine Vc.nil ?_
 refine kS h ?_ ?_ <;> intro b3 h
 refine kt b3 (Xac ?_)
 iterate 3 refine kO hT hC ?_
 exact Vc.nil kM
 exact kf b3 (Xab kM)
 refine kL [5] [] [_] [] ?_
 refine kA h (fun v5 => ([(5, .sv (.int .i64 v5))], [])) (fun v5 h => ?_) fun v5 h => ?_
 refine Xaa ?_
 iterate 2 refine kO hT hC ?_
 refine Vc.nil ?_
 refine kS h ?_ ?_ <;> intro b4 h
 refine kt b4 (Xac ?_)
 iterate 3 refine kO hT hC ?_
 exact Vc.nil kM
 exact kf b4 (Xab kM)
 refine Xaa ?_
 iterate 2 refine kO hT hC ?_
 exact Vc.nil (Xae kR)
def Xh2 (r : Bool) : AV := .sv (.bool r)
def Xh1 (r : Bool) : Xa4 := []
theorem Xff {p0 r} (h : Xb9 p0 = some r) : AC Try.prog 57 [.agg [.sv (.int .i64 p0.Seq), .sv (.bool p0.First), .sv (.bool p0.Last), .sv (.str p0.Bytes)]] [] (Xh2 r) (Xh1 r) := by
 refine Xah hT Try.func57 rfl fun C hC => ?_
 unfold Xb9 at h
 refine Xaa ?_
 iterate 2 refine kO hT hC ?_
 refine Vc.nil ?_
 refine kL [1,2] [16] [_,_] [_] ?_
 refine kA h (fun v1 => ([(2, .sv (.bool v1)), (1, .any)], [(16, none)])) (fun v1 h => ?_) fun v1 h => ?_
 refine Xac ?_
 iterate 2 refine kO hT hC ?_
 refine kC hC [] Try.call42 h (fun _ => Xav) fun q2 h => ?_
 refine kO hT hC ?_
 refine kS h ?_ ?_ <;> intro b1 h
 iterate 3 refine kI hT hC b1 ?_
 refine kE hC b1 [] Try.call42 h (fun _ => Xav) fun q3 h => ?_
 refine kP hC true b1 ?_
 refine kO hT hC ?_
 exact Vc.nil kM
 iterate 4 refine kF hC b1 ?_
 refine kP hC false b1 ?_
 refine kO hT hC ?_
 exact Vc.nil kM
 exact Xae kR
def Xh4 (r : Bool) : AV := .sv (.bool r)
def Xh3 (r : Bool) : Xa4 := []
theorem Xbz {p0 r} (h : Xa2 p0 = some r) : AC Try.prog 63 [.sv (.int .i64 p0)] [] (Xh4 r) (Xh3 r) := by
 refine Xah hT Try.func63 rfl fun C hC => ?_
 unfold Xa2 at h
 refine Xaa ?_
 refine kO hT hC ?_
 refine kN ?_
 refine kO hT hC ?_
 refine kC hC [] Try.call42 h (fun _ => Xav) fun q1 h => ?_
 refine kO hT hC ?_
 exact Vc.nil (Xae kR)
def Xfi (r : Bool) : AV := .sv (.bool r)
def Xfh (r : Bool) : Xa4 := []
theorem Xfu {p0 r} (h : Xcu p0 = some r) : AC Try.prog 41 [.agg [.sv (.bool p0.Begun), .sv (.int .i64 p0.Next), .sv (.int .i64 p0.Age), .sv (Xaf.sv p0.Held), .sv (.int .i64 p0.Late), .sv (.int .i64 p0.Far), .sv (.int .i64 p0.Twice), .sv (.int .i64 p0.Over), .sv (.int .i64 p0.Lost)]] [] (Xfi r) (Xfh r) := by
 refine Xah hT Try.func41 rfl fun C hC => ?_
 unfold Xcu at h
 refine Xaa ?_
 iterate 2 refine kO hT hC ?_
 refine Vc.nil (Xa5 (Xaa ?_))
 iterate 3 refine kO hT hC ?_
 refine Vc.nil ?_
 refine kS h ?_ ?_ <;> intro b1 h
 refine kt b1 ?_
 refine kL [1,2] [16] [_,_] [_] ?_
 refine kA h (fun v1 => ([(2, .sv (.bool v1)), (1, .any)], [(16, none)])) (fun v1 h => ?_) fun v1 h => ?_
 refine Xac ?_
 iterate 4 refine kO hT hC ?_
 refine kS h ?_ ?_ <;> intro b2 h
 iterate 3 refine kI hT hC b2 ?_
 refine kP hC true b2 ?_
 refine kO hT hC ?_
 refine kS h ?_ ?_ <;> intro b3 h
 iterate 4 refine kI hT hC b3 ?_
 refine kP hC true b3 ?_
 refine kO hT hC ?_
 refine kS h ?_ ?_ <;> intro b4 h
 iterate 3 refine kI hT hC b4 ?_
 refine kP hC true b4 ?_
 refine kO hT hC ?_
 refine kS h ?_ ?_ <;> intro b5 h
 iterate 3 refine kI hT hC b5 ?_
 refine kP hC true b5 ?_
 refine kO hT hC ?_
 refine kS h ?_ ?_ <;> intro b6 h
 iterate 3 refine kI hT hC b6 ?_
 refine kP hC true b6 ?_
 refine kO hT hC ?_
 refine kS h ?_ ?_ <;> intro b7 h
 iterate 3 refine kI hT hC b7 ?_
 refine kP hC true b7 ?_
 refine kO hT hC ?_
 refine kS h ?_ ?_ <;> intro b8 h
 iterate 3 refine kI hT hC b8 ?_
 refine kP hC true b8 ?_
 refine kO hT hC ?_
 exact Vc.nil kM
 iterate 3 refine kF hC b8 ?_
 refine kP hC false b8 ?_
 refine kO hT hC ?_
 exact Vc.nil kM
 iterate 3 refine kF hC b7 ?_
 refine kP hC false b7 ?_
 refine kO hT hC ?_
 iterate 3 refine kF hC rfl ?_
 iterate 2 refine kO hT hC ?_
 exact Vc.nil kM
 iterate 3 refine kF hC b6 ?_
 refine kP hC false b6 ?_
 refine kO hT hC ?_
 iterate 3 refine kF hC rfl ?_
 iterate 2 refine kO hT hC ?_
 iterate 3 refine kF hC rfl ?_
 iterate 2 refine kO hT hC ?_
 exact Vc.nil kM
 iterate 3 refine kF hC b5 ?_
 refine kP hC false b5 ?_
 refine kO hT hC ?_
 iterate 3 refine kF hC rfl ?_
 iterate 2 refine kO hT hC ?_
 iterate 3 refine kF hC rfl ?_
 iterate 2 refine kO hT hC ?_
 iterate 3 refine kF hC rfl ?_
 iterate 2 refine kO hT hC ?_
 exact Vc.nil kM
 iterate 3 refine kF hC b4 ?_
 refine kP hC false b4 ?_
 refine kO hT hC ?_
 iterate 3 refine kF hC rfl ?_
 iterate 2 refine kO hT hC ?_
 iterate 3 refine kF hC rfl ?_
 iterate 2 refine kO hT hC ?_
 iterate 3 refine kF hC rfl ?_
 iterate 2 refine kO hT hC ?_
 iterate 3 refine kF hC rfl ?_
 iterate 2 refine kO hT hC ?_
 exact Vc.nil kM
 iterate 4 refine kF hC b3 ?_
 refine kP hC false b3 ?_
 refine kO hT hC ?_
 iterate 3 refine kF hC rfl ?_
 iterate 2 refine kO hT hC ?_
 iterate 3 refine kF hC rfl ?_
 iterate 2 refine kO hT hC ?_
 iterate 3 refine kF hC rfl ?_
 iterate 2 refine kO hT hC ?_
 iterate 3 refine kF hC rfl ?_
 iterate 2 refine kO hT hC ?_
 iterate 3 refine kF hC rfl ?_
 iterate 2 refine kO hT hC ?_
 exact Vc.nil kM
 iterate 3 refine kF hC b2 ?_
 refine kP hC false b2 ?_
 refine kO hT hC ?_
 iterate 4 refine kF hC rfl ?_
 iterate 2 refine kO hT hC ?_
 iterate 3 refine kF hC rfl ?_
 iterate 2 refine kO hT hC ?_
 iterate 3 refine kF hC rfl ?_
 iterate 2 refine kO hT hC ?_
 iterate 3 refine kF hC rfl ?_
 iterate 2 refine kO hT hC ?_
 iterate 3 refine kF hC rfl ?_
 iterate 2 refine kO hT hC ?_
 iterate 3 refine kF hC rfl ?_
 iterate 2 refine kO hT hC ?_
 exact Vc.nil kM
 exact Xae (Xal kR)
 refine kf b1 (Xab (Xag (Xa5 ?_)))
 refine kL [1] [16] [_] [_] ?_
 refine kA h (fun v2 => ([(63, .sv (.bool v2))], [])) (fun v2 h => ?_) fun v2 h => ?_
 refine Xac ?_
 iterate 2 refine kO hT hC ?_
 refine kC hC [] Try.call42 h (fun _ => Xav) fun q3 h => ?_
 iterate 2 refine kO hT hC ?_
 refine kS h ?_ ?_ <;> intro b9 h
 iterate 2 refine kI hT hC (kn b9) ?_
 refine kE hC (kn b9) [] Try.call42 h (fun _ => Xav) fun q4 h => ?_
 refine kI hT hC (kn b9) ?_
 refine kP hC false (kn b9) ?_
 refine kO hT hC ?_
 refine kS h ?_ ?_ <;> intro b10 h
 iterate 4 refine kI hT hC (kn b10) ?_
 refine kP hC false (kn b10) ?_
 exact Vc.nil kM
 iterate 4 refine kF hC (kn b10) ?_
 refine kP hC true (kn b10) ?_
 exact Vc.nil kM
 iterate 4 refine kF hC (kn b9) ?_
 refine kP hC true (kn b9) ?_
 refine kO hT hC ?_
 iterate 4 refine kF hC rfl ?_
 refine kO hT hC ?_
 exact Vc.nil kM
 refine kS h ?_ ?_ <;> intro b11 h
 refine kt b11 (Xaa ?_)
 refine kO hT hC ?_
 exact Vc.nil (Xae (Xal kR))
 refine kf b11 (Xab (Xag (Xaa ?_)))
 refine kO hT hC ?_
 refine Vc.nil (Xa5 (Xaa ?_))
 refine kO hT hC ?_
 refine Vc.nil ?_
 refine kL [1,3,4] [16] [_,_,_] [_] ?_
 obtain ⟨o18, hl, h⟩ := Xba h
 refine Xfs (fun v9 => ([(3, .sv (.int .i64 v9.1)), (4, .sv (.int .i64 v9.2))], [])) (fun v14 => ([(3, .any), (4, .any)], [])) (fun r => Xje C T Try.f41.results.toList (Xfi r) (Xfh r)) hl ?_ ?_ ?_ ?_
 try dsimp only
 apply Xga hC []
 exact co
 rfl
 decide
 rfl
 intro v9 s hs
 have h := hs
 unfold Xbl at h
 refine Xa5 (Xaa ?_)
 iterate 5 refine kO hT hC ?_
 refine Vc.nil ?_
 refine kS h ?_ ?_ <;> intro b20 h
 refine kt b20 (Xab (Xag (Xa5 (Xb5 ?_))))
 refine Xkf hm ?_
 iterate 5 refine kO hT hC ?_
 refine kQ hT hC h fun h => ?_
 iterate 2 refine kO hT hC ?_
 refine kC hC [] Try.call58 h (fun _ => Xck) fun q15 h => ?_
 refine kO hT hC ?_
 refine kD (Xa5 ?_)
 refine kL [1,3,4,5] [16] [_,_,_,_] [_] ?_
 refine kA h (fun v16 => ([(95, .sv (.bool v16)), (3, .any)], [])) (fun v16 h => ?_) fun v16 h => ?_
 refine Xac ?_
 iterate 3 refine kO hT hC ?_
 refine kQ hT hC h fun h => ?_
 refine kO hT hC ?_
 refine kC hC [] Try.call57 h (fun _ => Xff) fun q17 h => ?_
 iterate 2 refine kO hT hC ?_
 refine kS h ?_ ?_ <;> intro b21 h
 iterate 3 refine kI hT hC (kn b21) ?_
 refine kP hC false (kn b21) ?_
 refine kO hT hC ?_
 refine kS h ?_ ?_ <;> intro b22 h
 iterate 2 refine kF hC b22 ?_
 refine kP hC true b22 ?_
 exact Vc.nil kM
 iterate 2 refine kI hT hC b22 ?_
 refine kP hC false b22 ?_
 exact Vc.nil kM
 iterate 3 refine kF hC (kn b21) ?_
 refine kP hC true (kn b21) ?_
 refine kO hT hC ?_
 iterate 2 refine kF hC rfl ?_
 refine kO hT hC ?_
 exact Vc.nil kM
 refine kS h ?_ ?_ <;> intro b23 h
 refine kt b23 (Xaa ?_)
 refine kO hT hC ?_
 refine Vc.nil (Xae (Xal (Xfj (Xal ?_))))
 obtain rfl := kj h
 refine Xj5 (Xj3 ?_)
 exact Xfm (Xdx.refl _) rfl trivial
 refine kf b23 (Xab (Xag (Xac ?_)))
 iterate 2 refine kO hT hC ?_
 refine Vc.nil (Xdh (Xag (Xac ?_)))
 iterate 3 refine kO hT hC ?_
 exact Vc.nil kG
 exact kf b20 (Xcp (Xea kb))
 intro v14 e
 subst e
 refine Xag ?_
 refine kL [1] [16] [_] [_] ?_
 refine kA h (fun v19 => ([(2, .sv (.bool v19)), (1, .any)], [(16, none)])) (fun v19 h => ?_) fun v19 h => ?_
 refine Xac ?_
 iterate 2 refine kO hT hC ?_
 refine kC hC [] Try.call63 h (fun _ => Xbz) fun q20 h => ?_
 refine kO hT hC ?_
 refine kS h ?_ ?_ <;> intro b24 h
 iterate 2 refine kI hT hC b24 ?_
 refine kE hC b24 [] Try.call63 h (fun _ => Xbz) fun q21 h => ?_
 refine kP hC true b24 ?_
 refine kO hT hC ?_
 refine kS h ?_ ?_ <;> intro b25 h
 iterate 2 refine kI hT hC b25 ?_
 refine kE hC b25 [] Try.call63 h (fun _ => Xbz) fun q22 h => ?_
 refine kP hC true b25 ?_
 refine kO hT hC ?_
 refine kS h ?_ ?_ <;> intro b26 h
 iterate 2 refine kI hT hC b26 ?_
 refine kE hC b26 [] Try.call63 h (fun _ => Xbz) fun q23 h => ?_
 refine kP hC true b26 ?_
 refine kO hT hC ?_
 refine kS h ?_ ?_ <;> intro b27 h
 iterate 2 refine kI hT hC b27 ?_
 refine kE hC b27 [] Try.call63 h (fun _ => Xbz) fun q24 h => ?_
 refine kP hC true b27 ?_
 refine kO hT hC ?_
 exact Vc.nil kM
 iterate 3 refine kF hC b27 ?_
 refine kP hC false b27 ?_
 refine kO hT hC ?_
 exact Vc.nil kM
 iterate 3 refine kF hC b26 ?_
 refine kP hC false b26 ?_
 refine kO hT hC ?_
 iterate 3 refine kF hC rfl ?_
 iterate 2 refine kO hT hC ?_
 exact Vc.nil kM
 iterate 3 refine kF hC b25 ?_
 refine kP hC false b25 ?_
 refine kO hT hC ?_
 iterate 3 refine kF hC rfl ?_
 iterate 2 refine kO hT hC ?_
 iterate 3 refine kF hC rfl ?_
 iterate 2 refine kO hT hC ?_
 exact Vc.nil kM
 iterate 3 refine kF hC b24 ?_
 refine kP hC false b24 ?_
 refine kO hT hC ?_
 iterate 3 refine kF hC rfl ?_
 iterate 2 refine kO hT hC ?_
 iterate 3 refine kF hC rfl ?_
 iterate 2 refine kO hT hC ?_
 iterate 3 refine kF hC rfl ?_
 iterate 2 refine kO hT hC ?_
 exact Vc.nil kM
 exact Xae kR
 intro r' σ' e hE
 subst e
 obtain rfl := kj h
 refine Xal ?_
 exact hE
def Xi2 (r : Int) : AV := .sv (.int .i64 r)
def Xi1 (r : Int) : Xa4 := []
theorem Xkp {p0 p1 r} (h : Xdn p0 p1 = some r) : AC Try.prog 44 [.sv (.int .i64 p0), .sv (.int .i64 p1)] [] (Xi2 r) (Xi1 r) := by
 refine Xah hT Try.func44 rfl fun C hC => ?_
 unfold Xdn at h
 refine Xaa ?_
 refine kO hT hC ?_
 refine Vc.nil (Xa5 ?_)
 refine kL [0,1] [] [_,_] [] ?_
 refine kA h (fun v1 => ([(12, .sv (.bool v1))], [])) (fun v1 h => ?_) fun v1 h => ?_
 refine Xac ?_
 refine kO hT hC ?_
 refine kC hC [] Try.call42 h (fun _ => Xav) fun q2 h => ?_
 iterate 2 refine kO hT hC ?_
 refine kS h ?_ ?_ <;> intro b1 h
 refine kI hT hC (kn b1) ?_
 refine kE hC (kn b1) [] Try.call42 h (fun _ => Xav) fun q3 h => ?_
 refine kI hT hC (kn b1) ?_
 refine kP hC false (kn b1) ?_
 exact Vc.nil kM
 iterate 3 refine kF hC (kn b1) ?_
 refine kP hC true (kn b1) ?_
 exact Vc.nil kM
 refine kS h ?_ ?_ <;> intro b2 h
 refine kt b2 (Xaa ?_)
 refine kO hT hC ?_
 exact Vc.nil (Xae (Xal kR))
 refine kf b2 (Xab (Xag (Xaa ?_)))
 iterate 3 refine kO hT hC ?_
 refine kQ hT hC h fun h => ?_
 refine kO hT hC ?_
 exact Vc.nil (Xae kR)
def Xiw (r : Int) : AV := .sv (.int .i64 r)
def Xiv (r : Int) : Xa4 := []
theorem Xkj {p0 p1 p2 r} (h : Xdl p0 p1 p2 = some r) : AC Try.prog 64 [.sv (.int .i64 p0), .sv (.int .i64 p1), .sv (.int .i64 p2)] [] (Xiw r) (Xiv r) := by
 refine Xah hT Try.func64 rfl fun C hC => ?_
 unfold Xdl at h
 refine Xaa ?_
 refine kO hT hC ?_
 refine Vc.nil (Xa5 ?_)
 refine kL [0,1,2] [] [_,_,_] [] ?_
 refine kA h (fun v1 => ([(14, .sv (.bool v1))], [])) (fun v1 h => ?_) fun v1 h => ?_
 refine Xac ?_
 iterate 4 refine kO hT hC ?_
 refine kS h ?_ ?_ <;> intro b1 h
 iterate 3 refine kF hC b1 ?_
 refine kP hC true b1 ?_
 exact Vc.nil kM
 iterate 3 refine kI hT hC b1 ?_
 refine kP hC false b1 ?_
 exact Vc.nil kM
 refine kS h ?_ ?_ <;> intro b2 h
 refine kt b2 (Xaa ?_)
 iterate 2 refine kO hT hC ?_
 exact Vc.nil (Xae (Xal kR))
 refine kf b2 (Xab (Xag (Xa5 (Xaa ?_))))
 iterate 3 refine kO hT hC ?_
 refine Vc.nil ?_
 refine kS h ?_ ?_ <;> intro b3 h
 refine kt b3 (Xaa ?_)
 iterate 2 refine kO hT hC ?_
 exact Vc.nil (Xae (Xal kR))
 refine kf b3 (Xab (Xag (Xaa ?_)))
 iterate 2 refine kO hT hC ?_
 exact Vc.nil (Xae kR)
def Xi7 (r : Int) : AV := .sv (.int .i64 r)
def Xi6 (r : Int) : Xa4 := []
theorem Xc6 {p0 r} (h : Xbo p0 = some r) : AC Try.prog 45 [.sv (.int .i64 p0)] [] (Xi7 r) (Xi6 r) := by
 refine Xah hT Try.func45 rfl fun C hC => ?_
 unfold Xbo at h
 refine Xaa ?_
 refine kO hT hC ?_
 refine kN ?_
 iterate 2 refine kO hT hC ?_
 refine kC hC [] Try.call64 h (fun _ => Xkj) fun q1 h => ?_
 refine kO hT hC ?_
 exact Vc.nil (Xae kR)
def Xgr (r : Queue) : AV := .agg [.sv (.bool r.Begun), .sv (.int .i64 r.Next), .sv (.int .i64 r.Age), .own 16, .sv (.int .i64 r.Late), .sv (.int .i64 r.Far), .sv (.int .i64 r.Twice), .sv (.int .i64 r.Over), .sv (.int .i64 r.Lost)]
def Xgq (r : Queue) : Xa4 := [(16, .row Xaf r.Held)]
theorem Xhh {p0 r} (h : Xcg p0 = some r) : AC Try.prog 47 [.agg [.sv (.bool p0.Begun), .sv (.int .i64 p0.Next), .sv (.int .i64 p0.Age), .sv (Xaf.sv p0.Held), .sv (.int .i64 p0.Late), .sv (.int .i64 p0.Far), .sv (.int .i64 p0.Twice), .sv (.int .i64 p0.Over), .sv (.int .i64 p0.Lost)]] [] (Xgr r) (Xgq r) := by
 refine Xah hT Try.func47 rfl fun C hC => ?_
 unfold Xcg at h
 refine Xaa ?_
 iterate 2 refine kO hT hC ?_
 refine kN ?_
 iterate 3 refine kO hT hC ?_
 obtain ⟨hq, h⟩ := Xaz h
 refine Xmk hT hC rfl rfl rfl rfl ⟨fun _ _ => rfl, by rw [Xao]; exact hq⟩ ?_
 rw [Xao]
 iterate 2 refine kO hT hC ?_
 refine kN ?_
 iterate 2 refine kO hT hC ?_
 refine Vc.nil (Xae ?_)
 obtain rfl := kj h
 exact Xfm (τ := ⟨[(2, .ptr 2000000 0)], [(16, some (.row Xaf (([] : List Packet) ++ p0.Held))), (2000000, some (.box [.sv (.bool p0.Begun), .sv (.int .i64 p0.Next), .sv (.int .i64 p0.Age), .own 16, .sv (.int .i64 p0.Late), .sv (.int .i64 p0.Far), .sv (.int .i64 p0.Twice), .sv (.int .i64 p0.Over), .sv (.int .i64 p0.Lost)]))]⟩) (kW hC [(16, 96), (2000000, 32)]) rfl ⟨rfl, trivial⟩
def Xhk (r : Bool) : AV := .sv (.bool r)
def Xhj (r : Bool) : Xa4 := []
theorem Xa9 {p0 r} (h : Xau p0 = some r) : AC Try.prog 54 [.sv (.int .i64 p0)] [] (Xhk r) (Xhj r) := by
 refine Xah hT Try.func54 rfl fun C hC => ?_
 unfold Xau at h
 refine Xaa ?_
 refine kO hT hC ?_
 refine kN ?_
 refine kO hT hC ?_
 refine kC hC [] Try.call38 h (fun _ => Xb0) fun q1 h => ?_
 refine kO hT hC ?_
 exact Vc.nil (Xae kR)
def Xjt (r : Int) : AV := .sv (.int .i64 r)
def Xjs (r : Int) : Xa4 := []
theorem Xce {p0 p1 r} (h : Xbp p0 p1 = some r) : AC Try.prog 55 [.sv (.int .i64 p0), .sv (.int .i64 p1)] [] (Xjt r) (Xjs r) := by
 refine Xah hT Try.func55 rfl fun C hC => ?_
 unfold Xbp at h
 refine Xaa ?_
 refine kO hT hC ?_
 refine Vc.nil (Xa5 ?_)
 refine kL [0,1] [] [_,_] [] ?_
 refine kA h (fun v1 => ([(13, .sv (.bool v1))], [])) (fun v1 h => ?_) fun v1 h => ?_
 refine Xac ?_
 refine kO hT hC ?_
 refine kC hC [] Try.call54 h (fun _ => Xa9) fun q2 h => ?_
 iterate 2 refine kO hT hC ?_
 refine kS h ?_ ?_ <;> intro b1 h
 refine kI hT hC (kn b1) ?_
 refine kE hC (kn b1) [] Try.call54 h (fun _ => Xa9) fun q3 h => ?_
 refine kI hT hC (kn b1) ?_
 refine kP hC false (kn b1) ?_
 exact Vc.nil kM
 iterate 3 refine kF hC (kn b1) ?_
 refine kP hC true (kn b1) ?_
 exact Vc.nil kM
 refine kS h ?_ ?_ <;> intro b2 h
 refine kt b2 (Xaa ?_)
 refine kO hT hC ?_
 exact Vc.nil (Xae (Xal kR))
 refine kf b2 (Xab (Xag (Xaa ?_)))
 iterate 4 refine kO hT hC ?_
 refine kQ hT hC h fun h => ?_
 refine kO hT hC ?_
 refine Vc.nil ?_
 refine kL [5] [] [_] [] ?_
 refine kA h (fun v4 => ([(5, .sv (.int .i64 v4))], [])) (fun v4 h => ?_) fun v4 h => ?_
 refine Xaa ?_
 iterate 2 refine kO hT hC ?_
 refine Vc.nil ?_
 refine kS h ?_ ?_ <;> intro b3 h
 refine kt b3 (Xac ?_)
 iterate 3 refine kO hT hC ?_
 exact Vc.nil kM
 exact kf b3 (Xab kM)
 refine Xaa ?_
 iterate 2 refine kO hT hC ?_
 exact Vc.nil (Xae kR)
def Xhg (r : Bool) : AV := .sv (.bool r)
def Xhf (r : Bool) : Xa4 := []
theorem Xe9 {p0 r} (h : Xb7 p0 = some r) : AC Try.prog 56 [.agg [.sv (.int .i64 p0.Seq), .sv (.bool p0.First), .sv (.bool p0.Last), .sv (.str p0.Bytes)]] [] (Xhg r) (Xhf r) := by
 refine Xah hT Try.func56 rfl fun C hC => ?_
 unfold Xb7 at h
 refine Xaa ?_
 iterate 2 refine kO hT hC ?_
 refine Vc.nil ?_
 refine kL [1,2] [16] [_,_] [_] ?_
 refine kA h (fun v1 => ([(2, .sv (.bool v1)), (1, .any)], [(16, none)])) (fun v1 h => ?_) fun v1 h => ?_
 refine Xac ?_
 iterate 2 refine kO hT hC ?_
 refine kC hC [] Try.call54 h (fun _ => Xa9) fun q2 h => ?_
 refine kO hT hC ?_
 refine kS h ?_ ?_ <;> intro b1 h
 iterate 3 refine kI hT hC b1 ?_
 refine kE hC b1 [] Try.call38 h (fun _ => Xb0) fun q3 h => ?_
 refine kP hC true b1 ?_
 refine kO hT hC ?_
 exact Vc.nil kM
 iterate 4 refine kF hC b1 ?_
 refine kP hC false b1 ?_
 refine kO hT hC ?_
 exact Vc.nil kM
 exact Xae kR
def Xds (r : Bool) : AV := .sv (.bool r)
def Xdr (r : Bool) : Xa4 := []
theorem Xfo {p0 r} (h : Xcs p0 = some r) : AC Try.prog 26 [.agg [.sv (.bool p0.Begun), .sv (.int .i64 p0.Next), .sv (.int .i64 p0.Age), .sv (Xaf.sv p0.Held), .sv (.int .i64 p0.Late), .sv (.int .i64 p0.Far), .sv (.int .i64 p0.Twice), .sv (.int .i64 p0.Over), .sv (.int .i64 p0.Lost)]] [] (Xds r) (Xdr r) := by
 refine Xah hT Try.func26 rfl fun C hC => ?_
 unfold Xcs at h
 refine Xaa ?_
 iterate 2 refine kO hT hC ?_
 refine Vc.nil (Xa5 (Xaa ?_))
 iterate 3 refine kO hT hC ?_
 refine Vc.nil ?_
 refine kS h ?_ ?_ <;> intro b1 h
 refine kt b1 ?_
 refine kL [1,2] [16] [_,_] [_] ?_
 refine kA h (fun v1 => ([(2, .sv (.bool v1)), (1, .any)], [(16, none)])) (fun v1 h => ?_) fun v1 h => ?_
 refine Xac ?_
 iterate 4 refine kO hT hC ?_
 refine kS h ?_ ?_ <;> intro b2 h
 iterate 3 refine kI hT hC b2 ?_
 refine kP hC true b2 ?_
 refine kO hT hC ?_
 refine kS h ?_ ?_ <;> intro b3 h
 iterate 4 refine kI hT hC b3 ?_
 refine kP hC true b3 ?_
 refine kO hT hC ?_
 refine kS h ?_ ?_ <;> intro b4 h
 iterate 3 refine kI hT hC b4 ?_
 refine kP hC true b4 ?_
 refine kO hT hC ?_
 refine kS h ?_ ?_ <;> intro b5 h
 iterate 3 refine kI hT hC b5 ?_
 refine kP hC true b5 ?_
 refine kO hT hC ?_
 refine kS h ?_ ?_ <;> intro b6 h
 iterate 3 refine kI hT hC b6 ?_
 refine kP hC true b6 ?_
 refine kO hT hC ?_
 refine kS h ?_ ?_ <;> intro b7 h
 iterate 3 refine kI hT hC b7 ?_
 refine kP hC true b7 ?_
 refine kO hT hC ?_
 refine kS h ?_ ?_ <;> intro b8 h
 iterate 3 refine kI hT hC b8 ?_
 refine kP hC true b8 ?_
 refine kO hT hC ?_
 exact Vc.nil kM
 iterate 3 refine kF hC b8 ?_
 refine kP hC false b8 ?_
 refine kO hT hC ?_
 exact Vc.nil kM
 iterate 3 refine kF hC b7 ?_
 refine kP hC false b7 ?_
 refine kO hT hC ?_
 iterate 3 refine kF hC rfl ?_
 iterate 2 refine kO hT hC ?_
 exact Vc.nil kM
 iterate 3 refine kF hC b6 ?_
 refine kP hC false b6 ?_
 refine kO hT hC ?_
 iterate 3 refine kF hC rfl ?_
 iterate 2 refine kO hT hC ?_
 iterate 3 refine kF hC rfl ?_
 iterate 2 refine kO hT hC ?_
 exact Vc.nil kM
 iterate 3 refine kF hC b5 ?_
 refine kP hC false b5 ?_
 refine kO hT hC ?_
 iterate 3 refine kF hC rfl ?_
 iterate 2 refine kO hT hC ?_
 iterate 3 refine kF hC rfl ?_
 iterate 2 refine kO hT hC ?_
 iterate 3 refine kF hC rfl ?_
 iterate 2 refine kO hT hC ?_
 exact Vc.nil kM
 iterate 3 refine kF hC b4 ?_
 refine kP hC false b4 ?_
 refine kO hT hC ?_
 iterate 3 refine kF hC rfl ?_
 iterate 2 refine kO hT hC ?_
 iterate 3 refine kF hC rfl ?_
 iterate 2 refine kO hT hC ?_
 iterate 3 refine kF hC rfl ?_
 iterate 2 refine kO hT hC ?_
 iterate 3 refine kF hC rfl ?_
 iterate 2 refine kO hT hC ?_
 exact Vc.nil kM
 iterate 4 refine kF hC b3 ?_
 refine kP hC false b3 ?_
 refine kO hT hC ?_
 iterate 3 refine kF hC rfl ?_
 iterate 2 refine kO hT hC ?_
 iterate 3 refine kF hC rfl ?_
 iterate 2 refine kO hT hC ?_
 iterate 3 refine kF hC rfl ?_
 iterate 2 refine kO hT hC ?_
 iterate 3 refine kF hC rfl ?_
 iterate 2 refine kO hT hC ?_
 iterate 3 refine kF hC rfl ?_
 iterate 2 refine kO hT hC ?_
 exact Vc.nil kM
 iterate 3 refine kF hC b2 ?_
 refine kP hC false b2 ?_
 refine kO hT hC ?_
 iterate 4 refine kF hC rfl ?_
 iterate 2 refine kO hT hC ?_
 iterate 3 refine kF hC rfl ?_
 iterate 2 refine kO hT hC ?_
 iterate 3 refine kF hC rfl ?_
 iterate 2 refine kO hT hC ?_
 iterate 3 refine kF hC rfl ?_
 iterate 2 refine kO hT hC ?_
 iterate 3 refine kF hC rfl ?_
 iterate 2 refine kO hT hC ?_
 iterate 3 refine kF hC rfl ?_
 iterate 2 refine kO hT hC ?_
 exact Vc.nil kM
 exact Xae (Xal kR)
 refine kf b1 (Xab (Xag (Xa5 ?_)))
 refine kL [1] [16] [_] [_] ?_
 refine kA h (fun v2 => ([(66, .sv (.bool v2))], [])) (fun v2 h => ?_) fun v2 h => ?_
 refine Xac ?_
 iterate 2 refine kO hT hC ?_
 refine kC hC [] Try.call54 h (fun _ => Xa9) fun q3 h => ?_
 iterate 2 refine kO hT hC ?_
 refine kS h ?_ ?_ <;> intro b9 h
 iterate 2 refine kI hT hC (kn b9) ?_
 refine kE hC (kn b9) [] Try.call38 h (fun _ => Xb0) fun q4 h => ?_
 refine kI hT hC (kn b9) ?_
 refine kP hC false (kn b9) ?_
 refine kO hT hC ?_
 refine kS h ?_ ?_ <;> intro b10 h
 iterate 4 refine kI hT hC (kn b10) ?_
 refine kP hC false (kn b10) ?_
 exact Vc.nil kM
 iterate 4 refine kF hC (kn b10) ?_
 refine kP hC true (kn b10) ?_
 exact Vc.nil kM
 iterate 4 refine kF hC (kn b9) ?_
 refine kP hC true (kn b9) ?_
 refine kO hT hC ?_
 iterate 4 refine kF hC rfl ?_
 refine kO hT hC ?_
 exact Vc.nil kM
 refine kS h ?_ ?_ <;> intro b11 h
 refine kt b11 (Xaa ?_)
 refine kO hT hC ?_
 exact Vc.nil (Xae (Xal kR))
 refine kf b11 (Xab (Xag (Xaa ?_)))
 refine kO hT hC ?_
 refine Vc.nil (Xa5 (Xaa ?_))
 iterate 4 refine kO hT hC ?_
 refine Vc.nil ?_
 refine kL [1,3,68,69,70] [16] [_,_,_,_,_] [_] ?_
 obtain ⟨o21, hl, h⟩ := Xba h
 refine Xfs (fun v10 => ([(3, .sv (.int .i64 v10.1)), (70, .sv (.int .i64 v10.2))], [])) (fun v16 => ([(3, .any), (68, .any), (69, .any), (70, .any)], [])) (fun r => Xje C T Try.f26.results.toList (Xds r) (Xdr r)) hl ?_ ?_ ?_ ?_
 try dsimp only
 apply Xga hC []
 exact co
 rfl
 decide
 rfl
 intro v10 s hs
 have h := hs
 unfold Xbg at h
 refine Xaa ?_
 refine kO hT hC ?_
 refine Vc.nil (Xa5 ?_)
 refine kS h ?_ ?_ <;> intro b18 h
 refine kt b18 (Xab (Xag (Xa5 (Xb5 (Xaa ?_)))))
 refine kQ hT hC h fun h => ?_
 iterate 3 refine kO hT hC ?_
 refine kN ?_
 iterate 4 refine kO hT hC ?_
 refine kC hC [] Try.call55 h (fun _ => Xce) fun q17 h => ?_
 refine kO hT hC ?_
 refine Vc.nil (Xa5 ?_)
 refine kL [1,3,5,6,68,69,70] [16,80] [_,_,_,_,_,_,_] [_,_] ?_
 refine kA h (fun v18 => ([(88, .sv (.bool v18)), (3, .any), (5, .any)], [(80, none)])) (fun v18 h => ?_) fun v18 h => ?_
 refine Xac ?_
 refine kO hT hC ?_
 refine kC hC [] Try.call56 h (fun _ => Xe9) fun q19 h => ?_
 iterate 2 refine kO hT hC ?_
 refine kS h ?_ ?_ <;> intro b19 h
 iterate 3 refine kI hT hC (kn b19) ?_
 refine kE hC (kn b19) [] Try.call38 h (fun _ => Xb0) fun q20 h => ?_
 refine kI hT hC (kn b19) ?_
 refine kP hC false (kn b19) ?_
 exact Vc.nil kM
 iterate 5 refine kF hC (kn b19) ?_
 refine kP hC true (kn b19) ?_
 exact Vc.nil kM
 refine kS h ?_ ?_ <;> intro b20 h
 refine kt b20 (Xaa ?_)
 refine kO hT hC ?_
 refine Vc.nil (Xae (Xal (Xfj (Xal ?_))))
 obtain rfl := kj h
 refine Xj5 (Xj3 ?_)
 exact Xfm (Xdx.refl _) rfl trivial
 refine kf b20 (Xab (Xag (Xac ?_)))
 iterate 2 refine kO hT hC ?_
 refine Vc.nil (Xdh (Xag (Xac ?_)))
 iterate 2 refine kO hT hC ?_
 exact Vc.nil kG
 exact kf b18 (Xcp (Xea kb))
 intro v16 e
 subst e
 refine Xag (Xa5 (Xaa ?_))
 iterate 13 refine kO hT hC ?_
 refine Vc.nil ?_
 refine kL [101,102,103] [1616] [_,_,_] [_] ?_
 obtain ⟨o29, hl, h⟩ := Xba h
 refine Xfs (fun v24 => ([(103, .sv (.int .i64 v24))], [])) (fun v27 => ([(101, .any), (102, .any), (103, .any)], [(1616, none)])) (fun r => Xje C T Try.f26.results.toList (Xds r) (Xdr r)) hl ?_ ?_ ?_ ?_
 apply Xga hC []
 exact co
 rfl
 decide
 rfl
 intro v24 s hs
 have h := hs
 unfold Xax at h
 refine Xaa ?_
 refine kO hT hC ?_
 refine Vc.nil (Xa5 ?_)
 refine kS h ?_ ?_ <;> intro b25 h
 refine kt b25 (Xab (Xag (Xa5 (Xb5 (Xaa ?_)))))
 iterate 2 refine kQ hT hC h fun h => ?_
 refine kO hT hC ?_
 refine kN ?_
 refine kO hT hC ?_
 refine kC hC [] Try.call38 h (fun _ => Xb0) fun q28 h => ?_
 refine kO hT hC ?_
 refine Vc.nil ?_
 refine kS h ?_ ?_ <;> intro b26 h
 refine kt b26 (Xaa ?_)
 refine kO hT hC ?_
 refine Vc.nil (Xae (Xfj (Xal ?_)))
 obtain rfl := kj h
 refine Xj5 (Xj3 ?_)
 exact Xfm (Xdx.refl _) rfl trivial
 refine kf b26 (Xab (Xdh (Xag (Xac ?_))))
 iterate 2 refine kO hT hC ?_
 exact Vc.nil kG
 exact kf b25 (Xcp (Xea kb))
 intro v27 e
 subst e
 refine Xag (Xaa ?_)
 refine kO hT hC ?_
 exact Vc.nil (Xae kR)
 intro r' σ' e hE
 subst e
 obtain rfl := kj h
 refine Xal ?_
 exact hE
 intro r' σ' e hE
 subst e
 obtain rfl := kj h
 refine Xal ?_
 exact hE
def Xih (r : Int) : AV := .sv (.int .i64 r)
def Xig (r : Int) : Xa4 := []
theorem Xju {p0 p1 r} (h : Xdi p0 p1 = some r) : AC Try.prog 48 [.sv (.int .i64 p0), .sv (.int .i64 p1)] [] (Xih r) (Xig r) := by
 refine Xah hT Try.func48 rfl fun C hC => ?_
 unfold Xdi at h
 refine Xaa ?_
 refine kO hT hC ?_
 refine Vc.nil (Xa5 ?_)
 refine kL [0,1] [] [_,_] [] ?_
 refine kA h (fun v1 => ([(12, .sv (.bool v1))], [])) (fun v1 h => ?_) fun v1 h => ?_
 refine Xac ?_
 refine kO hT hC ?_
 refine kC hC [] Try.call54 h (fun _ => Xa9) fun q2 h => ?_
 iterate 2 refine kO hT hC ?_
 refine kS h ?_ ?_ <;> intro b1 h
 refine kI hT hC (kn b1) ?_
 refine kE hC (kn b1) [] Try.call54 h (fun _ => Xa9) fun q3 h => ?_
 refine kI hT hC (kn b1) ?_
 refine kP hC false (kn b1) ?_
 exact Vc.nil kM
 iterate 3 refine kF hC (kn b1) ?_
 refine kP hC true (kn b1) ?_
 exact Vc.nil kM
 refine kS h ?_ ?_ <;> intro b2 h
 refine kt b2 (Xaa ?_)
 refine kO hT hC ?_
 exact Vc.nil (Xae (Xal kR))
 refine kf b2 (Xab (Xag (Xaa ?_)))
 iterate 3 refine kO hT hC ?_
 refine kQ hT hC h fun h => ?_
 refine kO hT hC ?_
 exact Vc.nil (Xae kR)
def Xij (r : Int) : AV := .sv (.int .i64 r)
def Xii (r : Int) : Xa4 := []
theorem Xcx {p0 r} (h : Xbm p0 = some r) : AC Try.prog 49 [.sv (.int .i64 p0)] [] (Xij r) (Xii r) := by
 refine Xah hT Try.func49 rfl fun C hC => ?_
 unfold Xbm at h
 refine Xaa ?_
 refine kO hT hC ?_
 refine kN ?_
 iterate 4 refine kO hT hC ?_
 exact Vc.nil (Xae kR)
def Xhn (r : Bool) : AV := .sv (.bool r)
def Xhm (r : Bool) : Xa4 := []
theorem Xik {p0 p1 r} (h : Xc0 p0 p1 = some r) : AC Try.prog 50 [.agg [.sv (.int .i64 p0.Seq), .sv (.bool p0.First), .sv (.bool p0.Last), .sv (.str p0.Bytes)], .agg [.sv (.int .i64 p1.Seq), .sv (.bool p1.First), .sv (.bool p1.Last), .sv (.str p1.Bytes)]] [] (Xhn r) (Xhm r) := by
 refine Xah hT Try.func50 rfl fun C hC => ?_
 unfold Xc0 at h
 refine Xaa ?_
 iterate 3 refine kO hT hC ?_
 refine Vc.nil (Xa5 (Xaa ?_))
 iterate 5 refine kO hT hC ?_
 refine Vc.nil ?_
 refine kS h ?_ ?_ <;> intro b1 h
 refine kt b1 (Xaa ?_)
 refine kO hT hC ?_
 exact Vc.nil (Xae (Xal kR))
 refine kf b1 (Xab (Xag (Xa5 (Xaa ?_))))
 iterate 5 refine kO hT hC ?_
 refine Vc.nil ?_
 refine kS h ?_ ?_ <;> intro b2 h
 refine kt b2 (Xaa ?_)
 refine kO hT hC ?_
 exact Vc.nil (Xae (Xal kR))
 refine kf b2 (Xab (Xag (Xa5 (Xaa ?_))))
 iterate 5 refine kO hT hC ?_
 refine Vc.nil ?_
 refine kS h ?_ ?_ <;> intro b3 h
 refine kt b3 (Xaa ?_)
 refine kO hT hC ?_
 exact Vc.nil (Xae (Xal kR))
 refine kf b3 (Xab (Xag (Xa5 (Xaa ?_))))
 iterate 5 refine kO hT hC ?_
 refine Vc.nil ?_
 refine kS h ?_ ?_ <;> intro b4 h
 refine kt b4 (Xaa ?_)
 refine kO hT hC ?_
 exact Vc.nil (Xae (Xal kR))
 refine kf b4 (Xab (Xag (Xaa ?_)))
 refine kO hT hC ?_
 exact Vc.nil (Xae kR)
def Xef (r : Bool) : AV := .sv (.bool r)
def Xee (r : Bool) : Xa4 := []
theorem Xhl {p0 p1 r} (h : Xch p0 p1 = some r) : AC Try.prog 20 [.sv (Xaf.sv p0), .sv (Xaf.sv p1)] [] (Xef r) (Xee r) := by
 refine Xah hT Try.func20 rfl fun C hC => ?_
 unfold Xch at h
 refine Xaa ?_
 refine kO hT hC ?_
 refine Vc.nil (Xa5 (Xaa ?_))
 iterate 5 refine kO hT hC ?_
 refine Vc.nil ?_
 refine kS h ?_ ?_ <;> intro b1 h
 refine kt b1 (Xaa ?_)
 refine kO hT hC ?_
 exact Vc.nil (Xae (Xal kR))
 refine kf b1 (Xab (Xag (Xa5 (Xaa ?_))))
 refine kO hT hC ?_
 refine Vc.nil ?_
 refine kL [0,1,5] [] [_,_,_] [] ?_
 obtain ⟨o8, hl, h⟩ := Xba h
 refine Xfs (fun v3 => ([(5, .sv (.int .i64 v3))], [])) (fun v6 => ([(0, .any), (1, .any), (5, .any)], [])) (fun r => Xje C T Try.f20.results.toList (Xef r) (Xee r)) hl ?_ ?_ ?_ ?_
 apply Xga hC []
 exact co
 rfl
 decide
 rfl
 intro v3 s hs
 have h := hs
 unfold Xbh at h
 refine Xa5 (Xaa ?_)
 iterate 4 refine kO hT hC ?_
 refine Vc.nil ?_
 refine kS h ?_ ?_ <;> intro b6 h
 refine kt b6 (Xab (Xag (Xa5 (Xb5 ?_))))
 refine Xkf hm ?_
 iterate 2 refine kO hT hC ?_
 refine kQ hT hC h fun h => ?_
 iterate 3 refine kO hT hC ?_
 refine kQ hT hC h fun h => ?_
 refine kO hT hC ?_
 refine kC hC [] Try.call50 h (fun _ => Xik) fun q7 h => ?_
 refine kO hT hC ?_
 refine kD ?_
 refine kS h ?_ ?_ <;> intro b7 h
 refine kt b7 (Xaa ?_)
 refine kO hT hC ?_
 refine Vc.nil (Xae (Xfj (Xal ?_)))
 obtain rfl := kj h
 refine Xj5 (Xj3 ?_)
 exact Xfm (Xdx.refl _) rfl trivial
 refine kf b7 (Xab (Xdh (Xag (Xac ?_))))
 iterate 3 refine kO hT hC ?_
 exact Vc.nil kG
 exact kf b6 (Xcp (Xea kb))
 intro v6 e
 subst e
 refine Xag (Xaa ?_)
 refine kO hT hC ?_
 exact Vc.nil (Xae kR)
 intro r' σ' e hE
 subst e
 obtain rfl := kj h
 refine Xal ?_
 exact hE
def Xim (r : Bool) : AV := .sv (.bool r)
def Xil (r : Bool) : Xa4 := []
theorem Xc1 {p0 p1 r} (h : Xbb p0 p1 = some r) : AC Try.prog 19 [.agg [.sv (.bool p0.Begun), .sv (.int .i64 p0.Next), .sv (.int .i64 p0.Age), .sv (Xaf.sv p0.Held), .sv (.int .i64 p0.Late), .sv (.int .i64 p0.Far), .sv (.int .i64 p0.Twice), .sv (.int .i64 p0.Over), .sv (.int .i64 p0.Lost)], .agg [.sv (.bool p1.Begun), .sv (.int .i64 p1.Next), .sv (.int .i64 p1.Age), .sv (Xaf.sv p1.Held), .sv (.int .i64 p1.Late), .sv (.int .i64 p1.Far), .sv (.int .i64 p1.Twice), .sv (.int .i64 p1.Over), .sv (.int .i64 p1.Lost)]] [] (Xim r) (Xil r) := by
 refine Xah hT Try.func19 rfl fun C hC => ?_
 unfold Xbb at h
 refine Xaa ?_
 iterate 3 refine kO hT hC ?_
 refine Vc.nil (Xa5 (Xaa ?_))
 iterate 5 refine kO hT hC ?_
 refine Vc.nil ?_
 refine kS h ?_ ?_ <;> intro b1 h
 refine kt b1 (Xaa ?_)
 refine kO hT hC ?_
 exact Vc.nil (Xae (Xal kR))
 refine kf b1 (Xab (Xag (Xa5 (Xaa ?_))))
 iterate 5 refine kO hT hC ?_
 refine Vc.nil ?_
 refine kS h ?_ ?_ <;> intro b2 h
 refine kt b2 (Xaa ?_)
 refine kO hT hC ?_
 exact Vc.nil (Xae (Xal kR))
 refine kf b2 (Xab (Xag (Xa5 (Xaa ?_))))
 iterate 5 refine kO hT hC ?_
 refine Vc.nil ?_
 refine kS h ?_ ?_ <;> intro b3 h
 refine kt b3 (Xaa ?_)
 refine kO hT hC ?_
 exact Vc.nil (Xae (Xal kR))
 refine kf b3 (Xab (Xag (Xa5 (Xaa ?_))))
 iterate 4 refine kO hT hC ?_
 refine kC hC [] Try.call20 h (fun _ => Xhl) fun q1 h => ?_
 refine kO hT hC ?_
 refine Vc.nil ?_
 refine kS h ?_ ?_ <;> intro b4 h
 refine kt b4 (Xaa ?_)
 refine kO hT hC ?_
 exact Vc.nil (Xae (Xal kR))
 refine kf b4 (Xab (Xag (Xa5 (Xaa ?_))))
 iterate 5 refine kO hT hC ?_
 refine Vc.nil ?_
 refine kS h ?_ ?_ <;> intro b5 h
 refine kt b5 (Xaa ?_)
 refine kO hT hC ?_
 exact Vc.nil (Xae (Xal kR))
 refine kf b5 (Xab (Xag (Xa5 (Xaa ?_))))
 iterate 5 refine kO hT hC ?_
 refine Vc.nil ?_
 refine kS h ?_ ?_ <;> intro b6 h
 refine kt b6 (Xaa ?_)
 refine kO hT hC ?_
 exact Vc.nil (Xae (Xal kR))
 refine kf b6 (Xab (Xag (Xa5 (Xaa ?_))))
 iterate 5 refine kO hT hC ?_
 refine Vc.nil ?_
 refine kS h ?_ ?_ <;> intro b7 h
 refine kt b7 (Xaa ?_)
 refine kO hT hC ?_
 exact Vc.nil (Xae (Xal kR))
 refine kf b7 (Xab (Xag (Xa5 (Xaa ?_))))
 iterate 5 refine kO hT hC ?_
 refine Vc.nil ?_
 refine kS h ?_ ?_ <;> intro b8 h
 refine kt b8 (Xaa ?_)
 refine kO hT hC ?_
 exact Vc.nil (Xae (Xal kR))
 refine kf b8 (Xab (Xag (Xa5 (Xaa ?_))))
 iterate 5 refine kO hT hC ?_
 refine Vc.nil ?_
 refine kS h ?_ ?_ <;> intro b9 h
 refine kt b9 (Xaa ?_)
 refine kO hT hC ?_
 exact Vc.nil (Xae (Xal kR))
 refine kf b9 (Xab (Xag (Xaa ?_)))
 refine kO hT hC ?_
 exact Vc.nil (Xae kR)
def Xhq (r : ByteArray) : AV := .sv (.str r)
def Xhp (r : ByteArray) : Xa4 := []
theorem Xfb {p0 r} (h : Xbc p0 = some r) : AC Try.prog 51 [.sv (.int .i64 p0)] [] (Xhq r) (Xhp r) := by
 refine Xah hT Try.func51 rfl fun C hC => ?_
 unfold Xbc at h
 refine Xaa ?_
 refine kO hT hC ?_
 refine Vc.nil (Xa5 (Xaa ?_))
 iterate 2 refine kO hT hC ?_
 refine Vc.nil ?_
 refine kS h ?_ ?_ <;> intro b1 h
 refine kt b1 (Xaa ?_)
 refine kO hT hC ?_
 exact Vc.nil (Xae (Xal kR))
 refine kf b1 (Xab (Xag (Xaa ?_)))
 refine kO hT hC ?_
 refine Vc.nil (Xa5 ?_)
 refine kL [0,3] [] [_,_] [] ?_
 refine kX h (fun v2 => ([(0, .sv (.int .i64 v2.1)), (3, .sv (.str v2.2))], [])) (fun v4 => ([(3, .sv (.str v4)), (0, .any)], [])) (kW hC []) (fun v2 s h => ?_) fun v4 h => ?_
 unfold Xcn at h
 refine Xa5 (Xaa ?_)
 iterate 2 refine kO hT hC ?_
 refine Vc.nil ?_
 refine kS h ?_ ?_ <;> intro b4 h
 refine kt b4 (Xab (Xag (Xb5 (Xaa ?_))))
 refine kO hT hC ?_
 refine kQ hT hC h fun h => ?_
 iterate 5 refine kO hT hC ?_
 refine kQ hT hC h fun h => ?_
 refine kO hT hC ?_
 refine Vc.nil (Xac ?_)
 refine kO hT hC ?_
 refine kQ hT hC h fun h => ?_
 refine kO hT hC ?_
 exact Vc.nil (Xdh kG)
 exact kf b4 (Xcp (Xea ku))
 refine Xag (Xaa ?_)
 refine kO hT hC ?_
 refine kQ hT hC h fun h => ?_
 refine kO hT hC ?_
 exact Vc.nil (Xae kR)
def Xf5 (r : (Int × (List Packet))) : AV := .sv (.int .i64 r.1)
def Xf4 (r : (Int × (List Packet))) : Xa4 := [(0, .row Xaf r.2)]
theorem Xgj {p0 p1 r} (h : Xbv p0 p1 = some r) : AC Try.prog 22 [.own 0, .sv (.int .i64 p1)] [(0, .row Xaf p0)] (Xf5 r) (Xf4 r) := by
 refine Xah hT Try.func22 rfl fun C hC => ?_
 unfold Xbv at h
 refine Xaa ?_
 refine kO hT hC ?_
 refine Vc.nil (Xa5 (Xaa ?_))
 refine kO hT hC ?_
 refine Vc.nil ?_
 refine kL [0,1,5] [0] [_,_,_] [_] ?_
 refine kX h (fun v7 => ([(1, .sv (.int .i64 v7.1)), (5, .sv (.int .i64 v7.2.1))], [(0, some (.row Xaf v7.2.2))])) (fun v14 => ([(1, .sv (.int .i64 v14.1)), (0, .any), (5, .any)], [(0, some (.row Xaf v14.2))])) (kW hC []) (fun v7 s h => ?_) fun v14 h => ?_
 unfold Xa7 at h
 refine Xa5 (Xaa ?_)
 iterate 4 refine kO hT hC ?_
 refine Vc.nil ?_
 refine kS h ?_ ?_ <;> intro b3 h
 refine kt b3 (Xab (Xag (Xa5 (Xb5 (Xaa ?_)))))
 iterate 3 refine kO hT hC ?_
 refine kQ hT hC h fun h => ?_
 refine kO hT hC ?_
 obtain ⟨hq, h⟩ := Xaz h
 obtain ⟨s15, hs, h⟩ := Xba h
 injection hs with hs
 refine Xmk hT hC rfl rfl rfl rfl hq ?_
 rw [hs]
 refine kN ?_
 iterate 3 refine kO hT hC ?_
 refine kN ?_
 iterate 3 refine kO hT hC ?_
 refine kQ hT hC h fun h => ?_
 refine kO hT hC ?_
 refine kQ hT hC h fun h => ?_
 refine kO hT hC ?_
 obtain ⟨hq, h⟩ := Xaz h
 obtain ⟨s16, hs, h⟩ := Xba h
 injection hs with hs
 refine Xmk hT hC rfl rfl rfl rfl hq ?_
 rw [hs]
 refine kN ?_
 iterate 3 refine kO hT hC ?_
 refine kN ?_
 iterate 3 refine kO hT hC ?_
 refine kQ hT hC h fun h => ?_
 refine kO hT hC ?_
 refine kQ hT hC h fun h => ?_
 refine kO hT hC ?_
 obtain ⟨hq, h⟩ := Xaz h
 obtain ⟨s17, hs, h⟩ := Xba h
 injection hs with hs
 refine Xmk hT hC rfl rfl rfl rfl hq ?_
 rw [hs]
 refine kN ?_
 iterate 3 refine kO hT hC ?_
 refine kN ?_
 iterate 3 refine kO hT hC ?_
 refine kC hC [] Try.call51 h (fun _ => Xfb) fun q18 h => ?_
 refine kQ hT hC h fun h => ?_
 refine kO hT hC ?_
 obtain ⟨hq, h⟩ := Xaz h
 obtain ⟨s19, hs, h⟩ := Xba h
 injection hs with hs
 refine Xmk hT hC rfl rfl rfl rfl hq ?_
 rw [hs]
 refine Vc.nil (Xac ?_)
 iterate 3 refine kO hT hC ?_
 refine Vc.nil (Xdh (Xag (Xac ?_)))
 iterate 3 refine kO hT hC ?_
 exact Vc.nil kG
 exact kf b3 (Xcp (Xea ku))
 refine Xag (Xaa ?_)
 iterate 2 refine kO hT hC ?_
 refine Vc.nil (Xae ?_)
 obtain rfl := kj h
 exact Xfm (Xdx.refl _) rfl ⟨rfl, trivial⟩
def Xgx (r : (Int × Queue)) : AV := .sv (.int .i64 r.1)
def Xgw (r : (Int × Queue)) : Xa4 := [(2, .row Xaf r.2.Held)]
theorem Xes {p0 p1 r} (h : Xb3 p0 p1 = some r) : AC Try.prog 21 [.agg [.sv (.bool p0.Begun), .sv (.int .i64 p0.Next), .sv (.int .i64 p0.Age), .own 2, .sv (.int .i64 p0.Late), .sv (.int .i64 p0.Far), .sv (.int .i64 p0.Twice), .sv (.int .i64 p0.Over), .sv (.int .i64 p0.Lost)], .sv (.int .i64 p1)] [(2, .row Xaf p0.Held)] (Xgx r) (Xgw r) := by
 refine Xah hT Try.func21 rfl fun C hC => ?_
 unfold Xb3 at h
 refine Xaa ?_
 iterate 2 refine kO hT hC ?_
 refine kN ?_
 iterate 3 refine kO hT hC ?_
 refine kC hC [(0, 2)] Try.call22 h (fun _ => Xgj) fun q1 h => ?_
 refine kO hT hC ?_
 refine kN ?_
 iterate 2 refine kO hT hC ?_
 refine Vc.nil (Xae ?_)
 obtain rfl := kj h
 exact Xfm (Xdx.refl _) rfl ⟨rfl, trivial⟩
def Xd0 (r : Int) : AV := .sv (.int .i64 r)
def Xdz (r : Int) : Xa4 := []
theorem Xgh {p0 p1 r} (h : Xbu p0 p1 = some r) : AC Try.prog 24 [.sv (Xaf.sv p0), .sv (.int .i64 p1)] [] (Xd0 r) (Xdz r) := by
 refine Xah hT Try.func24 rfl fun C hC => ?_
 unfold Xbu at h
 refine Xaa ?_
 refine kO hT hC ?_
 refine Vc.nil (Xa5 (Xaa ?_))
 refine kO hT hC ?_
 refine Vc.nil ?_
 refine kL [0,1,5] [] [_,_,_] [] ?_
 obtain ⟨o8, hl, h⟩ := Xba h
 refine Xfs (fun v3 => ([(1, .sv (.int .i64 v3.1)), (5, .sv (.int .i64 v3.2))], [])) (fun v6 => ([(1, .sv (.int .i64 v6)), (0, .any), (5, .any)], [])) (fun r => Xje C T Try.f24.results.toList (Xd0 r) (Xdz r)) hl ?_ ?_ ?_ ?_
 try dsimp only
 apply Xga hC []
 exact co
 rfl
 decide
 rfl
 intro v3 s hs
 have h := hs
 unfold Xa6 at h
 refine Xa5 (Xaa ?_)
 iterate 4 refine kO hT hC ?_
 refine Vc.nil ?_
 refine kS h ?_ ?_ <;> intro b11 h
 refine kt b11 (Xab (Xag (Xa5 (Xb5 (Xa5 (Xaa ?_))))))
 iterate 2 refine kO hT hC ?_
 refine kQ hT hC h fun h => ?_
 iterate 4 refine kO hT hC ?_
 refine Vc.nil ?_
 refine kS h ?_ ?_ <;> intro b12 h
 refine kt b12 (Xaa ?_)
 refine kO hT hC ?_
 refine Vc.nil (Xae (Xal (Xfj (Xal ?_))))
 obtain rfl := kj h
 refine Xj5 (Xj3 ?_)
 exact Xfm (Xdx.refl _) rfl trivial
 refine kf b12 (Xab (Xag (Xaa ?_)))
 iterate 3 refine kO hT hC ?_
 refine Vc.nil (Xa5 (Xaa ?_))
 iterate 2 refine kO hT hC ?_
 refine kQ hT hC h fun h => ?_
 iterate 3 refine kO hT hC ?_
 refine kQ hT hC h fun h => ?_
 iterate 2 refine kO hT hC ?_
 refine Vc.nil ?_
 refine kS h ?_ ?_ <;> intro b13 h
 refine kt b13 (Xaa ?_)
 refine kO hT hC ?_
 refine Vc.nil (Xae (Xal (Xfj (Xal ?_))))
 obtain rfl := kj h
 refine Xj5 (Xj3 ?_)
 exact Xfm (Xdx.refl _) rfl trivial
 refine kf b13 (Xab (Xag (Xaa ?_)))
 iterate 3 refine kO hT hC ?_
 refine Vc.nil (Xa5 (Xaa ?_))
 iterate 2 refine kO hT hC ?_
 refine kQ hT hC h fun h => ?_
 iterate 3 refine kO hT hC ?_
 refine kQ hT hC h fun h => ?_
 iterate 2 refine kO hT hC ?_
 refine Vc.nil ?_
 refine kS h ?_ ?_ <;> intro b14 h
 refine kt b14 (Xaa ?_)
 refine kO hT hC ?_
 refine Vc.nil (Xae (Xal (Xfj (Xal ?_))))
 obtain rfl := kj h
 refine Xj5 (Xj3 ?_)
 exact Xfm (Xdx.refl _) rfl trivial
 refine kf b14 (Xab (Xag (Xaa ?_)))
 iterate 3 refine kO hT hC ?_
 refine Vc.nil (Xa5 ?_)
 refine Xkf hm ?_
 iterate 2 refine kO hT hC ?_
 refine kQ hT hC h fun h => ?_
 iterate 3 refine kO hT hC ?_
 refine kC hC [] Try.call51 h (fun _ => Xfb) fun q7 h => ?_
 refine kO hT hC ?_
 refine kD ?_
 refine kS h ?_ ?_ <;> intro b15 h
 refine kt b15 (Xaa ?_)
 refine kO hT hC ?_
 refine Vc.nil (Xae (Xal (Xfj (Xal ?_))))
 obtain rfl := kj h
 refine Xj5 (Xj3 ?_)
 exact Xfm (Xdx.refl _) rfl trivial
 refine kf b15 (Xab (Xag (Xac ?_)))
 iterate 3 refine kO hT hC ?_
 refine Vc.nil (Xdh (Xag (Xac ?_)))
 iterate 3 refine kO hT hC ?_
 exact Vc.nil kG
 exact kf b11 (Xcp (Xea kb))
 intro v6 e
 subst e
 refine Xag (Xaa ?_)
 iterate 2 refine kO hT hC ?_
 exact Vc.nil (Xae kR)
 intro r' σ' e hE
 subst e
 obtain rfl := kj h
 refine Xal ?_
 exact hE
def Xgv (r : Int) : AV := .sv (.int .i64 r)
def Xgu (r : Int) : Xa4 := []
theorem Xer {p0 p1 r} (h : Xb2 p0 p1 = some r) : AC Try.prog 23 [.agg [.sv (.bool p0.Begun), .sv (.int .i64 p0.Next), .sv (.int .i64 p0.Age), .sv (Xaf.sv p0.Held), .sv (.int .i64 p0.Late), .sv (.int .i64 p0.Far), .sv (.int .i64 p0.Twice), .sv (.int .i64 p0.Over), .sv (.int .i64 p0.Lost)], .sv (.int .i64 p1)] [] (Xgv r) (Xgu r) := by
 refine Xah hT Try.func23 rfl fun C hC => ?_
 unfold Xb2 at h
 refine Xaa ?_
 iterate 2 refine kO hT hC ?_
 refine kN ?_
 iterate 3 refine kO hT hC ?_
 refine kC hC [] Try.call24 h (fun _ => Xgh) fun q1 h => ?_
 refine kO hT hC ?_
 refine Vc.nil (Xa5 (Xaa ?_))
 iterate 2 refine kO hT hC ?_
 refine Vc.nil ?_
 refine kS h ?_ ?_ <;> intro b1 h
 refine kt b1 (Xaa ?_)
 refine kO hT hC ?_
 exact Vc.nil (Xae (Xal kR))
 refine kf b1 (Xab (Xag (Xaa ?_)))
 iterate 2 refine kO hT hC ?_
 exact Vc.nil (Xae kR)
def Xex (r : Bool) : AV := .sv (.bool r)
def Xew (r : Bool) : Xa4 := []
theorem Xix {p0 p1 r} (h : Xc5 p0 p1 = some r) : AC Try.prog 59 [.agg [.sv (.bool p0.Begun), .sv (.int .i64 p0.Next), .sv (.int .i64 p0.Age), .sv (Xaf.sv p0.Held), .sv (.int .i64 p0.Late), .sv (.int .i64 p0.Far), .sv (.int .i64 p0.Twice), .sv (.int .i64 p0.Over), .sv (.int .i64 p0.Lost)], .sv (.int .i64 p1)] [] (Xex r) (Xew r) := by
 refine Xah hT Try.func59 rfl fun C hC => ?_
 unfold Xc5 at h
 refine Xaa ?_
 iterate 2 refine kO hT hC ?_
 refine Vc.nil (Xa5 (Xaa ?_))
 refine kO hT hC ?_
 refine kC hC [] Try.call41 h (fun _ => Xfu) fun q1 h => ?_
 refine kO hT hC ?_
 refine Vc.nil ?_
 refine kS h ?_ ?_ <;> intro b1 h
 refine kt b1 (Xaa ?_)
 refine kO hT hC ?_
 exact Vc.nil (Xae (Xal kR))
 refine kf b1 (Xab (Xag (Xa5 (Xaa ?_))))
 refine kO hT hC ?_
 refine Vc.nil ?_
 refine kL [1,2,5] [32] [_,_,_] [_] ?_
 obtain ⟨o6, hl, h⟩ := Xba h
 refine Xfs (fun v3 => ([(5, .sv (.int .i64 v3))], [])) (fun v5 => ([(1, .any), (2, .any), (5, .any)], [(32, none)])) (fun r => Xje C T Try.f59.results.toList (Xex r) (Xew r)) hl ?_ ?_ ?_ ?_
 apply Xga hC []
 exact co
 rfl
 decide
 rfl
 intro v3 s hs
 have h := hs
 unfold Xby at h
 refine Xa5 (Xaa ?_)
 iterate 5 refine kO hT hC ?_
 refine Vc.nil ?_
 refine kS h ?_ ?_ <;> intro b6 h
 refine kt b6 (Xab (Xag (Xa5 (Xb5 (Xaa ?_)))))
 iterate 3 refine kO hT hC ?_
 refine kQ hT hC h fun h => ?_
 iterate 4 refine kO hT hC ?_
 refine Vc.nil ?_
 refine kS h ?_ ?_ <;> intro b7 h
 refine kt b7 (Xaa ?_)
 refine kO hT hC ?_
 refine Vc.nil (Xae (Xfj (Xal ?_)))
 obtain rfl := kj h
 refine Xj5 (Xj3 ?_)
 exact Xfm (Xdx.refl _) rfl trivial
 refine kf b7 (Xab (Xdh (Xag (Xac ?_))))
 iterate 3 refine kO hT hC ?_
 exact Vc.nil kG
 exact kf b6 (Xcp (Xea kb))
 intro v5 e
 subst e
 refine Xag (Xaa ?_)
 refine kO hT hC ?_
 exact Vc.nil (Xae kR)
 intro r' σ' e hE
 subst e
 obtain rfl := kj h
 refine Xal ?_
 exact hE
def Xku (r : Queue) : AV := .agg [.sv (.bool r.Begun), .sv (.int .i64 r.Next), .sv (.int .i64 r.Age), .own 16, .sv (.int .i64 r.Late), .sv (.int .i64 r.Far), .sv (.int .i64 r.Twice), .sv (.int .i64 r.Over), .sv (.int .i64 r.Lost)]
def Xkt (r : Queue) : Xa4 := [(16, .row Xaf r.Held)]
theorem Xf7 {p0 p1 r} (h : Xde p0 p1 = some r) : AC Try.prog 60 [.agg [.sv (.bool p0.Begun), .sv (.int .i64 p0.Next), .sv (.int .i64 p0.Age), .sv (Xaf.sv p0.Held), .sv (.int .i64 p0.Late), .sv (.int .i64 p0.Far), .sv (.int .i64 p0.Twice), .sv (.int .i64 p0.Over), .sv (.int .i64 p0.Lost)], .agg [.sv (.int .i64 p1.Seq), .sv (.bool p1.First), .sv (.bool p1.Last), .sv (.str p1.Bytes)]] [] (Xku r) (Xkt r) := by
 refine Xah hT Try.func60 rfl fun C hC => ?_
 unfold Xde at h
 refine Xaa ?_
 iterate 3 refine kO hT hC ?_
 refine kN ?_
 iterate 4 refine kO hT hC ?_
 refine kC hC [] Try.call58 h (fun _ => Xck) fun q1 h => ?_
 refine kO hT hC ?_
 refine kN ?_
 iterate 2 refine kO hT hC ?_
 refine kN ?_
 refine kO hT hC ?_
 refine Vc.nil (Xa5 (Xaa ?_))
 refine kO hT hC ?_
 refine Vc.nil ?_
 refine kL [2,3,4,5,6,7,8] [32,48,64,224] [_,_,_,_,_,_,_] [_,_,_,_] ?_
 refine kX h (fun v5 => ([(7, .sv (.bool v5.1)), (8, .sv (.int .i64 v5.2.1))], [(224, some (.row Xaf v5.2.2))])) (fun v10 => ([(7, .sv (.bool v10.1)), (5, .any), (8, .any)], [(224, some (.row Xaf v10.2))])) (kW hC []) (fun v5 s h => ?_) fun v10 h => ?_
 unfold Xa3 at h
 refine Xa5 (Xaa ?_)
 iterate 5 refine kO hT hC ?_
 refine Vc.nil ?_
 refine kS h ?_ ?_ <;> intro b6 h
 refine kt b6 (Xab (Xag (Xa5 (Xb5 ?_))))
 refine kL [2,3,4,5,6,7,8] [32,48,64,224] [_,_,_,_,_,_,_] [_,_,_,_] ?_
 refine kA h (fun v11 => ([(7, .sv (.bool v11.1))], [(224, some (.row Xaf v11.2))])) (fun v11 h => ?_) fun v11 h => ?_
 refine kL [2,3,4,5,6,7,8] [32,48,64,224] [_,_,_,_,_,_,_] [_,_,_,_] ?_
 refine kA h (fun v12 => ([(36, .sv (.bool v12))], [])) (fun v12 h => ?_) fun v12 h => ?_
 refine Xls hm ?_
 iterate 3 refine kO hT hC ?_
 refine kS h ?_ ?_ <;> intro b7 h
 iterate 11 refine kF hC (kn b7) ?_
 refine kP hC false (kn b7) ?_
 exact kD kM
 iterate 5 refine kI hT hC (kn b7) ?_
 refine kJ hT hC (kn b7) h fun h => ?_
 iterate 2 refine kI hT hC (kn b7) ?_
 refine kE hC (kn b7) [] Try.call58 h (fun _ => Xck) fun q13 h => ?_
 iterate 2 refine kI hT hC (kn b7) ?_
 refine kP hC true (kn b7) ?_
 exact kD kM
 refine kS h ?_ ?_ <;> intro b8 h
 refine kt b8 (Xaa ?_)
 iterate 3 refine kO hT hC ?_
 obtain ⟨hq, h⟩ := Xaz h
 refine Xmk hT hC rfl rfl rfl rfl ⟨fun _ _ => rfl, by rw [Xao]; exact hq⟩ ?_
 rw [Xao]
 refine kO hT hC ?_
 refine Vc.nil (Xac ?_)
 refine kO hT hC ?_
 refine Vc.nil ?_
 obtain rfl := kj h
 exact Xm7 (kW hC [(224, 640)])
 exact kf b8 (Xab kM)
 refine Xac ?_
 iterate 4 refine kO hT hC ?_
 refine kQ hT hC h fun h => ?_
 iterate 2 refine kO hT hC ?_
 obtain ⟨hq, h⟩ := Xaz h
 refine Xmk hT hC rfl rfl rfl rfl ⟨fun _ _ => rfl, by rw [Xao]; exact hq⟩ ?_
 rw [Xao]
 refine kO hT hC ?_
 refine Vc.nil (Xdh (Xag (Xac ?_)))
 iterate 3 refine kO hT hC ?_
 refine Vc.nil ?_
 obtain rfl := kj h
 exact Xtw (kW hC [(224, 768)])
 exact kf b6 (Xcp (Xea ku))
 refine Xag ?_
 refine kL [2,3,4,6,7] [32,48,64,224] [_,_,_,_,_] [_,_,_,_] ?_
 refine kA h (fun v15 => ([(3, .any), (7, .any)], [(224, some (.row Xaf v15)), (48, none)])) (fun v15 h => ?_) fun v15 h => ?_
 refine Xaa ?_
 iterate 2 refine kO hT hC ?_
 refine Vc.nil ?_
 refine kS h ?_ ?_ <;> intro b9 h
 refine kt b9 (Xac ?_)
 iterate 3 refine kO hT hC ?_
 obtain ⟨hq, h⟩ := Xaz h
 refine Xmk hT hC rfl rfl rfl rfl ⟨fun _ _ => rfl, by rw [Xao]; exact hq⟩ ?_
 rw [Xao]
 refine kO hT hC ?_
 refine Vc.nil ?_
 obtain rfl := kj h
 exact Xm7 (kW hC [(224, 864)])
 exact kf b9 (Xab kM)
 refine Xaa ?_
 iterate 3 refine kO hT hC ?_
 refine kN ?_
 iterate 2 refine kO hT hC ?_
 refine Vc.nil (Xae ?_)
 obtain rfl := kj h
 exact Xfm (τ := ⟨[(4, .ptr 2000000 0)], [(16, some (.row Xaf v15)), (2000000, some (.box [.sv (.bool p0.Begun), .sv (.int .i64 p0.Next), .sv (.int .i64 p0.Age), .own 16, .sv (.int .i64 p0.Late), .sv (.int .i64 p0.Far), .sv (.int .i64 p0.Twice), .sv (.int .i64 p0.Over), .sv (.int .i64 p0.Lost)]))]⟩) (kW hC [(16, 224), (2000000, 64)]) rfl ⟨rfl, trivial⟩
def Xi0 (r : (Queue × Int)) : AV := .tup [.agg [.sv (.bool r.1.Begun), .sv (.int .i64 r.1.Next), .sv (.int .i64 r.1.Age), .own 16, .sv (.int .i64 r.1.Late), .sv (.int .i64 r.1.Far), .sv (.int .i64 r.1.Twice), .sv (.int .i64 r.1.Over), .sv (.int .i64 r.1.Lost)], .sv (.int .i64 r.2)]
def Xiz (r : (Queue × Int)) : Xa4 := [(16, .row Xaf r.1.Held)]
theorem Xkl {p0 p1 r} (h : Xdm p0 p1 = some r) : AC Try.prog 28 [.agg [.sv (.bool p0.Begun), .sv (.int .i64 p0.Next), .sv (.int .i64 p0.Age), .sv (Xaf.sv p0.Held), .sv (.int .i64 p0.Late), .sv (.int .i64 p0.Far), .sv (.int .i64 p0.Twice), .sv (.int .i64 p0.Over), .sv (.int .i64 p0.Lost)], .agg [.sv (.int .i64 p1.Seq), .sv (.bool p1.First), .sv (.bool p1.Last), .sv (.str p1.Bytes)]] [] (Xi0 r) (Xiz r) := by
 refine Xah hT Try.func28 rfl fun C hC => ?_
 unfold Xdm at h
 refine Xaa ?_
 iterate 4 refine kO hT hC ?_
 refine kN ?_
 refine kO hT hC ?_
 refine kC hC [(16, 144)] Try.call40 h (fun _ => Xkr) fun q1 h => ?_
 refine kO hT hC ?_
 refine Vc.nil (Xa5 (Xaa ?_))
 refine kO hT hC ?_
 refine kC hC [] Try.call41 h (fun _ => Xfu) fun q2 h => ?_
 refine kO hT hC ?_
 refine Vc.nil ?_
 refine kS h ?_ ?_ <;> intro b1 h
 refine kt b1 (Xaa ?_)
 iterate 3 refine kO hT hC ?_
 refine Vc.nil (Xae (Xal ?_))
 obtain rfl := kj h
 exact Xfm (τ := ⟨[(4, .ptr 2000000 0), (5, .sv (.int .i64 1))], [(16, some (.row Xaf q1.Held)), (2000000, some (.box [.sv (.bool q1.Begun), .sv (.int .i64 q1.Next), .sv (.int .i64 q1.Age), .own 16, .sv (.int .i64 q1.Late), .sv (.int .i64 q1.Far), .sv (.int .i64 q1.Twice), .sv (.int .i64 q1.Over), .sv (.int .i64 q1.Lost)]))]⟩) (kW hC [(16, 144), (2000000, 64)]) rfl ⟨rfl, trivial⟩
 refine kf b1 (Xab (Xag (Xa5 (Xaa ?_))))
 refine kO hT hC ?_
 refine kC hC [] Try.call57 h (fun _ => Xff) fun q3 h => ?_
 refine kO hT hC ?_
 refine Vc.nil ?_
 refine kS h ?_ ?_ <;> intro b2 h
 refine kt b2 (Xaa ?_)
 iterate 3 refine kO hT hC ?_
 refine Vc.nil (Xae (Xal ?_))
 obtain rfl := kj h
 exact Xfm (τ := ⟨[(4, .ptr 2000000 0), (5, .sv (.int .i64 2))], [(16, some (.row Xaf q1.Held)), (2000000, some (.box [.sv (.bool q1.Begun), .sv (.int .i64 q1.Next), .sv (.int .i64 q1.Age), .own 16, .sv (.int .i64 q1.Late), .sv (.int .i64 q1.Far), .sv (.int .i64 q1.Twice), .sv (.int .i64 q1.Over), .sv (.int .i64 q1.Lost)]))]⟩) (kW hC [(16, 144), (2000000, 64)]) rfl ⟨rfl, trivial⟩
 refine kf b2 (Xab (Xag (Xa5 (Xaa ?_))))
 iterate 3 refine kO hT hC ?_
 refine Vc.nil ?_
 refine kS h ?_ ?_ <;> intro b3 h
 refine kt b3 (Xaa ?_)
 iterate 7 refine kO hT hC ?_
 refine Vc.nil (Xae (Xal ?_))
 obtain rfl := kj h
 exact Xfm (τ := ⟨[(4, .ptr 2000000 0), (5, .sv (.int .i64 0))], [(16, some (.row Xaf ([p1]))), (2000000, some (.box [.sv (.bool true), .sv (.int .i64 p1.Seq), .sv (.int .i64 0), .own 16, .sv (.int .i64 0), .sv (.int .i64 0), .sv (.int .i64 0), .sv (.int .i64 0), .sv (.int .i64 0)]))]⟩) (kW hC [(16, 384), (2000000, 64)]) rfl ⟨rfl, trivial⟩
 refine kf b3 (Xab (Xag (Xaa ?_)))
 iterate 4 refine kO hT hC ?_
 refine kC hC [] Try.call58 h (fun _ => Xck) fun q4 h => ?_
 refine kO hT hC ?_
 refine Vc.nil (Xa5 ?_)
 refine kL [2,3,4,6] [32,48,64,144] [_,_,_,_] [_,_,_,_] ?_
 refine kA h (fun v5 => ([(36, .sv (.bool v5))], [])) (fun v5 h => ?_) fun v5 h => ?_
 refine Xac ?_
 iterate 3 refine kO hT hC ?_
 refine kS h ?_ ?_ <;> intro b4 h
 iterate 2 refine kF hC b4 ?_
 refine kP hC true b4 ?_
 exact Vc.nil kM
 iterate 2 refine kI hT hC b4 ?_
 refine kP hC false b4 ?_
 exact Vc.nil kM
 refine kS h ?_ ?_ <;> intro b5 h
 refine kt b5 (Xaa ?_)
 iterate 2 refine kO hT hC ?_
 refine kC hC [] Try.call45 h (fun _ => Xc6) fun q6 h => ?_
 iterate 2 refine kO hT hC ?_
 refine kN ?_
 iterate 4 refine kO hT hC ?_
 refine kN ?_
 iterate 4 refine kO hT hC ?_
 refine kN ?_
 iterate 2 refine kO hT hC ?_
 refine kN ?_
 iterate 3 refine kO hT hC ?_
 refine Vc.nil (Xae (Xal ?_))
 obtain rfl := kj h
 exact Xfm (τ := ⟨[(4, .ptr 2000000 0), (5, .sv (.int .i64 4))], [(16, some (.row Xaf ([p1]))), (2000000, some (.box [.sv (.bool q1.Begun), .sv (.int .i64 p1.Seq), .sv (.int .i64 0), .own 16, .sv (.int .i64 q1.Late), .sv (.int .i64 q6), .sv (.int .i64 q1.Twice), .sv (.int .i64 q1.Over), .sv (.int .i64 q1.Lost)]))]⟩) (kW hC [(16, 672), (2000000, 64)]) rfl ⟨rfl, trivial⟩
 refine kf b5 (Xab (Xag (Xa5 (Xaa ?_))))
 iterate 2 refine kO hT hC ?_
 refine Vc.nil ?_
 refine kS h ?_ ?_ <;> intro b6 h
 refine kt b6 (Xaa ?_)
 iterate 2 refine kO hT hC ?_
 refine kC hC [] Try.call45 h (fun _ => Xc6) fun q7 h => ?_
 iterate 2 refine kO hT hC ?_
 refine kN ?_
 iterate 3 refine kO hT hC ?_
 refine Vc.nil (Xae (Xal ?_))
 obtain rfl := kj h
 exact Xfm (τ := ⟨[(4, .ptr 2000000 0), (5, .sv (.int .i64 3))], [(16, some (.row Xaf q1.Held)), (2000000, some (.box [.sv (.bool q1.Begun), .sv (.int .i64 q1.Next), .sv (.int .i64 q1.Age), .own 16, .sv (.int .i64 q7), .sv (.int .i64 q1.Far), .sv (.int .i64 q1.Twice), .sv (.int .i64 q1.Over), .sv (.int .i64 q1.Lost)]))]⟩) (kW hC [(16, 144), (2000000, 64)]) rfl ⟨rfl, trivial⟩
 refine kf b6 (Xab (Xag (Xa5 (Xaa ?_))))
 iterate 3 refine kO hT hC ?_
 refine kC hC [] Try.call59 h (fun _ => Xix) fun q8 h => ?_
 refine Vc.nil ?_
 refine kS h ?_ ?_ <;> intro b7 h
 refine kt b7 (Xaa ?_)
 iterate 2 refine kO hT hC ?_
 refine kC hC [] Try.call45 h (fun _ => Xc6) fun q9 h => ?_
 iterate 2 refine kO hT hC ?_
 refine kN ?_
 iterate 3 refine kO hT hC ?_
 refine Vc.nil (Xae (Xal ?_))
 obtain rfl := kj h
 exact Xfm (τ := ⟨[(4, .ptr 2000000 0), (5, .sv (.int .i64 5))], [(16, some (.row Xaf q1.Held)), (2000000, some (.box [.sv (.bool q1.Begun), .sv (.int .i64 q1.Next), .sv (.int .i64 q1.Age), .own 16, .sv (.int .i64 q1.Late), .sv (.int .i64 q1.Far), .sv (.int .i64 q9), .sv (.int .i64 q1.Over), .sv (.int .i64 q1.Lost)]))]⟩) (kW hC [(16, 144), (2000000, 64)]) rfl ⟨rfl, trivial⟩
 refine kf b7 (Xab (Xag (Xa5 (Xaa ?_))))
 iterate 4 refine kO hT hC ?_
 refine Vc.nil ?_
 refine kS h ?_ ?_ <;> intro b8 h
 refine kt b8 (Xaa ?_)
 iterate 2 refine kO hT hC ?_
 refine kC hC [(16, 1136)] Try.call60 h (fun _ => Xf7) fun q10 h => ?_
 iterate 2 refine kO hT hC ?_
 refine Vc.nil (Xae (Xal ?_))
 obtain rfl := kj h
 exact Xfm (τ := ⟨[(4, .ptr 2000000 0), (5, .sv (.int .i64 0))], [(16, some (.row Xaf q10.Held)), (2000000, some (.box [.sv (.bool q10.Begun), .sv (.int .i64 q10.Next), .sv (.int .i64 q10.Age), .own 16, .sv (.int .i64 q10.Late), .sv (.int .i64 q10.Far), .sv (.int .i64 q10.Twice), .sv (.int .i64 q10.Over), .sv (.int .i64 q10.Lost)]))]⟩) (kW hC [(16, 1136), (2000000, 64)]) rfl ⟨rfl, trivial⟩
 refine kf b8 (Xab (Xag (Xaa ?_)))
 refine kO hT hC ?_
 refine Vc.nil (Xa5 ?_)
 refine kL [2,3,4,7] [32,48,64,144] [_,_,_,_] [_,_,_,_] ?_
 refine kX h (fun v13 => ([(7, .sv (.int .i64 v13))], [])) (fun v16 => ([(7, .sv (.int .i64 v16))], [])) (kW hC []) (fun v13 s h => ?_) fun v16 h => ?_
 unfold Xb6 at h
 refine Xa5 ?_
 refine kL [2,3,4,7] [32,48,64,144] [_,_,_,_] [_,_,_,_] ?_
 refine kA h (fun v17 => ([(86, .sv (.bool v17))], [])) (fun v17 h => ?_) fun v17 h => ?_
 refine Xac ?_
 iterate 7 refine kO hT hC ?_
 refine kS h ?_ ?_ <;> intro b13 h
 iterate 3 refine kI hT hC b13 ?_
 refine kJ hT hC b13 h fun h => ?_
 refine kI hT hC b13 ?_
 refine kJ hT hC b13 h fun h => ?_
 refine kI hT hC b13 ?_
 refine kP hC true b13 ?_
 exact Vc.nil kM
 iterate 7 refine kF hC b13 ?_
 refine kP hC false b13 ?_
 exact Vc.nil kM
 refine kS h ?_ ?_ <;> intro b14 h
 refine kt b14 (Xab (Xag (Xb5 (Xac ?_))))
 iterate 3 refine kO hT hC ?_
 exact Vc.nil (Xdh kG)
 exact kf b14 (Xcp (Xea ku))
 refine Xag (Xaa ?_)
 iterate 2 refine kO hT hC ?_
 refine kC hC [] Try.call45 h (fun _ => Xc6) fun q19 h => ?_
 iterate 2 refine kO hT hC ?_
 refine kN ?_
 iterate 3 refine kO hT hC ?_
 refine kQ hT hC h fun h => ?_
 refine kO hT hC ?_
 refine kQ hT hC h fun h => ?_
 refine kC hC [] Try.call44 h (fun _ => Xkp) fun q20 h => ?_
 iterate 2 refine kO hT hC ?_
 refine kN ?_
 iterate 5 refine kO hT hC ?_
 refine kQ hT hC h fun h => ?_
 obtain ⟨hq, h⟩ := Xaz h
 refine Xmk hT hC rfl rfl rfl rfl ⟨⟨hq.1, fun _ _ => rfl⟩, by rw [Xao]; exact hq.2⟩ ?_
 rw [Xao]
 iterate 2 refine kO hT hC ?_
 refine kN ?_
 iterate 2 refine kO hT hC ?_
 refine Vc.nil ?_
 refine kL [2,3,4] [32,48,64,1712] [_,_,_] [_,_,_,_] ?_
 refine kA h (fun v21 => ([(3, .any)], [(32, some (.box [.sv (.bool v21.1), .sv (.int .i64 v21.2.1), .sv (.int .i64 v21.2.2.1), .own 1712, .sv (.int .i64 v21.2.2.2.1), .sv (.int .i64 v21.2.2.2.2.1), .sv (.int .i64 v21.2.2.2.2.2.1), .sv (.int .i64 v21.2.2.2.2.2.2.1), .sv (.int .i64 v21.2.2.2.2.2.2.2.1)])), (1712, some (.row Xaf v21.2.2.2.2.2.2.2.2)), (48, none)])) (fun v21 h => ?_) fun v21 h => ?_
 refine Xaa ?_
 iterate 4 refine kO hT hC ?_
 refine kC hC [] Try.call58 h (fun _ => Xck) fun q22 h => ?_
 refine kC hC [] Try.call42 h (fun _ => Xav) fun q23 h => ?_
 refine Vc.nil ?_
 refine kS h ?_ ?_ <;> intro b15 h
 refine kt b15 (Xac ?_)
 iterate 2 refine kO hT hC ?_
 refine kC hC [(16, 1888)] Try.call60 h (fun _ => Xf7) fun q24 h => ?_
 refine kO hT hC ?_
 refine Vc.nil ?_
 obtain rfl := kj h
 exact Xm7 (kW hC [(1712, 1888)])
 exact kf b15 (Xab kM)
 refine Xaa ?_
 iterate 3 refine kO hT hC ?_
 refine Vc.nil (Xae ?_)
 obtain rfl := kj h
 exact Xfm (τ := ⟨[(4, .ptr 2000000 0), (5, .sv (.int .i64 6))], [(16, some (.row Xaf v21.2.2.2.2.2.2.2.2)), (2000000, some (.box [.sv (.bool v21.1), .sv (.int .i64 v21.2.1), .sv (.int .i64 v21.2.2.1), .own 16, .sv (.int .i64 v21.2.2.2.1), .sv (.int .i64 v21.2.2.2.2.1), .sv (.int .i64 v21.2.2.2.2.2.1), .sv (.int .i64 v21.2.2.2.2.2.2.1), .sv (.int .i64 v21.2.2.2.2.2.2.2.1)]))]⟩) (kW hC [(16, 1712), (2000000, 64)]) rfl ⟨rfl, trivial⟩
def Xeo (r : Bool) : AV := .sv (.bool r)
def Xen (r : Bool) : Xa4 := []
theorem Xic {p0 p1 r} (h : Xcw p0 p1 = some r) : AC Try.prog 61 [.agg [.sv (.bool p0.Begun), .sv (.int .i64 p0.Next), .sv (.int .i64 p0.Age), .sv (Xaf.sv p0.Held), .sv (.int .i64 p0.Late), .sv (.int .i64 p0.Far), .sv (.int .i64 p0.Twice), .sv (.int .i64 p0.Over), .sv (.int .i64 p0.Lost)], .sv (.int .i64 p1)] [] (Xeo r) (Xen r) := by
 refine Xah hT Try.func61 rfl fun C hC => ?_
 unfold Xcw at h
 refine Xaa ?_
 iterate 2 refine kO hT hC ?_
 refine Vc.nil (Xa5 (Xaa ?_))
 refine kO hT hC ?_
 refine kC hC [] Try.call26 h (fun _ => Xfo) fun q1 h => ?_
 refine kO hT hC ?_
 refine Vc.nil ?_
 refine kS h ?_ ?_ <;> intro b1 h
 refine kt b1 (Xaa ?_)
 refine kO hT hC ?_
 exact Vc.nil (Xae (Xal kR))
 refine kf b1 (Xab (Xag (Xa5 (Xaa ?_))))
 iterate 4 refine kO hT hC ?_
 refine Vc.nil ?_
 refine kL [1,11,12,13] [] [_,_,_,_] [] ?_
 obtain ⟨o6, hl, h⟩ := Xba h
 refine Xfs (fun v3 => ([(13, .sv (.int .i64 v3))], [])) (fun v5 => ([(1, .any), (11, .any), (12, .any), (13, .any)], [])) (fun r => Xje C T Try.f61.results.toList (Xeo r) (Xen r)) hl ?_ ?_ ?_ ?_
 apply Xga hC []
 exact co
 rfl
 decide
 rfl
 intro v3 s hs
 have h := hs
 unfold Xbt at h
 refine Xaa ?_
 refine kO hT hC ?_
 refine Vc.nil (Xa5 ?_)
 refine kS h ?_ ?_ <;> intro b6 h
 refine kt b6 (Xab (Xag (Xa5 (Xb5 (Xaa ?_)))))
 refine kQ hT hC h fun h => ?_
 iterate 3 refine kO hT hC ?_
 refine kN ?_
 iterate 4 refine kO hT hC ?_
 refine Vc.nil ?_
 refine kS h ?_ ?_ <;> intro b7 h
 refine kt b7 (Xaa ?_)
 refine kO hT hC ?_
 refine Vc.nil (Xae (Xfj (Xal ?_)))
 obtain rfl := kj h
 refine Xj5 (Xj3 ?_)
 exact Xfm (Xdx.refl _) rfl trivial
 refine kf b7 (Xab (Xdh (Xag (Xac ?_))))
 iterate 2 refine kO hT hC ?_
 exact Vc.nil kG
 exact kf b6 (Xcp (Xea kb))
 intro v5 e
 subst e
 refine Xag (Xaa ?_)
 refine kO hT hC ?_
 exact Vc.nil (Xae kR)
 intro r' σ' e hE
 subst e
 obtain rfl := kj h
 refine Xal ?_
 exact hE
def Xfr (r : Queue) : AV := .tup []
def Xfq (r : Queue) : Xa4 := [(0, .box [.sv (.bool r.Begun), .sv (.int .i64 r.Next), .sv (.int .i64 r.Age), .own 16, .sv (.int .i64 r.Late), .sv (.int .i64 r.Far), .sv (.int .i64 r.Twice), .sv (.int .i64 r.Over), .sv (.int .i64 r.Lost)]), (16, .row Xaf r.Held)]
theorem Xdy {p0 p1 r} (h : Xas p0 p1 = some r) : AC Try.prog 62 [.ptr 0 0, .agg [.sv (.int .i64 p1.Seq), .sv (.bool p1.First), .sv (.bool p1.Last), .sv (.str p1.Bytes)]] [(0, .box [.sv (.bool p0.Begun), .sv (.int .i64 p0.Next), .sv (.int .i64 p0.Age), .own 2, .sv (.int .i64 p0.Late), .sv (.int .i64 p0.Far), .sv (.int .i64 p0.Twice), .sv (.int .i64 p0.Over), .sv (.int .i64 p0.Lost)]), (2, .row Xaf p0.Held)] (Xfr r) (Xfq r) := by
 refine Xah hT Try.func62 rfl fun C hC => ?_
 unfold Xas at h
 refine Xaa ?_
 refine kO hT hC ?_
 refine kN ?_
 refine kO hT hC ?_
 refine Vc.nil (Xa5 ?_)
 refine kL [0,3,4] [0,2,48] [_,_,_] [_,_,_] ?_
 refine kX h (fun v5 => ([(4, .sv (.int .i64 v5))], [])) (fun v10 => ([(4, .sv (.int .i64 v10))], [])) (kW hC []) (fun v5 s h => ?_) fun v10 h => ?_
 unfold Xaq at h
 refine Xa5 ?_
 refine kL [0,3,4] [0,2,48] [_,_,_] [_,_,_] ?_
 refine kA h (fun v11 => ([(35, .sv (.bool v11))], [])) (fun v11 h => ?_) fun v11 h => ?_
 refine Xls hm ?_
 iterate 8 refine kO hT hC ?_
 refine kS h ?_ ?_ <;> intro b5 h
 iterate 9 refine kI hT hC b5 ?_
 refine kJ hT hC b5 h fun h => ?_
 refine kI hT hC b5 ?_
 refine kJ hT hC b5 h fun h => ?_
 refine kE hC b5 [] Try.call55 h (fun _ => Xce) fun q12 h => ?_
 iterate 6 refine kI hT hC b5 ?_
 refine kE hC b5 [] Try.call55 h (fun _ => Xce) fun q13 h => ?_
 refine kI hT hC b5 ?_
 refine kP hC true b5 ?_
 exact kD kM
 iterate 21 refine kF hC b5 ?_
 refine kP hC false b5 ?_
 exact kD kM
 refine kS h ?_ ?_ <;> intro b6 h
 refine kt b6 (Xab (Xag (Xb5 (Xac ?_))))
 iterate 3 refine kO hT hC ?_
 exact Vc.nil (Xdh kG)
 exact kf b6 (Xcp (Xea ku))
 refine Xag (Xaa ?_)
 iterate 6 refine kO hT hC ?_
 refine kQ hT hC h fun h => ?_
 obtain ⟨hq, h⟩ := Xaz h
 refine Xmk hT hC rfl rfl rfl rfl ⟨⟨hq.1, fun _ _ => rfl⟩, by rw [Xao]; exact hq.2⟩ ?_
 rw [Xao]
 refine kO hT hC ?_
 refine Vc.nil ?_
 refine Xls hm ?_
 iterate 4 refine kO hT hC ?_
 obtain ⟨hq, h⟩ := Xaz h
 refine Xmk hT hC rfl rfl rfl rfl ⟨fun _ _ => rfl, by rw [Xao]; exact hq⟩ ?_
 rw [Xao]
 iterate 5 refine kO hT hC ?_
 refine kQ hT hC h fun h => ?_
 obtain ⟨hq, h⟩ := Xaz h
 refine Xmk hT hC rfl rfl rfl rfl ⟨⟨hq.1, fun _ _ => rfl⟩, by rw [Xao]; exact hq.2⟩ ?_
 rw [Xao]
 iterate 3 refine kO hT hC ?_
 refine kD ?_
 obtain rfl := kj h
 refine Xsy (τ := ⟨[], [(16, some (.row Xaf (((([] : List Packet) ++ ((p0.Held.drop ((0 : Int).toNat)).take (v10.toNat - (0 : Int).toNat))) ++ ([p1])) ++ ((p0.Held.drop v10.toNat).take ((p0.Held.length : Int).toNat - v10.toNat))))), (0, some (.box [.sv (.bool p0.Begun), .sv (.int .i64 p0.Next), .sv (.int .i64 p0.Age), .own 16, .sv (.int .i64 p0.Late), .sv (.int .i64 p0.Far), .sv (.int .i64 p0.Twice), .sv (.int .i64 p0.Over), .sv (.int .i64 p0.Lost)]))]⟩) ?_ rfl ⟨rfl, rfl, trivial⟩
 apply Xga hC [(16, 912)]
 exact co
 rfl
 decide
 rfl
def Xif (r : (Queue × Int)) : AV := .tup [.agg [.sv (.bool r.1.Begun), .sv (.int .i64 r.1.Next), .sv (.int .i64 r.1.Age), .own 16, .sv (.int .i64 r.1.Late), .sv (.int .i64 r.1.Far), .sv (.int .i64 r.1.Twice), .sv (.int .i64 r.1.Over), .sv (.int .i64 r.1.Lost)], .sv (.int .i64 r.2)]
def Xie (r : (Queue × Int)) : Xa4 := [(16, .row Xaf r.1.Held)]
theorem Xfn {p0 p1 r} (h : Xcr p0 p1 = some r) : AC Try.prog 30 [.agg [.sv (.bool p0.Begun), .sv (.int .i64 p0.Next), .sv (.int .i64 p0.Age), .sv (Xaf.sv p0.Held), .sv (.int .i64 p0.Late), .sv (.int .i64 p0.Far), .sv (.int .i64 p0.Twice), .sv (.int .i64 p0.Over), .sv (.int .i64 p0.Lost)], .agg [.sv (.int .i64 p1.Seq), .sv (.bool p1.First), .sv (.bool p1.Last), .sv (.str p1.Bytes)]] [] (Xif r) (Xie r) := by
 refine Xah hT Try.func30 rfl fun C hC => ?_
 unfold Xcr at h
 refine Xaa ?_
 iterate 4 refine kO hT hC ?_
 refine kN ?_
 refine kO hT hC ?_
 refine kC hC [(16, 160)] Try.call47 h (fun _ => Xhh) fun q1 h => ?_
 iterate 2 refine kO hT hC ?_
 refine Vc.nil (Xa5 (Xb5 (Xaa ?_)))
 refine kO hT hC ?_
 refine kC hC [] Try.call26 h (fun _ => Xfo) fun q2 h => ?_
 iterate 2 refine kO hT hC ?_
 refine Vc.nil ?_
 refine kS h ?_ ?_ <;> intro b1 h
 refine kt b1 (Xaa ?_)
 iterate 3 refine kO hT hC ?_
 refine Vc.nil (Xae (Xfj (Xal ?_)))
 obtain rfl := kj h
 exact Xfm (τ := ⟨[(4, .ptr 2000000 0), (5, .sv (.int .i64 1))], [(16, some (.row Xaf q1.Held)), (2000000, some (.box [.sv (.bool q1.Begun), .sv (.int .i64 q1.Next), .sv (.int .i64 q1.Age), .own 16, .sv (.int .i64 q1.Late), .sv (.int .i64 q1.Far), .sv (.int .i64 q1.Twice), .sv (.int .i64 q1.Over), .sv (.int .i64 q1.Lost)]))]⟩) (kW hC [(16, 160), (2000000, 64)]) rfl ⟨rfl, trivial⟩
 refine kf b1 (Xaa ?_)
 refine kO hT hC ?_
 refine kC hC [] Try.call56 h (fun _ => Xe9) fun q3 h => ?_
 iterate 2 refine kO hT hC ?_
 refine Vc.nil ?_
 refine kS h ?_ ?_ <;> intro b2 h
 refine kt b2 (Xaa ?_)
 iterate 3 refine kO hT hC ?_
 refine Vc.nil (Xae (Xfj (Xal ?_)))
 obtain rfl := kj h
 exact Xfm (τ := ⟨[(4, .ptr 2000000 0), (5, .sv (.int .i64 2))], [(16, some (.row Xaf q1.Held)), (2000000, some (.box [.sv (.bool q1.Begun), .sv (.int .i64 q1.Next), .sv (.int .i64 q1.Age), .own 16, .sv (.int .i64 q1.Late), .sv (.int .i64 q1.Far), .sv (.int .i64 q1.Twice), .sv (.int .i64 q1.Over), .sv (.int .i64 q1.Lost)]))]⟩) (kW hC [(16, 160), (2000000, 64)]) rfl ⟨rfl, trivial⟩
 refine kf b2 (Xaa ?_)
 iterate 4 refine kO hT hC ?_
 refine Vc.nil ?_
 refine kS h ?_ ?_ <;> intro b3 h
 refine kt b3 (Xaa ?_)
 iterate 2 refine kO hT hC ?_
 refine kN ?_
 iterate 4 refine kO hT hC ?_
 refine kN ?_
 iterate 4 refine kO hT hC ?_
 refine kN ?_
 iterate 3 refine kO hT hC ?_
 refine Vc.nil (Xae (Xfj (Xal ?_)))
 obtain rfl := kj h
 exact Xfm (τ := ⟨[(4, .ptr 2000000 0), (5, .sv (.int .i64 0))], [(16, some (.row Xaf ([p1]))), (2000000, some (.box [.sv (.bool true), .sv (.int .i64 p1.Seq), .sv (.int .i64 q1.Age), .own 16, .sv (.int .i64 q1.Late), .sv (.int .i64 q1.Far), .sv (.int .i64 q1.Twice), .sv (.int .i64 q1.Over), .sv (.int .i64 q1.Lost)]))]⟩) (kW hC [(16, 480), (2000000, 64)]) rfl ⟨rfl, trivial⟩
 refine kf b3 (Xab (Xdh (Xag (Xaa ?_))))
 iterate 4 refine kO hT hC ?_
 refine kC hC [] Try.call55 h (fun _ => Xce) fun q4 h => ?_
 refine kO hT hC ?_
 refine Vc.nil (Xa5 (Xb5 ?_))
 refine kL [2,3,4,6,7] [32,48,64,96,160] [_,_,_,_,_] [_,_,_,_,_] ?_
 refine kA h (fun v5 => ([(38, .sv (.bool v5))], [])) (fun v5 h => ?_) fun v5 h => ?_
 refine Xac ?_
 iterate 3 refine kO hT hC ?_
 refine kS h ?_ ?_ <;> intro b4 h
 iterate 2 refine kF hC b4 ?_
 refine kP hC true b4 ?_
 refine kO hT hC ?_
 exact Vc.nil kM
 iterate 2 refine kI hT hC b4 ?_
 refine kP hC false b4 ?_
 refine kO hT hC ?_
 exact Vc.nil kM
 refine kS h ?_ ?_ <;> intro b5 h
 refine kt b5 (Xaa ?_)
 iterate 2 refine kO hT hC ?_
 refine kC hC [] Try.call49 h (fun _ => Xcx) fun q6 h => ?_
 iterate 2 refine kO hT hC ?_
 refine kN ?_
 iterate 4 refine kO hT hC ?_
 refine kN ?_
 iterate 4 refine kO hT hC ?_
 refine kN ?_
 iterate 2 refine kO hT hC ?_
 refine kN ?_
 iterate 3 refine kO hT hC ?_
 refine Vc.nil (Xae (Xfj (Xal ?_)))
 obtain rfl := kj h
 exact Xfm (τ := ⟨[(4, .ptr 2000000 0), (5, .sv (.int .i64 4))], [(16, some (.row Xaf ([p1]))), (2000000, some (.box [.sv (.bool q1.Begun), .sv (.int .i64 p1.Seq), .sv (.int .i64 0), .own 16, .sv (.int .i64 q1.Late), .sv (.int .i64 q6), .sv (.int .i64 q1.Twice), .sv (.int .i64 q1.Over), .sv (.int .i64 q1.Lost)]))]⟩) (kW hC [(16, 848), (2000000, 64)]) rfl ⟨rfl, trivial⟩
 refine kf b5 (Xaa ?_)
 iterate 3 refine kO hT hC ?_
 refine Vc.nil ?_
 refine kS h ?_ ?_ <;> intro b6 h
 refine kt b6 (Xaa ?_)
 iterate 2 refine kO hT hC ?_
 refine kC hC [] Try.call49 h (fun _ => Xcx) fun q7 h => ?_
 iterate 2 refine kO hT hC ?_
 refine kN ?_
 iterate 3 refine kO hT hC ?_
 refine Vc.nil (Xae (Xfj (Xal ?_)))
 obtain rfl := kj h
 exact Xfm (τ := ⟨[(4, .ptr 2000000 0), (5, .sv (.int .i64 3))], [(16, some (.row Xaf q1.Held)), (2000000, some (.box [.sv (.bool q1.Begun), .sv (.int .i64 q1.Next), .sv (.int .i64 q1.Age), .own 16, .sv (.int .i64 q7), .sv (.int .i64 q1.Far), .sv (.int .i64 q1.Twice), .sv (.int .i64 q1.Over), .sv (.int .i64 q1.Lost)]))]⟩) (kW hC [(16, 160), (2000000, 64)]) rfl ⟨rfl, trivial⟩
 refine kf b6 (Xaa ?_)
 iterate 3 refine kO hT hC ?_
 refine kC hC [] Try.call61 h (fun _ => Xic) fun q8 h => ?_
 refine kO hT hC ?_
 refine Vc.nil ?_
 refine kS h ?_ ?_ <;> intro b7 h
 refine kt b7 (Xaa ?_)
 iterate 2 refine kO hT hC ?_
 refine kC hC [] Try.call49 h (fun _ => Xcx) fun q9 h => ?_
 iterate 2 refine kO hT hC ?_
 refine kN ?_
 iterate 3 refine kO hT hC ?_
 refine Vc.nil (Xae (Xfj (Xal ?_)))
 obtain rfl := kj h
 exact Xfm (τ := ⟨[(4, .ptr 2000000 0), (5, .sv (.int .i64 5))], [(16, some (.row Xaf q1.Held)), (2000000, some (.box [.sv (.bool q1.Begun), .sv (.int .i64 q1.Next), .sv (.int .i64 q1.Age), .own 16, .sv (.int .i64 q1.Late), .sv (.int .i64 q1.Far), .sv (.int .i64 q9), .sv (.int .i64 q1.Over), .sv (.int .i64 q1.Lost)]))]⟩) (kW hC [(16, 160), (2000000, 64)]) rfl ⟨rfl, trivial⟩
 refine kf b7 (Xaa ?_)
 iterate 5 refine kO hT hC ?_
 refine Vc.nil ?_
 refine kS h ?_ ?_ <;> intro b8 h
 refine kt b8 (Xaa ?_)
 iterate 2 refine kO hT hC ?_
 refine kC hC [] Try.call49 h (fun _ => Xcx) fun q10 h => ?_
 iterate 2 refine kO hT hC ?_
 refine kN ?_
 refine kO hT hC ?_
 refine Vc.nil (Xa5 ?_)
 refine kL [2,3,4,6,8] [32,48,64,96,160] [_,_,_,_,_] [_,_,_,_,_] ?_
 refine kX h (fun v13 => ([(8, .sv (.int .i64 v13))], [])) (fun v16 => ([(8, .sv (.int .i64 v16))], [])) (kW hC []) (fun v13 s h => ?_) fun v16 h => ?_
 unfold Xap at h
 refine Xa5 ?_
 refine kL [2,3,4,6,8] [32,48,64,96,160] [_,_,_,_,_] [_,_,_,_,_] ?_
 refine kA h (fun v17 => ([(98, .sv (.bool v17))], [])) (fun v17 h => ?_) fun v17 h => ?_
 refine Xac ?_
 iterate 7 refine kO hT hC ?_
 refine kS h ?_ ?_ <;> intro b13 h
 iterate 3 refine kI hT hC b13 ?_
 refine kJ hT hC b13 h fun h => ?_
 iterate 3 refine kI hT hC b13 ?_
 refine kP hC true b13 ?_
 exact Vc.nil kM
 iterate 7 refine kF hC b13 ?_
 refine kP hC false b13 ?_
 exact Vc.nil kM
 refine kS h ?_ ?_ <;> intro b14 h
 refine kt b14 (Xab (Xag (Xb5 (Xac ?_))))
 iterate 3 refine kO hT hC ?_
 exact Vc.nil (Xdh kG)
 exact kf b14 (Xcp (Xea ku))
 refine Xag (Xaa ?_)
 iterate 3 refine kO hT hC ?_
 refine kQ hT hC h fun h => ?_
 iterate 2 refine kO hT hC ?_
 refine kC hC [] Try.call48 h (fun _ => Xju) fun q19 h => ?_
 iterate 2 refine kO hT hC ?_
 refine kN ?_
 iterate 4 refine kO hT hC ?_
 obtain ⟨hq, h⟩ := Xaz h
 refine Xmk hT hC rfl rfl rfl rfl hq ?_
 iterate 2 refine kO hT hC ?_
 refine Vc.nil ?_
 refine Xnq (Xtd hC 96 3 160 2066 rfl rfl rfl rfl Xfx (by omega) rfl rfl (Xdx.refl _)) ?_
 refine Xaa ?_
 iterate 2 refine kO hT hC ?_
 refine Vc.nil ?_
 refine kL [3,4,6] [48,64,96,2066] [_,_,_] [_,_,_,_] ?_
 refine kA h (fun v20 => ([(3, .any)], [(96, some (.box [.sv (.bool v20.1), .sv (.int .i64 v20.2.1), .sv (.int .i64 v20.2.2.1), .own 2066, .sv (.int .i64 v20.2.2.2.1), .sv (.int .i64 v20.2.2.2.2.1), .sv (.int .i64 v20.2.2.2.2.2.1), .sv (.int .i64 v20.2.2.2.2.2.2.1), .sv (.int .i64 v20.2.2.2.2.2.2.2.1)])), (2066, some (.row Xaf v20.2.2.2.2.2.2.2.2)), (48, none)])) (fun v20 h => ?_) fun v20 h => ?_
 refine Xaa ?_
 iterate 4 refine kO hT hC ?_
 refine kC hC [] Try.call55 h (fun _ => Xce) fun q21 h => ?_
 refine kC hC [] Try.call38 h (fun _ => Xb0) fun q22 h => ?_
 refine Vc.nil ?_
 refine kS h ?_ ?_ <;> intro b15 h
 refine kt b15 (Xac ?_)
 refine kO hT hC ?_
 refine kC hC [(0, 96), (16, 1969), (2, 2066)] Try.call62 h (fun _ => Xdy) fun q23 h => ?_
 refine Vc.nil ?_
 obtain rfl := kj h
 exact Xm7 (kW hC [(2066, 1969)])
 exact kf b15 (Xab kM)
 refine Xaa ?_
 iterate 3 refine kO hT hC ?_
 refine Vc.nil (Xae (Xfj (Xal ?_)))
 obtain rfl := kj h
 exact Xfm (τ := ⟨[(4, .ptr 2000000 0), (5, .sv (.int .i64 6))], [(16, some (.row Xaf v20.2.2.2.2.2.2.2.2)), (2000000, some (.box [.sv (.bool v20.1), .sv (.int .i64 v20.2.1), .sv (.int .i64 v20.2.2.1), .own 16, .sv (.int .i64 v20.2.2.2.1), .sv (.int .i64 v20.2.2.2.2.1), .sv (.int .i64 v20.2.2.2.2.2.1), .sv (.int .i64 v20.2.2.2.2.2.2.1), .sv (.int .i64 v20.2.2.2.2.2.2.2.1)]))]⟩) (kW hC [(16, 2066), (2000000, 64)]) rfl ⟨rfl, trivial⟩
 refine kf b8 (Xab (Xdh (Xag (Xaa ?_))))
 refine kO hT hC ?_
 refine kC hC [(0, 96), (16, 2017), (2, 160)] Try.call62 h (fun _ => Xdy) fun q24 h => ?_
 refine kN ?_
 iterate 3 refine kO hT hC ?_
 refine Vc.nil (Xae ?_)
 obtain rfl := kj h
 exact Xfm (τ := ⟨[(4, .ptr 2000000 0), (5, .sv (.int .i64 0))], [(16, some (.row Xaf q24.Held)), (2000000, some (.box [.sv (.bool q24.Begun), .sv (.int .i64 q24.Next), .sv (.int .i64 q24.Age), .own 16, .sv (.int .i64 q24.Late), .sv (.int .i64 q24.Far), .sv (.int .i64 q24.Twice), .sv (.int .i64 q24.Over), .sv (.int .i64 q24.Lost)]))]⟩) (kW hC [(16, 2017), (2000000, 64)]) rfl ⟨rfl, trivial⟩
def Xe3 (r : Bool) : AV := .sv (.bool r)
def Xe2 (r : Bool) : Xa4 := []
theorem Xfk {p0 p1 r} (h : Xbq p0 p1 = some r) : AC Try.prog 6 [.agg [.sv (.bool p0.Begun), .sv (.int .i64 p0.Next), .sv (.int .i64 p0.Age), .sv (Xaf.sv p0.Held), .sv (.int .i64 p0.Late), .sv (.int .i64 p0.Far), .sv (.int .i64 p0.Twice), .sv (.int .i64 p0.Over), .sv (.int .i64 p0.Lost)], .agg [.sv (.int .i64 p1.Seq), .sv (.bool p1.First), .sv (.bool p1.Last), .sv (.str p1.Bytes)]] [] (Xe3 r) (Xe2 r) := by
 refine Xah hT Try.func6 rfl fun C hC => ?_
 unfold Xbq at h
 refine Xaa ?_
 iterate 3 refine kO hT hC ?_
 refine kN ?_
 refine kO hT hC ?_
 refine kN ?_
 iterate 2 refine kO hT hC ?_
 refine kC hC [] Try.call15 h (fun _ => Xjy) fun q1 h => ?_
 refine kO hT hC ?_
 refine Vc.nil (Xa5 (Xaa ?_))
 iterate 2 refine kO hT hC ?_
 refine Vc.nil ?_
 refine kS h ?_ ?_ <;> intro b1 h
 refine kt b1 (Xaa ?_)
 refine kO hT hC ?_
 exact Vc.nil (Xae (Xal kR))
 refine kf b1 (Xab (Xag (Xaa ?_)))
 iterate 2 refine kO hT hC ?_
 refine kC hC [] Try.call27 h (fun _ => Xfd) fun q2 h => ?_
 refine kO hT hC ?_
 refine Vc.nil (Xa5 (Xaa ?_))
 iterate 2 refine kO hT hC ?_
 refine Vc.nil ?_
 refine kS h ?_ ?_ <;> intro b2 h
 refine kt b2 (Xaa ?_)
 refine kO hT hC ?_
 exact Vc.nil (Xae (Xal kR))
 refine kf b2 (Xab (Xag ?_))
 refine Xkf hm ?_
 refine kO hT hC ?_
 refine kC hC [(16, 448)] Try.call17 h (fun _ => Xc2) fun q3 h => ?_
 refine kO hT hC ?_
 refine kC hC [] Try.call29 h (fun _ => Xco) fun q4 h => ?_
 refine kC hC [(16, 496)] Try.call28 h (fun _ => Xkl) fun q5 h => ?_
 iterate 6 refine kO hT hC ?_
 refine kD (Xaa ?_)
 refine kO hT hC ?_
 refine kC hC [(16, 560)] Try.call17 h (fun _ => Xc2) fun q6 h => ?_
 iterate 2 refine kO hT hC ?_
 refine Vc.nil ?_
 refine Xkf hm ?_
 iterate 2 refine kO hT hC ?_
 refine kC hC [] Try.call29 h (fun _ => Xco) fun q7 h => ?_
 refine kC hC [(16, 640)] Try.call30 h (fun _ => Xfn) fun q8 h => ?_
 iterate 6 refine kO hT hC ?_
 refine kD (Xa5 ?_)
 refine kL [2,3,6,7,8,9,10] [32,48,96,128,144,496,560,640] [_,_,_,_,_,_,_] [_,_,_,_,_,_,_,_] ?_
 refine kA h (fun v9 => ([(51, .sv (.bool v9))], [])) (fun v9 h => ?_) fun v9 h => ?_
 refine Xac ?_
 iterate 2 refine kO hT hC ?_
 refine kC hC [] Try.call19 h (fun _ => Xc1) fun q10 h => ?_
 iterate 2 refine kO hT hC ?_
 refine kS h ?_ ?_ <;> intro b3 h
 iterate 3 refine kI hT hC (kn b3) ?_
 refine kP hC false (kn b3) ?_
 exact Vc.nil kM
 iterate 3 refine kF hC (kn b3) ?_
 refine kP hC true (kn b3) ?_
 exact Vc.nil kM
 refine kS h ?_ ?_ <;> intro b4 h
 refine kt b4 (Xaa ?_)
 refine kO hT hC ?_
 exact Vc.nil (Xae (Xal kR))
 refine kf b4 (Xab (Xag (Xa5 ?_)))
 refine Xkf hm ?_
 iterate 2 refine kO hT hC ?_
 refine kC hC [(16, 864)] Try.call17 h (fun _ => Xc2) fun q11 h => ?_
 refine kC hC [] Try.call19 h (fun _ => Xc1) fun q12 h => ?_
 refine kO hT hC ?_
 refine kD ?_
 refine kS h ?_ ?_ <;> intro b5 h
 refine kt b5 (Xaa ?_)
 refine kO hT hC ?_
 exact Vc.nil (Xae (Xal kR))
 refine kf b5 (Xab (Xag (Xaa ?_)))
 refine kO hT hC ?_
 refine kN ?_
 iterate 2 refine kO hT hC ?_
 refine kC hC [(2, 560)] Try.call21 h (fun _ => Xes) fun q13 h => ?_
 refine kO hT hC ?_
 refine Vc.nil (Xa5 ?_)
 refine kL [2,3,6,7,9,10,11] [32,48,96,144,496,640] [_,_,_,_,_,_,_] [_,_,_,_,_,_] ?_
 refine kA h (fun v14 => ([(72, .sv (.bool v14)), (10, .any), (11, .any)], [])) (fun v14 h => ?_) fun v14 h => ?_
 refine Xac ?_
 iterate 3 refine kO hT hC ?_
 refine kS h ?_ ?_ <;> intro b6 h
 iterate 4 refine kF hC b6 ?_
 refine kP hC true b6 ?_
 refine kO hT hC ?_
 iterate 3 refine kF hC rfl ?_
 refine kO hT hC ?_
 exact Vc.nil kM
 iterate 2 refine kI hT hC b6 ?_
 refine kE hC b6 [] Try.call19 h (fun _ => Xc1) fun q15 h => ?_
 refine kI hT hC b6 ?_
 refine kP hC false b6 ?_
 refine kO hT hC ?_
 refine kS h ?_ ?_ <;> intro b7 h
 iterate 3 refine kI hT hC (kn b7) ?_
 refine kP hC false (kn b7) ?_
 exact Vc.nil kM
 iterate 3 refine kF hC (kn b7) ?_
 refine kP hC true (kn b7) ?_
 exact Vc.nil kM
 refine kS h ?_ ?_ <;> intro b8 h
 refine kt b8 (Xaa ?_)
 refine kO hT hC ?_
 exact Vc.nil (Xae (Xal kR))
 refine kf b8 (Xab (Xag (Xaa ?_)))
 refine kO hT hC ?_
 refine kN ?_
 iterate 2 refine kO hT hC ?_
 refine kC hC [(2, 640)] Try.call21 h (fun _ => Xes) fun q16 h => ?_
 refine kO hT hC ?_
 refine kN ?_
 refine kO hT hC ?_
 refine kN ?_
 iterate 2 refine kO hT hC ?_
 refine kC hC [] Try.call23 h (fun _ => Xer) fun q17 h => ?_
 refine kO hT hC ?_
 refine Vc.nil (Xa5 (Xaa ?_))
 iterate 2 refine kO hT hC ?_
 refine Vc.nil ?_
 refine kS h ?_ ?_ <;> intro b9 h
 refine kt b9 (Xaa ?_)
 refine kO hT hC ?_
 exact Vc.nil (Xae (Xal kR))
 refine kf b9 (Xab (Xag (Xa5 (Xaa ?_))))
 iterate 3 refine kO hT hC ?_
 refine Vc.nil ?_
 refine kS h ?_ ?_ <;> intro b10 h
 refine kt b10 (Xaa ?_)
 refine kO hT hC ?_
 exact Vc.nil (Xae (Xal kR))
 refine kf b10 (Xab (Xag ?_))
 refine Xkf hm ?_
 refine kO hT hC ?_
 refine kC hC [(16, 1376)] Try.call17 h (fun _ => Xc2) fun q18 h => ?_
 refine kO hT hC ?_
 refine kC hC [] Try.call29 h (fun _ => Xco) fun q19 h => ?_
 refine kC hC [(16, 1424)] Try.call30 h (fun _ => Xfn) fun q20 h => ?_
 iterate 6 refine kO hT hC ?_
 refine kD (Xa5 ?_)
 refine kL [6,7,9,12,14,15] [96,144,224,496,640,1424] [_,_,_,_,_,_] [_,_,_,_,_,_] ?_
 refine kA h (fun v21 => ([(100, .sv (.bool v21)), (6, .any), (7, .any), (14, .any), (15, .any)], [(96, none), (224, none), (496, none), (1424, none)])) (fun v21 h => ?_) fun v21 h => ?_
 refine Xac ?_
 iterate 2 refine kO hT hC ?_
 refine kC hC [] Try.call19 h (fun _ => Xc1) fun q22 h => ?_
 iterate 2 refine kO hT hC ?_
 refine kS h ?_ ?_ <;> intro b11 h
 iterate 3 refine kI hT hC (kn b11) ?_
 refine kP hC false (kn b11) ?_
 exact Vc.nil kM
 iterate 3 refine kF hC (kn b11) ?_
 refine kP hC true (kn b11) ?_
 exact Vc.nil kM
 refine kS h ?_ ?_ <;> intro b12 h
 refine kt b12 (Xaa ?_)
 refine kO hT hC ?_
 exact Vc.nil (Xae (Xal kR))
 refine kf b12 (Xab (Xag (Xaa ?_)))
 refine kO hT hC ?_
 refine kN ?_
 iterate 2 refine kO hT hC ?_
 refine kC hC [] Try.call23 h (fun _ => Xer) fun q23 h => ?_
 refine kO hT hC ?_
 refine Vc.nil (Xa5 (Xaa ?_))
 iterate 2 refine kO hT hC ?_
 refine Vc.nil ?_
 refine kS h ?_ ?_ <;> intro b13 h
 refine kt b13 (Xaa ?_)
 refine kO hT hC ?_
 exact Vc.nil (Xae (Xal kR))
 refine kf b13 (Xab (Xag (Xa5 (Xaa ?_))))
 iterate 3 refine kO hT hC ?_
 refine Vc.nil ?_
 refine kS h ?_ ?_ <;> intro b14 h
 refine kt b14 (Xaa ?_)
 refine kO hT hC ?_
 exact Vc.nil (Xae (Xal kR))
 refine kf b14 (Xab (Xag (Xaa ?_)))
 refine kO hT hC ?_
 exact Vc.nil (Xae kR)
end
end Go.Proofs.Ytlebkepfhdjnmaa.A
