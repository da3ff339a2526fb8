/- Contracts of the functions that the law FnExactPictureOf reaches, part 0: each comes to what its pure function tells. Written by a program of this session. Conditions: as each statement tells. -/
import Derived.Test.YtlebkepfhdjnmabBFnExactPictureOf
namespace Go.Proofs.Ytlebkepfhdjnmab.A
open Go Go.Proofs Go.Proofs.YtlebkepfhdjnmabAL Go.RowKit
set_option linter.unusedVariables false
set_option linter.unusedSimpArgs false
set_option maxRecDepth 100000
set_option maxHeartbeats 8000000
noncomputable section
def Xk8 (r : Bool) : AV := .sv (.bool r)
def Xk7 (r : Bool) : Xbc := []
theorem Xcv {p0 p1 p2 r} (h : Xb7 p0 p1 p2 = some r) : AC Try.prog 48 [.sv (.int .i64 p0), .sv (.int .i64 p1), .sv (.int .i64 p2)] [] (Xk8 r) (Xk7 r) := by
 refine Xak hT Try.func48 rfl fun C hC => ?_
 unfold Xb7 at h
 refine Xab ?_
 refine kO hT hC ?_
 refine Vc.nil ?_
 refine kL [0,1,2,6] [] [_,_,_,_] [] ?_
 refine kA h (fun v1 => ([(6, .sv (.bool v1)), (0, .any), (1, .any), (2, .any)], [])) (fun v1 h => ?_) fun v1 h => ?_
 refine Xaa ?_
 iterate 4 refine kO hT hC ?_
 refine kS h ?_ ?_ <;> intro b1 h
 iterate 3 refine kI hT hC b1 ?_
 refine kP hC true b1 ?_
 refine kO hT hC ?_
 exact Vc.nil kM
 iterate 3 refine kF hC b1 ?_
 refine kP hC false b1 ?_
 refine kO hT hC ?_
 exact Vc.nil kM
 exact Xaj kR
def Xjz (r : Bool) : AV := .sv (.bool r)
def Xjy (r : Bool) : Xbc := []
theorem Xee {p0 p1 p2 r} (h : Xch p0 p1 p2 = some r) : AC Try.prog 52 [.sv (.int .i64 p0), .sv (.int .i64 p1), .sv (.int .i64 p2)] [] (Xjz r) (Xjy r) := by
 refine Xak hT Try.func52 rfl fun C hC => ?_
 unfold Xch at h
 refine Xab ?_
 refine kO hT hC ?_
 refine Vc.nil ?_
 refine kL [0,1,2,6] [] [_,_,_,_] [] ?_
 refine kA h (fun v1 => ([(6, .sv (.bool v1)), (0, .any), (1, .any), (2, .any)], [])) (fun v1 h => ?_) fun v1 h => ?_
 refine Xaa ?_
 iterate 4 refine kO hT hC ?_
 refine kS h ?_ ?_ <;> intro b1 h
 iterate 3 refine kI hT hC b1 ?_
 refine kP hC true b1 ?_
 refine kO hT hC ?_
 exact Vc.nil kM
 iterate 3 refine kF hC b1 ?_
 refine kP hC false b1 ?_
 refine kO hT hC ?_
 exact Vc.nil kM
 exact Xaj kR
def Xhv (r : Int) : AV := .sv (.int .i64 r)
def Xhu (r : Int) : Xbc := []
theorem Xir {p0 p1 r} (h : Xcs p0 p1 = some r) : AC Try.prog 58 [.agg [.sv (.int .i64 p0.Seq), .sv (.bool p0.First), .sv (.bool p0.Last), .sv (.str p0.Bytes)], .sv (.int .i64 p1)] [] (Xhv r) (Xhu r) := by
 refine Xak hT Try.func58 rfl fun C hC => ?_
 unfold Xcs at h
 refine Xab ?_
 iterate 2 refine kO hT hC ?_
 refine kN ?_
 iterate 6 refine kO hT hC ?_
 refine Vc.nil (Xa4 (Xab ?_))
 iterate 2 refine kO hT hC ?_
 refine Vc.nil ?_
 refine kS h ?_ ?_ <;> intro b1 h
 refine kt b1 (Xab ?_)
 refine kO hT hC ?_
 exact Vc.nil (Xaj (Xar kR))
 refine kf b1 (Xae (Xaf (Xab ?_)))
 iterate 2 refine kO hT hC ?_
 exact Vc.nil (Xaj kR)
def Xd8 (r : Int) : AV := .sv (.int .i64 r)
def Xd7 (r : Int) : Xbc := []
theorem Xhs {p0 p1 r} (h : Xce p0 p1 = some r) : AC Try.prog 16 [.sv (Xax.sv p0), .sv (.int .i64 p1)] [] (Xd8 r) (Xd7 r) := by
 refine Xak hT Try.func16 rfl fun C hC => ?_
 unfold Xce at h
 refine Xab ?_
 refine kO hT hC ?_
 refine kN ?_
 iterate 5 refine kO hT hC ?_
 refine Vc.nil (Xa4 (Xab ?_))
 iterate 2 refine kO hT hC ?_
 refine Vc.nil ?_
 refine kS h ?_ ?_ <;> intro b1 h
 refine kt b1 (Xab ?_)
 refine kO hT hC ?_
 exact Vc.nil (Xaj (Xar kR))
 refine kf b1 (Xae (Xaf (Xa4 (Xab ?_))))
 refine kO hT hC ?_
 refine Vc.nil ?_
 refine kL [0,1,5] [] [_,_,_] [] ?_
 obtain ⟨o8, hl, h⟩ := Xa9 h
 refine Xe1 (fun v3 => ([(1, .sv (.int .i64 v3.1)), (5, .sv (.int .i64 v3.2))], [])) (fun v6 => ([(1, .sv (.int .i64 v6)), (0, .any), (5, .any)], [])) (fun r => Xjf C T Try.f16.results.toList (Xd8 r) (Xd7 r)) hl ?_ ?_ ?_ ?_
 try dsimp only
 apply Xed hC []
 exact co
 rfl
 decide
 rfl
 intro v3 s hs
 have h := hs
 unfold Xbo at h
 refine Xa4 (Xab ?_)
 iterate 4 refine kO hT hC ?_
 refine Vc.nil ?_
 refine kS h ?_ ?_ <;> intro b6 h
 refine kt b6 (Xae (Xaf (Xa4 (Xbj (Xab ?_)))))
 iterate 2 refine kO hT hC ?_
 refine kQ hT hC h fun h => ?_
 iterate 2 refine kO hT hC ?_
 refine kC hC [] Try.call58 h (fun _ => Xir) fun q7 h => ?_
 refine kO hT hC ?_
 refine kN ?_
 iterate 2 refine kO hT hC ?_
 refine Vc.nil ?_
 refine kS h ?_ ?_ <;> intro b7 h
 refine kt b7 (Xab ?_)
 refine kO hT hC ?_
 refine Vc.nil (Xaj (Xjk (Xar ?_)))
 obtain rfl := kj h
 refine Xj7 (Xj5 ?_)
 exact Xg3 (Xem.refl _) rfl trivial
 refine kf b7 (Xae (Xb2 (Xaf (Xaa ?_))))
 iterate 3 refine kO hT hC ?_
 exact Vc.nil kG
 exact kf b6 (Xa5 (Xb9 kb))
 intro v6 e
 subst e
 refine Xaf (Xab ?_)
 iterate 2 refine kO hT hC ?_
 exact Vc.nil (Xaj kR)
 intro r' σ' e hE
 subst e
 obtain rfl := kj h
 refine Xar ?_
 exact hE
def Xhy (r : Packet) : AV := .agg [.sv (.int .i64 r.Seq), .sv (.bool r.First), .sv (.bool r.Last), .sv (.str r.Bytes)]
def Xhx (r : Packet) : Xbc := []
theorem Xit {p0 r} (h : Xdr p0 = some r) : AC Try.prog 62 [.agg [.sv (.int .i64 p0.Seq), .sv (.bool p0.First), .sv (.bool p0.Last), .sv (.str p0.Bytes)]] [] (Xhy r) (Xhx r) := by
 refine Xak hT Try.func62 rfl fun C hC => ?_
 unfold Xdr at h
 refine Xab ?_
 iterate 2 refine kO hT hC ?_
 refine kN ?_
 refine kO hT hC ?_
 refine kN ?_
 iterate 4 refine kO hT hC ?_
 refine kN ?_
 iterate 4 refine kO hT hC ?_
 refine kN ?_
 iterate 4 refine kO hT hC ?_
 refine kN ?_
 iterate 4 refine kO hT hC ?_
 refine kN ?_
 iterate 2 refine kO hT hC ?_
 exact Vc.nil (Xaj kR)
def Xgs (r : (List Packet)) : AV := .own 16
def Xgr (r : (List Packet)) : Xbc := [(16, .row Xax r)]
theorem Xb5 {p0 r} (h : Xa1 p0 = some r) : AC Try.prog 18 [.sv (Xax.sv p0)] [] (Xgs r) (Xgr r) := by
 refine Xak hT Try.func18 rfl fun C hC => ?_
 unfold Xa1 at h
 refine Xab ?_
 refine kO hT hC ?_
 refine kN ?_
 iterate 2 refine kO hT hC ?_
 obtain ⟨hq, h⟩ := Xbk h
 refine Xqa hT hC rfl rfl rfl rfl ⟨hq.1, hq.2.1, hq.2.2, by decide⟩ ?_
 refine kO hT hC ?_
 refine Vc.nil (Xa4 (Xab ?_))
 refine kO hT hC ?_
 refine Vc.nil ?_
 refine kL [0,3,4] [112] [_,_,_] [_] ?_
 refine kX h (fun v4 => ([(4, .sv (.int .i64 v4.1))], [(112, some (.row Xax v4.2))])) (fun v8 => ([(0, .any), (4, .any)], [(112, some (.row Xax v8))])) (kW hC []) (fun v4 s h => ?_) fun v8 h => ?_
 unfold Xbp at h
 refine Xa4 (Xab ?_)
 iterate 4 refine kO hT hC ?_
 refine Vc.nil ?_
 refine kS h ?_ ?_ <;> intro b3 h
 refine kt b3 (Xae (Xaf (Xa4 (Xbj (Xaa ?_)))))
 iterate 4 refine kO hT hC ?_
 refine kQ hT hC h fun h => ?_
 refine kO hT hC ?_
 refine kC hC [] Try.call62 h (fun _ => Xit) fun q9 h => ?_
 refine kQ hT hC h fun h => ?_
 obtain ⟨hq, h⟩ := Xbk h
 obtain ⟨s10, hs, h⟩ := Xa9 h
 injection hs with hs
 refine Xqa hT hC rfl rfl rfl rfl hq ?_
 rw [hs]
 refine Vc.nil (Xb2 (Xaf (Xaa ?_)))
 iterate 3 refine kO hT hC ?_
 exact Vc.nil kG
 exact kf b3 (Xa5 (Xb9 ku))
 refine Xaf (Xab ?_)
 iterate 2 refine kO hT hC ?_
 refine Vc.nil (Xaj ?_)
 obtain rfl := kj h
 exact Xg3 (τ := ⟨[(2, .own 16)], [(16, some (.row Xax v8))]⟩) (kW hC [(16, 112)]) rfl ⟨rfl, trivial⟩
def Xh3 (r : Bool) : AV := .sv (.bool r)
def Xh2 (r : Bool) : Xbc := []
theorem Xiz {p0 r} (h : Xcu p0 = some r) : AC Try.prog 59 [.agg [.sv (.int .i64 p0.Seq), .sv (.bool p0.First), .sv (.bool p0.Last), .sv (.str p0.Bytes)]] [] (Xh3 r) (Xh2 r) := by
 refine Xak hT Try.func59 rfl fun C hC => ?_
 unfold Xcu at h
 refine Xab ?_
 iterate 2 refine kO hT hC ?_
 refine Vc.nil ?_
 refine kL [1,2] [16] [_,_] [_] ?_
 refine kA h (fun v1 => ([(2, .sv (.bool v1)), (1, .any)], [(16, none)])) (fun v1 h => ?_) fun v1 h => ?_
 refine Xaa ?_
 iterate 2 refine kO hT hC ?_
 refine kC hC [] Try.call48 h (fun _ => Xcv) fun q2 h => ?_
 refine kO hT hC ?_
 refine kS h ?_ ?_ <;> intro b1 h
 iterate 3 refine kI hT hC b1 ?_
 refine kE hC b1 [] Try.call48 h (fun _ => Xcv) fun q3 h => ?_
 refine kP hC true b1 ?_
 refine kO hT hC ?_
 exact Vc.nil kM
 iterate 4 refine kF hC b1 ?_
 refine kP hC false b1 ?_
 refine kO hT hC ?_
 exact Vc.nil kM
 exact Xaj kR
def Xi2 (r : Int) : AV := .sv (.int .i64 r)
def Xi1 (r : Int) : Xbc := []
theorem Xkl {p0 p1 r} (h : Xc9 p0 p1 = some r) : AC Try.prog 60 [.sv (.int .i64 p0), .sv (.int .i64 p1)] [] (Xi2 r) (Xi1 r) := by
 refine Xak hT Try.func60 rfl fun C hC => ?_
 unfold Xc9 at h
 refine Xab ?_
 refine kO hT hC ?_
 refine Vc.nil (Xa4 ?_)
 refine kL [0,1] [] [_,_] [] ?_
 refine kA h (fun v1 => ([(12, .sv (.bool v1))], [])) (fun v1 h => ?_) fun v1 h => ?_
 refine Xaa ?_
 refine kO hT hC ?_
 refine kC hC [] Try.call48 h (fun _ => Xcv) fun q2 h => ?_
 iterate 2 refine kO hT hC ?_
 refine kS h ?_ ?_ <;> intro b1 h
 refine kI hT hC (kn b1) ?_
 refine kE hC (kn b1) [] Try.call48 h (fun _ => Xcv) fun q3 h => ?_
 refine kI hT hC (kn b1) ?_
 refine kP hC false (kn b1) ?_
 exact Vc.nil kM
 iterate 3 refine kF hC (kn b1) ?_
 refine kP hC true (kn b1) ?_
 exact Vc.nil kM
 refine kS h ?_ ?_ <;> intro b2 h
 refine kt b2 (Xab ?_)
 refine kO hT hC ?_
 exact Vc.nil (Xaj (Xar kR))
 refine kf b2 (Xae (Xaf (Xab ?_)))
 iterate 3 refine kO hT hC ?_
 refine kQ hT hC h fun h => ?_
 refine kO hT hC ?_
 exact Vc.nil (Xaj kR)
def Xgd (r : ByteArray) : AV := .sv (.str r)
def Xgc (r : ByteArray) : Xbc := []
theorem Xg0 {p0 r} (h : Xb4 p0 = some r) : AC Try.prog 158 [.sv (.str p0)] [] (Xgd r) (Xgc r) := by
 refine Xak hT Try.func158 rfl fun C hC => ?_
 unfold Xb4 at h
 refine Xab ?_
 refine kO hT hC ?_
 refine kN ?_
 iterate 2 refine kO hT hC ?_
 refine Vc.nil (Xa4 (Xab ?_))
 refine kO hT hC ?_
 refine Vc.nil ?_
 refine kL [0,3,4] [96] [_,_,_] [_] ?_
 refine kX h (fun v4 => ([(4, .sv (.int .i64 v4.1))], [(96, some (.ints .u8 v4.2))])) (fun v8 => ([(0, .any), (4, .any)], [(96, some (.ints .u8 v8))])) (kW hC []) (fun v4 s h => ?_) fun v8 h => ?_
 unfold Xbg at h
 refine Xa4 (Xab ?_)
 iterate 4 refine kO hT hC ?_
 refine Vc.nil ?_
 refine kS h ?_ ?_ <;> intro b11 h
 refine kt b11 (Xae (Xaf (Xa4 (Xbj (Xab ?_)))))
 iterate 3 refine kO hT hC ?_
 refine Vc.nil ?_
 refine kL [0,3,4,5] [96] [_,_,_,_] [_] ?_
 refine kA h (fun v9 => ([(5, .any)], [(96, some (.ints .u8 v9))])) (fun v9 h => ?_) fun v9 h => ?_
 refine kL [0,3,4,5] [96] [_,_,_,_] [_] ?_
 refine kA h (fun v10 => ([(38, .sv (.bool v10)), (5, .any)], [])) (fun v10 h => ?_) fun v10 h => ?_
 refine Xaa ?_
 iterate 3 refine kO hT hC ?_
 refine kS h ?_ ?_ <;> intro b12 h
 iterate 3 refine kI hT hC b12 ?_
 iterate 2 refine kJ hT hC b12 h fun h => ?_
 refine kI hT hC b12 ?_
 refine kP hC true b12 ?_
 refine kO hT hC ?_
 refine kS h ?_ ?_ <;> intro b13 h
 iterate 3 refine kI hT hC b13 ?_
 iterate 2 refine kJ hT hC b13 h fun h => ?_
 refine kI hT hC b13 ?_
 refine kP hC true b13 ?_
 refine kO hT hC ?_
 refine kS h ?_ ?_ <;> intro b14 h
 iterate 2 refine kI hT hC b14 ?_
 refine kJ hT hC b14 h fun h => ?_
 refine kI hT hC b14 ?_
 refine kP hC true b14 ?_
 exact Vc.nil kM
 iterate 4 refine kF hC b14 ?_
 refine kP hC false b14 ?_
 exact Vc.nil kM
 iterate 6 refine kF hC b13 ?_
 refine kP hC false b13 ?_
 refine kO hT hC ?_
 iterate 4 refine kF hC rfl ?_
 refine kO hT hC ?_
 exact Vc.nil kM
 iterate 6 refine kF hC b12 ?_
 refine kP hC false b12 ?_
 refine kO hT hC ?_
 iterate 6 refine kF hC rfl ?_
 iterate 2 refine kO hT hC ?_
 iterate 4 refine kF hC rfl ?_
 refine kO hT hC ?_
 exact Vc.nil kM
 refine kS h ?_ ?_ <;> intro b15 h
 refine kt b15 (Xaa ?_)
 iterate 2 refine kO hT hC ?_
 refine kT hT hC h fun h => ?_
 refine kO hT hC ?_
 refine Vc.nil ?_
 obtain rfl := kj h
 exact Xgu (kW hC [(96, 656)])
 exact kf b15 (Xae kM)
 refine Xaa ?_
 iterate 3 refine kO hT hC ?_
 refine kQ hT hC h fun h => ?_
 refine kO hT hC ?_
 refine kT hT hC h fun h => ?_
 refine kO hT hC ?_
 refine Vc.nil (Xb2 (Xaf (Xaa ?_)))
 iterate 3 refine kO hT hC ?_
 refine Vc.nil ?_
 obtain rfl := kj h
 exact Xuf (kW hC [(96, 752)])
 exact kf b11 (Xa5 (Xb9 ku))
 refine Xaf (Xab ?_)
 iterate 3 refine kO hT hC ?_
 exact Vc.nil (Xaj kR)
def Xiy (r : (ByteArray × Bool)) : AV := .tup [.sv (.str r.1), .sv (.bool r.2)]
def Xix (r : (ByteArray × Bool)) : Xbc := []
theorem Xfe {p0 r} (h : Xcn p0 = some r) : AC Try.prog 139 [.sv (.str p0)] [] (Xiy r) (Xix r) := by
 refine Xak hT Try.func139 rfl fun C hC => ?_
 unfold Xcn at h
 refine Xab ?_
 iterate 2 refine kO hT hC ?_
 refine Vc.nil (Xa4 ?_)
 refine kL [0] [] [_] [] ?_
 refine kA h (fun v1 => ([(19, .sv (.bool v1))], [])) (fun v1 h => ?_) fun v1 h => ?_
 refine Xaa ?_
 iterate 4 refine kO hT hC ?_
 refine kS h ?_ ?_ <;> intro b1 h
 iterate 3 refine kF hC b1 ?_
 refine kP hC true b1 ?_
 refine kO hT hC ?_
 iterate 6 refine kF hC rfl ?_
 refine kO hT hC ?_
 exact Vc.nil kM
 iterate 3 refine kI hT hC b1 ?_
 refine kP hC false b1 ?_
 refine kO hT hC ?_
 refine kS h ?_ ?_ <;> intro b2 h
 iterate 6 refine kF hC b2 ?_
 refine kP hC true b2 ?_
 exact Vc.nil kM
 iterate 4 refine kI hT hC b2 ?_
 refine kJ hT hC b2 h fun h => ?_
 refine kI hT hC b2 ?_
 refine kP hC false b2 ?_
 exact Vc.nil kM
 refine kS h ?_ ?_ <;> intro b3 h
 refine kt b3 (Xab ?_)
 iterate 2 refine kO hT hC ?_
 exact Vc.nil (Xaj (Xar kR))
 refine kf b3 (Xae (Xaf (Xab ?_)))
 refine kO hT hC ?_
 refine kC hC [] Try.call158 h (fun _ => Xg0) fun q2 h => ?_
 iterate 2 refine kO hT hC ?_
 exact Vc.nil (Xaj kR)
def Xgz (r : (ByteArray × Bool)) : AV := .tup [.sv (.str r.1), .sv (.bool r.2)]
def Xgy (r : (ByteArray × Bool)) : Xbc := []
theorem Xh5 {p0 r} (h : Xb1 p0 = some r) : AC Try.prog 138 [.sv (.str p0)] [] (Xgz r) (Xgy r) := by
 refine Xak hT Try.func138 rfl fun C hC => ?_
 unfold Xb1 at h
 refine Xab ?_
 iterate 2 refine kO hT hC ?_
 refine Vc.nil (Xa4 (Xab ?_))
 iterate 3 refine kO hT hC ?_
 refine Vc.nil ?_
 refine kS h ?_ ?_ <;> intro b1 h
 refine kt b1 (Xab ?_)
 iterate 2 refine kO hT hC ?_
 exact Vc.nil (Xaj (Xar kR))
 refine kf b1 (Xae (Xaf (Xab ?_)))
 iterate 2 refine kO hT hC ?_
 refine Vc.nil (Xa4 (Xab ?_))
 refine kO hT hC ?_
 refine Vc.nil ?_
 refine kL [0,4,5] [176] [_,_,_] [_] ?_
 refine kX h (fun v4 => ([(5, .sv (.int .i64 v4.1))], [(176, some (.ints .u8 v4.2))])) (fun v8 => ([(5, .any)], [(176, some (.ints .u8 v8))])) (kW hC []) (fun v4 s h => ?_) fun v8 h => ?_
 unfold Xa3 at h
 refine Xa4 (Xab ?_)
 iterate 4 refine kO hT hC ?_
 refine Vc.nil ?_
 refine kS h ?_ ?_ <;> intro b12 h
 refine kt b12 (Xae (Xaf ?_))
 refine kL [0,4,5] [176] [_,_,_] [_] ?_
 refine kA h (fun v9 => ([], [(176, some (.ints .u8 v9))])) (fun v9 h => ?_) fun v9 h => ?_
 refine Xbj (Xa4 ?_)
 refine kL [0,4,5] [176] [_,_,_] [_] ?_
 refine kA h (fun v10 => ([(39, .sv (.bool v10))], [])) (fun v10 h => ?_) fun v10 h => ?_
 refine Xaa ?_
 iterate 3 refine kO hT hC ?_
 refine kS h ?_ ?_ <;> intro b13 h
 iterate 2 refine kI hT hC b13 ?_
 refine kJ hT hC b13 h fun h => ?_
 refine kI hT hC b13 ?_
 refine kP hC true b13 ?_
 refine kO hT hC ?_
 refine kS h ?_ ?_ <;> intro b14 h
 iterate 3 refine kI hT hC b14 ?_
 refine kJ hT hC b14 h fun h => ?_
 refine kI hT hC b14 ?_
 refine kP hC true b14 ?_
 refine kO hT hC ?_
 refine kS h ?_ ?_ <;> intro b15 h
 iterate 3 refine kI hT hC b15 ?_
 refine kJ hT hC b15 h fun h => ?_
 refine kI hT hC b15 ?_
 refine kP hC true b15 ?_
 exact Vc.nil kM
 iterate 5 refine kF hC b15 ?_
 refine kP hC false b15 ?_
 exact Vc.nil kM
 iterate 5 refine kF hC b14 ?_
 refine kP hC false b14 ?_
 refine kO hT hC ?_
 iterate 5 refine kF hC rfl ?_
 refine kO hT hC ?_
 exact Vc.nil kM
 iterate 4 refine kF hC b13 ?_
 refine kP hC false b13 ?_
 refine kO hT hC ?_
 iterate 5 refine kF hC rfl ?_
 iterate 2 refine kO hT hC ?_
 iterate 5 refine kF hC rfl ?_
 refine kO hT hC ?_
 exact Vc.nil kM
 refine kS h ?_ ?_ <;> intro b16 h
 exact kt b16 (Xa5 (Xb9 (Xms kM)))
 refine kf b16 (Xae (Xaf (Xaa ?_)))
 iterate 3 refine kO hT hC ?_
 refine kQ hT hC h fun h => ?_
 refine kO hT hC ?_
 refine kT hT hC h fun h => ?_
 refine kO hT hC ?_
 refine Vc.nil (Xb2 ?_)
 obtain rfl := kj h
 exact Xgu (kW hC [(176, 720)])
 refine Xaa ?_
 iterate 3 refine kO hT hC ?_
 exact Vc.nil kG
 exact kf b12 (Xa5 (Xb9 ku))
 refine Xaf (Xab ?_)
 iterate 2 refine kO hT hC ?_
 refine kC hC [] Try.call139 h (fun _ => Xfe) fun q12 h => ?_
 iterate 5 refine kO hT hC ?_
 refine Vc.nil (Xa4 ?_)
 refine kL [0,4,6,7] [176] [_,_,_,_] [_] ?_
 refine kA h (fun v13 => ([(58, .sv (.bool v13)), (0, .any), (6, .any), (7, .any)], [])) (fun v13 h => ?_) fun v13 h => ?_
 refine Xaa ?_
 iterate 3 refine kO hT hC ?_
 refine kS h ?_ ?_ <;> intro b17 h
 iterate 3 refine kI hT hC (kn b17) ?_
 refine kP hC false (kn b17) ?_
 exact Vc.nil kM
 iterate 3 refine kF hC (kn b17) ?_
 refine kP hC true (kn b17) ?_
 exact Vc.nil kM
 refine kS h ?_ ?_ <;> intro b18 h
 refine kt b18 (Xab ?_)
 iterate 2 refine kO hT hC ?_
 exact Vc.nil (Xaj (Xar kR))
 refine kf b18 (Xae (Xaf (Xab ?_)))
 iterate 4 refine kO hT hC ?_
 exact Vc.nil (Xaj kR)
def Xi6 (r : (List ByteArray)) : AV := .own 16
def Xi5 (r : (List ByteArray)) : Xbc := [(16, .row Xad r)]
theorem Xkn {p0 r} (h : Xec p0 = some r) : AC Try.prog 100 [.sv (.str p0)] [] (Xi6 r) (Xi5 r) := by
 refine Xak hT Try.func100 rfl fun C hC => ?_
 unfold Xec at h
 refine Xab ?_
 refine kO hT hC ?_
 refine kN ?_
 iterate 2 refine kO hT hC ?_
 refine Vc.nil (Xa4 (Xab ?_))
 iterate 3 refine kO hT hC ?_
 refine Vc.nil ?_
 refine kS h ?_ ?_ <;> intro b1 h
 refine kt b1 (Xab ?_)
 iterate 2 refine kO hT hC ?_
 refine Vc.nil (Xaj (Xar ?_))
 obtain rfl := kj h
 exact Xg3 (τ := ⟨[(2, .own 16)], [(16, some (.row Xad ([] : List ByteArray)))]⟩) (kW hC [(16, 160)]) rfl ⟨rfl, trivial⟩
 refine kf b1 (Xae (Xaf (Xab ?_)))
 refine kO hT hC ?_
 refine Vc.nil (Xa4 (Xab ?_))
 refine kO hT hC ?_
 refine Vc.nil ?_
 refine kL [0,3,4,5] [160] [_,_,_,_] [_] ?_
 refine kX h (fun v17 => ([(4, .sv (.int .i64 v17.1)), (5, .sv (.int .i64 v17.2.1))], [(160, some (.row Xad v17.2.2))])) (fun v34 => ([(0, .any), (4, .any), (5, .any)], [(160, some (.row Xad v34))])) (kW hC []) (fun v17 s h => ?_) fun v34 h => ?_
 unfold Xan at h
 refine Xa4 (Xab ?_)
 iterate 4 refine kO hT hC ?_
 refine Vc.nil ?_
 refine kS h ?_ ?_ <;> intro b34 h
 refine kt b34 (Xae (Xaf ?_))
 refine kL [0,3,4,5] [160] [_,_,_,_] [_] ?_
 refine kA h (fun v35 => ([(4, .sv (.int .i64 v35.1))], [(160, some (.row Xad v35.2))])) (fun v35 h => ?_) fun v35 h => ?_
 refine Xbj ?_
 refine kL [0,3,4,5] [160] [_,_,_,_] [_] ?_
 refine kA h (fun v36 => ([(6, .sv (.bool v36))], [])) (fun v36 h => ?_) fun v36 h => ?_
 refine Xaa ?_
 iterate 6 refine kO hT hC ?_
 refine kS h ?_ ?_ <;> intro b35 h
 iterate 2 refine kI hT hC b35 ?_
 refine kJ hT hC b35 h fun h => ?_
 refine kI hT hC b35 ?_
 refine kP hC true b35 ?_
 refine kO hT hC ?_
 refine kS h ?_ ?_ <;> intro b36 h
 iterate 3 refine kI hT hC b36 ?_
 refine kJ hT hC b36 h fun h => ?_
 refine kI hT hC b36 ?_
 refine kP hC true b36 ?_
 refine kO hT hC ?_
 refine kS h ?_ ?_ <;> intro b37 h
 iterate 3 refine kI hT hC b37 ?_
 refine kJ hT hC b37 h fun h => ?_
 refine kI hT hC b37 ?_
 refine kP hC true b37 ?_
 refine kO hT hC ?_
 exact Vc.nil kM
 iterate 5 refine kF hC b37 ?_
 refine kP hC false b37 ?_
 refine kO hT hC ?_
 exact Vc.nil kM
 iterate 5 refine kF hC b36 ?_
 refine kP hC false b36 ?_
 refine kO hT hC ?_
 iterate 5 refine kF hC rfl ?_
 iterate 2 refine kO hT hC ?_
 exact Vc.nil kM
 iterate 4 refine kF hC b35 ?_
 refine kP hC false b35 ?_
 refine kO hT hC ?_
 iterate 5 refine kF hC rfl ?_
 iterate 2 refine kO hT hC ?_
 iterate 5 refine kF hC rfl ?_
 iterate 2 refine kO hT hC ?_
 exact Vc.nil kM
 refine Xa4 ?_
 refine kL [0,3,4,5,6] [160] [_,_,_,_,_] [_] ?_
 refine kA h (fun v37 => ([(53, .sv (.bool v37)), (6, .any)], [])) (fun v37 h => ?_) fun v37 h => ?_
 refine Xaa ?_
 iterate 3 refine kO hT hC ?_
 refine kS h ?_ ?_ <;> intro b38 h
 iterate 4 refine kF hC (kn b38) ?_
 refine kP hC false (kn b38) ?_
 exact Vc.nil kM
 iterate 4 refine kI hT hC (kn b38) ?_
 refine kP hC true (kn b38) ?_
 exact Vc.nil kM
 refine kS h ?_ ?_ <;> intro b39 h
 exact kt b39 (Xa5 (Xb9 (Xms kM)))
 refine kf b39 (Xae (Xaf ?_))
 refine kL [0,3,4,5] [160] [_,_,_,_] [_] ?_
 refine kA h (fun v38 => ([(4, .any)], [(160, some (.row Xad v38))])) (fun v38 h => ?_) fun v38 h => ?_
 refine kL [0,3,4,5] [160] [_,_,_,_] [_] ?_
 refine kA h (fun v39 => ([(60, .sv (.bool v39))], [])) (fun v39 h => ?_) fun v39 h => ?_
 refine Xaa ?_
 iterate 3 refine kO hT hC ?_
 refine kS h ?_ ?_ <;> intro b40 h
 iterate 3 refine kI hT hC b40 ?_
 refine kP hC true b40 ?_
 exact Vc.nil kM
 iterate 3 refine kF hC b40 ?_
 refine kP hC false b40 ?_
 exact Vc.nil kM
 refine kS h ?_ ?_ <;> intro b41 h
 refine kt b41 (Xab ?_)
 iterate 2 refine kO hT hC ?_
 refine Vc.nil (Xa4 ?_)
 refine kL [0,3,4,5,7] [160] [_,_,_,_,_] [_] ?_
 refine kX h (fun v42 => ([(7, .sv (.int .i64 v42))], [])) (fun v45 => ([(7, .sv (.int .i64 v45))], [])) (kW hC []) (fun v42 s h => ?_) fun v45 h => ?_
 unfold Xaq at h
 refine Xa4 ?_
 refine kL [0,3,4,5,7] [160] [_,_,_,_,_] [_] ?_
 refine kA h (fun v46 => ([(71, .sv (.bool v46))], [])) (fun v46 h => ?_) fun v46 h => ?_
 refine Xaa ?_
 iterate 4 refine kO hT hC ?_
 refine kS h ?_ ?_ <;> intro b46 h
 iterate 3 refine kI hT hC b46 ?_
 refine kJ hT hC b46 h fun h => ?_
 refine kI hT hC b46 ?_
 refine kP hC true b46 ?_
 exact Vc.nil kM
 iterate 5 refine kF hC b46 ?_
 refine kP hC false b46 ?_
 exact Vc.nil kM
 refine kS h ?_ ?_ <;> intro b47 h
 refine kt b47 (Xae (Xaf (Xbj (Xaa ?_))))
 iterate 3 refine kO hT hC ?_
 exact Vc.nil (Xb2 kG)
 exact kf b47 (Xa5 (Xb9 ku))
 refine Xaf (Xab ?_)
 iterate 3 refine kO hT hC ?_
 refine kQ hT hC h fun h => ?_
 refine kC hC [] Try.call138 h (fun _ => Xh5) fun q48 h => ?_
 iterate 5 refine kO hT hC ?_
 refine Vc.nil ?_
 refine kL [0,3,5,8,9] [160] [_,_,_,_,_] [_] ?_
 refine kA h (fun v49 => ([(87, .sv (.bool v49)), (9, .any)], [])) (fun v49 h => ?_) fun v49 h => ?_
 refine Xaa ?_
 iterate 2 refine kO hT hC ?_
 refine kS h ?_ ?_ <;> intro b48 h
 iterate 3 refine kI hT hC b48 ?_
 refine kP hC true b48 ?_
 exact Vc.nil kM
 iterate 3 refine kF hC b48 ?_
 refine kP hC false b48 ?_
 exact Vc.nil kM
 refine kS h ?_ ?_ <;> intro b49 h
 refine kt b49 (Xaa ?_)
 iterate 3 refine kO hT hC ?_
 obtain ⟨hq, h⟩ := Xbk h
 refine Xqa hT hC rfl rfl rfl rfl ⟨fun _ _ => rfl, by rw [Xdq]; exact hq⟩ ?_
 rw [Xdq]
 refine kO hT hC ?_
 refine Vc.nil ?_
 obtain rfl := kj h
 exact Xgu (kW hC [(160, 1456)])
 exact kf b49 (Xae kM)
 exact kf b41 (Xae kM)
 refine Xaa ?_
 iterate 3 refine kO hT hC ?_
 exact Vc.nil (Xb2 kM)
 refine Xaa ?_
 iterate 3 refine kO hT hC ?_
 exact Vc.nil kG
 exact kf b34 (Xa5 (Xb9 ku))
 refine Xaf (Xab ?_)
 iterate 2 refine kO hT hC ?_
 refine Vc.nil (Xaj ?_)
 obtain rfl := kj h
 exact Xg3 (τ := ⟨[(2, .own 16)], [(16, some (.row Xad v34))]⟩) (kW hC [(16, 160)]) rfl ⟨rfl, trivial⟩
def Xfh (r : (ByteArray × Bool)) : AV := .tup [.sv (.str r.1), .sv (.bool r.2)]
def Xfg (r : (ByteArray × Bool)) : Xbc := []
theorem Xk5 {p0 r} (h : Xd0 p0 = some r) : AC Try.prog 101 [.sv (Xad.sv p0)] [] (Xfh r) (Xfg r) := by
 refine Xak hT Try.func101 rfl fun C hC => ?_
 unfold Xd0 at h
 refine Xab ?_
 iterate 2 refine kO hT hC ?_
 refine Vc.nil (Xa4 (Xab ?_))
 iterate 3 refine kO hT hC ?_
 refine Vc.nil ?_
 refine kS h ?_ ?_ <;> intro b1 h
 refine kt b1 (Xab ?_)
 iterate 2 refine kO hT hC ?_
 exact Vc.nil (Xaj (Xar kR))
 refine kf b1 (Xae (Xaf (Xab ?_)))
 iterate 2 refine kO hT hC ?_
 refine Vc.nil (Xa4 (Xab ?_))
 refine kO hT hC ?_
 refine Vc.nil ?_
 refine kL [0,4,5] [176] [_,_,_] [_] ?_
 obtain ⟨o8, hl, h⟩ := Xa9 h
 refine Xe1 (fun v3 => ([(5, .sv (.int .i64 v3.1))], [(176, some (.ints .u8 v3.2))])) (fun v6 => ([(0, .any), (5, .any)], [(176, some (.ints .u8 v6))])) (fun r => Xjf C T Try.f101.results.toList (Xfh r) (Xfg r)) hl ?_ ?_ ?_ ?_
 try dsimp only
 apply Xed hC []
 exact co
 rfl
 decide
 rfl
 intro v3 s hs
 have h := hs
 unfold Xb0 at h
 refine Xa4 (Xab ?_)
 iterate 4 refine kO hT hC ?_
 refine Vc.nil ?_
 refine kS h ?_ ?_ <;> intro b8 h
 refine kt b8 (Xae (Xaf (Xa4 (Xbj (Xab ?_)))))
 iterate 2 refine kO hT hC ?_
 refine kQ hT hC h fun h => ?_
 refine kO hT hC ?_
 refine kC hC [] Try.call139 h (fun _ => Xfe) fun q7 h => ?_
 iterate 5 refine kO hT hC ?_
 refine Vc.nil (Xa4 (Xab ?_))
 iterate 2 refine kO hT hC ?_
 refine Vc.nil ?_
 refine kS h ?_ ?_ <;> intro b9 h
 refine kt b9 (Xab ?_)
 iterate 2 refine kO hT hC ?_
 refine Vc.nil (Xaj (Xar (Xjk (Xar ?_))))
 obtain rfl := kj h
 refine Xj7 (Xj5 ?_)
 exact Xg3 (Xem.refl _) rfl trivial
 refine kf b9 (Xae (Xaf (Xab ?_)))
 iterate 2 refine kO hT hC ?_
 refine kT hT hC h fun h => ?_
 refine kO hT hC ?_
 refine kN ?_
 iterate 2 refine kO hT hC ?_
 refine kT hT hC h fun h => ?_
 refine kO hT hC ?_
 refine kN ?_
 iterate 3 refine kO hT hC ?_
 refine Vc.nil ?_
 refine kS h ?_ ?_ <;> intro b10 h
 refine kt b10 (Xab ?_)
 iterate 2 refine kO hT hC ?_
 refine Vc.nil (Xaj (Xjk (Xar ?_)))
 obtain rfl := kj h
 refine Xj7 (Xj5 ?_)
 exact Xg3 (Xem.refl _) rfl trivial
 refine kf b10 (Xae (Xb2 (Xaf (Xaa ?_))))
 iterate 3 refine kO hT hC ?_
 refine Vc.nil ?_
 obtain rfl := kj h
 exact Xuf (kW hC [(176, 528)])
 exact kf b8 (Xa5 (Xb9 kb))
 intro v6 e
 subst e
 refine Xaf (Xab ?_)
 iterate 4 refine kO hT hC ?_
 exact Vc.nil (Xaj kR)
 intro r' σ' e hE
 subst e
 obtain rfl := kj h
 refine Xar ?_
 exact hE
def Xh8 (r : ((List ByteArray) × Bool)) : AV := .tup [.own 16, .sv (.bool r.2)]
def Xh7 (r : ((List ByteArray) × Bool)) : Xbc := [(16, .row Xad r.1)]
theorem Xi3 {p0 r} (h : Xb6 p0 = some r) : AC Try.prog 61 [.sv (.str p0)] [] (Xh8 r) (Xh7 r) := by
 refine Xak hT Try.func61 rfl fun C hC => ?_
 unfold Xb6 at h
 refine Xab ?_
 iterate 2 refine kO hT hC ?_
 refine kN ?_
 refine kO hT hC ?_
 refine kC hC [(16, 128)] Try.call100 h (fun _ => Xkn) fun q1 h => ?_
 refine kO hT hC ?_
 refine kN ?_
 refine kO hT hC ?_
 refine kC hC [] Try.call101 h (fun _ => Xk5) fun q2 h => ?_
 iterate 5 refine kO hT hC ?_
 refine Vc.nil (Xa4 ?_)
 refine kL [0,4,5,6] [128] [_,_,_,_] [_] ?_
 refine kA h (fun v3 => ([(20, .sv (.bool v3)), (0, .any), (5, .any), (6, .any)], [])) (fun v3 h => ?_) fun v3 h => ?_
 refine Xaa ?_
 iterate 3 refine kO hT hC ?_
 refine kS h ?_ ?_ <;> intro b1 h
 iterate 3 refine kI hT hC (kn b1) ?_
 refine kP hC false (kn b1) ?_
 exact Vc.nil kM
 iterate 3 refine kF hC (kn b1) ?_
 refine kP hC true (kn b1) ?_
 exact Vc.nil kM
 refine kS h ?_ ?_ <;> intro b2 h
 refine kt b2 (Xab ?_)
 iterate 3 refine kO hT hC ?_
 refine Vc.nil (Xaj (Xar ?_))
 obtain rfl := kj h
 exact Xg3 (τ := ⟨[(2, .own 16), (3, .sv (.bool false))], [(16, some (.row Xad ([] : List ByteArray)))]⟩) (kW hC [(16, 336)]) rfl ⟨rfl, trivial⟩
 refine kf b2 (Xae (Xaf (Xab ?_)))
 iterate 3 refine kO hT hC ?_
 refine Vc.nil (Xaj ?_)
 obtain rfl := kj h
 exact Xg3 (τ := ⟨[(2, .own 16), (3, .sv (.bool true))], [(16, some (.row Xad q1))]⟩) (kW hC [(16, 128)]) rfl ⟨rfl, trivial⟩
def Xeb (r : ((List ByteArray) × Bool)) : AV := .tup [.own 16, .sv (.bool r.2)]
def Xea (r : ((List ByteArray) × Bool)) : Xbc := [(16, .row Xad r.1)]
theorem Xh4 {p0 r} (h : Xcf p0 = some r) : AC Try.prog 17 [.sv (Xax.sv p0)] [] (Xeb r) (Xea r) := by
 refine Xak hT Try.func17 rfl fun C hC => ?_
 unfold Xcf at h
 refine Xab ?_
 iterate 2 refine kO hT hC ?_
 refine kN ?_
 refine kO hT hC ?_
 refine Vc.nil (Xa4 (Xab ?_))
 iterate 2 refine kO hT hC ?_
 refine kC hC [] Try.call48 h (fun _ => Xcv) fun q1 h => ?_
 refine kO hT hC ?_
 refine Vc.nil ?_
 refine kS h ?_ ?_ <;> intro b1 h
 refine kt b1 (Xab ?_)
 iterate 3 refine kO hT hC ?_
 refine Vc.nil (Xaj (Xar ?_))
 obtain rfl := kj h
 exact Xg3 (τ := ⟨[(2, .own 16), (3, .sv (.bool false))], [(16, some (.row Xad ([] : List ByteArray)))]⟩) (kW hC [(16, 160)]) rfl ⟨rfl, trivial⟩
 refine kf b1 (Xae (Xaf (Xa4 (Xab ?_))))
 refine kO hT hC ?_
 refine Vc.nil ?_
 refine kL [0,4,5] [] [_,_,_] [] ?_
 obtain ⟨o18, hl, h⟩ := Xa9 h
 refine Xe1 (fun v7 => ([(4, .sv (.str v7.1)), (5, .sv (.int .i64 v7.2))], [])) (fun v13 => ([(4, .sv (.str v13)), (0, .any), (5, .any)], [])) (fun r => Xjf C T Try.f17.results.toList (Xeb r) (Xea r)) hl ?_ ?_ ?_ ?_
 try dsimp only
 apply Xed hC []
 exact co
 rfl
 decide
 rfl
 intro v7 s hs
 have h := hs
 unfold Xau at h
 refine Xa4 (Xab ?_)
 iterate 4 refine kO hT hC ?_
 refine Vc.nil ?_
 refine kS h ?_ ?_ <;> intro b14 h
 refine kt b14 (Xae (Xaf (Xa4 (Xbj (Xa4 ?_)))))
 refine kL [0,4,5] [] [_,_,_] [] ?_
 refine kA h (fun v14 => ([(45, .sv (.bool v14))], [])) (fun v14 h => ?_) fun v14 h => ?_
 refine Xaa ?_
 iterate 2 refine kO hT hC ?_
 refine kQ hT hC h fun h => ?_
 refine kO hT hC ?_
 refine kC hC [] Try.call59 h (fun _ => Xiz) fun q15 h => ?_
 iterate 2 refine kO hT hC ?_
 refine kS h ?_ ?_ <;> intro b15 h
 iterate 2 refine kI hT hC (kn b15) ?_
 refine kJ hT hC (kn b15) h fun h => ?_
 iterate 5 refine kI hT hC (kn b15) ?_
 refine kP hC false (kn b15) ?_
 refine kO hT hC ?_
 refine kS h ?_ ?_ <;> intro b16 h
 iterate 2 refine kI hT hC (kn b16) ?_
 refine kJ hT hC (kn b16) h fun h => ?_
 iterate 8 refine kI hT hC (kn b16) ?_
 refine kP hC false (kn b16) ?_
 exact Vc.nil kM
 iterate 11 refine kF hC (kn b16) ?_
 refine kP hC true (kn b16) ?_
 exact Vc.nil kM
 iterate 8 refine kF hC (kn b15) ?_
 refine kP hC true (kn b15) ?_
 refine kO hT hC ?_
 iterate 11 refine kF hC rfl ?_
 refine kO hT hC ?_
 exact Vc.nil kM
 refine kS h ?_ ?_ <;> intro b17 h
 refine kt b17 (Xab ?_)
 iterate 3 refine kO hT hC ?_
 refine Vc.nil (Xaj (Xar (Xjk (Xar ?_))))
 obtain rfl := kj h
 refine Xj7 (Xj5 ?_)
 refine Xg3 (τ := ⟨[(2, .own 16), (3, .sv (.bool false))], [(16, some (.row Xad ([] : List ByteArray)))]⟩) ?_ rfl ⟨rfl, trivial⟩
 apply Xed hC [(16, 736)]
 exact co
 rfl
 decide
 rfl
 refine kf b17 (Xae (Xaf (Xa4 ?_)))
 refine kL [0,4,5] [] [_,_,_] [] ?_
 refine kA h (fun v16 => ([(63, .sv (.bool v16))], [])) (fun v16 h => ?_) fun v16 h => ?_
 refine Xn1 hm ?_
 iterate 3 refine kO hT hC ?_
 refine kS h ?_ ?_ <;> intro b18 h
 iterate 2 refine kI hT hC b18 ?_
 refine kJ hT hC b18 h fun h => ?_
 iterate 5 refine kI hT hC b18 ?_
 refine kJ hT hC b18 h fun h => ?_
 iterate 2 refine kI hT hC b18 ?_
 refine kE hC b18 [] Try.call60 h (fun _ => Xkl) fun q17 h => ?_
 refine kI hT hC b18 ?_
 refine kP hC true b18 ?_
 exact kD kM
 iterate 13 refine kF hC b18 ?_
 refine kP hC false b18 ?_
 exact kD kM
 refine kS h ?_ ?_ <;> intro b19 h
 refine kt b19 (Xab ?_)
 iterate 3 refine kO hT hC ?_
 refine Vc.nil (Xaj (Xar (Xjk (Xar ?_))))
 obtain rfl := kj h
 refine Xj7 (Xj5 ?_)
 refine Xg3 (τ := ⟨[(2, .own 16), (3, .sv (.bool false))], [(16, some (.row Xad ([] : List ByteArray)))]⟩) ?_ rfl ⟨rfl, trivial⟩
 apply Xed hC [(16, 1024)]
 exact co
 rfl
 decide
 rfl
 refine kf b19 (Xae (Xaf (Xaa ?_)))
 iterate 3 refine kO hT hC ?_
 refine kQ hT hC h fun h => ?_
 iterate 2 refine kO hT hC ?_
 refine kQ hT hC h fun h => ?_
 refine kO hT hC ?_
 refine Vc.nil (Xb2 (Xaf (Xaa ?_)))
 iterate 3 refine kO hT hC ?_
 exact Vc.nil kG
 exact kf b14 (Xa5 (Xb9 kb))
 intro v13 e
 subst e
 refine Xaf (Xab ?_)
 refine kO hT hC ?_
 refine kC hC [(16, 1168)] Try.call61 h (fun _ => Xi3) fun q19 h => ?_
 iterate 4 refine kO hT hC ?_
 refine Vc.nil (Xaj ?_)
 obtain rfl := kj h
 exact Xg3 (τ := ⟨[(2, .own 16), (3, .sv (.bool q19.2))], [(16, some (.row Xad q19.1))]⟩) (kW hC [(16, 1168)]) rfl ⟨rfl, trivial⟩
 intro r' σ' e hE
 subst e
 obtain rfl := kj h
 refine Xar ?_
 exact hE
def Xhm (r : Bool) : AV := .sv (.bool r)
def Xhl (r : Bool) : Xbc := []
theorem Xdd {p0 r} (h : Xbs p0 = some r) : AC Try.prog 102 [.sv (.int .i64 p0)] [] (Xhm r) (Xhl r) := by
 refine Xak hT Try.func102 rfl fun C hC => ?_
 unfold Xbs at h
 refine Xab ?_
 refine kO hT hC ?_
 refine kN ?_
 refine kO hT hC ?_
 refine kC hC [] Try.call52 h (fun _ => Xee) fun q1 h => ?_
 refine kO hT hC ?_
 exact Vc.nil (Xaj kR)
def Xhh (r : Bool) : AV := .sv (.bool r)
def Xhg (r : Bool) : Xbc := []
theorem Xii {p0 r} (h : Xco p0 = some r) : AC Try.prog 63 [.agg [.sv (.int .i64 p0.Seq), .sv (.bool p0.First), .sv (.bool p0.Last), .sv (.str p0.Bytes)]] [] (Xhh r) (Xhg r) := by
 refine Xak hT Try.func63 rfl fun C hC => ?_
 unfold Xco at h
 refine Xab ?_
 iterate 2 refine kO hT hC ?_
 refine Vc.nil ?_
 refine kL [1,2] [16] [_,_] [_] ?_
 refine kA h (fun v1 => ([(2, .sv (.bool v1)), (1, .any)], [(16, none)])) (fun v1 h => ?_) fun v1 h => ?_
 refine Xaa ?_
 iterate 2 refine kO hT hC ?_
 refine kC hC [] Try.call102 h (fun _ => Xdd) fun q2 h => ?_
 refine kO hT hC ?_
 refine kS h ?_ ?_ <;> intro b1 h
 iterate 3 refine kI hT hC b1 ?_
 refine kE hC b1 [] Try.call52 h (fun _ => Xee) fun q3 h => ?_
 refine kP hC true b1 ?_
 refine kO hT hC ?_
 exact Vc.nil kM
 iterate 4 refine kF hC b1 ?_
 refine kP hC false b1 ?_
 refine kO hT hC ?_
 exact Vc.nil kM
 exact Xaj kR
def Xil (r : Int) : AV := .sv (.int .i64 r)
def Xik (r : Int) : Xbc := []
theorem Xjt {p0 p1 r} (h : Xc7 p0 p1 = some r) : AC Try.prog 64 [.sv (.int .i64 p0), .sv (.int .i64 p1)] [] (Xil r) (Xik r) := by
 refine Xak hT Try.func64 rfl fun C hC => ?_
 unfold Xc7 at h
 refine Xab ?_
 refine kO hT hC ?_
 refine Vc.nil (Xa4 ?_)
 refine kL [0,1] [] [_,_] [] ?_
 refine kA h (fun v1 => ([(12, .sv (.bool v1))], [])) (fun v1 h => ?_) fun v1 h => ?_
 refine Xaa ?_
 refine kO hT hC ?_
 refine kC hC [] Try.call102 h (fun _ => Xdd) fun q2 h => ?_
 iterate 2 refine kO hT hC ?_
 refine kS h ?_ ?_ <;> intro b1 h
 refine kI hT hC (kn b1) ?_
 refine kE hC (kn b1) [] Try.call102 h (fun _ => Xdd) fun q3 h => ?_
 refine kI hT hC (kn b1) ?_
 refine kP hC false (kn b1) ?_
 exact Vc.nil kM
 iterate 3 refine kF hC (kn b1) ?_
 refine kP hC true (kn b1) ?_
 exact Vc.nil kM
 refine kS h ?_ ?_ <;> intro b2 h
 refine kt b2 (Xab ?_)
 refine kO hT hC ?_
 exact Vc.nil (Xaj (Xar kR))
 refine kf b2 (Xae (Xaf (Xab ?_)))
 iterate 3 refine kO hT hC ?_
 refine kQ hT hC h fun h => ?_
 refine kO hT hC ?_
 exact Vc.nil (Xaj kR)
def Xjx (r : (List Int)) : AV := .own 16
def Xjw (r : (List Int)) : Xbc := [(16, .ints .i64 r)]
theorem Xk0 {p0 r} (h : Xdv p0 = some r) : AC Try.prog 103 [.sv (.str p0)] [] (Xjx r) (Xjw r) := by
 refine Xak hT Try.func103 rfl fun C hC => ?_
 unfold Xdv at h
 refine Xab ?_
 refine kO hT hC ?_
 refine kN ?_
 iterate 2 refine kO hT hC ?_
 refine Vc.nil (Xa4 (Xab ?_))
 refine kO hT hC ?_
 refine Vc.nil ?_
 refine kL [0,3,4] [80] [_,_,_] [_] ?_
 refine kX h (fun v3 => ([(4, .sv (.int .i64 v3.1))], [(80, some (.ints .i64 v3.2))])) (fun v6 => ([(0, .any), (4, .any)], [(80, some (.ints .i64 v6))])) (kW hC []) (fun v3 s h => ?_) fun v6 h => ?_
 unfold Xbh at h
 refine Xa4 (Xab ?_)
 iterate 5 refine kO hT hC ?_
 refine Vc.nil ?_
 refine kS h ?_ ?_ <;> intro b5 h
 refine kt b5 (Xae (Xaf ?_))
 refine kL [0,3,4] [80] [_,_,_] [_] ?_
 refine kA h (fun v7 => ([], [(80, some (.ints .i64 v7))])) (fun v7 h => ?_) fun v7 h => ?_
 refine Xbj (Xab ?_)
 iterate 4 refine kO hT hC ?_
 refine kQ hT hC h fun h => ?_
 refine kO hT hC ?_
 refine Vc.nil ?_
 refine kS h ?_ ?_ <;> intro b6 h
 refine kt b6 (Xaa ?_)
 iterate 3 refine kO hT hC ?_
 refine kT hT hC h fun h => ?_
 refine kO hT hC ?_
 refine Vc.nil (Xb2 ?_)
 obtain rfl := kj h
 exact Xgu (kW hC [(80, 352)])
 exact kf b6 (Xae (Xb2 kM))
 refine Xaa ?_
 iterate 3 refine kO hT hC ?_
 exact Vc.nil kG
 exact kf b5 (Xa5 (Xb9 ku))
 refine Xaf (Xab ?_)
 iterate 2 refine kO hT hC ?_
 refine Vc.nil (Xaj ?_)
 obtain rfl := kj h
 exact Xg3 (τ := ⟨[(2, .own 16)], [(16, some (.ints .i64 v6))]⟩) (kW hC [(16, 80)]) rfl ⟨rfl, trivial⟩
def Xih (r : (ByteArray × Bool)) : AV := .tup [.sv (.str r.1), .sv (.bool r.2)]
def Xig (r : (ByteArray × Bool)) : Xbc := []
theorem Xe8 {p0 r} (h : Xcl p0 = some r) : AC Try.prog 140 [.sv (.str p0)] [] (Xih r) (Xig r) := by
 refine Xak hT Try.func140 rfl fun C hC => ?_
 unfold Xcl at h
 refine Xab ?_
 iterate 2 refine kO hT hC ?_
 refine Vc.nil (Xa4 ?_)
 refine kL [0] [] [_] [] ?_
 refine kA h (fun v1 => ([(21, .sv (.bool v1))], [])) (fun v1 h => ?_) fun v1 h => ?_
 refine Xaa ?_
 iterate 3 refine kO hT hC ?_
 refine kS h ?_ ?_ <;> intro b1 h
 iterate 3 refine kF hC b1 ?_
 refine kP hC true b1 ?_
 refine kO hT hC ?_
 iterate 6 refine kF hC rfl ?_
 refine kO hT hC ?_
 exact Vc.nil kM
 iterate 3 refine kI hT hC b1 ?_
 refine kP hC false b1 ?_
 refine kO hT hC ?_
 refine kS h ?_ ?_ <;> intro b2 h
 iterate 6 refine kF hC b2 ?_
 refine kP hC true b2 ?_
 exact Vc.nil kM
 iterate 4 refine kI hT hC b2 ?_
 refine kJ hT hC b2 h fun h => ?_
 refine kI hT hC b2 ?_
 refine kP hC false b2 ?_
 exact Vc.nil kM
 refine kS h ?_ ?_ <;> intro b3 h
 refine kt b3 (Xab ?_)
 iterate 2 refine kO hT hC ?_
 exact Vc.nil (Xaj (Xar kR))
 refine kf b3 (Xae (Xaf (Xab ?_)))
 iterate 4 refine kO hT hC ?_
 refine kQ hT hC h fun h => ?_
 refine kO hT hC ?_
 obtain ⟨hq, h⟩ := Xbk h
 refine Xqa hT hC rfl rfl rfl rfl ⟨hq.1, hq.2.1, hq.2.2, by decide⟩ ?_
 refine kO hT hC ?_
 refine kN ?_
 refine kO hT hC ?_
 refine Vc.nil (Xa4 (Xab ?_))
 refine kO hT hC ?_
 refine Vc.nil ?_
 refine kL [0,4,5,6] [448] [_,_,_,_] [_] ?_
 refine kX h (fun v6 => ([(5, .sv (.int .i64 v6.1)), (6, .sv (.int .i64 v6.2.1))], [(448, some (.ints .u8 v6.2.2))])) (fun v11 => ([(0, .any), (5, .any), (6, .any)], [(448, some (.ints .u8 v11))])) (kW hC []) (fun v6 s h => ?_) fun v11 h => ?_
 unfold Xbl at h
 refine Xa4 (Xab ?_)
 iterate 4 refine kO hT hC ?_
 refine Vc.nil ?_
 refine kS h ?_ ?_ <;> intro b12 h
 refine kt b12 (Xae (Xaf ?_))
 refine kL [0,4,5,6] [448] [_,_,_,_] [_] ?_
 refine kA h (fun v12 => ([(4, .own 982), (5, .sv (.int .i64 v12.1))], [(982, some (.ints .u8 v12.2)), (448, none)])) (fun v12 h => ?_) fun v12 h => ?_
 refine Xbj ?_
 refine kL [0,4,5,6] [448] [_,_,_,_] [_] ?_
 refine kA h (fun v13 => ([(5, .sv (.int .i64 v13.1))], [(448, some (.ints .u8 v13.2))])) (fun v13 h => ?_) fun v13 h => ?_
 refine kL [0,4,5,6] [448] [_,_,_,_] [_] ?_
 refine kA h (fun v14 => ([(42, .sv (.bool v14))], [])) (fun v14 h => ?_) fun v14 h => ?_
 refine Xaa ?_
 iterate 2 refine kO hT hC ?_
 refine kQ hT hC h fun h => ?_
 iterate 2 refine kO hT hC ?_
 refine kS h ?_ ?_ <;> intro b13 h
 iterate 2 refine kI hT hC b13 ?_
 refine kP hC true b13 ?_
 exact Vc.nil kM
 iterate 2 refine kF hC b13 ?_
 refine kP hC false b13 ?_
 exact Vc.nil kM
 refine kS h ?_ ?_ <;> intro b14 h
 refine kt b14 (Xab ?_)
 iterate 2 refine kO hT hC ?_
 refine kT hT hC h fun h => ?_
 refine kO hT hC ?_
 refine Vc.nil (Xaa ?_)
 refine kO hT hC ?_
 refine Vc.nil ?_
 obtain rfl := kj h
 exact Xgu (kW hC [(448, 720)])
 exact kf b14 (Xae kM)
 refine Xab ?_
 iterate 3 refine kO hT hC ?_
 refine kQ hT hC h fun h => ?_
 refine kO hT hC ?_
 refine kT hT hC h fun h => ?_
 refine kO hT hC ?_
 refine kN ?_
 iterate 2 refine kO hT hC ?_
 refine kQ hT hC h fun h => ?_
 refine kO hT hC ?_
 refine Vc.nil ?_
 refine kS h ?_ ?_ <;> intro b15 h
 refine kt b15 (Xaa ?_)
 iterate 3 refine kO hT hC ?_
 refine Vc.nil (Xb2 ?_)
 obtain rfl := kj h
 exact Xgu (kW hC [(982, 816)])
 refine kf b15 (Xaa ?_)
 refine kO hT hC ?_
 refine Vc.nil (Xb2 ?_)
 obtain rfl := kj h
 exact Xgu (kW hC [(982, 816)])
 refine Xaa ?_
 iterate 3 refine kO hT hC ?_
 refine Vc.nil ?_
 obtain rfl := kj h
 exact Xuf (kW hC [(448, 982)])
 exact kf b12 (Xa5 (Xb9 ku))
 refine Xaf (Xab ?_)
 iterate 4 refine kO hT hC ?_
 exact Vc.nil (Xaj kR)
def Xgo (r : (ByteArray × Bool)) : AV := .tup [.sv (.str r.1), .sv (.bool r.2)]
def Xgn (r : (ByteArray × Bool)) : Xbc := []
theorem Xhi {p0 r} (h : Xcc p0 = some r) : AC Try.prog 104 [.sv (.str p0)] [] (Xgo r) (Xgn r) := by
 refine Xak hT Try.func104 rfl fun C hC => ?_
 unfold Xcc at h
 refine Xab ?_
 iterate 2 refine kO hT hC ?_
 refine kN ?_
 iterate 2 refine kO hT hC ?_
 obtain ⟨hq, h⟩ := Xbk h
 refine Xqa hT hC rfl rfl rfl rfl ⟨hq.1, hq.2.1, hq.2.2, by decide⟩ ?_
 refine kO hT hC ?_
 refine kN ?_
 refine kO hT hC ?_
 refine Vc.nil (Xa4 (Xab ?_))
 refine kO hT hC ?_
 refine Vc.nil ?_
 refine kL [0,4,5,6] [176] [_,_,_,_] [_] ?_
 refine kX h (fun v5 => ([(5, .sv (.int .i64 v5.1)), (6, .sv (.int .i64 v5.2.1))], [(176, some (.ints .u8 v5.2.2))])) (fun v10 => ([(5, .any), (6, .any)], [(176, some (.ints .u8 v10))])) (kW hC []) (fun v5 s h => ?_) fun v10 h => ?_
 unfold Xa2 at h
 refine Xa4 (Xab ?_)
 iterate 4 refine kO hT hC ?_
 refine Vc.nil ?_
 refine kS h ?_ ?_ <;> intro b9 h
 refine kt b9 (Xae (Xaf ?_))
 refine kL [0,4,5,6] [176] [_,_,_,_] [_] ?_
 refine kA h (fun v11 => ([(5, .sv (.int .i64 v11.1))], [(176, some (.ints .u8 v11.2))])) (fun v11 h => ?_) fun v11 h => ?_
 refine Xbj ?_
 refine kL [0,4,5,6] [176] [_,_,_,_] [_] ?_
 refine Xr9 h (fun (v12 : Int) => ([(5, .sv (.int .i64 v12))], [])) (fun v12 h => ?_) (fun h => ?_)
 refine Xaa ?_
 iterate 3 refine kO hT hC ?_
 refine kQ hT hC h fun h => ?_
 refine kO hT hC ?_
 refine kT hT hC h fun h => ?_
 refine kO hT hC ?_
 refine Vc.nil (Xb2 ?_)
 obtain rfl := kj h
 exact Xgu (kW hC [(176, 624)])
 refine Xbj ?_
 refine kL [0,4,5,6] [176] [_,_,_,_] [_] ?_
 refine kA h (fun v13 => ([(18, .sv (.bool v13))], [])) (fun v13 h => ?_) fun v13 h => ?_
 refine Xaa ?_
 iterate 3 refine kO hT hC ?_
 refine kS h ?_ ?_ <;> intro b10 h
 iterate 2 refine kI hT hC b10 ?_
 refine kJ hT hC b10 h fun h => ?_
 refine kI hT hC b10 ?_
 refine kP hC true b10 ?_
 refine kO hT hC ?_
 exact Vc.nil kM
 iterate 4 refine kF hC b10 ?_
 refine kP hC false b10 ?_
 refine kO hT hC ?_
 exact Vc.nil kM
 refine kS h ?_ ?_ <;> intro b11 h
 refine kt b11 (Xab ?_)
 refine kO hT hC ?_
 refine Vc.nil (Xa5 ?_)
 refine Xtj rfl ?_
 exact Xuo (Xms kM)
 refine kf b11 (Xab ?_)
 iterate 2 refine kO hT hC ?_
 refine kQ hT hC h fun h => ?_
 iterate 2 refine kO hT hC ?_
 refine Vc.nil ?_
 refine kS h ?_ ?_ <;> intro b12 h
 refine kt b12 (Xaa ?_)
 iterate 3 refine kO hT hC ?_
 refine Vc.nil (Xb2 ?_)
 exact Xs7 (Xah .i64 (v5.1 + 1)) h (kW hC [])
 refine kf b12 (Xaa ?_)
 refine kO hT hC ?_
 refine Vc.nil (Xb2 ?_)
 exact Xs7 0 h (kW hC [])
 refine Xaa ?_
 iterate 3 refine kO hT hC ?_
 exact Vc.nil kG
 exact kf b9 (Xa5 (Xb9 ku))
 refine Xaf (Xa4 (Xab ?_))
 iterate 2 refine kO hT hC ?_
 refine kC hC [] Try.call140 h (fun _ => Xe8) fun q15 h => ?_
 iterate 5 refine kO hT hC ?_
 refine Vc.nil ?_
 refine kL [0,4,7,8] [176] [_,_,_,_] [_] ?_
 refine kA h (fun v16 => ([(52, .sv (.bool v16)), (0, .any), (7, .any), (8, .any)], [])) (fun v16 h => ?_) fun v16 h => ?_
 refine Xaa ?_
 iterate 3 refine kO hT hC ?_
 refine kS h ?_ ?_ <;> intro b13 h
 iterate 3 refine kI hT hC (kn b13) ?_
 refine kP hC false (kn b13) ?_
 exact Vc.nil kM
 iterate 3 refine kF hC (kn b13) ?_
 refine kP hC true (kn b13) ?_
 exact Vc.nil kM
 refine kS h ?_ ?_ <;> intro b14 h
 refine kt b14 (Xab ?_)
 iterate 2 refine kO hT hC ?_
 exact Vc.nil (Xaj (Xar kR))
 refine kf b14 (Xae (Xaf (Xab ?_)))
 iterate 4 refine kO hT hC ?_
 exact Vc.nil (Xaj kR)
def Xfb (r : (ByteArray × Bool)) : AV := .tup [.sv (.str r.1), .sv (.bool r.2)]
def Xfa (r : (ByteArray × Bool)) : Xbc := []
theorem Xky {p0 r} (h : Xcx p0 = some r) : AC Try.prog 105 [.sv (Xad.sv p0)] [] (Xfb r) (Xfa r) := by
 refine Xak hT Try.func105 rfl fun C hC => ?_
 unfold Xcx at h
 refine Xab ?_
 iterate 2 refine kO hT hC ?_
 refine Vc.nil (Xa4 (Xab ?_))
 iterate 3 refine kO hT hC ?_
 refine Vc.nil ?_
 refine kS h ?_ ?_ <;> intro b1 h
 refine kt b1 (Xab ?_)
 iterate 2 refine kO hT hC ?_
 exact Vc.nil (Xaj (Xar kR))
 refine kf b1 (Xae (Xaf (Xab ?_)))
 iterate 2 refine kO hT hC ?_
 refine Vc.nil (Xa4 (Xab ?_))
 iterate 3 refine kO hT hC ?_
 refine Vc.nil ?_
 refine kL [4,13,14,15] [192] [_,_,_,_] [_] ?_
 obtain ⟨o11, hl, h⟩ := Xa9 h
 refine Xe1 (fun v4 => ([(15, .sv (.int .i64 v4.1))], [(192, some (.ints .u8 v4.2))])) (fun v8 => ([(13, .any), (14, .any), (15, .any)], [(192, some (.ints .u8 v8))])) (fun r => Xjf C T Try.f105.results.toList (Xfb r) (Xfa r)) hl ?_ ?_ ?_ ?_
 try dsimp only
 apply Xed hC []
 exact co
 rfl
 decide
 rfl
 intro v4 s hs
 have h := hs
 unfold Xby at h
 refine Xab ?_
 refine kO hT hC ?_
 refine Vc.nil (Xa4 ?_)
 refine kS h ?_ ?_ <;> intro b8 h
 refine kt b8 (Xae (Xaf (Xa4 (Xbj (Xab ?_)))))
 refine kQ hT hC h fun h => ?_
 iterate 2 refine kO hT hC ?_
 refine kN ?_
 refine kO hT hC ?_
 refine kC hC [] Try.call140 h (fun _ => Xe8) fun q9 h => ?_
 iterate 5 refine kO hT hC ?_
 refine Vc.nil (Xa4 ?_)
 refine kL [4,7,8,13,14,15] [192] [_,_,_,_,_,_] [_] ?_
 refine kA h (fun v10 => ([(34, .sv (.bool v10)), (8, .any)], [])) (fun v10 h => ?_) fun v10 h => ?_
 refine Xaa ?_
 iterate 3 refine kO hT hC ?_
 refine kS h ?_ ?_ <;> intro b9 h
 iterate 7 refine kI hT hC (kn b9) ?_
 refine kP hC false (kn b9) ?_
 exact Vc.nil kM
 iterate 7 refine kF hC (kn b9) ?_
 refine kP hC true (kn b9) ?_
 exact Vc.nil kM
 refine kS h ?_ ?_ <;> intro b10 h
 refine kt b10 (Xab ?_)
 iterate 2 refine kO hT hC ?_
 refine Vc.nil (Xaj (Xar (Xjk (Xar ?_))))
 obtain rfl := kj h
 refine Xj7 (Xj5 ?_)
 exact Xg3 (Xem.refl _) rfl trivial
 refine kf b10 (Xae (Xaf (Xaa ?_)))
 iterate 2 refine kO hT hC ?_
 refine kT hT hC h fun h => ?_
 refine kO hT hC ?_
 refine kT hT hC h fun h => ?_
 refine kO hT hC ?_
 refine Vc.nil (Xb2 (Xaf (Xaa ?_)))
 iterate 2 refine kO hT hC ?_
 refine Vc.nil ?_
 obtain rfl := kj h
 exact Xuf (kW hC [(192, 624)])
 exact kf b8 (Xa5 (Xb9 kb))
 intro v8 e
 subst e
 refine Xaf (Xab ?_)
 iterate 4 refine kO hT hC ?_
 exact Vc.nil (Xaj kR)
 intro r' σ' e hE
 subst e
 obtain rfl := kj h
 refine Xar ?_
 exact hE
def Xeq (r : ((List ByteArray) × Bool)) : AV := .tup [.own 16, .sv (.bool r.2)]
def Xep (r : ((List ByteArray) × Bool)) : Xbc := [(16, .row Xad r.1)]
theorem Xim {p0 r} (h : Xcp p0 = some r) : AC Try.prog 65 [.sv (.str p0)] [] (Xeq r) (Xep r) := by
 refine Xak hT Try.func65 rfl fun C hC => ?_
 unfold Xcp at h
 refine Xab ?_
 iterate 2 refine kO hT hC ?_
 refine kN ?_
 iterate 2 refine kO hT hC ?_
 refine Vc.nil (Xa4 (Xab ?_))
 iterate 3 refine kO hT hC ?_
 refine Vc.nil ?_
 refine kS h ?_ ?_ <;> intro b1 h
 refine kt b1 (Xab ?_)
 iterate 3 refine kO hT hC ?_
 refine Vc.nil (Xaj (Xar ?_))
 obtain rfl := kj h
 exact Xg3 (τ := ⟨[(2, .own 16), (3, .sv (.bool false))], [(16, some (.row Xad ([] : List ByteArray)))]⟩) (kW hC [(16, 176)]) rfl ⟨rfl, trivial⟩
 refine kf b1 (Xae (Xaf (Xab ?_)))
 refine kO hT hC ?_
 refine kC hC [(16, 272)] Try.call103 h (fun _ => Xk0) fun q1 h => ?_
 iterate 3 refine kO hT hC ?_
 refine kT hT hC h fun h => ?_
 refine kO hT hC ?_
 refine Vc.nil (Xa4 (Xab ?_))
 refine kO hT hC ?_
 refine Vc.nil ?_
 refine kL [0,4,5,6] [176,336] [_,_,_,_] [_,_] ?_
 obtain ⟨o9, hl, h⟩ := Xa9 h
 refine Xe1 (fun v4 => ([(6, .sv (.int .i64 v4.1))], [(176, some (.row Xad v4.2))])) (fun v7 => ([(5, .any), (6, .any)], [(176, some (.row Xad v7)), (336, none)])) (fun r => Xjf C T Try.f65.results.toList (Xeq r) (Xep r)) hl ?_ ?_ ?_ ?_
 try dsimp only
 apply Xed hC []
 exact co
 rfl
 decide
 rfl
 intro v4 s hs
 have h := hs
 unfold Xap at h
 refine Xa4 (Xab ?_)
 iterate 5 refine kO hT hC ?_
 refine Vc.nil ?_
 refine kS h ?_ ?_ <;> intro b6 h
 refine kt b6 (Xae (Xaf (Xa4 (Xbj ?_))))
 refine Xpf hm ?_
 iterate 3 refine kO hT hC ?_
 iterate 2 refine kQ hT hC h fun h => ?_
 iterate 4 refine kO hT hC ?_
 iterate 3 refine kQ hT hC h fun h => ?_
 refine kC hC [] Try.call104 h (fun _ => Xhi) fun q8 h => ?_
 iterate 5 refine kO hT hC ?_
 refine kD (Xa4 (Xab ?_))
 iterate 2 refine kO hT hC ?_
 refine Vc.nil ?_
 refine kS h ?_ ?_ <;> intro b7 h
 refine kt b7 (Xab ?_)
 iterate 3 refine kO hT hC ?_
 refine Vc.nil (Xaj (Xar (Xjk (Xar ?_))))
 obtain rfl := kj h
 refine Xj7 (Xj5 ?_)
 refine Xg3 (τ := ⟨[(2, .own 16), (3, .sv (.bool false))], [(16, some (.row Xad ([] : List ByteArray)))]⟩) ?_ rfl ⟨rfl, trivial⟩
 apply Xed hC [(16, 752)]
 exact co
 rfl
 decide
 rfl
 refine kf b7 (Xae (Xaf (Xaa ?_)))
 iterate 3 refine kO hT hC ?_
 obtain ⟨hq, h⟩ := Xbk h
 refine Xqa hT hC rfl rfl rfl rfl ⟨fun _ _ => rfl, by rw [Xdq]; exact hq⟩ ?_
 rw [Xdq]
 refine kO hT hC ?_
 refine Vc.nil (Xb2 (Xaf (Xaa ?_)))
 iterate 3 refine kO hT hC ?_
 refine Vc.nil ?_
 obtain rfl := kj h
 exact Xuf (kW hC [(176, 816)])
 exact kf b6 (Xa5 (Xb9 kb))
 intro v7 e
 subst e
 refine Xaf (Xa4 (Xab ?_))
 refine kO hT hC ?_
 refine kC hC [] Try.call105 h (fun _ => Xky) fun q10 h => ?_
 iterate 5 refine kO hT hC ?_
 refine Vc.nil ?_
 refine kL [0,4,9,10] [176] [_,_,_,_] [_] ?_
 refine kA h (fun v11 => ([(63, .sv (.bool v11)), (0, .any), (9, .any), (10, .any)], [])) (fun v11 h => ?_) fun v11 h => ?_
 refine Xaa ?_
 iterate 3 refine kO hT hC ?_
 refine kS h ?_ ?_ <;> intro b8 h
 iterate 3 refine kI hT hC (kn b8) ?_
 refine kP hC false (kn b8) ?_
 exact Vc.nil kM
 iterate 3 refine kF hC (kn b8) ?_
 refine kP hC true (kn b8) ?_
 exact Vc.nil kM
 refine kS h ?_ ?_ <;> intro b9 h
 refine kt b9 (Xab ?_)
 iterate 3 refine kO hT hC ?_
 refine Vc.nil (Xaj (Xar ?_))
 obtain rfl := kj h
 exact Xg3 (τ := ⟨[(2, .own 16), (3, .sv (.bool false))], [(16, some (.row Xad ([] : List ByteArray)))]⟩) (kW hC [(16, 1024)]) rfl ⟨rfl, trivial⟩
 refine kf b9 (Xae (Xaf (Xab ?_)))
 iterate 3 refine kO hT hC ?_
 refine Vc.nil (Xaj ?_)
 obtain rfl := kj h
 exact Xg3 (τ := ⟨[(2, .own 16), (3, .sv (.bool true))], [(16, some (.row Xad v7))]⟩) (kW hC [(16, 176)]) rfl ⟨rfl, trivial⟩
 intro r' σ' e hE
 subst e
 obtain rfl := kj h
 refine Xar ?_
 exact hE
def Xd2 (r : ((List ByteArray) × Bool)) : AV := .tup [.own 16, .sv (.bool r.2)]
def Xd1 (r : ((List ByteArray) × Bool)) : Xbc := [(16, .row Xad r.1)]
theorem Xeo {p0 r} (h : Xbz p0 = some r) : AC Try.prog 19 [.sv (Xax.sv p0)] [] (Xd2 r) (Xd1 r) := by
 refine Xak hT Try.func19 rfl fun C hC => ?_
 unfold Xbz at h
 refine Xab ?_
 iterate 2 refine kO hT hC ?_
 refine Vc.nil (Xa4 (Xab ?_))
 iterate 2 refine kO hT hC ?_
 refine kC hC [] Try.call52 h (fun _ => Xee) fun q1 h => ?_
 refine kO hT hC ?_
 refine Vc.nil ?_
 refine kS h ?_ ?_ <;> intro b1 h
 refine kt b1 (Xab ?_)
 iterate 3 refine kO hT hC ?_
 refine Vc.nil (Xaj (Xar ?_))
 obtain rfl := kj h
 exact Xg3 (τ := ⟨[(2, .own 16), (3, .sv (.bool false))], [(16, some (.row Xad ([] : List ByteArray)))]⟩) (kW hC [(16, 208)]) rfl ⟨rfl, trivial⟩
 refine kf b1 (Xae (Xaf (Xab ?_)))
 refine kO hT hC ?_
 refine Vc.nil (Xa4 (Xab ?_))
 iterate 3 refine kO hT hC ?_
 refine Vc.nil ?_
 refine kL [0,4,14,15,16] [] [_,_,_,_,_] [] ?_
 obtain ⟨o15, hl, h⟩ := Xa9 h
 refine Xe1 (fun v6 => ([(4, .sv (.str v6.1)), (16, .sv (.int .i64 v6.2))], [])) (fun v11 => ([(4, .sv (.str v11)), (0, .any), (14, .any), (15, .any), (16, .any)], [])) (fun r => Xjf C T Try.f19.results.toList (Xd2 r) (Xd1 r)) hl ?_ ?_ ?_ ?_
 try dsimp only
 apply Xed hC []
 exact co
 rfl
 decide
 rfl
 intro v6 s hs
 have h := hs
 unfold Xas at h
 refine Xab ?_
 refine kO hT hC ?_
 refine Vc.nil (Xa4 ?_)
 refine kS h ?_ ?_ <;> intro b14 h
 refine kt b14 (Xae (Xaf (Xa4 (Xbj (Xab ?_)))))
 refine kO hT hC ?_
 refine kQ hT hC h fun h => ?_
 iterate 4 refine kO hT hC ?_
 refine Vc.nil (Xa4 ?_)
 refine kL [0,4,5,6,14,15,16] [96] [_,_,_,_,_,_,_] [_] ?_
 refine kA h (fun v12 => ([(56, .sv (.bool v12)), (5, .any)], [])) (fun v12 h => ?_) fun v12 h => ?_
 refine Xn1 hm ?_
 refine kO hT hC ?_
 refine kC hC [] Try.call63 h (fun _ => Xii) fun q13 h => ?_
 iterate 2 refine kO hT hC ?_
 refine kS h ?_ ?_ <;> intro b15 h
 iterate 5 refine kI hT hC (kn b15) ?_
 refine kP hC false (kn b15) ?_
 refine kO hT hC ?_
 refine kS h ?_ ?_ <;> intro b16 h
 iterate 8 refine kI hT hC (kn b16) ?_
 refine kP hC false (kn b16) ?_
 refine kO hT hC ?_
 refine kS h ?_ ?_ <;> intro b17 h
 iterate 3 refine kI hT hC (kn b17) ?_
 refine kS h ?_ ?_ <;> intro b18 h
 iterate 5 refine kI hT hC b18 ?_
 refine kJ hT hC b18 h fun h => ?_
 iterate 2 refine kI hT hC b18 ?_
 refine kE hC b18 [] Try.call64 h (fun _ => Xjt) fun q14 h => ?_
 refine kI hT hC b18 ?_
 refine Xnv hC rfl rfl rfl rfl (kn b17) rfl rfl (b := true) b18 rfl rfl rfl trivial ?_
 refine kP hC false (kn b17) ?_
 exact kD kM
 iterate 10 refine kF hC b18 ?_
 refine Xnv hC rfl rfl rfl rfl (kn b17) rfl rfl (b := false) b18 rfl rfl rfl trivial ?_
 refine kP hC false (kn b17) ?_
 exact kD kM
 iterate 3 refine kF hC (kn b17) ?_
 iterate 10 refine Xrw hC rfl rfl rfl rfl rfl rfl ?_
 refine kF hC (kn b17) ?_
 refine kP hC true (kn b17) ?_
 exact kD kM
 iterate 8 refine kF hC (kn b16) ?_
 refine kP hC true (kn b16) ?_
 refine kO hT hC ?_
 iterate 3 refine kF hC rfl ?_
 iterate 10 refine Xrw hC rfl rfl rfl rfl rfl rfl ?_
 refine kF hC rfl ?_
 refine kO hT hC ?_
 exact kD kM
 iterate 5 refine kF hC (kn b15) ?_
 refine kP hC true (kn b15) ?_
 refine kO hT hC ?_
 iterate 8 refine kF hC rfl ?_
 iterate 2 refine kO hT hC ?_
 iterate 3 refine kF hC rfl ?_
 iterate 10 refine Xrw hC rfl rfl rfl rfl rfl rfl ?_
 refine kF hC rfl ?_
 refine kO hT hC ?_
 exact kD kM
 refine kS h ?_ ?_ <;> intro b19 h
 refine kt b19 (Xab ?_)
 iterate 3 refine kO hT hC ?_
 refine Vc.nil (Xaj (Xar (Xjk (Xar ?_))))
 obtain rfl := kj h
 refine Xj7 (Xj5 ?_)
 refine Xg3 (τ := ⟨[(2, .own 16), (3, .sv (.bool false))], [(16, some (.row Xad ([] : List ByteArray)))]⟩) ?_ rfl ⟨rfl, trivial⟩
 apply Xed hC [(16, 912)]
 exact co
 rfl
 decide
 rfl
 refine kf b19 (Xae (Xaf (Xaa ?_)))
 iterate 3 refine kO hT hC ?_
 refine kQ hT hC h fun h => ?_
 refine kO hT hC ?_
 refine Vc.nil (Xb2 (Xaf (Xaa ?_)))
 iterate 2 refine kO hT hC ?_
 exact Vc.nil kG
 exact kf b14 (Xa5 (Xb9 kb))
 intro v11 e
 subst e
 refine Xaf (Xab ?_)
 refine kO hT hC ?_
 refine kC hC [(16, 1040)] Try.call65 h (fun _ => Xim) fun q16 h => ?_
 iterate 5 refine kO hT hC ?_
 refine Vc.nil (Xa4 ?_)
 refine kL [7,8] [1040] [_,_] [_] ?_
 refine kA h (fun v17 => ([(74, .sv (.bool v17)), (8, .any)], [])) (fun v17 h => ?_) fun v17 h => ?_
 refine Xaa ?_
 iterate 3 refine kO hT hC ?_
 refine kS h ?_ ?_ <;> intro b20 h
 iterate 3 refine kI hT hC (kn b20) ?_
 refine kP hC false (kn b20) ?_
 exact Vc.nil kM
 iterate 3 refine kF hC (kn b20) ?_
 refine kP hC true (kn b20) ?_
 exact Vc.nil kM
 refine kS h ?_ ?_ <;> intro b21 h
 refine kt b21 (Xab ?_)
 iterate 3 refine kO hT hC ?_
 refine Vc.nil (Xaj (Xar ?_))
 obtain rfl := kj h
 exact Xg3 (τ := ⟨[(2, .own 16), (3, .sv (.bool false))], [(16, some (.row Xad ([] : List ByteArray)))]⟩) (kW hC [(16, 1200)]) rfl ⟨rfl, trivial⟩
 refine kf b21 (Xae (Xaf (Xab ?_)))
 iterate 3 refine kO hT hC ?_
 refine Vc.nil (Xaj ?_)
 obtain rfl := kj h
 exact Xg3 (τ := ⟨[(2, .own 16), (3, .sv (.bool true))], [(16, some (.row Xad q16.1))]⟩) (kW hC [(16, 1040)]) rfl ⟨rfl, trivial⟩
 intro r' σ' e hE
 subst e
 obtain rfl := kj h
 refine Xar ?_
 exact hE
def Xd6 (r : Bool) : AV := .sv (.bool r)
def Xd5 (r : Bool) : Xbc := []
theorem Xcy {p0 p1 r} (h : Xbi p0 p1 = some r) : AC Try.prog 20 [.sv (Xad.sv p0), .sv (Xad.sv p1)] [] (Xd6 r) (Xd5 r) := by
 refine Xak hT Try.func20 rfl fun C hC => ?_
 unfold Xbi at h
 refine Xab ?_
 refine kO hT hC ?_
 refine Vc.nil (Xa4 (Xab ?_))
 iterate 5 refine kO hT hC ?_
 refine Vc.nil ?_
 refine kS h ?_ ?_ <;> intro b1 h
 refine kt b1 (Xab ?_)
 refine kO hT hC ?_
 exact Vc.nil (Xaj (Xar kR))
 refine kf b1 (Xae (Xaf (Xa4 (Xab ?_))))
 refine kO hT hC ?_
 refine Vc.nil ?_
 refine kL [0,1,5] [] [_,_,_] [] ?_
 obtain ⟨o5, hl, h⟩ := Xa9 h
 refine Xe1 (fun v2 => ([(5, .sv (.int .i64 v2))], [])) (fun v4 => ([(0, .any), (1, .any), (5, .any)], [])) (fun r => Xjf C T Try.f20.results.toList (Xd6 r) (Xd5 r)) hl ?_ ?_ ?_ ?_
 apply Xed hC []
 exact co
 rfl
 decide
 rfl
 intro v2 s hs
 have h := hs
 unfold Xbn at h
 refine Xa4 (Xab ?_)
 iterate 4 refine kO hT hC ?_
 refine Vc.nil ?_
 refine kS h ?_ ?_ <;> intro b6 h
 refine kt b6 (Xae (Xaf (Xa4 (Xbj ?_))))
 refine Xpf hm ?_
 iterate 2 refine kO hT hC ?_
 refine kQ hT hC h fun h => ?_
 iterate 3 refine kO hT hC ?_
 refine kQ hT hC h fun h => ?_
 iterate 2 refine kO hT hC ?_
 refine kD ?_
 refine kS h ?_ ?_ <;> intro b7 h
 refine kt b7 (Xab ?_)
 refine kO hT hC ?_
 refine Vc.nil (Xaj (Xjk (Xar ?_)))
 obtain rfl := kj h
 refine Xj7 (Xj5 ?_)
 exact Xg3 (Xem.refl _) rfl trivial
 refine kf b7 (Xae (Xb2 (Xaf (Xaa ?_))))
 iterate 3 refine kO hT hC ?_
 exact Vc.nil kG
 exact kf b6 (Xa5 (Xb9 kb))
 intro v4 e
 subst e
 refine Xaf (Xab ?_)
 refine kO hT hC ?_
 exact Vc.nil (Xaj kR)
 intro r' σ' e hE
 subst e
 obtain rfl := kj h
 refine Xar ?_
 exact hE
def Xhp (r : Bool) : AV := .sv (.bool r)
def Xho (r : Bool) : Xbc := []
theorem Xip {p0 p1 r} (h : Xcr p0 p1 = some r) : AC Try.prog 66 [.agg [.sv (.int .i64 p0.Seq), .sv (.bool p0.First), .sv (.bool p0.Last), .sv (.str p0.Bytes)], .agg [.sv (.int .i64 p1.Seq), .sv (.bool p1.First), .sv (.bool p1.Last), .sv (.str p1.Bytes)]] [] (Xhp r) (Xho r) := by
 refine Xak hT Try.func66 rfl fun C hC => ?_
 unfold Xcr at h
 refine Xab ?_
 iterate 3 refine kO hT hC ?_
 refine Vc.nil (Xa4 (Xab ?_))
 iterate 5 refine kO hT hC ?_
 refine Vc.nil ?_
 refine kS h ?_ ?_ <;> intro b1 h
 refine kt b1 (Xab ?_)
 refine kO hT hC ?_
 exact Vc.nil (Xaj (Xar kR))
 refine kf b1 (Xae (Xaf (Xa4 (Xab ?_))))
 iterate 5 refine kO hT hC ?_
 refine Vc.nil ?_
 refine kS h ?_ ?_ <;> intro b2 h
 refine kt b2 (Xab ?_)
 refine kO hT hC ?_
 exact Vc.nil (Xaj (Xar kR))
 refine kf b2 (Xae (Xaf (Xa4 (Xab ?_))))
 iterate 5 refine kO hT hC ?_
 refine Vc.nil ?_
 refine kS h ?_ ?_ <;> intro b3 h
 refine kt b3 (Xab ?_)
 refine kO hT hC ?_
 exact Vc.nil (Xaj (Xar kR))
 refine kf b3 (Xae (Xaf (Xa4 (Xab ?_))))
 iterate 5 refine kO hT hC ?_
 refine Vc.nil ?_
 refine kS h ?_ ?_ <;> intro b4 h
 refine kt b4 (Xab ?_)
 refine kO hT hC ?_
 exact Vc.nil (Xaj (Xar kR))
 refine kf b4 (Xae (Xaf (Xab ?_)))
 refine kO hT hC ?_
 exact Vc.nil (Xaj kR)
def Xd4 (r : Bool) : AV := .sv (.bool r)
def Xd3 (r : Bool) : Xbc := []
theorem Xhn {p0 p1 r} (h : Xcd p0 p1 = some r) : AC Try.prog 21 [.sv (Xax.sv p0), .sv (Xax.sv p1)] [] (Xd4 r) (Xd3 r) := by
 refine Xak hT Try.func21 rfl fun C hC => ?_
 unfold Xcd at h
 refine Xab ?_
 refine kO hT hC ?_
 refine Vc.nil (Xa4 (Xab ?_))
 iterate 5 refine kO hT hC ?_
 refine Vc.nil ?_
 refine kS h ?_ ?_ <;> intro b1 h
 refine kt b1 (Xab ?_)
 refine kO hT hC ?_
 exact Vc.nil (Xaj (Xar kR))
 refine kf b1 (Xae (Xaf (Xa4 (Xab ?_))))
 refine kO hT hC ?_
 refine Vc.nil ?_
 refine kL [0,1,5] [] [_,_,_] [] ?_
 obtain ⟨o8, hl, h⟩ := Xa9 h
 refine Xe1 (fun v3 => ([(5, .sv (.int .i64 v3))], [])) (fun v6 => ([(0, .any), (1, .any), (5, .any)], [])) (fun r => Xjf C T Try.f21.results.toList (Xd4 r) (Xd3 r)) hl ?_ ?_ ?_ ?_
 apply Xed hC []
 exact co
 rfl
 decide
 rfl
 intro v3 s hs
 have h := hs
 unfold Xbm at h
 refine Xa4 (Xab ?_)
 iterate 4 refine kO hT hC ?_
 refine Vc.nil ?_
 refine kS h ?_ ?_ <;> intro b6 h
 refine kt b6 (Xae (Xaf (Xa4 (Xbj ?_))))
 refine Xpf hm ?_
 iterate 2 refine kO hT hC ?_
 refine kQ hT hC h fun h => ?_
 iterate 3 refine kO hT hC ?_
 refine kQ hT hC h fun h => ?_
 refine kO hT hC ?_
 refine kC hC [] Try.call66 h (fun _ => Xip) fun q7 h => ?_
 refine kO hT hC ?_
 refine kD ?_
 refine kS h ?_ ?_ <;> intro b7 h
 refine kt b7 (Xab ?_)
 refine kO hT hC ?_
 refine Vc.nil (Xaj (Xjk (Xar ?_)))
 obtain rfl := kj h
 refine Xj7 (Xj5 ?_)
 exact Xg3 (Xem.refl _) rfl trivial
 refine kf b7 (Xae (Xb2 (Xaf (Xaa ?_))))
 iterate 3 refine kO hT hC ?_
 exact Vc.nil kG
 exact kf b6 (Xa5 (Xb9 kb))
 intro v6 e
 subst e
 refine Xaf (Xab ?_)
 refine kO hT hC ?_
 exact Vc.nil (Xaj kR)
 intro r' σ' e hE
 subst e
 obtain rfl := kj h
 refine Xar ?_
 exact hE
def Xhr (r : ByteArray) : AV := .sv (.str r)
def Xhq (r : ByteArray) : Xbc := []
theorem Xde {p0 r} (h : Xaz p0 = some r) : AC Try.prog 67 [.sv (.int .i64 p0)] [] (Xhr r) (Xhq r) := by
 refine Xak hT Try.func67 rfl fun C hC => ?_
 unfold Xaz at h
 refine Xab ?_
 refine kO hT hC ?_
 refine Vc.nil (Xa4 (Xab ?_))
 iterate 2 refine kO hT hC ?_
 refine Vc.nil ?_
 refine kS h ?_ ?_ <;> intro b1 h
 refine kt b1 (Xab ?_)
 refine kO hT hC ?_
 exact Vc.nil (Xaj (Xar kR))
 refine kf b1 (Xae (Xaf (Xab ?_)))
 refine kO hT hC ?_
 refine Vc.nil (Xa4 ?_)
 refine kL [0,3] [] [_,_] [] ?_
 refine kX h (fun v2 => ([(0, .sv (.int .i64 v2.1)), (3, .sv (.str v2.2))], [])) (fun v4 => ([(3, .sv (.str v4)), (0, .any)], [])) (kW hC []) (fun v2 s h => ?_) fun v4 h => ?_
 unfold Xcg at h
 refine Xa4 (Xab ?_)
 iterate 2 refine kO hT hC ?_
 refine Vc.nil ?_
 refine kS h ?_ ?_ <;> intro b4 h
 refine kt b4 (Xae (Xaf (Xbj (Xab ?_))))
 refine kO hT hC ?_
 refine kQ hT hC h fun h => ?_
 iterate 5 refine kO hT hC ?_
 refine kQ hT hC h fun h => ?_
 refine kO hT hC ?_
 refine Vc.nil (Xaa ?_)
 refine kO hT hC ?_
 refine kQ hT hC h fun h => ?_
 refine kO hT hC ?_
 exact Vc.nil (Xb2 kG)
 exact kf b4 (Xa5 (Xb9 ku))
 refine Xaf (Xab ?_)
 refine kO hT hC ?_
 refine kQ hT hC h fun h => ?_
 refine kO hT hC ?_
 exact Vc.nil (Xaj kR)
def Xfs (r : (Int × (List Packet))) : AV := .sv (.int .i64 r.1)
def Xfr (r : (Int × (List Packet))) : Xbc := [(0, .row Xax r.2)]
theorem Xf6 {p0 p1 r} (h : Xbw p0 p1 = some r) : AC Try.prog 22 [.own 0, .sv (.int .i64 p1)] [(0, .row Xax p0)] (Xfs r) (Xfr r) := by
 refine Xak hT Try.func22 rfl fun C hC => ?_
 unfold Xbw at h
 refine Xab ?_
 refine kO hT hC ?_
 refine Vc.nil (Xa4 (Xab ?_))
 refine kO hT hC ?_
 refine Vc.nil ?_
 refine kL [0,1,5] [0] [_,_,_] [_] ?_
 refine kX h (fun v7 => ([(1, .sv (.int .i64 v7.1)), (5, .sv (.int .i64 v7.2.1))], [(0, some (.row Xax v7.2.2))])) (fun v14 => ([(1, .sv (.int .i64 v14.1)), (0, .any), (5, .any)], [(0, some (.row Xax v14.2))])) (kW hC []) (fun v7 s h => ?_) fun v14 h => ?_
 unfold Xa7 at h
 refine Xa4 (Xab ?_)
 iterate 4 refine kO hT hC ?_
 refine Vc.nil ?_
 refine kS h ?_ ?_ <;> intro b3 h
 refine kt b3 (Xae (Xaf (Xa4 (Xbj (Xab ?_)))))
 iterate 3 refine kO hT hC ?_
 refine kQ hT hC h fun h => ?_
 refine kO hT hC ?_
 obtain ⟨hq, h⟩ := Xbk h
 obtain ⟨s15, hs, h⟩ := Xa9 h
 injection hs with hs
 refine Xqa hT hC rfl rfl rfl rfl hq ?_
 rw [hs]
 refine kN ?_
 iterate 3 refine kO hT hC ?_
 refine kN ?_
 iterate 3 refine kO hT hC ?_
 refine kQ hT hC h fun h => ?_
 refine kO hT hC ?_
 refine kQ hT hC h fun h => ?_
 refine kO hT hC ?_
 obtain ⟨hq, h⟩ := Xbk h
 obtain ⟨s16, hs, h⟩ := Xa9 h
 injection hs with hs
 refine Xqa hT hC rfl rfl rfl rfl hq ?_
 rw [hs]
 refine kN ?_
 iterate 3 refine kO hT hC ?_
 refine kN ?_
 iterate 3 refine kO hT hC ?_
 refine kQ hT hC h fun h => ?_
 refine kO hT hC ?_
 refine kQ hT hC h fun h => ?_
 refine kO hT hC ?_
 obtain ⟨hq, h⟩ := Xbk h
 obtain ⟨s17, hs, h⟩ := Xa9 h
 injection hs with hs
 refine Xqa hT hC rfl rfl rfl rfl hq ?_
 rw [hs]
 refine kN ?_
 iterate 3 refine kO hT hC ?_
 refine kN ?_
 iterate 3 refine kO hT hC ?_
 refine kC hC [] Try.call67 h (fun _ => Xde) fun q18 h => ?_
 refine kQ hT hC h fun h => ?_
 refine kO hT hC ?_
 obtain ⟨hq, h⟩ := Xbk h
 obtain ⟨s19, hs, h⟩ := Xa9 h
 injection hs with hs
 refine Xqa hT hC rfl rfl rfl rfl hq ?_
 rw [hs]
 refine Vc.nil (Xaa ?_)
 iterate 3 refine kO hT hC ?_
 refine Vc.nil (Xb2 (Xaf (Xaa ?_)))
 iterate 3 refine kO hT hC ?_
 exact Vc.nil kG
 exact kf b3 (Xa5 (Xb9 ku))
 refine Xaf (Xab ?_)
 iterate 2 refine kO hT hC ?_
 refine Vc.nil (Xaj ?_)
 obtain rfl := kj h
 exact Xg3 (Xem.refl _) rfl ⟨rfl, trivial⟩
def Xfu (r : (Int × (List ByteArray))) : AV := .sv (.int .i64 r.1)
def Xft (r : (Int × (List ByteArray))) : Xbc := [(0, .row Xad r.2)]
theorem Xf8 {p0 p1 r} (h : Xbx p0 p1 = some r) : AC Try.prog 23 [.own 0, .sv (.int .i64 p1)] [(0, .row Xad p0)] (Xfu r) (Xft r) := by
 refine Xak hT Try.func23 rfl fun C hC => ?_
 unfold Xbx at h
 refine Xab ?_
 refine kO hT hC ?_
 refine Vc.nil (Xa4 (Xab ?_))
 refine kO hT hC ?_
 refine Vc.nil ?_
 refine kL [0,1,5] [0] [_,_,_] [_] ?_
 refine kX h (fun v3 => ([(1, .sv (.int .i64 v3.1)), (5, .sv (.int .i64 v3.2.1))], [(0, some (.row Xad v3.2.2))])) (fun v6 => ([(1, .sv (.int .i64 v6.1)), (0, .any), (5, .any)], [(0, some (.row Xad v6.2))])) (kW hC []) (fun v3 s h => ?_) fun v6 h => ?_
 unfold Xa8 at h
 refine Xa4 (Xab ?_)
 iterate 4 refine kO hT hC ?_
 refine Vc.nil ?_
 refine kS h ?_ ?_ <;> intro b3 h
 refine kt b3 (Xae (Xaf (Xa4 (Xbj (Xab ?_)))))
 iterate 3 refine kO hT hC ?_
 refine kC hC [] Try.call67 h (fun _ => Xde) fun q7 h => ?_
 iterate 2 refine kQ hT hC h fun h => ?_
 refine Vc.nil (Xaa ?_)
 iterate 3 refine kO hT hC ?_
 refine Vc.nil (Xb2 (Xaf (Xaa ?_)))
 iterate 3 refine kO hT hC ?_
 exact Vc.nil kG
 exact kf b3 (Xa5 (Xb9 ku))
 refine Xaf (Xab ?_)
 iterate 2 refine kO hT hC ?_
 refine Vc.nil (Xaj ?_)
 obtain rfl := kj h
 exact Xg3 (Xem.refl _) rfl ⟨rfl, trivial⟩
def Xdk (r : Int) : AV := .sv (.int .i64 r)
def Xdj (r : Int) : Xbc := []
theorem Xdx {p0 p1 r} (h : Xbd p0 p1 = some r) : AC Try.prog 24 [.sv (Xad.sv p0), .sv (.int .i64 p1)] [] (Xdk r) (Xdj r) := by
 refine Xak hT Try.func24 rfl fun C hC => ?_
 unfold Xbd at h
 refine Xab ?_
 refine kO hT hC ?_
 refine Vc.nil (Xa4 (Xab ?_))
 refine kO hT hC ?_
 refine Vc.nil ?_
 refine kL [0,1,5] [] [_,_,_] [] ?_
 obtain ⟨o8, hl, h⟩ := Xa9 h
 refine Xe1 (fun v3 => ([(1, .sv (.int .i64 v3.1)), (5, .sv (.int .i64 v3.2))], [])) (fun v6 => ([(1, .sv (.int .i64 v6)), (0, .any), (5, .any)], [])) (fun r => Xjf C T Try.f24.results.toList (Xdk r) (Xdj r)) hl ?_ ?_ ?_ ?_
 try dsimp only
 apply Xed hC []
 exact co
 rfl
 decide
 rfl
 intro v3 s hs
 have h := hs
 unfold Xa6 at h
 refine Xa4 (Xab ?_)
 iterate 4 refine kO hT hC ?_
 refine Vc.nil ?_
 refine kS h ?_ ?_ <;> intro b5 h
 refine kt b5 (Xae (Xaf (Xa4 (Xbj (Xa4 ?_)))))
 refine Xpf hm ?_
 iterate 2 refine kO hT hC ?_
 refine kQ hT hC h fun h => ?_
 iterate 2 refine kO hT hC ?_
 refine kC hC [] Try.call67 h (fun _ => Xde) fun q7 h => ?_
 refine kO hT hC ?_
 refine kD ?_
 refine kS h ?_ ?_ <;> intro b6 h
 refine kt b6 (Xab ?_)
 refine kO hT hC ?_
 refine Vc.nil (Xaj (Xar (Xjk (Xar ?_))))
 obtain rfl := kj h
 refine Xj7 (Xj5 ?_)
 exact Xg3 (Xem.refl _) rfl trivial
 refine kf b6 (Xae (Xaf (Xaa ?_)))
 iterate 3 refine kO hT hC ?_
 refine Vc.nil (Xb2 (Xaf (Xaa ?_)))
 iterate 3 refine kO hT hC ?_
 exact Vc.nil kG
 exact kf b5 (Xa5 (Xb9 kb))
 intro v6 e
 subst e
 refine Xaf (Xab ?_)
 iterate 2 refine kO hT hC ?_
 exact Vc.nil (Xaj kR)
 intro r' σ' e hE
 subst e
 obtain rfl := kj h
 refine Xar ?_
 exact hE
def Xei (r : Bool) : AV := .sv (.bool r)
def Xeh (r : Bool) : Xbc := []
theorem Xes {p0 r} (h : Xbe p0 = some r) : AC Try.prog 4 [.sv (Xax.sv p0)] [] (Xei r) (Xeh r) := by
 refine Xak hT Try.func4 rfl fun C hC => ?_
 unfold Xbe at h
 refine Xab ?_
 refine kO hT hC ?_
 refine kN ?_
 refine kO hT hC ?_
 refine kN ?_
 iterate 2 refine kO hT hC ?_
 refine kC hC [] Try.call16 h (fun _ => Xhs) fun q1 h => ?_
 refine kO hT hC ?_
 refine Vc.nil (Xa4 (Xab ?_))
 iterate 2 refine kO hT hC ?_
 refine Vc.nil ?_
 refine kS h ?_ ?_ <;> intro b1 h
 refine kt b1 (Xab ?_)
 refine kO hT hC ?_
 exact Vc.nil (Xaj (Xar kR))
 refine kf b1 (Xae (Xaf (Xab ?_)))
 refine kO hT hC ?_
 refine kC hC [(16, 336)] Try.call18 h (fun _ => Xb5) fun q2 h => ?_
 refine kC hC [(16, 352)] Try.call17 h (fun _ => Xh4) fun q3 h => ?_
 iterate 5 refine kO hT hC ?_
 refine kN ?_
 refine kO hT hC ?_
 refine kC hC [(16, 416)] Try.call18 h (fun _ => Xb5) fun q4 h => ?_
 refine kO hT hC ?_
 refine kN ?_
 refine kO hT hC ?_
 refine kC hC [(16, 464)] Try.call19 h (fun _ => Xeo) fun q5 h => ?_
 iterate 5 refine kO hT hC ?_
 refine Vc.nil (Xa4 ?_)
 refine kL [0,4,5,6,7,8] [352,416,464] [_,_,_,_,_,_] [_,_,_] ?_
 refine kA h (fun v6 => ([(40, .sv (.bool v6))], [])) (fun v6 h => ?_) fun v6 h => ?_
 refine Xaa ?_
 iterate 2 refine kO hT hC ?_
 refine kC hC [] Try.call20 h (fun _ => Xcy) fun q7 h => ?_
 iterate 2 refine kO hT hC ?_
 refine kS h ?_ ?_ <;> intro b2 h
 iterate 3 refine kI hT hC (kn b2) ?_
 refine kP hC false (kn b2) ?_
 exact Vc.nil kM
 iterate 3 refine kF hC (kn b2) ?_
 refine kP hC true (kn b2) ?_
 exact Vc.nil kM
 refine kS h ?_ ?_ <;> intro b3 h
 refine kt b3 (Xab ?_)
 refine kO hT hC ?_
 exact Vc.nil (Xaj (Xar kR))
 refine kf b3 (Xae (Xaf (Xa4 (Xab ?_))))
 iterate 2 refine kO hT hC ?_
 refine kC hC [(16, 688)] Try.call18 h (fun _ => Xb5) fun q8 h => ?_
 refine kC hC [] Try.call21 h (fun _ => Xhn) fun q9 h => ?_
 refine kO hT hC ?_
 refine Vc.nil ?_
 refine kS h ?_ ?_ <;> intro b4 h
 refine kt b4 (Xab ?_)
 refine kO hT hC ?_
 exact Vc.nil (Xaj (Xar kR))
 refine kf b4 (Xae (Xaf (Xab ?_)))
 refine kO hT hC ?_
 refine kN ?_
 iterate 2 refine kO hT hC ?_
 refine kC hC [(0, 416)] Try.call22 h (fun _ => Xf6) fun q10 h => ?_
 refine kO hT hC ?_
 refine Vc.nil (Xa4 ?_)
 refine kL [0,4,5,7,8,9] [352,464] [_,_,_,_,_,_] [_,_] ?_
 refine kA h (fun v11 => ([(61, .sv (.bool v11)), (8, .any), (9, .any)], [])) (fun v11 h => ?_) fun v11 h => ?_
 refine Xaa ?_
 iterate 3 refine kO hT hC ?_
 refine kS h ?_ ?_ <;> intro b5 h
 iterate 4 refine kF hC b5 ?_
 refine kP hC true b5 ?_
 refine kO hT hC ?_
 iterate 3 refine kF hC rfl ?_
 refine kO hT hC ?_
 exact Vc.nil kM
 iterate 2 refine kI hT hC b5 ?_
 refine kE hC b5 [] Try.call20 h (fun _ => Xcy) fun q12 h => ?_
 refine kI hT hC b5 ?_
 refine kP hC false b5 ?_
 refine kO hT hC ?_
 refine kS h ?_ ?_ <;> intro b6 h
 iterate 3 refine kI hT hC (kn b6) ?_
 refine kP hC false (kn b6) ?_
 exact Vc.nil kM
 iterate 3 refine kF hC (kn b6) ?_
 refine kP hC true (kn b6) ?_
 exact Vc.nil kM
 refine kS h ?_ ?_ <;> intro b7 h
 refine kt b7 (Xab ?_)
 refine kO hT hC ?_
 exact Vc.nil (Xaj (Xar kR))
 refine kf b7 (Xae (Xaf (Xab ?_)))
 refine kO hT hC ?_
 refine kN ?_
 iterate 2 refine kO hT hC ?_
 refine kC hC [(0, 464)] Try.call23 h (fun _ => Xf8) fun q13 h => ?_
 refine kO hT hC ?_
 refine kN ?_
 refine kO hT hC ?_
 refine kN ?_
 iterate 2 refine kO hT hC ?_
 refine kC hC [] Try.call24 h (fun _ => Xdx) fun q14 h => ?_
 refine kO hT hC ?_
 refine Vc.nil (Xa4 (Xab ?_))
 iterate 2 refine kO hT hC ?_
 refine Vc.nil ?_
 refine kS h ?_ ?_ <;> intro b8 h
 refine kt b8 (Xab ?_)
 refine kO hT hC ?_
 exact Vc.nil (Xaj (Xar kR))
 refine kf b8 (Xae (Xaf (Xa4 (Xab ?_))))
 iterate 3 refine kO hT hC ?_
 refine Vc.nil ?_
 refine kS h ?_ ?_ <;> intro b9 h
 refine kt b9 (Xab ?_)
 refine kO hT hC ?_
 exact Vc.nil (Xaj (Xar kR))
 refine kf b9 (Xae (Xaf (Xab ?_)))
 refine kO hT hC ?_
 refine kC hC [(16, 1200)] Try.call18 h (fun _ => Xb5) fun q15 h => ?_
 refine kC hC [(16, 1216)] Try.call19 h (fun _ => Xeo) fun q16 h => ?_
 iterate 5 refine kO hT hC ?_
 refine Vc.nil (Xa4 ?_)
 refine kL [4,5,7,10,12,13] [352,464,1216] [_,_,_,_,_,_] [_,_,_] ?_
 refine kA h (fun v17 => ([(87, .sv (.bool v17)), (4, .any), (5, .any), (12, .any), (13, .any)], [(352, none), (1216, none)])) (fun v17 h => ?_) fun v17 h => ?_
 refine Xaa ?_
 iterate 2 refine kO hT hC ?_
 refine kC hC [] Try.call20 h (fun _ => Xcy) fun q18 h => ?_
 iterate 2 refine kO hT hC ?_
 refine kS h ?_ ?_ <;> intro b10 h
 iterate 3 refine kI hT hC (kn b10) ?_
 refine kP hC false (kn b10) ?_
 exact Vc.nil kM
 iterate 3 refine kF hC (kn b10) ?_
 refine kP hC true (kn b10) ?_
 exact Vc.nil kM
 refine kS h ?_ ?_ <;> intro b11 h
 refine kt b11 (Xab ?_)
 refine kO hT hC ?_
 exact Vc.nil (Xaj (Xar kR))
 refine kf b11 (Xae (Xaf (Xab ?_)))
 refine kO hT hC ?_
 refine kN ?_
 iterate 2 refine kO hT hC ?_
 refine kC hC [] Try.call24 h (fun _ => Xdx) fun q19 h => ?_
 refine kO hT hC ?_
 refine Vc.nil (Xa4 (Xab ?_))
 iterate 2 refine kO hT hC ?_
 refine Vc.nil ?_
 refine kS h ?_ ?_ <;> intro b12 h
 refine kt b12 (Xab ?_)
 refine kO hT hC ?_
 exact Vc.nil (Xaj (Xar kR))
 refine kf b12 (Xae (Xaf (Xa4 (Xab ?_))))
 iterate 3 refine kO hT hC ?_
 refine Vc.nil ?_
 refine kS h ?_ ?_ <;> intro b13 h
 refine kt b13 (Xab ?_)
 refine kO hT hC ?_
 exact Vc.nil (Xaj (Xar kR))
 refine kf b13 (Xae (Xaf (Xab ?_)))
 refine kO hT hC ?_
 exact Vc.nil (Xaj kR)
end
end Go.Proofs.Ytlebkepfhdjnmab.A
