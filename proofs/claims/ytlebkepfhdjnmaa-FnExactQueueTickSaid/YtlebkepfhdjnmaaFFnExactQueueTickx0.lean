/- Contracts of the functions that the law FnExactQueueTick reaches, part 0: each comes to what its pure function tells. Written by a program of this session. Conditions: as each statement tells. -/
import Derived.Test.YtlebkepfhdjnmaaBFnExactQueueTick
namespace Go.Proofs.Ytlebkepfhdjnmaa.A
open Go Go.Proofs Go.Proofs.YtlebkepfhdjnmaaAL Go.RowKit
set_option linter.unusedVariables false
set_option linter.unusedSimpArgs false
set_option maxRecDepth 100000
set_option maxHeartbeats 8000000
noncomputable section
def Xjf (r : Bool) : AV := .sv (.bool r)
def Xje (r : Bool) : Xa9 := []
theorem Xby {p0 p1 p2 r} (h : Xbi p0 p1 p2 = some r) : AC Try.prog 38 [.sv (.int .i64 p0), .sv (.int .i64 p1), .sv (.int .i64 p2)] [] (Xjf r) (Xje r) := by
 refine Xah hT Try.func38 rfl fun C hC => ?_
 unfold Xbi at h
 refine Xaa ?_
 refine kO hT hC ?_
 refine Vc.nil ?_
 refine kL [0,1,2,6] [] [_,_,_,_] [] ?_
 refine kA h (fun v1 => ([(6, .sv (.bool v1)), (0, .any), (1, .any), (2, .any)], [])) (fun v1 h => ?_) fun v1 h => ?_
 refine Xaf ?_
 iterate 4 refine kO hT hC ?_
 refine kS h ?_ ?_ <;> intro b1 h
 iterate 3 refine kI hT hC b1 ?_
 refine kP hC true b1 ?_
 refine kO hT hC ?_
 exact Vc.nil kM
 iterate 3 refine kF hC b1 ?_
 refine kP hC false b1 ?_
 refine kO hT hC ?_
 exact Vc.nil kM
 exact Xad kR
def Xg9 (r : Int) : AV := .sv (.int .i64 r)
def Xg8 (r : Int) : Xa9 := []
theorem Xh3 {p0 p1 r} (h : Xcq p0 p1 = some r) : AC Try.prog 27 [.agg [.sv (.int .i64 p0.Seq), .sv (.bool p0.First), .sv (.bool p0.Last), .sv (.str p0.Bytes)], .sv (.int .i64 p1)] [] (Xg9 r) (Xg8 r) := by
 refine Xah hT Try.func27 rfl fun C hC => ?_
 unfold Xcq at h
 refine Xaa ?_
 iterate 2 refine kO hT hC ?_
 refine kN ?_
 iterate 6 refine kO hT hC ?_
 refine Vc.nil (Xbb (Xaa ?_))
 iterate 2 refine kO hT hC ?_
 refine Vc.nil ?_
 refine kS h ?_ ?_ <;> intro b1 h
 refine kt b1 (Xaa ?_)
 refine kO hT hC ?_
 exact Vc.nil (Xad (Xal kR))
 refine kf b1 (Xab (Xag (Xaa ?_)))
 iterate 2 refine kO hT hC ?_
 exact Vc.nil (Xad kR)
def Xea (r : Int) : AV := .sv (.int .i64 r)
def Xd9 (r : Int) : Xa9 := []
theorem Xg6 {p0 p1 r} (h : Xb9 p0 p1 = some r) : AC Try.prog 39 [.sv (Xae.sv p0), .sv (.int .i64 p1)] [] (Xea r) (Xd9 r) := by
 refine Xah hT Try.func39 rfl fun C hC => ?_
 unfold Xb9 at h
 refine Xaa ?_
 refine kO hT hC ?_
 refine kN ?_
 iterate 5 refine kO hT hC ?_
 refine Vc.nil (Xbb (Xaa ?_))
 iterate 2 refine kO hT hC ?_
 refine Vc.nil ?_
 refine kS h ?_ ?_ <;> intro b1 h
 refine kt b1 (Xaa ?_)
 refine kO hT hC ?_
 exact Vc.nil (Xad (Xal kR))
 refine kf b1 (Xab (Xag (Xbb (Xaa ?_))))
 refine kO hT hC ?_
 refine Vc.nil ?_
 refine kL [0,1,5] [] [_,_,_] [] ?_
 obtain ⟨o8, hl, h⟩ := Xay h
 refine Xfc (fun v3 => ([(1, .sv (.int .i64 v3.1)), (5, .sv (.int .i64 v3.2))], [])) (fun v6 => ([(1, .sv (.int .i64 v6)), (0, .any), (5, .any)], [])) (fun r => Xkc C T Try.f39.results.toList (Xea r) (Xd9 r)) hl ?_ ?_ ?_ ?_
 try dsimp only
 apply Xfq hC []
 exact co
 rfl
 decide
 rfl
 intro v3 s hs
 have h := hs
 unfold Xbm at h
 refine Xbb (Xaa ?_)
 iterate 4 refine kO hT hC ?_
 refine Vc.nil ?_
 refine kS h ?_ ?_ <;> intro b6 h
 refine kt b6 (Xab (Xag (Xbb (Xct (Xaa ?_)))))
 iterate 2 refine kO hT hC ?_
 refine kQ hT hC h fun h => ?_
 iterate 2 refine kO hT hC ?_
 refine kC hC [] Try.call27 h (fun _ => Xh3) fun q7 h => ?_
 refine kO hT hC ?_
 refine kN ?_
 iterate 2 refine kO hT hC ?_
 refine Vc.nil ?_
 refine kS h ?_ ?_ <;> intro b7 h
 refine kt b7 (Xaa ?_)
 refine kO hT hC ?_
 refine Vc.nil (Xad (Xfz (Xal ?_)))
 obtain rfl := kj h
 refine Xic (Xib ?_)
 exact Xgj (Xec.refl _) rfl trivial
 refine kf b7 (Xab (Xd4 (Xag (Xaf ?_))))
 iterate 3 refine kO hT hC ?_
 exact Vc.nil kG
 exact kf b6 (Xce (Xdm kb))
 intro v6 e
 subst e
 refine Xag (Xaa ?_)
 iterate 2 refine kO hT hC ?_
 exact Vc.nil (Xad kR)
 intro r' σ' e hE
 subst e
 obtain rfl := kj h
 refine Xal ?_
 exact hE
def Xh6 (r : Int) : AV := .sv (.int .i64 r)
def Xh5 (r : Int) : Xa9 := []
theorem Xjg {p0 p1 r} (h : Xc8 p0 p1 = some r) : AC Try.prog 15 [.agg [.sv (.bool p0.Begun), .sv (.int .i64 p0.Next), .sv (.int .i64 p0.Age), .sv (Xae.sv p0.Held), .sv (.int .i64 p0.Late), .sv (.int .i64 p0.Far), .sv (.int .i64 p0.Twice), .sv (.int .i64 p0.Over), .sv (.int .i64 p0.Lost)], .sv (.int .i64 p1)] [] (Xh6 r) (Xh5 r) := by
 refine Xah hT Try.func15 rfl fun C hC => ?_
 unfold Xc8 at h
 refine Xaa ?_
 iterate 2 refine kO hT hC ?_
 refine kN ?_
 iterate 3 refine kO hT hC ?_
 refine kC hC [] Try.call39 h (fun _ => Xg6) fun q1 h => ?_
 refine kO hT hC ?_
 refine Vc.nil (Xbb (Xaa ?_))
 iterate 2 refine kO hT hC ?_
 refine Vc.nil ?_
 refine kS h ?_ ?_ <;> intro b1 h
 refine kt b1 (Xaa ?_)
 refine kO hT hC ?_
 exact Vc.nil (Xad (Xal kR))
 refine kf b1 (Xab (Xag (Xaa ?_)))
 iterate 2 refine kO hT hC ?_
 exact Vc.nil (Xad kR)
def Xhd (r : Packet) : AV := .agg [.sv (.int .i64 r.Seq), .sv (.bool r.First), .sv (.bool r.Last), .sv (.str r.Bytes)]
def Xhc (r : Packet) : Xa9 := []
theorem Xh7 {p0 r} (h : Xds p0 = some r) : AC Try.prog 29 [.agg [.sv (.int .i64 p0.Seq), .sv (.bool p0.First), .sv (.bool p0.Last), .sv (.str p0.Bytes)]] [] (Xhd r) (Xhc r) := by
 refine Xah hT Try.func29 rfl fun C hC => ?_
 unfold Xds at h
 refine Xaa ?_
 iterate 2 refine kO hT hC ?_
 refine kN ?_
 refine kO hT hC ?_
 refine kN ?_
 iterate 4 refine kO hT hC ?_
 refine kN ?_
 iterate 4 refine kO hT hC ?_
 refine kN ?_
 iterate 4 refine kO hT hC ?_
 refine kN ?_
 iterate 4 refine kO hT hC ?_
 refine kN ?_
 iterate 2 refine kO hT hC ?_
 exact Vc.nil (Xad kR)
def Xgb (r : (List Packet)) : AV := .own 16
def Xga (r : (List Packet)) : Xa9 := [(16, .row Xae r)]
theorem Xha {p0 r} (h : Xca p0 = some r) : AC Try.prog 46 [.sv (Xae.sv p0)] [] (Xgb r) (Xga r) := by
 refine Xah hT Try.func46 rfl fun C hC => ?_
 unfold Xca at h
 refine Xaa ?_
 refine kO hT hC ?_
 refine kN ?_
 iterate 2 refine kO hT hC ?_
 obtain ⟨hq, h⟩ := Xa8 h
 refine Xmy hT hC rfl rfl rfl rfl ⟨hq.1, hq.2.1, hq.2.2, by decide⟩ ?_
 refine kO hT hC ?_
 refine Vc.nil (Xbb (Xaa ?_))
 refine kO hT hC ?_
 refine Vc.nil ?_
 refine kL [0,3,4] [112] [_,_,_] [_] ?_
 refine kX h (fun v4 => ([(4, .sv (.int .i64 v4.1))], [(112, some (.row Xae v4.2))])) (fun v8 => ([(0, .any), (4, .any)], [(112, some (.row Xae v8))])) (kW hC []) (fun v4 s h => ?_) fun v8 h => ?_
 unfold Xbn at h
 refine Xbb (Xaa ?_)
 iterate 4 refine kO hT hC ?_
 refine Vc.nil ?_
 refine kS h ?_ ?_ <;> intro b3 h
 refine kt b3 (Xab (Xag (Xbb (Xct (Xaf ?_)))))
 iterate 4 refine kO hT hC ?_
 refine kQ hT hC h fun h => ?_
 refine kO hT hC ?_
 refine kC hC [] Try.call29 h (fun _ => Xh7) fun q9 h => ?_
 refine kQ hT hC h fun h => ?_
 obtain ⟨hq, h⟩ := Xa8 h
 obtain ⟨s10, hs, h⟩ := Xay h
 injection hs with hs
 refine Xmy hT hC rfl rfl rfl rfl hq ?_
 rw [hs]
 refine Vc.nil (Xd4 (Xag (Xaf ?_)))
 iterate 3 refine kO hT hC ?_
 exact Vc.nil kG
 exact kf b3 (Xce (Xdm ku))
 refine Xag (Xaa ?_)
 iterate 2 refine kO hT hC ?_
 refine Vc.nil (Xad ?_)
 obtain rfl := kj h
 exact Xgj (τ := ⟨[(2, .own 16)], [(16, some (.row Xae v8))]⟩) (kW hC [(16, 112)]) rfl ⟨rfl, trivial⟩
def Xh9 (r : Queue) : AV := .agg [.sv (.bool r.Begun), .sv (.int .i64 r.Next), .sv (.int .i64 r.Age), .own 16, .sv (.int .i64 r.Late), .sv (.int .i64 r.Far), .sv (.int .i64 r.Twice), .sv (.int .i64 r.Over), .sv (.int .i64 r.Lost)]
def Xh8 (r : Queue) : Xa9 := [(16, .row Xae r.Held)]
theorem Xcr {p0 r} (h : Xbr p0 = some r) : AC Try.prog 17 [.agg [.sv (.bool p0.Begun), .sv (.int .i64 p0.Next), .sv (.int .i64 p0.Age), .sv (Xae.sv p0.Held), .sv (.int .i64 p0.Late), .sv (.int .i64 p0.Far), .sv (.int .i64 p0.Twice), .sv (.int .i64 p0.Over), .sv (.int .i64 p0.Lost)]] [] (Xh9 r) (Xh8 r) := by
 refine Xah hT Try.func17 rfl fun C hC => ?_
 unfold Xbr at h
 refine Xaa ?_
 iterate 2 refine kO hT hC ?_
 refine kN ?_
 refine kO hT hC ?_
 refine kN ?_
 iterate 4 refine kO hT hC ?_
 refine kN ?_
 iterate 4 refine kO hT hC ?_
 refine kN ?_
 iterate 4 refine kO hT hC ?_
 refine kN ?_
 iterate 2 refine kO hT hC ?_
 refine kC hC [(16, 240)] Try.call46 h (fun _ => Xha) fun q1 h => ?_
 iterate 2 refine kO hT hC ?_
 refine kN ?_
 iterate 4 refine kO hT hC ?_
 refine kN ?_
 iterate 4 refine kO hT hC ?_
 refine kN ?_
 iterate 4 refine kO hT hC ?_
 refine kN ?_
 iterate 4 refine kO hT hC ?_
 refine kN ?_
 iterate 4 refine kO hT hC ?_
 refine kN ?_
 iterate 2 refine kO hT hC ?_
 refine Vc.nil (Xad ?_)
 obtain rfl := kj h
 exact Xgj (τ := ⟨[(2, .ptr 2000000 0)], [(16, some (.row Xae q1)), (2000000, some (.box [.sv (.bool p0.Begun), .sv (.int .i64 p0.Next), .sv (.int .i64 p0.Age), .own 16, .sv (.int .i64 p0.Late), .sv (.int .i64 p0.Far), .sv (.int .i64 p0.Twice), .sv (.int .i64 p0.Over), .sv (.int .i64 p0.Lost)]))]⟩) (kW hC [(16, 240), (2000000, 32)]) rfl ⟨rfl, trivial⟩
def Xil (r : Queue) : AV := .agg [.sv (.bool r.Begun), .sv (.int .i64 r.Next), .sv (.int .i64 r.Age), .own 16, .sv (.int .i64 r.Late), .sv (.int .i64 r.Far), .sv (.int .i64 r.Twice), .sv (.int .i64 r.Over), .sv (.int .i64 r.Lost)]
def Xik (r : Queue) : Xa9 := [(16, .row Xae r.Held)]
theorem Xj4 {p0 r} (h : Xdc p0 = some r) : AC Try.prog 40 [.agg [.sv (.bool p0.Begun), .sv (.int .i64 p0.Next), .sv (.int .i64 p0.Age), .sv (Xae.sv p0.Held), .sv (.int .i64 p0.Late), .sv (.int .i64 p0.Far), .sv (.int .i64 p0.Twice), .sv (.int .i64 p0.Over), .sv (.int .i64 p0.Lost)]] [] (Xil r) (Xik r) := by
 refine Xah hT Try.func40 rfl fun C hC => ?_
 unfold Xdc at h
 refine Xaa ?_
 iterate 2 refine kO hT hC ?_
 refine kN ?_
 iterate 3 refine kO hT hC ?_
 obtain ⟨hq, h⟩ := Xa8 h
 refine Xmy hT hC rfl rfl rfl rfl ⟨fun _ _ => rfl, by rw [Xan]; exact hq⟩ ?_
 rw [Xan]
 iterate 2 refine kO hT hC ?_
 refine kN ?_
 iterate 2 refine kO hT hC ?_
 refine Vc.nil (Xad ?_)
 obtain rfl := kj h
 exact Xgj (τ := ⟨[(2, .ptr 2000000 0)], [(16, some (.row Xae (([] : List Packet) ++ p0.Held))), (2000000, some (.box [.sv (.bool p0.Begun), .sv (.int .i64 p0.Next), .sv (.int .i64 p0.Age), .own 16, .sv (.int .i64 p0.Late), .sv (.int .i64 p0.Far), .sv (.int .i64 p0.Twice), .sv (.int .i64 p0.Over), .sv (.int .i64 p0.Lost)]))]⟩) (kW hC [(16, 96), (2000000, 32)]) rfl ⟨rfl, trivial⟩
def Xkl (r : Bool) : AV := .sv (.bool r)
def Xkk (r : Bool) : Xa9 := []
theorem Xat {p0 p1 p2 r} (h : Xaz p0 p1 p2 = some r) : AC Try.prog 42 [.sv (.int .i64 p0), .sv (.int .i64 p1), .sv (.int .i64 p2)] [] (Xkl r) (Xkk r) := by
 refine Xah hT Try.func42 rfl fun C hC => ?_
 unfold Xaz at h
 refine Xaa ?_
 refine kO hT hC ?_
 refine Vc.nil ?_
 refine kL [0,1,2,6] [] [_,_,_,_] [] ?_
 refine kA h (fun v1 => ([(6, .sv (.bool v1)), (0, .any), (1, .any), (2, .any)], [])) (fun v1 h => ?_) fun v1 h => ?_
 refine Xaf ?_
 iterate 4 refine kO hT hC ?_
 refine kS h ?_ ?_ <;> intro b1 h
 iterate 3 refine kI hT hC b1 ?_
 refine kP hC true b1 ?_
 refine kO hT hC ?_
 exact Vc.nil kM
 iterate 3 refine kF hC b1 ?_
 refine kP hC false b1 ?_
 refine kO hT hC ?_
 exact Vc.nil kM
 exact Xad kR
def Xj3 (r : Int) : AV := .sv (.int .i64 r)
def Xj2 (r : Int) : Xa9 := []
theorem Xfn {p0 p1 r} (h : Xc2 p0 p1 = some r) : AC Try.prog 58 [.sv (.int .i64 p0), .sv (.int .i64 p1)] [] (Xj3 r) (Xj2 r) := by
 refine Xah hT Try.func58 rfl fun C hC => ?_
 unfold Xc2 at h
 refine Xaa ?_
 refine kO hT hC ?_
 refine Vc.nil (Xbb ?_)
 refine kL [0,1] [] [_,_] [] ?_
 refine kA h (fun v1 => ([(13, .sv (.bool v1))], [])) (fun v1 h => ?_) fun v1 h => ?_
 refine Xaf ?_
 refine kO hT hC ?_
 refine kC hC [] Try.call42 h (fun _ => Xat) fun q2 h => ?_
 iterate 2 refine kO hT hC ?_
 refine kS h ?_ ?_ <;> intro b1 h
 refine kI hT hC (kn b1) ?_
 refine kE hC (kn b1) [] Try.call42 h (fun _ => Xat) fun q3 h => ?_
 refine kI hT hC (kn b1) ?_
 refine kP hC false (kn b1) ?_
 exact Vc.nil kM
 iterate 3 refine kF hC (kn b1) ?_
 refine kP hC true (kn b1) ?_
 exact Vc.nil kM
 refine kS h ?_ ?_ <;> intro b2 h
 refine kt b2 (Xaa ?_)
 refine kO hT hC ?_
 exact Vc.nil (Xad (Xal kR))
 refine kf b2 (Xab (Xag (Xaa ?_)))
 iterate 4 refine kO hT hC ?_
 refine Vc.nil ?_
 refine kL [5] [] [_] [] ?_
 refine kA h (fun v4 => ([(5, .sv (.int .i64 v4))], [])) (fun v4 h => ?_) fun v4 h => ?_
 refine Xaa ?_
 iterate 2 refine kO hT hC ?_
 refine Vc.nil ?_
 refine kS h ?_ ?_ <;> intro b3 h
 refine kt b3 (Xaf ?_)
 iterate 3 refine kO hT hC ?_
 exact Vc.nil kM
 exact kf b3 (Xab kM)
 refine kL [5] [] [_] [] ?_
 refine kA h (fun v5 => ([(5, .sv (.int .i64 v5))], [])) (fun v5 h => ?_) fun v5 h => ?_
 refine Xaa ?_
 iterate 2 refine kO hT hC ?_
 refine Vc.nil ?_
 refine kS h ?_ ?_ <;> intro b4 h
 refine kt b4 (Xaf ?_)
 iterate 3 refine kO hT hC ?_
 exact Vc.nil kM
 exact kf b4 (Xab kM)
 refine Xaa ?_
 iterate 2 refine kO hT hC ?_
 exact Vc.nil (Xad kR)
def Xhi (r : Bool) : AV := .sv (.bool r)
def Xhh (r : Bool) : Xa9 := []
theorem Xig {p0 r} (h : Xcu p0 = some r) : AC Try.prog 57 [.agg [.sv (.int .i64 p0.Seq), .sv (.bool p0.First), .sv (.bool p0.Last), .sv (.str p0.Bytes)]] [] (Xhi r) (Xhh r) := by
 refine Xah hT Try.func57 rfl fun C hC => ?_
 unfold Xcu at h
 refine Xaa ?_
 iterate 2 refine kO hT hC ?_
 refine Vc.nil ?_
 refine kL [1,2] [16] [_,_] [_] ?_
 refine kA h (fun v1 => ([(2, .sv (.bool v1)), (1, .any)], [(16, none)])) (fun v1 h => ?_) fun v1 h => ?_
 refine Xaf ?_
 iterate 2 refine kO hT hC ?_
 refine kC hC [] Try.call42 h (fun _ => Xat) fun q2 h => ?_
 refine kO hT hC ?_
 refine kS h ?_ ?_ <;> intro b1 h
 iterate 3 refine kI hT hC b1 ?_
 refine kE hC b1 [] Try.call42 h (fun _ => Xat) fun q3 h => ?_
 refine kP hC true b1 ?_
 refine kO hT hC ?_
 exact Vc.nil kM
 iterate 4 refine kF hC b1 ?_
 refine kP hC false b1 ?_
 refine kO hT hC ?_
 exact Vc.nil kM
 exact Xad kR
def Xhm (r : Bool) : AV := .sv (.bool r)
def Xhl (r : Bool) : Xa9 := []
theorem Xbw {p0 r} (h : Xa3 p0 = some r) : AC Try.prog 63 [.sv (.int .i64 p0)] [] (Xhm r) (Xhl r) := by
 refine Xah hT Try.func63 rfl fun C hC => ?_
 unfold Xa3 at h
 refine Xaa ?_
 refine kO hT hC ?_
 refine kN ?_
 refine kO hT hC ?_
 refine kC hC [] Try.call42 h (fun _ => Xat) fun q1 h => ?_
 refine kO hT hC ?_
 exact Vc.nil (Xad kR)
def Xe9 (r : Bool) : AV := .sv (.bool r)
def Xe8 (r : Bool) : Xa9 := []
theorem Xj0 {p0 r} (h : Xdb p0 = some r) : AC Try.prog 41 [.agg [.sv (.bool p0.Begun), .sv (.int .i64 p0.Next), .sv (.int .i64 p0.Age), .sv (Xae.sv p0.Held), .sv (.int .i64 p0.Late), .sv (.int .i64 p0.Far), .sv (.int .i64 p0.Twice), .sv (.int .i64 p0.Over), .sv (.int .i64 p0.Lost)]] [] (Xe9 r) (Xe8 r) := by
 refine Xah hT Try.func41 rfl fun C hC => ?_
 unfold Xdb at h
 refine Xaa ?_
 iterate 2 refine kO hT hC ?_
 refine Vc.nil (Xbb (Xaa ?_))
 iterate 3 refine kO hT hC ?_
 refine Vc.nil ?_
 refine kS h ?_ ?_ <;> intro b1 h
 refine kt b1 ?_
 refine kL [1,2] [16] [_,_] [_] ?_
 refine kA h (fun v1 => ([(2, .sv (.bool v1)), (1, .any)], [(16, none)])) (fun v1 h => ?_) fun v1 h => ?_
 refine Xaf ?_
 iterate 4 refine kO hT hC ?_
 refine kS h ?_ ?_ <;> intro b2 h
 iterate 3 refine kI hT hC b2 ?_
 refine kP hC true b2 ?_
 refine kO hT hC ?_
 refine kS h ?_ ?_ <;> intro b3 h
 iterate 4 refine kI hT hC b3 ?_
 refine kP hC true b3 ?_
 refine kO hT hC ?_
 refine kS h ?_ ?_ <;> intro b4 h
 iterate 3 refine kI hT hC b4 ?_
 refine kP hC true b4 ?_
 refine kO hT hC ?_
 refine kS h ?_ ?_ <;> intro b5 h
 iterate 3 refine kI hT hC b5 ?_
 refine kP hC true b5 ?_
 refine kO hT hC ?_
 refine kS h ?_ ?_ <;> intro b6 h
 iterate 3 refine kI hT hC b6 ?_
 refine kP hC true b6 ?_
 refine kO hT hC ?_
 refine kS h ?_ ?_ <;> intro b7 h
 iterate 3 refine kI hT hC b7 ?_
 refine kP hC true b7 ?_
 refine kO hT hC ?_
 refine kS h ?_ ?_ <;> intro b8 h
 iterate 3 refine kI hT hC b8 ?_
 refine kP hC true b8 ?_
 refine kO hT hC ?_
 exact Vc.nil kM
 iterate 3 refine kF hC b8 ?_
 refine kP hC false b8 ?_
 refine kO hT hC ?_
 exact Vc.nil kM
 iterate 3 refine kF hC b7 ?_
 refine kP hC false b7 ?_
 refine kO hT hC ?_
 iterate 3 refine kF hC rfl ?_
 iterate 2 refine kO hT hC ?_
 exact Vc.nil kM
 iterate 3 refine kF hC b6 ?_
 refine kP hC false b6 ?_
 refine kO hT hC ?_
 iterate 3 refine kF hC rfl ?_
 iterate 2 refine kO hT hC ?_
 iterate 3 refine kF hC rfl ?_
 iterate 2 refine kO hT hC ?_
 exact Vc.nil kM
 iterate 3 refine kF hC b5 ?_
 refine kP hC false b5 ?_
 refine kO hT hC ?_
 iterate 3 refine kF hC rfl ?_
 iterate 2 refine kO hT hC ?_
 iterate 3 refine kF hC rfl ?_
 iterate 2 refine kO hT hC ?_
 iterate 3 refine kF hC rfl ?_
 iterate 2 refine kO hT hC ?_
 exact Vc.nil kM
 iterate 3 refine kF hC b4 ?_
 refine kP hC false b4 ?_
 refine kO hT hC ?_
 iterate 3 refine kF hC rfl ?_
 iterate 2 refine kO hT hC ?_
 iterate 3 refine kF hC rfl ?_
 iterate 2 refine kO hT hC ?_
 iterate 3 refine kF hC rfl ?_
 iterate 2 refine kO hT hC ?_
 iterate 3 refine kF hC rfl ?_
 iterate 2 refine kO hT hC ?_
 exact Vc.nil kM
 iterate 4 refine kF hC b3 ?_
 refine kP hC false b3 ?_
 refine kO hT hC ?_
 iterate 3 refine kF hC rfl ?_
 iterate 2 refine kO hT hC ?_
 iterate 3 refine kF hC rfl ?_
 iterate 2 refine kO hT hC ?_
 iterate 3 refine kF hC rfl ?_
 iterate 2 refine kO hT hC ?_
 iterate 3 refine kF hC rfl ?_
 iterate 2 refine kO hT hC ?_
 iterate 3 refine kF hC rfl ?_
 iterate 2 refine kO hT hC ?_
 exact Vc.nil kM
 iterate 3 refine kF hC b2 ?_
 refine kP hC false b2 ?_
 refine kO hT hC ?_
 iterate 4 refine kF hC rfl ?_
 iterate 2 refine kO hT hC ?_
 iterate 3 refine kF hC rfl ?_
 iterate 2 refine kO hT hC ?_
 iterate 3 refine kF hC rfl ?_
 iterate 2 refine kO hT hC ?_
 iterate 3 refine kF hC rfl ?_
 iterate 2 refine kO hT hC ?_
 iterate 3 refine kF hC rfl ?_
 iterate 2 refine kO hT hC ?_
 iterate 3 refine kF hC rfl ?_
 iterate 2 refine kO hT hC ?_
 exact Vc.nil kM
 exact Xad (Xal kR)
 refine kf b1 (Xab (Xag (Xbb ?_)))
 refine kL [1] [16] [_] [_] ?_
 refine kA h (fun v2 => ([(63, .sv (.bool v2))], [])) (fun v2 h => ?_) fun v2 h => ?_
 refine Xaf ?_
 iterate 2 refine kO hT hC ?_
 refine kC hC [] Try.call42 h (fun _ => Xat) fun q3 h => ?_
 iterate 2 refine kO hT hC ?_
 refine kS h ?_ ?_ <;> intro b9 h
 iterate 2 refine kI hT hC (kn b9) ?_
 refine kE hC (kn b9) [] Try.call42 h (fun _ => Xat) fun q4 h => ?_
 refine kI hT hC (kn b9) ?_
 refine kP hC false (kn b9) ?_
 refine kO hT hC ?_
 refine kS h ?_ ?_ <;> intro b10 h
 iterate 4 refine kI hT hC (kn b10) ?_
 refine kP hC false (kn b10) ?_
 exact Vc.nil kM
 iterate 4 refine kF hC (kn b10) ?_
 refine kP hC true (kn b10) ?_
 exact Vc.nil kM
 iterate 4 refine kF hC (kn b9) ?_
 refine kP hC true (kn b9) ?_
 refine kO hT hC ?_
 iterate 4 refine kF hC rfl ?_
 refine kO hT hC ?_
 exact Vc.nil kM
 refine kS h ?_ ?_ <;> intro b11 h
 refine kt b11 (Xaa ?_)
 refine kO hT hC ?_
 exact Vc.nil (Xad (Xal kR))
 refine kf b11 (Xab (Xag (Xaa ?_)))
 refine kO hT hC ?_
 refine Vc.nil (Xbb (Xaa ?_))
 refine kO hT hC ?_
 refine Vc.nil ?_
 refine kL [1,3,4] [16] [_,_,_] [_] ?_
 obtain ⟨o18, hl, h⟩ := Xay h
 refine Xfc (fun v9 => ([(3, .sv (.int .i64 v9.1)), (4, .sv (.int .i64 v9.2))], [])) (fun v14 => ([(3, .any), (4, .any)], [])) (fun r => Xkc C T Try.f41.results.toList (Xe9 r) (Xe8 r)) hl ?_ ?_ ?_ ?_
 try dsimp only
 apply Xfq hC []
 exact co
 rfl
 decide
 rfl
 intro v9 s hs
 have h := hs
 unfold Xbp at h
 refine Xbb (Xaa ?_)
 iterate 5 refine kO hT hC ?_
 refine Vc.nil ?_
 refine kS h ?_ ?_ <;> intro b20 h
 refine kt b20 (Xab (Xag (Xbb (Xct ?_))))
 refine Xk0 hm ?_
 iterate 5 refine kO hT hC ?_
 refine kQ hT hC h fun h => ?_
 iterate 2 refine kO hT hC ?_
 refine kC hC [] Try.call58 h (fun _ => Xfn) fun q15 h => ?_
 refine kO hT hC ?_
 refine kD (Xbb ?_)
 refine kL [1,3,4,5] [16] [_,_,_,_] [_] ?_
 refine kA h (fun v16 => ([(95, .sv (.bool v16)), (3, .any)], [])) (fun v16 h => ?_) fun v16 h => ?_
 refine Xaf ?_
 iterate 3 refine kO hT hC ?_
 refine kQ hT hC h fun h => ?_
 refine kO hT hC ?_
 refine kC hC [] Try.call57 h (fun _ => Xig) fun q17 h => ?_
 iterate 2 refine kO hT hC ?_
 refine kS h ?_ ?_ <;> intro b21 h
 iterate 3 refine kI hT hC (kn b21) ?_
 refine kP hC false (kn b21) ?_
 refine kO hT hC ?_
 refine kS h ?_ ?_ <;> intro b22 h
 iterate 2 refine kF hC b22 ?_
 refine kP hC true b22 ?_
 exact Vc.nil kM
 iterate 2 refine kI hT hC b22 ?_
 refine kP hC false b22 ?_
 exact Vc.nil kM
 iterate 3 refine kF hC (kn b21) ?_
 refine kP hC true (kn b21) ?_
 refine kO hT hC ?_
 iterate 2 refine kF hC rfl ?_
 refine kO hT hC ?_
 exact Vc.nil kM
 refine kS h ?_ ?_ <;> intro b23 h
 refine kt b23 (Xaa ?_)
 refine kO hT hC ?_
 refine Vc.nil (Xad (Xal (Xfz (Xal ?_))))
 obtain rfl := kj h
 refine Xic (Xib ?_)
 exact Xgj (Xec.refl _) rfl trivial
 refine kf b23 (Xab (Xag (Xaf ?_)))
 iterate 2 refine kO hT hC ?_
 refine Vc.nil (Xd4 (Xag (Xaf ?_)))
 iterate 3 refine kO hT hC ?_
 exact Vc.nil kG
 exact kf b20 (Xce (Xdm kb))
 intro v14 e
 subst e
 refine Xag ?_
 refine kL [1] [16] [_] [_] ?_
 refine kA h (fun v19 => ([(2, .sv (.bool v19)), (1, .any)], [(16, none)])) (fun v19 h => ?_) fun v19 h => ?_
 refine Xaf ?_
 iterate 2 refine kO hT hC ?_
 refine kC hC [] Try.call63 h (fun _ => Xbw) fun q20 h => ?_
 refine kO hT hC ?_
 refine kS h ?_ ?_ <;> intro b24 h
 iterate 2 refine kI hT hC b24 ?_
 refine kE hC b24 [] Try.call63 h (fun _ => Xbw) fun q21 h => ?_
 refine kP hC true b24 ?_
 refine kO hT hC ?_
 refine kS h ?_ ?_ <;> intro b25 h
 iterate 2 refine kI hT hC b25 ?_
 refine kE hC b25 [] Try.call63 h (fun _ => Xbw) fun q22 h => ?_
 refine kP hC true b25 ?_
 refine kO hT hC ?_
 refine kS h ?_ ?_ <;> intro b26 h
 iterate 2 refine kI hT hC b26 ?_
 refine kE hC b26 [] Try.call63 h (fun _ => Xbw) fun q23 h => ?_
 refine kP hC true b26 ?_
 refine kO hT hC ?_
 refine kS h ?_ ?_ <;> intro b27 h
 iterate 2 refine kI hT hC b27 ?_
 refine kE hC b27 [] Try.call63 h (fun _ => Xbw) fun q24 h => ?_
 refine kP hC true b27 ?_
 refine kO hT hC ?_
 exact Vc.nil kM
 iterate 3 refine kF hC b27 ?_
 refine kP hC false b27 ?_
 refine kO hT hC ?_
 exact Vc.nil kM
 iterate 3 refine kF hC b26 ?_
 refine kP hC false b26 ?_
 refine kO hT hC ?_
 iterate 3 refine kF hC rfl ?_
 iterate 2 refine kO hT hC ?_
 exact Vc.nil kM
 iterate 3 refine kF hC b25 ?_
 refine kP hC false b25 ?_
 refine kO hT hC ?_
 iterate 3 refine kF hC rfl ?_
 iterate 2 refine kO hT hC ?_
 iterate 3 refine kF hC rfl ?_
 iterate 2 refine kO hT hC ?_
 exact Vc.nil kM
 iterate 3 refine kF hC b24 ?_
 refine kP hC false b24 ?_
 refine kO hT hC ?_
 iterate 3 refine kF hC rfl ?_
 iterate 2 refine kO hT hC ?_
 iterate 3 refine kF hC rfl ?_
 iterate 2 refine kO hT hC ?_
 iterate 3 refine kF hC rfl ?_
 iterate 2 refine kO hT hC ?_
 exact Vc.nil kM
 exact Xad kR
 intro r' σ' e hE
 subst e
 obtain rfl := kj h
 refine Xal ?_
 exact hE
def Xev (r : Int) : AV := .sv (.int .i64 r)
def Xeu (r : Int) : Xa9 := []
theorem Xip {p0 r} (h : Xcv p0 = some r) : AC Try.prog 43 [.agg [.sv (.bool p0.Begun), .sv (.int .i64 p0.Next), .sv (.int .i64 p0.Age), .sv (Xae.sv p0.Held), .sv (.int .i64 p0.Late), .sv (.int .i64 p0.Far), .sv (.int .i64 p0.Twice), .sv (.int .i64 p0.Over), .sv (.int .i64 p0.Lost)]] [] (Xev r) (Xeu r) := by
 refine Xah hT Try.func43 rfl fun C hC => ?_
 unfold Xcv at h
 refine Xaa ?_
 iterate 2 refine kO hT hC ?_
 refine Vc.nil (Xbb (Xaa ?_))
 refine kO hT hC ?_
 refine Vc.nil ?_
 refine kL [1,3] [16] [_,_] [_] ?_
 obtain ⟨o8, hl, h⟩ := Xay h
 refine Xfc (fun v3 => ([(3, .sv (.int .i64 v3))], [])) (fun v6 => ([(1, .any), (3, .any)], [(16, none)])) (fun r => Xkc C T Try.f43.results.toList (Xev r) (Xeu r)) hl ?_ ?_ ?_ ?_
 apply Xfq hC []
 exact co
 rfl
 decide
 rfl
 intro v3 s hs
 have h := hs
 unfold Xa1 at h
 refine Xbb (Xaa ?_)
 iterate 5 refine kO hT hC ?_
 refine Vc.nil ?_
 refine kS h ?_ ?_ <;> intro b7 h
 refine kt b7 (Xab (Xag (Xbb (Xct (Xbb ?_)))))
 refine Xk0 hm ?_
 iterate 5 refine kO hT hC ?_
 refine kQ hT hC h fun h => ?_
 iterate 2 refine kO hT hC ?_
 refine kC hC [] Try.call58 h (fun _ => Xfn) fun q7 h => ?_
 iterate 2 refine kO hT hC ?_
 refine kD ?_
 refine kS h ?_ ?_ <;> intro b8 h
 refine kt b8 (Xaa ?_)
 refine kO hT hC ?_
 refine Vc.nil (Xad (Xal (Xfz (Xal ?_))))
 obtain rfl := kj h
 refine Xic (Xib ?_)
 exact Xgj (Xec.refl _) rfl trivial
 refine kf b8 (Xab (Xag (Xaa ?_)))
 iterate 3 refine kO hT hC ?_
 refine kQ hT hC h fun h => ?_
 iterate 2 refine kO hT hC ?_
 refine Vc.nil ?_
 refine kS h ?_ ?_ <;> intro b9 h
 refine kt b9 (Xaa ?_)
 iterate 3 refine kO hT hC ?_
 refine Vc.nil (Xad (Xfz (Xal ?_)))
 obtain rfl := kj h
 refine Xic (Xib ?_)
 exact Xgj (Xec.refl _) rfl trivial
 refine kf b9 (Xab (Xd4 (Xag (Xaf ?_))))
 iterate 3 refine kO hT hC ?_
 exact Vc.nil kG
 exact kf b7 (Xce (Xdm kb))
 intro v6 e
 subst e
 refine Xag (Xaa ?_)
 refine kO hT hC ?_
 exact Vc.nil (Xad kR)
 intro r' σ' e hE
 subst e
 obtain rfl := kj h
 refine Xal ?_
 exact hE
def Xij (r : Int) : AV := .sv (.int .i64 r)
def Xii (r : Int) : Xa9 := []
theorem Xfd {p0 p1 r} (h : Xck p0 p1 = some r) : AC Try.prog 44 [.sv (.int .i64 p0), .sv (.int .i64 p1)] [] (Xij r) (Xii r) := by
 refine Xah hT Try.func44 rfl fun C hC => ?_
 unfold Xck at h
 refine Xaa ?_
 refine kO hT hC ?_
 refine Vc.nil (Xbb ?_)
 refine kL [0,1] [] [_,_] [] ?_
 refine kA h (fun v1 => ([(12, .sv (.bool v1))], [])) (fun v1 h => ?_) fun v1 h => ?_
 refine Xaf ?_
 refine kO hT hC ?_
 refine kC hC [] Try.call42 h (fun _ => Xat) fun q2 h => ?_
 iterate 2 refine kO hT hC ?_
 refine kS h ?_ ?_ <;> intro b1 h
 refine kI hT hC (kn b1) ?_
 refine kE hC (kn b1) [] Try.call42 h (fun _ => Xat) fun q3 h => ?_
 refine kI hT hC (kn b1) ?_
 refine kP hC false (kn b1) ?_
 exact Vc.nil kM
 iterate 3 refine kF hC (kn b1) ?_
 refine kP hC true (kn b1) ?_
 exact Vc.nil kM
 refine kS h ?_ ?_ <;> intro b2 h
 refine kt b2 (Xaa ?_)
 refine kO hT hC ?_
 exact Vc.nil (Xad (Xal kR))
 refine kf b2 (Xab (Xag (Xaa ?_)))
 iterate 3 refine kO hT hC ?_
 refine kQ hT hC h fun h => ?_
 refine kO hT hC ?_
 exact Vc.nil (Xad kR)
def Xif (r : Int) : AV := .sv (.int .i64 r)
def Xie (r : Int) : Xa9 := []
theorem Xjy {p0 p1 p2 r} (h : Xda p0 p1 p2 = some r) : AC Try.prog 64 [.sv (.int .i64 p0), .sv (.int .i64 p1), .sv (.int .i64 p2)] [] (Xif r) (Xie r) := by
 refine Xah hT Try.func64 rfl fun C hC => ?_
 unfold Xda at h
 refine Xaa ?_
 refine kO hT hC ?_
 refine Vc.nil (Xbb ?_)
 refine kL [0,1,2] [] [_,_,_] [] ?_
 refine kA h (fun v1 => ([(14, .sv (.bool v1))], [])) (fun v1 h => ?_) fun v1 h => ?_
 refine Xaf ?_
 iterate 4 refine kO hT hC ?_
 refine kS h ?_ ?_ <;> intro b1 h
 iterate 3 refine kF hC b1 ?_
 refine kP hC true b1 ?_
 exact Vc.nil kM
 iterate 3 refine kI hT hC b1 ?_
 refine kP hC false b1 ?_
 exact Vc.nil kM
 refine kS h ?_ ?_ <;> intro b2 h
 refine kt b2 (Xaa ?_)
 iterate 2 refine kO hT hC ?_
 exact Vc.nil (Xad (Xal kR))
 refine kf b2 (Xab (Xag (Xbb (Xaa ?_))))
 iterate 3 refine kO hT hC ?_
 refine Vc.nil ?_
 refine kS h ?_ ?_ <;> intro b3 h
 refine kt b3 (Xaa ?_)
 iterate 2 refine kO hT hC ?_
 exact Vc.nil (Xad (Xal kR))
 refine kf b3 (Xab (Xag (Xaa ?_)))
 iterate 2 refine kO hT hC ?_
 exact Vc.nil (Xad kR)
def Xio (r : Int) : AV := .sv (.int .i64 r)
def Xin (r : Int) : Xa9 := []
theorem Xj6 {p0 r} (h : Xdd p0 = some r) : AC Try.prog 45 [.sv (.int .i64 p0)] [] (Xio r) (Xin r) := by
 refine Xah hT Try.func45 rfl fun C hC => ?_
 unfold Xdd at h
 refine Xaa ?_
 refine kO hT hC ?_
 refine kN ?_
 iterate 2 refine kO hT hC ?_
 refine kC hC [] Try.call64 h (fun _ => Xjy) fun q1 h => ?_
 refine kO hT hC ?_
 exact Vc.nil (Xad kR)
def Xgh (r : (Queue × (List Packet) × Int)) : AV := .tup [.agg [.sv (.bool r.1.Begun), .sv (.int .i64 r.1.Next), .sv (.int .i64 r.1.Age), .own 16, .sv (.int .i64 r.1.Late), .sv (.int .i64 r.1.Far), .sv (.int .i64 r.1.Twice), .sv (.int .i64 r.1.Over), .sv (.int .i64 r.1.Lost)], .own 17, .sv (.int .i64 r.2.2)]
def Xgg (r : (Queue × (List Packet) × Int)) : Xa9 := [(16, .row Xae r.1.Held), (17, .row Xae r.2.1)]
theorem Xhj {p0 p1 r} (h : Xcb p0 p1 = some r) : AC Try.prog 16 [.agg [.sv (.bool p0.Begun), .sv (.int .i64 p0.Next), .sv (.int .i64 p0.Age), .sv (Xae.sv p0.Held), .sv (.int .i64 p0.Late), .sv (.int .i64 p0.Far), .sv (.int .i64 p0.Twice), .sv (.int .i64 p0.Over), .sv (.int .i64 p0.Lost)], .sv (.int .i64 p1)] [] (Xgh r) (Xgg r) := by
 refine Xah hT Try.func16 rfl fun C hC => ?_
 unfold Xcb at h
 refine Xaa ?_
 iterate 4 refine kO hT hC ?_
 refine kN ?_
 iterate 2 refine kO hT hC ?_
 refine kN ?_
 refine kO hT hC ?_
 refine kC hC [(16, 208)] Try.call40 h (fun _ => Xj4) fun q1 h => ?_
 refine kO hT hC ?_
 refine Vc.nil (Xbb ?_)
 refine kL [1,2,4,7] [32,64,176,208] [_,_,_,_] [_,_,_,_] ?_
 refine kA h (fun v2 => ([(21, .sv (.bool v2))], [])) (fun v2 h => ?_) fun v2 h => ?_
 refine Xaf ?_
 refine kO hT hC ?_
 refine kC hC [] Try.call41 h (fun _ => Xj0) fun q3 h => ?_
 iterate 2 refine kO hT hC ?_
 refine kS h ?_ ?_ <;> intro b1 h
 refine kI hT hC (kn b1) ?_
 refine kE hC (kn b1) [] Try.call42 h (fun _ => Xat) fun q4 h => ?_
 refine kI hT hC (kn b1) ?_
 refine kP hC false (kn b1) ?_
 exact Vc.nil kM
 iterate 3 refine kF hC (kn b1) ?_
 refine kP hC true (kn b1) ?_
 exact Vc.nil kM
 refine kS h ?_ ?_ <;> intro b2 h
 refine kt b2 (Xaa ?_)
 iterate 5 refine kO hT hC ?_
 refine Vc.nil (Xad (Xal ?_))
 obtain rfl := kj h
 exact Xgj (τ := ⟨[(4, .ptr 2000000 0), (5, .own 17), (6, .sv (.int .i64 0))], [(16, some (.row Xae q1.Held)), (17, some (.row Xae ([] : List Packet))), (2000000, some (.box [.sv (.bool q1.Begun), .sv (.int .i64 q1.Next), .sv (.int .i64 q1.Age), .own 16, .sv (.int .i64 q1.Late), .sv (.int .i64 q1.Far), .sv (.int .i64 q1.Twice), .sv (.int .i64 q1.Over), .sv (.int .i64 q1.Lost)]))]⟩) (kW hC [(16, 208), (17, 176), (2000000, 64)]) rfl ⟨rfl, rfl, trivial⟩
 refine kf b2 (Xab (Xag (Xaa ?_)))
 refine kO hT hC ?_
 refine kC hC [] Try.call43 h (fun _ => Xip) fun q5 h => ?_
 refine kO hT hC ?_
 refine Vc.nil (Xbb (Xaa ?_))
 iterate 2 refine kO hT hC ?_
 refine Vc.nil ?_
 refine kS h ?_ ?_ <;> intro b3 h
 refine kt b3 (Xaa ?_)
 iterate 4 refine kO hT hC ?_
 refine kQ hT hC h fun h => ?_
 obtain ⟨hq, h⟩ := Xa8 h
 refine Xmy hT hC rfl rfl rfl rfl ⟨⟨hq.1, fun _ _ => rfl⟩, by rw [Xan]; exact hq.2⟩ ?_
 rw [Xan]
 refine kO hT hC ?_
 refine kN ?_
 iterate 3 refine kO hT hC ?_
 refine kC hC [] Try.call44 h (fun _ => Xfd) fun q6 h => ?_
 iterate 2 refine kO hT hC ?_
 refine kN ?_
 iterate 4 refine kO hT hC ?_
 refine kQ hT hC h fun h => ?_
 obtain ⟨hq, h⟩ := Xa8 h
 refine Xmy hT hC rfl rfl rfl rfl ⟨⟨hq.1, fun _ _ => rfl⟩, by rw [Xan]; exact hq.2⟩ ?_
 rw [Xan]
 iterate 2 refine kO hT hC ?_
 refine kN ?_
 iterate 2 refine kO hT hC ?_
 refine kN ?_
 iterate 5 refine kO hT hC ?_
 refine Vc.nil (Xad (Xal ?_))
 obtain rfl := kj h
 exact Xgj (τ := ⟨[(4, .ptr 2000000 0), (5, .own 17), (6, .sv (.int .i64 1))], [(16, some (.row Xae (([] : List Packet) ++ ((q1.Held.drop q5.toNat).take ((q1.Held.length : Int).toNat - q5.toNat))))), (17, some (.row Xae (([] : List Packet) ++ ((q1.Held.drop ((0 : Int).toNat)).take (q5.toNat - (0 : Int).toNat))))), (2000000, some (.box [.sv (.bool q1.Begun), .sv (.int .i64 q6), .sv (.int .i64 0), .own 16, .sv (.int .i64 q1.Late), .sv (.int .i64 q1.Far), .sv (.int .i64 q1.Twice), .sv (.int .i64 q1.Over), .sv (.int .i64 q1.Lost)]))]⟩) (kW hC [(16, 704), (17, 528), (2000000, 64)]) rfl ⟨rfl, rfl, trivial⟩
 refine kf b3 (Xab (Xag (Xbb (Xaa ?_))))
 iterate 4 refine kO hT hC ?_
 refine Vc.nil ?_
 refine kS h ?_ ?_ <;> intro b4 h
 refine kt b4 (Xaa ?_)
 iterate 2 refine kO hT hC ?_
 refine kN ?_
 iterate 5 refine kO hT hC ?_
 refine Vc.nil (Xad (Xal ?_))
 obtain rfl := kj h
 exact Xgj (τ := ⟨[(4, .ptr 2000000 0), (5, .own 17), (6, .sv (.int .i64 0))], [(16, some (.row Xae q1.Held)), (17, some (.row Xae ([] : List Packet))), (2000000, some (.box [.sv (.bool q1.Begun), .sv (.int .i64 q1.Next), .sv (.int .i64 0), .own 16, .sv (.int .i64 q1.Late), .sv (.int .i64 q1.Far), .sv (.int .i64 q1.Twice), .sv (.int .i64 q1.Over), .sv (.int .i64 q1.Lost)]))]⟩) (kW hC [(16, 208), (17, 176), (2000000, 64)]) rfl ⟨rfl, rfl, trivial⟩
 refine kf b4 (Xab (Xag (Xbb (Xaa ?_))))
 iterate 4 refine kO hT hC ?_
 refine Vc.nil ?_
 refine kS h ?_ ?_ <;> intro b5 h
 refine kt b5 (Xaa ?_)
 iterate 5 refine kO hT hC ?_
 refine kN ?_
 iterate 5 refine kO hT hC ?_
 refine Vc.nil (Xad (Xal ?_))
 obtain rfl := kj h
 exact Xgj (τ := ⟨[(4, .ptr 2000000 0), (5, .own 17), (6, .sv (.int .i64 0))], [(16, some (.row Xae q1.Held)), (17, some (.row Xae ([] : List Packet))), (2000000, some (.box [.sv (.bool q1.Begun), .sv (.int .i64 q1.Next), .sv (.int .i64 (Xaj .i64 (q1.Age + 1))), .own 16, .sv (.int .i64 q1.Late), .sv (.int .i64 q1.Far), .sv (.int .i64 q1.Twice), .sv (.int .i64 q1.Over), .sv (.int .i64 q1.Lost)]))]⟩) (kW hC [(16, 208), (17, 176), (2000000, 64)]) rfl ⟨rfl, rfl, trivial⟩
 refine kf b5 (Xab (Xag (Xaa ?_)))
 refine kO hT hC ?_
 refine Vc.nil (Xbb ?_)
 refine kL [2,4,7,10] [32,64,176,208] [_,_,_,_] [_,_,_,_] ?_
 refine kX h (fun v9 => ([(10, .sv (.int .i64 v9))], [])) (fun v12 => ([(10, .sv (.int .i64 v12))], [])) (kW hC []) (fun v9 s h => ?_) fun v12 h => ?_
 unfold Xar at h
 refine Xbb ?_
 refine kL [2,4,7,10] [32,64,176,208] [_,_,_,_] [_,_,_,_] ?_
 refine kA h (fun v13 => ([(90, .sv (.bool v13))], [])) (fun v13 h => ?_) fun v13 h => ?_
 refine Xo0 hm ?_
 iterate 6 refine kO hT hC ?_
 refine kS h ?_ ?_ <;> intro b12 h
 iterate 3 refine kI hT hC b12 ?_
 refine kJ hT hC b12 h fun h => ?_
 refine kI hT hC b12 ?_
 refine kJ hT hC b12 h fun h => ?_
 refine kI hT hC b12 ?_
 refine kS h ?_ ?_ <;> intro b13 h
 iterate 3 refine kI hT hC b13 ?_
 refine kJ hT hC b13 h fun h => ?_
 refine kI hT hC b13 ?_
 refine kJ hT hC b13 h fun h => ?_
 iterate 3 refine kI hT hC b13 ?_
 refine Xmx hC rfl rfl rfl rfl b12 rfl rfl (b := true) b13 rfl rfl rfl trivial ?_
 refine kI hT hC b12 ?_
 refine kP hC true b12 ?_
 exact kD kM
 iterate 9 refine kF hC b13 ?_
 refine Xmx hC rfl rfl rfl rfl b12 rfl rfl (b := false) b13 rfl rfl rfl trivial ?_
 refine kI hT hC b12 ?_
 refine kP hC true b12 ?_
 exact kD kM
 iterate 7 refine kF hC b12 ?_
 iterate 9 refine Xso hC rfl rfl rfl rfl rfl rfl ?_
 iterate 2 refine kF hC b12 ?_
 refine kP hC false b12 ?_
 exact kD kM
 refine kS h ?_ ?_ <;> intro b14 h
 refine kt b14 (Xab (Xag (Xct (Xaf ?_))))
 iterate 3 refine kO hT hC ?_
 exact Vc.nil (Xd4 kG)
 exact kf b14 (Xce (Xdm ku))
 refine Xag ?_
 refine kL [2,4,7,10] [32,64,176,208] [_,_,_,_] [_,_,_,_] ?_
 refine kA h (fun v15 => ([], [(32, some (.box [.sv (.bool q1.Begun), .sv (.int .i64 v15), .sv (.int .i64 q1.Age), .own 208, .sv (.int .i64 q1.Late), .sv (.int .i64 q1.Far), .sv (.int .i64 q1.Twice), .sv (.int .i64 q1.Over), .sv (.int .i64 q1.Lost)]))])) (fun v15 h => ?_) fun v15 h => ?_
 refine Xaa ?_
 iterate 5 refine kO hT hC ?_
 refine Vc.nil ?_
 refine kS h ?_ ?_ <;> intro b15 h
 refine kt b15 (Xaf ?_)
 iterate 3 refine kO hT hC ?_
 refine kQ hT hC h fun h => ?_
 refine kO hT hC ?_
 refine kQ hT hC h fun h => ?_
 iterate 2 refine kO hT hC ?_
 exact Vc.nil kM
 refine kf b15 (Xaf ?_)
 iterate 4 refine kO hT hC ?_
 refine kQ hT hC h fun h => ?_
 refine kO hT hC ?_
 refine kQ hT hC h fun h => ?_
 refine kC hC [] Try.call44 h (fun _ => Xfd) fun q16 h => ?_
 iterate 2 refine kO hT hC ?_
 exact Vc.nil kM
 refine Xaa ?_
 iterate 4 refine kO hT hC ?_
 refine kQ hT hC h fun h => ?_
 obtain ⟨hq, h⟩ := Xa8 h
 refine Xmy hT hC rfl rfl rfl rfl ⟨⟨hq.1, fun _ _ => rfl⟩, by rw [Xan]; exact hq.2⟩ ?_
 rw [Xan]
 iterate 2 refine kO hT hC ?_
 refine kN ?_
 iterate 2 refine kO hT hC ?_
 refine kC hC [] Try.call45 h (fun _ => Xj6) fun q17 h => ?_
 iterate 2 refine kO hT hC ?_
 refine kN ?_
 iterate 2 refine kO hT hC ?_
 refine kN ?_
 iterate 5 refine kO hT hC ?_
 refine Vc.nil (Xad ?_)
 obtain rfl := kj h
 exact Xgj (τ := ⟨[(4, .ptr 2000000 0), (5, .own 17), (6, .sv (.int .i64 2))], [(16, some (.row Xae (([] : List Packet) ++ ((q1.Held.drop v12.toNat).take ((q1.Held.length : Int).toNat - v12.toNat))))), (17, some (.row Xae ([] : List Packet))), (2000000, some (.box [.sv (.bool q1.Begun), .sv (.int .i64 v15), .sv (.int .i64 0), .own 16, .sv (.int .i64 q1.Late), .sv (.int .i64 q1.Far), .sv (.int .i64 q1.Twice), .sv (.int .i64 q1.Over), .sv (.int .i64 q17)]))]⟩) (kW hC [(16, 1904), (17, 176), (2000000, 64)]) rfl ⟨rfl, rfl, trivial⟩
def Xf3 (r : Queue) : AV := .agg [.sv (.bool r.Begun), .sv (.int .i64 r.Next), .sv (.int .i64 r.Age), .own 16, .sv (.int .i64 r.Late), .sv (.int .i64 r.Far), .sv (.int .i64 r.Twice), .sv (.int .i64 r.Over), .sv (.int .i64 r.Lost)]
def Xf2 (r : Queue) : Xa9 := [(16, .row Xae r.Held)]
theorem Xgx {p0 r} (h : Xb8 p0 = some r) : AC Try.prog 47 [.agg [.sv (.bool p0.Begun), .sv (.int .i64 p0.Next), .sv (.int .i64 p0.Age), .sv (Xae.sv p0.Held), .sv (.int .i64 p0.Late), .sv (.int .i64 p0.Far), .sv (.int .i64 p0.Twice), .sv (.int .i64 p0.Over), .sv (.int .i64 p0.Lost)]] [] (Xf3 r) (Xf2 r) := by
 refine Xah hT Try.func47 rfl fun C hC => ?_
 unfold Xb8 at h
 refine Xaa ?_
 iterate 2 refine kO hT hC ?_
 refine kN ?_
 iterate 3 refine kO hT hC ?_
 obtain ⟨hq, h⟩ := Xa8 h
 refine Xmy hT hC rfl rfl rfl rfl ⟨fun _ _ => rfl, by rw [Xan]; exact hq⟩ ?_
 rw [Xan]
 iterate 2 refine kO hT hC ?_
 refine kN ?_
 iterate 2 refine kO hT hC ?_
 refine Vc.nil (Xad ?_)
 obtain rfl := kj h
 exact Xgj (τ := ⟨[(2, .ptr 2000000 0)], [(16, some (.row Xae (([] : List Packet) ++ p0.Held))), (2000000, some (.box [.sv (.bool p0.Begun), .sv (.int .i64 p0.Next), .sv (.int .i64 p0.Age), .own 16, .sv (.int .i64 p0.Late), .sv (.int .i64 p0.Far), .sv (.int .i64 p0.Twice), .sv (.int .i64 p0.Over), .sv (.int .i64 p0.Lost)]))]⟩) (kW hC [(16, 96), (2000000, 32)]) rfl ⟨rfl, trivial⟩
def Xg0 (r : Bool) : AV := .sv (.bool r)
def Xgz (r : Bool) : Xa9 := []
theorem Xbc {p0 r} (h : Xas p0 = some r) : AC Try.prog 54 [.sv (.int .i64 p0)] [] (Xg0 r) (Xgz r) := by
 refine Xah hT Try.func54 rfl fun C hC => ?_
 unfold Xas at h
 refine Xaa ?_
 refine kO hT hC ?_
 refine kN ?_
 refine kO hT hC ?_
 refine kC hC [] Try.call38 h (fun _ => Xby) fun q1 h => ?_
 refine kO hT hC ?_
 exact Vc.nil (Xad kR)
def Xjb (r : Int) : AV := .sv (.int .i64 r)
def Xja (r : Int) : Xa9 := []
theorem Xkf {p0 p1 r} (h : Xdx p0 p1 = some r) : AC Try.prog 55 [.sv (.int .i64 p0), .sv (.int .i64 p1)] [] (Xjb r) (Xja r) := by
 refine Xah hT Try.func55 rfl fun C hC => ?_
 unfold Xdx at h
 refine Xaa ?_
 refine kO hT hC ?_
 refine Vc.nil (Xbb ?_)
 refine kL [0,1] [] [_,_] [] ?_
 refine kA h (fun v1 => ([(13, .sv (.bool v1))], [])) (fun v1 h => ?_) fun v1 h => ?_
 refine Xaf ?_
 refine kO hT hC ?_
 refine kC hC [] Try.call54 h (fun _ => Xbc) fun q2 h => ?_
 iterate 2 refine kO hT hC ?_
 refine kS h ?_ ?_ <;> intro b1 h
 refine kI hT hC (kn b1) ?_
 refine kE hC (kn b1) [] Try.call54 h (fun _ => Xbc) fun q3 h => ?_
 refine kI hT hC (kn b1) ?_
 refine kP hC false (kn b1) ?_
 exact Vc.nil kM
 iterate 3 refine kF hC (kn b1) ?_
 refine kP hC true (kn b1) ?_
 exact Vc.nil kM
 refine kS h ?_ ?_ <;> intro b2 h
 refine kt b2 (Xaa ?_)
 refine kO hT hC ?_
 exact Vc.nil (Xad (Xal kR))
 refine kf b2 (Xab (Xag (Xaa ?_)))
 iterate 4 refine kO hT hC ?_
 refine kQ hT hC h fun h => ?_
 refine kO hT hC ?_
 refine Vc.nil ?_
 refine kL [5] [] [_] [] ?_
 refine kA h (fun v4 => ([(5, .sv (.int .i64 v4))], [])) (fun v4 h => ?_) fun v4 h => ?_
 refine Xaa ?_
 iterate 2 refine kO hT hC ?_
 refine Vc.nil ?_
 refine kS h ?_ ?_ <;> intro b3 h
 refine kt b3 (Xaf ?_)
 iterate 3 refine kO hT hC ?_
 exact Vc.nil kM
 exact kf b3 (Xab kM)
 refine Xaa ?_
 iterate 2 refine kO hT hC ?_
 exact Vc.nil (Xad kR)
def Xgw (r : Bool) : AV := .sv (.bool r)
def Xgv (r : Bool) : Xa9 := []
theorem Xht {p0 r} (h : Xcm p0 = some r) : AC Try.prog 56 [.agg [.sv (.int .i64 p0.Seq), .sv (.bool p0.First), .sv (.bool p0.Last), .sv (.str p0.Bytes)]] [] (Xgw r) (Xgv r) := by
 refine Xah hT Try.func56 rfl fun C hC => ?_
 unfold Xcm at h
 refine Xaa ?_
 iterate 2 refine kO hT hC ?_
 refine Vc.nil ?_
 refine kL [1,2] [16] [_,_] [_] ?_
 refine kA h (fun v1 => ([(2, .sv (.bool v1)), (1, .any)], [(16, none)])) (fun v1 h => ?_) fun v1 h => ?_
 refine Xaf ?_
 iterate 2 refine kO hT hC ?_
 refine kC hC [] Try.call54 h (fun _ => Xbc) fun q2 h => ?_
 refine kO hT hC ?_
 refine kS h ?_ ?_ <;> intro b1 h
 iterate 3 refine kI hT hC b1 ?_
 refine kE hC b1 [] Try.call38 h (fun _ => Xby) fun q3 h => ?_
 refine kP hC true b1 ?_
 refine kO hT hC ?_
 exact Vc.nil kM
 iterate 4 refine kF hC b1 ?_
 refine kP hC false b1 ?_
 refine kO hT hC ?_
 exact Vc.nil kM
 exact Xad kR
def Xdg (r : Bool) : AV := .sv (.bool r)
def Xdf (r : Bool) : Xa9 := []
theorem Xi8 {p0 r} (h : Xc6 p0 = some r) : AC Try.prog 26 [.agg [.sv (.bool p0.Begun), .sv (.int .i64 p0.Next), .sv (.int .i64 p0.Age), .sv (Xae.sv p0.Held), .sv (.int .i64 p0.Late), .sv (.int .i64 p0.Far), .sv (.int .i64 p0.Twice), .sv (.int .i64 p0.Over), .sv (.int .i64 p0.Lost)]] [] (Xdg r) (Xdf r) := by
 refine Xah hT Try.func26 rfl fun C hC => ?_
 unfold Xc6 at h
 refine Xaa ?_
 iterate 2 refine kO hT hC ?_
 refine Vc.nil (Xbb (Xaa ?_))
 iterate 3 refine kO hT hC ?_
 refine Vc.nil ?_
 refine kS h ?_ ?_ <;> intro b1 h
 refine kt b1 ?_
 refine kL [1,2] [16] [_,_] [_] ?_
 refine kA h (fun v1 => ([(2, .sv (.bool v1)), (1, .any)], [(16, none)])) (fun v1 h => ?_) fun v1 h => ?_
 refine Xaf ?_
 iterate 4 refine kO hT hC ?_
 refine kS h ?_ ?_ <;> intro b2 h
 iterate 3 refine kI hT hC b2 ?_
 refine kP hC true b2 ?_
 refine kO hT hC ?_
 refine kS h ?_ ?_ <;> intro b3 h
 iterate 4 refine kI hT hC b3 ?_
 refine kP hC true b3 ?_
 refine kO hT hC ?_
 refine kS h ?_ ?_ <;> intro b4 h
 iterate 3 refine kI hT hC b4 ?_
 refine kP hC true b4 ?_
 refine kO hT hC ?_
 refine kS h ?_ ?_ <;> intro b5 h
 iterate 3 refine kI hT hC b5 ?_
 refine kP hC true b5 ?_
 refine kO hT hC ?_
 refine kS h ?_ ?_ <;> intro b6 h
 iterate 3 refine kI hT hC b6 ?_
 refine kP hC true b6 ?_
 refine kO hT hC ?_
 refine kS h ?_ ?_ <;> intro b7 h
 iterate 3 refine kI hT hC b7 ?_
 refine kP hC true b7 ?_
 refine kO hT hC ?_
 refine kS h ?_ ?_ <;> intro b8 h
 iterate 3 refine kI hT hC b8 ?_
 refine kP hC true b8 ?_
 refine kO hT hC ?_
 exact Vc.nil kM
 iterate 3 refine kF hC b8 ?_
 refine kP hC false b8 ?_
 refine kO hT hC ?_
 exact Vc.nil kM
 iterate 3 refine kF hC b7 ?_
 refine kP hC false b7 ?_
 refine kO hT hC ?_
 iterate 3 refine kF hC rfl ?_
 iterate 2 refine kO hT hC ?_
 exact Vc.nil kM
 iterate 3 refine kF hC b6 ?_
 refine kP hC false b6 ?_
 refine kO hT hC ?_
 iterate 3 refine kF hC rfl ?_
 iterate 2 refine kO hT hC ?_
 iterate 3 refine kF hC rfl ?_
 iterate 2 refine kO hT hC ?_
 exact Vc.nil kM
 iterate 3 refine kF hC b5 ?_
 refine kP hC false b5 ?_
 refine kO hT hC ?_
 iterate 3 refine kF hC rfl ?_
 iterate 2 refine kO hT hC ?_
 iterate 3 refine kF hC rfl ?_
 iterate 2 refine kO hT hC ?_
 iterate 3 refine kF hC rfl ?_
 iterate 2 refine kO hT hC ?_
 exact Vc.nil kM
 iterate 3 refine kF hC b4 ?_
 refine kP hC false b4 ?_
 refine kO hT hC ?_
 iterate 3 refine kF hC rfl ?_
 iterate 2 refine kO hT hC ?_
 iterate 3 refine kF hC rfl ?_
 iterate 2 refine kO hT hC ?_
 iterate 3 refine kF hC rfl ?_
 iterate 2 refine kO hT hC ?_
 iterate 3 refine kF hC rfl ?_
 iterate 2 refine kO hT hC ?_
 exact Vc.nil kM
 iterate 4 refine kF hC b3 ?_
 refine kP hC false b3 ?_
 refine kO hT hC ?_
 iterate 3 refine kF hC rfl ?_
 iterate 2 refine kO hT hC ?_
 iterate 3 refine kF hC rfl ?_
 iterate 2 refine kO hT hC ?_
 iterate 3 refine kF hC rfl ?_
 iterate 2 refine kO hT hC ?_
 iterate 3 refine kF hC rfl ?_
 iterate 2 refine kO hT hC ?_
 iterate 3 refine kF hC rfl ?_
 iterate 2 refine kO hT hC ?_
 exact Vc.nil kM
 iterate 3 refine kF hC b2 ?_
 refine kP hC false b2 ?_
 refine kO hT hC ?_
 iterate 4 refine kF hC rfl ?_
 iterate 2 refine kO hT hC ?_
 iterate 3 refine kF hC rfl ?_
 iterate 2 refine kO hT hC ?_
 iterate 3 refine kF hC rfl ?_
 iterate 2 refine kO hT hC ?_
 iterate 3 refine kF hC rfl ?_
 iterate 2 refine kO hT hC ?_
 iterate 3 refine kF hC rfl ?_
 iterate 2 refine kO hT hC ?_
 iterate 3 refine kF hC rfl ?_
 iterate 2 refine kO hT hC ?_
 exact Vc.nil kM
 exact Xad (Xal kR)
 refine kf b1 (Xab (Xag (Xbb ?_)))
 refine kL [1] [16] [_] [_] ?_
 refine kA h (fun v2 => ([(66, .sv (.bool v2))], [])) (fun v2 h => ?_) fun v2 h => ?_
 refine Xaf ?_
 iterate 2 refine kO hT hC ?_
 refine kC hC [] Try.call54 h (fun _ => Xbc) fun q3 h => ?_
 iterate 2 refine kO hT hC ?_
 refine kS h ?_ ?_ <;> intro b9 h
 iterate 2 refine kI hT hC (kn b9) ?_
 refine kE hC (kn b9) [] Try.call38 h (fun _ => Xby) fun q4 h => ?_
 refine kI hT hC (kn b9) ?_
 refine kP hC false (kn b9) ?_
 refine kO hT hC ?_
 refine kS h ?_ ?_ <;> intro b10 h
 iterate 4 refine kI hT hC (kn b10) ?_
 refine kP hC false (kn b10) ?_
 exact Vc.nil kM
 iterate 4 refine kF hC (kn b10) ?_
 refine kP hC true (kn b10) ?_
 exact Vc.nil kM
 iterate 4 refine kF hC (kn b9) ?_
 refine kP hC true (kn b9) ?_
 refine kO hT hC ?_
 iterate 4 refine kF hC rfl ?_
 refine kO hT hC ?_
 exact Vc.nil kM
 refine kS h ?_ ?_ <;> intro b11 h
 refine kt b11 (Xaa ?_)
 refine kO hT hC ?_
 exact Vc.nil (Xad (Xal kR))
 refine kf b11 (Xab (Xag (Xaa ?_)))
 refine kO hT hC ?_
 refine Vc.nil (Xbb (Xaa ?_))
 iterate 4 refine kO hT hC ?_
 refine Vc.nil ?_
 refine kL [1,3,68,69,70] [16] [_,_,_,_,_] [_] ?_
 obtain ⟨o21, hl, h⟩ := Xay h
 refine Xfc (fun v10 => ([(3, .sv (.int .i64 v10.1)), (70, .sv (.int .i64 v10.2))], [])) (fun v16 => ([(3, .any), (68, .any), (69, .any), (70, .any)], [])) (fun r => Xkc C T Try.f26.results.toList (Xdg r) (Xdf r)) hl ?_ ?_ ?_ ?_
 try dsimp only
 apply Xfq hC []
 exact co
 rfl
 decide
 rfl
 intro v10 s hs
 have h := hs
 unfold Xbk at h
 refine Xaa ?_
 refine kO hT hC ?_
 refine Vc.nil (Xbb ?_)
 refine kS h ?_ ?_ <;> intro b18 h
 refine kt b18 (Xab (Xag (Xbb (Xct (Xaa ?_)))))
 refine kQ hT hC h fun h => ?_
 iterate 3 refine kO hT hC ?_
 refine kN ?_
 iterate 4 refine kO hT hC ?_
 refine kC hC [] Try.call55 h (fun _ => Xkf) fun q17 h => ?_
 refine kO hT hC ?_
 refine Vc.nil (Xbb ?_)
 refine kL [1,3,5,6,68,69,70] [16,80] [_,_,_,_,_,_,_] [_,_] ?_
 refine kA h (fun v18 => ([(88, .sv (.bool v18)), (3, .any), (5, .any)], [(80, none)])) (fun v18 h => ?_) fun v18 h => ?_
 refine Xaf ?_
 refine kO hT hC ?_
 refine kC hC [] Try.call56 h (fun _ => Xht) fun q19 h => ?_
 iterate 2 refine kO hT hC ?_
 refine kS h ?_ ?_ <;> intro b19 h
 iterate 3 refine kI hT hC (kn b19) ?_
 refine kE hC (kn b19) [] Try.call38 h (fun _ => Xby) fun q20 h => ?_
 refine kI hT hC (kn b19) ?_
 refine kP hC false (kn b19) ?_
 exact Vc.nil kM
 iterate 5 refine kF hC (kn b19) ?_
 refine kP hC true (kn b19) ?_
 exact Vc.nil kM
 refine kS h ?_ ?_ <;> intro b20 h
 refine kt b20 (Xaa ?_)
 refine kO hT hC ?_
 refine Vc.nil (Xad (Xal (Xfz (Xal ?_))))
 obtain rfl := kj h
 refine Xic (Xib ?_)
 exact Xgj (Xec.refl _) rfl trivial
 refine kf b20 (Xab (Xag (Xaf ?_)))
 iterate 2 refine kO hT hC ?_
 refine Vc.nil (Xd4 (Xag (Xaf ?_)))
 iterate 2 refine kO hT hC ?_
 exact Vc.nil kG
 exact kf b18 (Xce (Xdm kb))
 intro v16 e
 subst e
 refine Xag (Xbb (Xaa ?_))
 iterate 13 refine kO hT hC ?_
 refine Vc.nil ?_
 refine kL [101,102,103] [1616] [_,_,_] [_] ?_
 obtain ⟨o29, hl, h⟩ := Xay h
 refine Xfc (fun v24 => ([(103, .sv (.int .i64 v24))], [])) (fun v27 => ([(101, .any), (102, .any), (103, .any)], [(1616, none)])) (fun r => Xkc C T Try.f26.results.toList (Xdg r) (Xdf r)) hl ?_ ?_ ?_ ?_
 apply Xfq hC []
 exact co
 rfl
 decide
 rfl
 intro v24 s hs
 have h := hs
 unfold Xav at h
 refine Xaa ?_
 refine kO hT hC ?_
 refine Vc.nil (Xbb ?_)
 refine kS h ?_ ?_ <;> intro b25 h
 refine kt b25 (Xab (Xag (Xbb (Xct (Xaa ?_)))))
 iterate 2 refine kQ hT hC h fun h => ?_
 refine kO hT hC ?_
 refine kN ?_
 refine kO hT hC ?_
 refine kC hC [] Try.call38 h (fun _ => Xby) fun q28 h => ?_
 refine kO hT hC ?_
 refine Vc.nil ?_
 refine kS h ?_ ?_ <;> intro b26 h
 refine kt b26 (Xaa ?_)
 refine kO hT hC ?_
 refine Vc.nil (Xad (Xfz (Xal ?_)))
 obtain rfl := kj h
 refine Xic (Xib ?_)
 exact Xgj (Xec.refl _) rfl trivial
 refine kf b26 (Xab (Xd4 (Xag (Xaf ?_))))
 iterate 2 refine kO hT hC ?_
 exact Vc.nil kG
 exact kf b25 (Xce (Xdm kb))
 intro v27 e
 subst e
 refine Xag (Xaa ?_)
 refine kO hT hC ?_
 exact Vc.nil (Xad kR)
 intro r' σ' e hE
 subst e
 obtain rfl := kj h
 refine Xal ?_
 exact hE
 intro r' σ' e hE
 subst e
 obtain rfl := kj h
 refine Xal ?_
 exact hE
def Xhw (r : Int) : AV := .sv (.int .i64 r)
def Xhv (r : Int) : Xa9 := []
theorem Xdy {p0 p1 r} (h : Xb1 p0 p1 = some r) : AC Try.prog 48 [.sv (.int .i64 p0), .sv (.int .i64 p1)] [] (Xhw r) (Xhv r) := by
 refine Xah hT Try.func48 rfl fun C hC => ?_
 unfold Xb1 at h
 refine Xaa ?_
 refine kO hT hC ?_
 refine Vc.nil (Xbb ?_)
 refine kL [0,1] [] [_,_] [] ?_
 refine kA h (fun v1 => ([(12, .sv (.bool v1))], [])) (fun v1 h => ?_) fun v1 h => ?_
 refine Xaf ?_
 refine kO hT hC ?_
 refine kC hC [] Try.call54 h (fun _ => Xbc) fun q2 h => ?_
 iterate 2 refine kO hT hC ?_
 refine kS h ?_ ?_ <;> intro b1 h
 refine kI hT hC (kn b1) ?_
 refine kE hC (kn b1) [] Try.call54 h (fun _ => Xbc) fun q3 h => ?_
 refine kI hT hC (kn b1) ?_
 refine kP hC false (kn b1) ?_
 exact Vc.nil kM
 iterate 3 refine kF hC (kn b1) ?_
 refine kP hC true (kn b1) ?_
 exact Vc.nil kM
 refine kS h ?_ ?_ <;> intro b2 h
 refine kt b2 (Xaa ?_)
 refine kO hT hC ?_
 exact Vc.nil (Xad (Xal kR))
 refine kf b2 (Xab (Xag (Xaa ?_)))
 iterate 3 refine kO hT hC ?_
 refine kQ hT hC h fun h => ?_
 refine kO hT hC ?_
 exact Vc.nil (Xad kR)
def Xhy (r : Int) : AV := .sv (.int .i64 r)
def Xhx (r : Int) : Xa9 := []
theorem Xjc {p0 r} (h : Xc7 p0 = some r) : AC Try.prog 49 [.sv (.int .i64 p0)] [] (Xhy r) (Xhx r) := by
 refine Xah hT Try.func49 rfl fun C hC => ?_
 unfold Xc7 at h
 refine Xaa ?_
 refine kO hT hC ?_
 refine kN ?_
 iterate 4 refine kO hT hC ?_
 exact Vc.nil (Xad kR)
def Xd6 (r : (Queue × (List Packet) × Int)) : AV := .tup [.agg [.sv (.bool r.1.Begun), .sv (.int .i64 r.1.Next), .sv (.int .i64 r.1.Age), .own 16, .sv (.int .i64 r.1.Late), .sv (.int .i64 r.1.Far), .sv (.int .i64 r.1.Twice), .sv (.int .i64 r.1.Over), .sv (.int .i64 r.1.Lost)], .own 17, .sv (.int .i64 r.2.2)]
def Xd5 (r : (Queue × (List Packet) × Int)) : Xa9 := [(16, .row Xae r.1.Held), (17, .row Xae r.2.1)]
theorem Xej {p0 p1 r} (h : Xbx p0 p1 = some r) : AC Try.prog 18 [.agg [.sv (.bool p0.Begun), .sv (.int .i64 p0.Next), .sv (.int .i64 p0.Age), .sv (Xae.sv p0.Held), .sv (.int .i64 p0.Late), .sv (.int .i64 p0.Far), .sv (.int .i64 p0.Twice), .sv (.int .i64 p0.Over), .sv (.int .i64 p0.Lost)], .sv (.int .i64 p1)] [] (Xd6 r) (Xd5 r) := by
 refine Xah hT Try.func18 rfl fun C hC => ?_
 unfold Xbx at h
 refine Xaa ?_
 iterate 4 refine kO hT hC ?_
 refine kN ?_
 refine kO hT hC ?_
 refine kC hC [(16, 240)] Try.call47 h (fun _ => Xgx) fun q1 h => ?_
 iterate 2 refine kO hT hC ?_
 refine kN ?_
 iterate 2 refine kO hT hC ?_
 refine Vc.nil (Xbb ?_)
 refine kL [1,2,4,7,8] [32,64,112,240,256] [_,_,_,_,_] [_,_,_,_,_] ?_
 refine kA h (fun v2 => ([(24, .sv (.bool v2))], [])) (fun v2 h => ?_) fun v2 h => ?_
 refine Xaf ?_
 refine kO hT hC ?_
 refine kC hC [] Try.call26 h (fun _ => Xi8) fun q3 h => ?_
 iterate 2 refine kO hT hC ?_
 refine kS h ?_ ?_ <;> intro b1 h
 refine kI hT hC (kn b1) ?_
 refine kE hC (kn b1) [] Try.call38 h (fun _ => Xby) fun q4 h => ?_
 refine kI hT hC (kn b1) ?_
 refine kP hC false (kn b1) ?_
 exact Vc.nil kM
 iterate 3 refine kF hC (kn b1) ?_
 refine kP hC true (kn b1) ?_
 exact Vc.nil kM
 refine kS h ?_ ?_ <;> intro b2 h
 refine kt b2 (Xaa ?_)
 iterate 5 refine kO hT hC ?_
 refine Vc.nil (Xad (Xal ?_))
 obtain rfl := kj h
 exact Xgj (τ := ⟨[(4, .ptr 2000000 0), (5, .own 17), (6, .sv (.int .i64 0))], [(16, some (.row Xae q1.Held)), (17, some (.row Xae ([] : List Packet))), (2000000, some (.box [.sv (.bool q1.Begun), .sv (.int .i64 q1.Next), .sv (.int .i64 q1.Age), .own 16, .sv (.int .i64 q1.Late), .sv (.int .i64 q1.Far), .sv (.int .i64 q1.Twice), .sv (.int .i64 q1.Over), .sv (.int .i64 q1.Lost)]))]⟩) (kW hC [(16, 240), (17, 256), (2000000, 64)]) rfl ⟨rfl, rfl, trivial⟩
 refine kf b2 (Xab (Xag (Xbb (Xaa ?_))))
 iterate 4 refine kO hT hC ?_
 refine Vc.nil ?_
 refine kL [1,2,4,7,8,28,29,30] [32,64,112,240,256] [_,_,_,_,_,_,_,_] [_,_,_,_,_] ?_
 obtain ⟨o15, hl, h⟩ := Xay h
 refine Xfc (fun v8 => ([(30, .sv (.int .i64 v8))], [])) (fun v12 => ([(28, .any), (29, .any), (30, .any)], [])) (fun r => Xkc C T Try.f18.results.toList (Xd6 r) (Xd5 r)) hl ?_ ?_ ?_ ?_
 apply Xfq hC []
 exact co
 rfl
 decide
 rfl
 intro v8 s hs
 have h := hs
 unfold Xao at h
 refine Xaa ?_
 refine kO hT hC ?_
 refine Vc.nil (Xbb ?_)
 refine kS h ?_ ?_ <;> intro b9 h
 refine kt b9 (Xab (Xag (Xbb (Xct (Xaa ?_)))))
 refine kO hT hC ?_
 iterate 2 refine kQ hT hC h fun h => ?_
 iterate 3 refine kO hT hC ?_
 refine Vc.nil (Xbb ?_)
 refine Xk0 hm ?_
 iterate 5 refine kO hT hC ?_
 refine kC hC [] Try.call48 h (fun _ => Xdy) fun q13 h => ?_
 refine kO hT hC ?_
 refine kD ?_
 refine kS h ?_ ?_ <;> intro b10 h
 refine kt b10 (Xce (Xdm ?_))
 refine Xo3 rfl ?_
 exact Xdm kb
 refine kf b10 (Xab (Xag (Xaa ?_)))
 iterate 2 refine kO hT hC ?_
 refine Vc.nil ?_
 refine kS h ?_ ?_ <;> intro b11 h
 refine kt b11 (Xaa ?_)
 iterate 5 refine kO hT hC ?_
 refine kQ hT hC h fun h => ?_
 obtain ⟨hq, h⟩ := Xa8 h
 refine Xmy hT hC rfl rfl rfl rfl ⟨⟨hq.1, fun _ _ => rfl⟩, by rw [Xan]; exact hq.2⟩ ?_
 rw [Xan]
 refine kO hT hC ?_
 refine kN ?_
 iterate 5 refine kO hT hC ?_
 refine kQ hT hC h fun h => ?_
 obtain ⟨hq, h⟩ := Xa8 h
 refine Xmy hT hC rfl rfl rfl rfl ⟨⟨hq.1, fun _ _ => rfl⟩, by rw [Xan]; exact hq.2⟩ ?_
 rw [Xan]
 iterate 2 refine kO hT hC ?_
 refine kN ?_
 iterate 2 refine kO hT hC ?_
 refine kC hC [] Try.call48 h (fun _ => Xdy) fun q14 h => ?_
 iterate 2 refine kO hT hC ?_
 refine kN ?_
 iterate 2 refine kO hT hC ?_
 refine kN ?_
 iterate 5 refine kO hT hC ?_
 refine Vc.nil (Xad (Xfz (Xal ?_)))
 obtain rfl := kj h
 refine Xic (Xib ?_)
 refine Xgj (τ := ⟨[(4, .ptr 2000000 0), (5, .own 17), (6, .sv (.int .i64 1))], [(16, some (.row Xae (([] : List Packet) ++ ((q1.Held.drop ((Xaj .i64 (v8 + 1)).toNat)).take ((q1.Held.length : Int).toNat - (Xaj .i64 (v8 + 1)).toNat))))), (17, some (.row Xae (([] : List Packet) ++ ((q1.Held.drop ((0 : Int).toNat)).take ((Xaj .i64 (v8 + 1)).toNat - (0 : Int).toNat))))), (2000000, some (.box [.sv (.bool q1.Begun), .sv (.int .i64 q14), .sv (.int .i64 0), .own 16, .sv (.int .i64 q1.Late), .sv (.int .i64 q1.Far), .sv (.int .i64 q1.Twice), .sv (.int .i64 q1.Over), .sv (.int .i64 q1.Lost)]))]⟩) ?_ rfl ⟨rfl, rfl, trivial⟩
 apply Xfq hC [(16, 912), (17, 800), (2000000, 64)]
 exact co
 rfl
 decide
 rfl
 refine kf b11 (Xab (Xd4 (Xag (Xaf ?_))))
 iterate 2 refine kO hT hC ?_
 exact Vc.nil kG
 exact kf b9 (Xce (Xdm kb))
 intro v12 e
 subst e
 refine Xag (Xbb (Xct (Xaa ?_)))
 iterate 5 refine kO hT hC ?_
 refine Vc.nil ?_
 refine kS h ?_ ?_ <;> intro b12 h
 refine kt b12 (Xaa ?_)
 iterate 2 refine kO hT hC ?_
 refine kN ?_
 iterate 5 refine kO hT hC ?_
 refine Vc.nil (Xad (Xfz (Xal ?_)))
 obtain rfl := kj h
 exact Xgj (τ := ⟨[(4, .ptr 2000000 0), (5, .own 17), (6, .sv (.int .i64 0))], [(16, some (.row Xae q1.Held)), (17, some (.row Xae ([] : List Packet))), (2000000, some (.box [.sv (.bool q1.Begun), .sv (.int .i64 q1.Next), .sv (.int .i64 0), .own 16, .sv (.int .i64 q1.Late), .sv (.int .i64 q1.Far), .sv (.int .i64 q1.Twice), .sv (.int .i64 q1.Over), .sv (.int .i64 q1.Lost)]))]⟩) (kW hC [(16, 240), (17, 256), (2000000, 64)]) rfl ⟨rfl, rfl, trivial⟩
 refine kf b12 (Xaa ?_)
 iterate 5 refine kO hT hC ?_
 refine Vc.nil ?_
 refine kS h ?_ ?_ <;> intro b13 h
 refine kt b13 (Xaa ?_)
 iterate 5 refine kO hT hC ?_
 refine kN ?_
 iterate 5 refine kO hT hC ?_
 refine Vc.nil (Xad (Xfz (Xal ?_)))
 obtain rfl := kj h
 exact Xgj (τ := ⟨[(4, .ptr 2000000 0), (5, .own 17), (6, .sv (.int .i64 0))], [(16, some (.row Xae q1.Held)), (17, some (.row Xae ([] : List Packet))), (2000000, some (.box [.sv (.bool q1.Begun), .sv (.int .i64 q1.Next), .sv (.int .i64 (Xaj .i64 (q1.Age + 1))), .own 16, .sv (.int .i64 q1.Late), .sv (.int .i64 q1.Far), .sv (.int .i64 q1.Twice), .sv (.int .i64 q1.Over), .sv (.int .i64 q1.Lost)]))]⟩) (kW hC [(16, 240), (17, 256), (2000000, 64)]) rfl ⟨rfl, rfl, trivial⟩
 refine kf b13 (Xab (Xd4 (Xag (Xaa ?_))))
 iterate 2 refine kO hT hC ?_
 refine kC hC [] Try.call49 h (fun _ => Xjc) fun q16 h => ?_
 iterate 2 refine kO hT hC ?_
 refine kN ?_
 iterate 2 refine kO hT hC ?_
 refine kN ?_
 iterate 6 refine kO hT hC ?_
 refine kQ hT hC h fun h => ?_
 iterate 2 refine kO hT hC ?_
 refine kC hC [] Try.call48 h (fun _ => Xdy) fun q17 h => ?_
 iterate 2 refine kO hT hC ?_
 refine kN ?_
 iterate 3 refine kO hT hC ?_
 refine Vc.nil (Xbb (Xaa ?_))
 iterate 4 refine kO hT hC ?_
 refine Vc.nil ?_
 refine kL [2,4,7,8,105,106,107] [32,64,112,256] [_,_,_,_,_,_,_] [_,_,_,_] ?_
 refine kX h (fun v20 => ([(107, .sv (.int .i64 v20))], [])) (fun v23 => ([(2, .any), (8, .any), (105, .any), (106, .any), (107, .any)], [(112, some (.box [.sv (.bool q1.Begun), .sv (.int .i64 v23.1), .sv (.int .i64 0), .own 256, .sv (.int .i64 q1.Late), .sv (.int .i64 q1.Far), .sv (.int .i64 q1.Twice), .sv (.int .i64 q1.Over), .sv (.int .i64 q16)])), (256, some (.row Xae v23.2)), (32, none)])) (kW hC []) (fun v20 s h => ?_) fun v23 h => ?_
 unfold Xap at h
 refine Xaa ?_
 refine kO hT hC ?_
 refine Vc.nil (Xbb ?_)
 refine kS h ?_ ?_ <;> intro b20 h
 refine kt b20 (Xab (Xag (Xbb (Xct (Xaa ?_)))))
 refine kO hT hC ?_
 refine kQ hT hC h fun h => ?_
 iterate 4 refine kO hT hC ?_
 refine Vc.nil ?_
 refine kL [2,4,7,8,12,13,105,106,107] [32,64,112,208,256] [_,_,_,_,_,_,_,_,_] [_,_,_,_,_] ?_
 refine kA h (fun v24 => ([(120, .sv (.bool v24))], [])) (fun v24 h => ?_) fun v24 h => ?_
 refine Xaf ?_
 iterate 3 refine kO hT hC ?_
 refine kS h ?_ ?_ <;> intro b21 h
 iterate 5 refine kI hT hC b21 ?_
 refine kP hC true b21 ?_
 exact Vc.nil kM
 iterate 5 refine kF hC b21 ?_
 refine kP hC false b21 ?_
 exact Vc.nil kM
 refine kS h ?_ ?_ <;> intro b22 h
 refine kt b22 (Xaa ?_)
 iterate 4 refine kO hT hC ?_
 refine kN ?_
 iterate 4 refine kO hT hC ?_
 refine kQ hT hC h fun h => ?_
 obtain ⟨hq, h⟩ := Xa8 h
 refine Xmy hT hC rfl rfl rfl rfl ⟨fun _ _ => rfl, by rw [Xan]; exact hq⟩ ?_
 rw [Xan]
 iterate 2 refine kO hT hC ?_
 refine Vc.nil (Xce ?_)
 refine Xo3 rfl ?_
 refine Xdm ?_
 obtain rfl := kj h
 exact Xpr (Xsg (kW hC [(256, 2064)]))
 refine kf b22 (Xab (Xd4 (Xag (Xaf ?_))))
 iterate 2 refine kO hT hC ?_
 exact Vc.nil kG
 exact kf b20 (Xce (Xdm ku))
 refine Xag (Xaa ?_)
 iterate 5 refine kO hT hC ?_
 refine Vc.nil (Xad ?_)
 obtain rfl := kj h
 exact Xgj (τ := ⟨[(4, .ptr 2000000 0), (5, .own 17), (6, .sv (.int .i64 2))], [(16, some (.row Xae v23.2)), (17, some (.row Xae ([] : List Packet))), (2000000, some (.box [.sv (.bool q1.Begun), .sv (.int .i64 v23.1), .sv (.int .i64 0), .own 16, .sv (.int .i64 q1.Late), .sv (.int .i64 q1.Far), .sv (.int .i64 q1.Twice), .sv (.int .i64 q1.Over), .sv (.int .i64 q16)]))]⟩) (kW hC [(16, 256), (17, 2128), (2000000, 64)]) rfl ⟨rfl, rfl, trivial⟩
 intro r' σ' e hE
 subst e
 obtain rfl := kj h
 refine Xal ?_
 exact hE
def Xg2 (r : Bool) : AV := .sv (.bool r)
def Xg1 (r : Bool) : Xa9 := []
theorem Xhz {p0 p1 r} (h : Xco p0 p1 = some r) : AC Try.prog 50 [.agg [.sv (.int .i64 p0.Seq), .sv (.bool p0.First), .sv (.bool p0.Last), .sv (.str p0.Bytes)], .agg [.sv (.int .i64 p1.Seq), .sv (.bool p1.First), .sv (.bool p1.Last), .sv (.str p1.Bytes)]] [] (Xg2 r) (Xg1 r) := by
 refine Xah hT Try.func50 rfl fun C hC => ?_
 unfold Xco at h
 refine Xaa ?_
 iterate 3 refine kO hT hC ?_
 refine Vc.nil (Xbb (Xaa ?_))
 iterate 5 refine kO hT hC ?_
 refine Vc.nil ?_
 refine kS h ?_ ?_ <;> intro b1 h
 refine kt b1 (Xaa ?_)
 refine kO hT hC ?_
 exact Vc.nil (Xad (Xal kR))
 refine kf b1 (Xab (Xag (Xbb (Xaa ?_))))
 iterate 5 refine kO hT hC ?_
 refine Vc.nil ?_
 refine kS h ?_ ?_ <;> intro b2 h
 refine kt b2 (Xaa ?_)
 refine kO hT hC ?_
 exact Vc.nil (Xad (Xal kR))
 refine kf b2 (Xab (Xag (Xbb (Xaa ?_))))
 iterate 5 refine kO hT hC ?_
 refine Vc.nil ?_
 refine kS h ?_ ?_ <;> intro b3 h
 refine kt b3 (Xaa ?_)
 refine kO hT hC ?_
 exact Vc.nil (Xad (Xal kR))
 refine kf b3 (Xab (Xag (Xbb (Xaa ?_))))
 iterate 5 refine kO hT hC ?_
 refine Vc.nil ?_
 refine kS h ?_ ?_ <;> intro b4 h
 refine kt b4 (Xaa ?_)
 refine kO hT hC ?_
 exact Vc.nil (Xad (Xal kR))
 refine kf b4 (Xab (Xag (Xaa ?_)))
 refine kO hT hC ?_
 exact Vc.nil (Xad kR)
def Xd8 (r : Bool) : AV := .sv (.bool r)
def Xd7 (r : Bool) : Xa9 := []
theorem Xb4 {p0 p1 r} (h : Xa4 p0 p1 = some r) : AC Try.prog 20 [.sv (Xae.sv p0), .sv (Xae.sv p1)] [] (Xd8 r) (Xd7 r) := by
 refine Xah hT Try.func20 rfl fun C hC => ?_
 unfold Xa4 at h
 refine Xaa ?_
 refine kO hT hC ?_
 refine Vc.nil (Xbb (Xaa ?_))
 iterate 5 refine kO hT hC ?_
 refine Vc.nil ?_
 refine kS h ?_ ?_ <;> intro b1 h
 refine kt b1 (Xaa ?_)
 refine kO hT hC ?_
 exact Vc.nil (Xad (Xal kR))
 refine kf b1 (Xab (Xag (Xbb (Xaa ?_))))
 refine kO hT hC ?_
 refine Vc.nil ?_
 refine kL [0,1,5] [] [_,_,_] [] ?_
 obtain ⟨o8, hl, h⟩ := Xay h
 refine Xfc (fun v3 => ([(5, .sv (.int .i64 v3))], [])) (fun v6 => ([(0, .any), (1, .any), (5, .any)], [])) (fun r => Xkc C T Try.f20.results.toList (Xd8 r) (Xd7 r)) hl ?_ ?_ ?_ ?_
 apply Xfq hC []
 exact co
 rfl
 decide
 rfl
 intro v3 s hs
 have h := hs
 unfold Xbl at h
 refine Xbb (Xaa ?_)
 iterate 4 refine kO hT hC ?_
 refine Vc.nil ?_
 refine kS h ?_ ?_ <;> intro b6 h
 refine kt b6 (Xab (Xag (Xbb (Xct ?_))))
 refine Xk0 hm ?_
 iterate 2 refine kO hT hC ?_
 refine kQ hT hC h fun h => ?_
 iterate 3 refine kO hT hC ?_
 refine kQ hT hC h fun h => ?_
 refine kO hT hC ?_
 refine kC hC [] Try.call50 h (fun _ => Xhz) fun q7 h => ?_
 refine kO hT hC ?_
 refine kD ?_
 refine kS h ?_ ?_ <;> intro b7 h
 refine kt b7 (Xaa ?_)
 refine kO hT hC ?_
 refine Vc.nil (Xad (Xfz (Xal ?_)))
 obtain rfl := kj h
 refine Xic (Xib ?_)
 exact Xgj (Xec.refl _) rfl trivial
 refine kf b7 (Xab (Xd4 (Xag (Xaf ?_))))
 iterate 3 refine kO hT hC ?_
 exact Vc.nil kG
 exact kf b6 (Xce (Xdm kb))
 intro v6 e
 subst e
 refine Xag (Xaa ?_)
 refine kO hT hC ?_
 exact Vc.nil (Xad kR)
 intro r' σ' e hE
 subst e
 obtain rfl := kj h
 refine Xal ?_
 exact hE
def Xh1 (r : Bool) : AV := .sv (.bool r)
def Xh0 (r : Bool) : Xa9 := []
theorem Xcp {p0 p1 r} (h : Xbq p0 p1 = some r) : AC Try.prog 19 [.agg [.sv (.bool p0.Begun), .sv (.int .i64 p0.Next), .sv (.int .i64 p0.Age), .sv (Xae.sv p0.Held), .sv (.int .i64 p0.Late), .sv (.int .i64 p0.Far), .sv (.int .i64 p0.Twice), .sv (.int .i64 p0.Over), .sv (.int .i64 p0.Lost)], .agg [.sv (.bool p1.Begun), .sv (.int .i64 p1.Next), .sv (.int .i64 p1.Age), .sv (Xae.sv p1.Held), .sv (.int .i64 p1.Late), .sv (.int .i64 p1.Far), .sv (.int .i64 p1.Twice), .sv (.int .i64 p1.Over), .sv (.int .i64 p1.Lost)]] [] (Xh1 r) (Xh0 r) := by
 refine Xah hT Try.func19 rfl fun C hC => ?_
 unfold Xbq at h
 refine Xaa ?_
 iterate 3 refine kO hT hC ?_
 refine Vc.nil (Xbb (Xaa ?_))
 iterate 5 refine kO hT hC ?_
 refine Vc.nil ?_
 refine kS h ?_ ?_ <;> intro b1 h
 refine kt b1 (Xaa ?_)
 refine kO hT hC ?_
 exact Vc.nil (Xad (Xal kR))
 refine kf b1 (Xab (Xag (Xbb (Xaa ?_))))
 iterate 5 refine kO hT hC ?_
 refine Vc.nil ?_
 refine kS h ?_ ?_ <;> intro b2 h
 refine kt b2 (Xaa ?_)
 refine kO hT hC ?_
 exact Vc.nil (Xad (Xal kR))
 refine kf b2 (Xab (Xag (Xbb (Xaa ?_))))
 iterate 5 refine kO hT hC ?_
 refine Vc.nil ?_
 refine kS h ?_ ?_ <;> intro b3 h
 refine kt b3 (Xaa ?_)
 refine kO hT hC ?_
 exact Vc.nil (Xad (Xal kR))
 refine kf b3 (Xab (Xag (Xbb (Xaa ?_))))
 iterate 4 refine kO hT hC ?_
 refine kC hC [] Try.call20 h (fun _ => Xb4) fun q1 h => ?_
 refine kO hT hC ?_
 refine Vc.nil ?_
 refine kS h ?_ ?_ <;> intro b4 h
 refine kt b4 (Xaa ?_)
 refine kO hT hC ?_
 exact Vc.nil (Xad (Xal kR))
 refine kf b4 (Xab (Xag (Xbb (Xaa ?_))))
 iterate 5 refine kO hT hC ?_
 refine Vc.nil ?_
 refine kS h ?_ ?_ <;> intro b5 h
 refine kt b5 (Xaa ?_)
 refine kO hT hC ?_
 exact Vc.nil (Xad (Xal kR))
 refine kf b5 (Xab (Xag (Xbb (Xaa ?_))))
 iterate 5 refine kO hT hC ?_
 refine Vc.nil ?_
 refine kS h ?_ ?_ <;> intro b6 h
 refine kt b6 (Xaa ?_)
 refine kO hT hC ?_
 exact Vc.nil (Xad (Xal kR))
 refine kf b6 (Xab (Xag (Xbb (Xaa ?_))))
 iterate 5 refine kO hT hC ?_
 refine Vc.nil ?_
 refine kS h ?_ ?_ <;> intro b7 h
 refine kt b7 (Xaa ?_)
 refine kO hT hC ?_
 exact Vc.nil (Xad (Xal kR))
 refine kf b7 (Xab (Xag (Xbb (Xaa ?_))))
 iterate 5 refine kO hT hC ?_
 refine Vc.nil ?_
 refine kS h ?_ ?_ <;> intro b8 h
 refine kt b8 (Xaa ?_)
 refine kO hT hC ?_
 exact Vc.nil (Xad (Xal kR))
 refine kf b8 (Xab (Xag (Xbb (Xaa ?_))))
 iterate 5 refine kO hT hC ?_
 refine Vc.nil ?_
 refine kS h ?_ ?_ <;> intro b9 h
 refine kt b9 (Xaa ?_)
 refine kO hT hC ?_
 exact Vc.nil (Xad (Xal kR))
 refine kf b9 (Xab (Xag (Xaa ?_)))
 refine kO hT hC ?_
 exact Vc.nil (Xad kR)
def Xg5 (r : ByteArray) : AV := .sv (.str r)
def Xg4 (r : ByteArray) : Xa9 := []
theorem Xe6 {p0 r} (h : Xbf p0 = some r) : AC Try.prog 51 [.sv (.int .i64 p0)] [] (Xg5 r) (Xg4 r) := by
 refine Xah hT Try.func51 rfl fun C hC => ?_
 unfold Xbf at h
 refine Xaa ?_
 refine kO hT hC ?_
 refine Vc.nil (Xbb (Xaa ?_))
 iterate 2 refine kO hT hC ?_
 refine Vc.nil ?_
 refine kS h ?_ ?_ <;> intro b1 h
 refine kt b1 (Xaa ?_)
 refine kO hT hC ?_
 exact Vc.nil (Xad (Xal kR))
 refine kf b1 (Xab (Xag (Xaa ?_)))
 refine kO hT hC ?_
 refine Vc.nil (Xbb ?_)
 refine kL [0,3] [] [_,_] [] ?_
 refine kX h (fun v2 => ([(0, .sv (.int .i64 v2.1)), (3, .sv (.str v2.2))], [])) (fun v4 => ([(3, .sv (.str v4)), (0, .any)], [])) (kW hC []) (fun v2 s h => ?_) fun v4 h => ?_
 unfold Xcd at h
 refine Xbb (Xaa ?_)
 iterate 2 refine kO hT hC ?_
 refine Vc.nil ?_
 refine kS h ?_ ?_ <;> intro b4 h
 refine kt b4 (Xab (Xag (Xct (Xaa ?_))))
 refine kO hT hC ?_
 refine kQ hT hC h fun h => ?_
 iterate 5 refine kO hT hC ?_
 refine kQ hT hC h fun h => ?_
 refine kO hT hC ?_
 refine Vc.nil (Xaf ?_)
 refine kO hT hC ?_
 refine kQ hT hC h fun h => ?_
 refine kO hT hC ?_
 exact Vc.nil (Xd4 kG)
 exact kf b4 (Xce (Xdm ku))
 refine Xag (Xaa ?_)
 refine kO hT hC ?_
 refine kQ hT hC h fun h => ?_
 refine kO hT hC ?_
 exact Vc.nil (Xad kR)
def Xfl (r : (Int × (List Packet))) : AV := .sv (.int .i64 r.1)
def Xfk (r : (Int × (List Packet))) : Xa9 := [(0, .row Xae r.2)]
theorem Xd0 {p0 p1 r} (h : Xbd p0 p1 = some r) : AC Try.prog 22 [.own 0, .sv (.int .i64 p1)] [(0, .row Xae p0)] (Xfl r) (Xfk r) := by
 refine Xah hT Try.func22 rfl fun C hC => ?_
 unfold Xbd at h
 refine Xaa ?_
 refine kO hT hC ?_
 refine Vc.nil (Xbb (Xaa ?_))
 refine kO hT hC ?_
 refine Vc.nil ?_
 refine kL [0,1,5] [0] [_,_,_] [_] ?_
 refine kX h (fun v7 => ([(1, .sv (.int .i64 v7.1)), (5, .sv (.int .i64 v7.2.1))], [(0, some (.row Xae v7.2.2))])) (fun v14 => ([(1, .sv (.int .i64 v14.1)), (0, .any), (5, .any)], [(0, some (.row Xae v14.2))])) (kW hC []) (fun v7 s h => ?_) fun v14 h => ?_
 unfold Xa6 at h
 refine Xbb (Xaa ?_)
 iterate 4 refine kO hT hC ?_
 refine Vc.nil ?_
 refine kS h ?_ ?_ <;> intro b3 h
 refine kt b3 (Xab (Xag (Xbb (Xct (Xaa ?_)))))
 iterate 3 refine kO hT hC ?_
 refine kQ hT hC h fun h => ?_
 refine kO hT hC ?_
 obtain ⟨hq, h⟩ := Xa8 h
 obtain ⟨s15, hs, h⟩ := Xay h
 injection hs with hs
 refine Xmy hT hC rfl rfl rfl rfl hq ?_
 rw [hs]
 refine kN ?_
 iterate 3 refine kO hT hC ?_
 refine kN ?_
 iterate 3 refine kO hT hC ?_
 refine kQ hT hC h fun h => ?_
 refine kO hT hC ?_
 refine kQ hT hC h fun h => ?_
 refine kO hT hC ?_
 obtain ⟨hq, h⟩ := Xa8 h
 obtain ⟨s16, hs, h⟩ := Xay h
 injection hs with hs
 refine Xmy hT hC rfl rfl rfl rfl hq ?_
 rw [hs]
 refine kN ?_
 iterate 3 refine kO hT hC ?_
 refine kN ?_
 iterate 3 refine kO hT hC ?_
 refine kQ hT hC h fun h => ?_
 refine kO hT hC ?_
 refine kQ hT hC h fun h => ?_
 refine kO hT hC ?_
 obtain ⟨hq, h⟩ := Xa8 h
 obtain ⟨s17, hs, h⟩ := Xay h
 injection hs with hs
 refine Xmy hT hC rfl rfl rfl rfl hq ?_
 rw [hs]
 refine kN ?_
 iterate 3 refine kO hT hC ?_
 refine kN ?_
 iterate 3 refine kO hT hC ?_
 refine kC hC [] Try.call51 h (fun _ => Xe6) fun q18 h => ?_
 refine kQ hT hC h fun h => ?_
 refine kO hT hC ?_
 obtain ⟨hq, h⟩ := Xa8 h
 obtain ⟨s19, hs, h⟩ := Xay h
 injection hs with hs
 refine Xmy hT hC rfl rfl rfl rfl hq ?_
 rw [hs]
 refine Vc.nil (Xaf ?_)
 iterate 3 refine kO hT hC ?_
 refine Vc.nil (Xd4 (Xag (Xaf ?_)))
 iterate 3 refine kO hT hC ?_
 exact Vc.nil kG
 exact kf b3 (Xce (Xdm ku))
 refine Xag (Xaa ?_)
 iterate 2 refine kO hT hC ?_
 refine Vc.nil (Xad ?_)
 obtain rfl := kj h
 exact Xgj (Xec.refl _) rfl ⟨rfl, trivial⟩
def Xf9 (r : (Int × Queue)) : AV := .sv (.int .i64 r.1)
def Xf8 (r : (Int × Queue)) : Xa9 := [(2, .row Xae r.2.Held)]
theorem Xeo {p0 p1 r} (h : Xb0 p0 p1 = some r) : AC Try.prog 21 [.agg [.sv (.bool p0.Begun), .sv (.int .i64 p0.Next), .sv (.int .i64 p0.Age), .own 2, .sv (.int .i64 p0.Late), .sv (.int .i64 p0.Far), .sv (.int .i64 p0.Twice), .sv (.int .i64 p0.Over), .sv (.int .i64 p0.Lost)], .sv (.int .i64 p1)] [(2, .row Xae p0.Held)] (Xf9 r) (Xf8 r) := by
 refine Xah hT Try.func21 rfl fun C hC => ?_
 unfold Xb0 at h
 refine Xaa ?_
 iterate 2 refine kO hT hC ?_
 refine kN ?_
 iterate 3 refine kO hT hC ?_
 refine kC hC [(0, 2)] Try.call22 h (fun _ => Xd0) fun q1 h => ?_
 refine kO hT hC ?_
 refine kN ?_
 iterate 2 refine kO hT hC ?_
 refine Vc.nil (Xad ?_)
 obtain rfl := kj h
 exact Xgj (Xec.refl _) rfl ⟨rfl, trivial⟩
def Xdl (r : Int) : AV := .sv (.int .i64 r)
def Xdk (r : Int) : Xa9 := []
theorem Xcg {p0 p1 r} (h : Xa0 p0 p1 = some r) : AC Try.prog 24 [.sv (Xae.sv p0), .sv (.int .i64 p1)] [] (Xdl r) (Xdk r) := by
 refine Xah hT Try.func24 rfl fun C hC => ?_
 unfold Xa0 at h
 refine Xaa ?_
 refine kO hT hC ?_
 refine Vc.nil (Xbb (Xaa ?_))
 refine kO hT hC ?_
 refine Vc.nil ?_
 refine kL [0,1,5] [] [_,_,_] [] ?_
 obtain ⟨o8, hl, h⟩ := Xay h
 refine Xfc (fun v3 => ([(1, .sv (.int .i64 v3.1)), (5, .sv (.int .i64 v3.2))], [])) (fun v6 => ([(1, .sv (.int .i64 v6)), (0, .any), (5, .any)], [])) (fun r => Xkc C T Try.f24.results.toList (Xdl r) (Xdk r)) hl ?_ ?_ ?_ ?_
 try dsimp only
 apply Xfq hC []
 exact co
 rfl
 decide
 rfl
 intro v3 s hs
 have h := hs
 unfold Xa5 at h
 refine Xbb (Xaa ?_)
 iterate 4 refine kO hT hC ?_
 refine Vc.nil ?_
 refine kS h ?_ ?_ <;> intro b11 h
 refine kt b11 (Xab (Xag (Xbb (Xct (Xbb (Xaa ?_))))))
 iterate 2 refine kO hT hC ?_
 refine kQ hT hC h fun h => ?_
 iterate 4 refine kO hT hC ?_
 refine Vc.nil ?_
 refine kS h ?_ ?_ <;> intro b12 h
 refine kt b12 (Xaa ?_)
 refine kO hT hC ?_
 refine Vc.nil (Xad (Xal (Xfz (Xal ?_))))
 obtain rfl := kj h
 refine Xic (Xib ?_)
 exact Xgj (Xec.refl _) rfl trivial
 refine kf b12 (Xab (Xag (Xaa ?_)))
 iterate 3 refine kO hT hC ?_
 refine Vc.nil (Xbb (Xaa ?_))
 iterate 2 refine kO hT hC ?_
 refine kQ hT hC h fun h => ?_
 iterate 3 refine kO hT hC ?_
 refine kQ hT hC h fun h => ?_
 iterate 2 refine kO hT hC ?_
 refine Vc.nil ?_
 refine kS h ?_ ?_ <;> intro b13 h
 refine kt b13 (Xaa ?_)
 refine kO hT hC ?_
 refine Vc.nil (Xad (Xal (Xfz (Xal ?_))))
 obtain rfl := kj h
 refine Xic (Xib ?_)
 exact Xgj (Xec.refl _) rfl trivial
 refine kf b13 (Xab (Xag (Xaa ?_)))
 iterate 3 refine kO hT hC ?_
 refine Vc.nil (Xbb (Xaa ?_))
 iterate 2 refine kO hT hC ?_
 refine kQ hT hC h fun h => ?_
 iterate 3 refine kO hT hC ?_
 refine kQ hT hC h fun h => ?_
 iterate 2 refine kO hT hC ?_
 refine Vc.nil ?_
 refine kS h ?_ ?_ <;> intro b14 h
 refine kt b14 (Xaa ?_)
 refine kO hT hC ?_
 refine Vc.nil (Xad (Xal (Xfz (Xal ?_))))
 obtain rfl := kj h
 refine Xic (Xib ?_)
 exact Xgj (Xec.refl _) rfl trivial
 refine kf b14 (Xab (Xag (Xaa ?_)))
 iterate 3 refine kO hT hC ?_
 refine Vc.nil (Xbb ?_)
 refine Xk0 hm ?_
 iterate 2 refine kO hT hC ?_
 refine kQ hT hC h fun h => ?_
 iterate 3 refine kO hT hC ?_
 refine kC hC [] Try.call51 h (fun _ => Xe6) fun q7 h => ?_
 refine kO hT hC ?_
 refine kD ?_
 refine kS h ?_ ?_ <;> intro b15 h
 refine kt b15 (Xaa ?_)
 refine kO hT hC ?_
 refine Vc.nil (Xad (Xal (Xfz (Xal ?_))))
 obtain rfl := kj h
 refine Xic (Xib ?_)
 exact Xgj (Xec.refl _) rfl trivial
 refine kf b15 (Xab (Xag (Xaf ?_)))
 iterate 3 refine kO hT hC ?_
 refine Vc.nil (Xd4 (Xag (Xaf ?_)))
 iterate 3 refine kO hT hC ?_
 exact Vc.nil kG
 exact kf b11 (Xce (Xdm kb))
 intro v6 e
 subst e
 refine Xag (Xaa ?_)
 iterate 2 refine kO hT hC ?_
 exact Vc.nil (Xad kR)
 intro r' σ' e hE
 subst e
 obtain rfl := kj h
 refine Xal ?_
 exact hE
def Xf7 (r : Int) : AV := .sv (.int .i64 r)
def Xf6 (r : Int) : Xa9 := []
theorem Xen {p0 p1 r} (h : Xbz p0 p1 = some r) : AC Try.prog 23 [.agg [.sv (.bool p0.Begun), .sv (.int .i64 p0.Next), .sv (.int .i64 p0.Age), .sv (Xae.sv p0.Held), .sv (.int .i64 p0.Late), .sv (.int .i64 p0.Far), .sv (.int .i64 p0.Twice), .sv (.int .i64 p0.Over), .sv (.int .i64 p0.Lost)], .sv (.int .i64 p1)] [] (Xf7 r) (Xf6 r) := by
 refine Xah hT Try.func23 rfl fun C hC => ?_
 unfold Xbz at h
 refine Xaa ?_
 iterate 2 refine kO hT hC ?_
 refine kN ?_
 iterate 3 refine kO hT hC ?_
 refine kC hC [] Try.call24 h (fun _ => Xcg) fun q1 h => ?_
 refine kO hT hC ?_
 refine Vc.nil (Xbb (Xaa ?_))
 iterate 2 refine kO hT hC ?_
 refine Vc.nil ?_
 refine kS h ?_ ?_ <;> intro b1 h
 refine kt b1 (Xaa ?_)
 refine kO hT hC ?_
 exact Vc.nil (Xad (Xal kR))
 refine kf b1 (Xab (Xag (Xaa ?_)))
 iterate 2 refine kO hT hC ?_
 exact Vc.nil (Xad kR)
def Xef (r : Bool) : AV := .sv (.bool r)
def Xee (r : Bool) : Xa9 := []
theorem Xem {p0 p1 r} (h : Xbe p0 p1 = some r) : AC Try.prog 4 [.agg [.sv (.bool p0.Begun), .sv (.int .i64 p0.Next), .sv (.int .i64 p0.Age), .sv (Xae.sv p0.Held), .sv (.int .i64 p0.Late), .sv (.int .i64 p0.Far), .sv (.int .i64 p0.Twice), .sv (.int .i64 p0.Over), .sv (.int .i64 p0.Lost)], .sv (.int .i64 p1)] [] (Xef r) (Xee r) := by
 refine Xah hT Try.func4 rfl fun C hC => ?_
 unfold Xbe at h
 refine Xaa ?_
 iterate 2 refine kO hT hC ?_
 refine kN ?_
 refine kO hT hC ?_
 refine kN ?_
 iterate 2 refine kO hT hC ?_
 refine kC hC [] Try.call15 h (fun _ => Xjg) fun q1 h => ?_
 refine kO hT hC ?_
 refine Vc.nil (Xbb (Xaa ?_))
 iterate 2 refine kO hT hC ?_
 refine Vc.nil ?_
 refine kS h ?_ ?_ <;> intro b1 h
 refine kt b1 (Xaa ?_)
 refine kO hT hC ?_
 exact Vc.nil (Xad (Xal kR))
 refine kf b1 (Xab (Xag (Xaa ?_)))
 refine kO hT hC ?_
 refine kC hC [(16, 416)] Try.call17 h (fun _ => Xcr) fun q2 h => ?_
 refine kO hT hC ?_
 obtain ⟨q3, hq, h⟩ := Xay h
 refine Xob hC [(16, 448), (17, 449)] rfl rfl rfl rfl Try.call16 (Xhj hq) rfl (by decide) trivial rfl (.inr ⟨rfl, ⟨fun _ => rfl, fun _ => rfl, trivial⟩⟩) rfl ?_
 iterate 8 refine kO hT hC ?_
 refine kN ?_
 refine kO hT hC ?_
 refine kC hC [(16, 528)] Try.call17 h (fun _ => Xcr) fun q4 h => ?_
 iterate 2 refine kO hT hC ?_
 refine kN ?_
 iterate 2 refine kO hT hC ?_
 obtain ⟨q5, hq, h⟩ := Xay h
 refine Xob hC [(16, 592), (17, 593)] rfl rfl rfl rfl Try.call18 (Xej hq) rfl (by decide) trivial rfl (.inr ⟨rfl, ⟨fun _ => rfl, fun _ => rfl, trivial⟩⟩) rfl ?_
 iterate 8 refine kO hT hC ?_
 refine Vc.nil (Xbb ?_)
 refine kL [1,2,6,7,8,9,10,11,12] [32,96,144,160,448,449,528,592,593] [_,_,_,_,_,_,_,_,_] [_,_,_,_,_,_,_,_,_] ?_
 refine kA h (fun v6 => ([(55, .sv (.bool v6))], [])) (fun v6 h => ?_) fun v6 h => ?_
 refine Xaf ?_
 iterate 2 refine kO hT hC ?_
 refine kC hC [] Try.call19 h (fun _ => Xcp) fun q7 h => ?_
 iterate 2 refine kO hT hC ?_
 refine kS h ?_ ?_ <;> intro b2 h
 iterate 2 refine kI hT hC (kn b2) ?_
 refine kE hC (kn b2) [] Try.call20 h (fun _ => Xb4) fun q8 h => ?_
 refine kI hT hC (kn b2) ?_
 refine kP hC false (kn b2) ?_
 refine kO hT hC ?_
 refine kS h ?_ ?_ <;> intro b3 h
 iterate 3 refine kI hT hC (kn b3) ?_
 refine kP hC false (kn b3) ?_
 exact Vc.nil kM
 iterate 3 refine kF hC (kn b3) ?_
 refine kP hC true (kn b3) ?_
 exact Vc.nil kM
 iterate 4 refine kF hC (kn b2) ?_
 refine kP hC true (kn b2) ?_
 refine kO hT hC ?_
 iterate 3 refine kF hC rfl ?_
 refine kO hT hC ?_
 exact Vc.nil kM
 refine kS h ?_ ?_ <;> intro b4 h
 refine kt b4 (Xaa ?_)
 refine kO hT hC ?_
 exact Vc.nil (Xad (Xal kR))
 refine kf b4 (Xab (Xag (Xbb ?_)))
 refine Xk0 hm ?_
 iterate 2 refine kO hT hC ?_
 refine kC hC [(16, 928)] Try.call17 h (fun _ => Xcr) fun q9 h => ?_
 refine kC hC [] Try.call19 h (fun _ => Xcp) fun q10 h => ?_
 refine kO hT hC ?_
 refine kD ?_
 refine kS h ?_ ?_ <;> intro b5 h
 refine kt b5 (Xaa ?_)
 refine kO hT hC ?_
 exact Vc.nil (Xad (Xal kR))
 refine kf b5 (Xab (Xag (Xaa ?_)))
 refine kO hT hC ?_
 refine kN ?_
 iterate 2 refine kO hT hC ?_
 refine kC hC [(2, 528)] Try.call21 h (fun _ => Xeo) fun q11 h => ?_
 refine kO hT hC ?_
 refine Vc.nil (Xbb ?_)
 refine kL [1,2,6,7,8,10,11,12,13] [32,96,160,448,449,592,593] [_,_,_,_,_,_,_,_,_] [_,_,_,_,_,_,_] ?_
 refine kA h (fun v12 => ([(82, .sv (.bool v12)), (12, .any), (13, .any)], [])) (fun v12 h => ?_) fun v12 h => ?_
 refine Xaf ?_
 iterate 3 refine kO hT hC ?_
 refine kS h ?_ ?_ <;> intro b6 h
 iterate 4 refine kF hC b6 ?_
 refine kP hC true b6 ?_
 refine kO hT hC ?_
 iterate 4 refine kF hC rfl ?_
 iterate 2 refine kO hT hC ?_
 iterate 3 refine kF hC rfl ?_
 refine kO hT hC ?_
 exact Vc.nil kM
 iterate 2 refine kI hT hC b6 ?_
 refine kE hC b6 [] Try.call19 h (fun _ => Xcp) fun q13 h => ?_
 refine kI hT hC b6 ?_
 refine kP hC false b6 ?_
 refine kO hT hC ?_
 refine kS h ?_ ?_ <;> intro b7 h
 iterate 2 refine kI hT hC (kn b7) ?_
 refine kE hC (kn b7) [] Try.call20 h (fun _ => Xb4) fun q14 h => ?_
 refine kI hT hC (kn b7) ?_
 refine kP hC false (kn b7) ?_
 refine kO hT hC ?_
 refine kS h ?_ ?_ <;> intro b8 h
 iterate 3 refine kI hT hC (kn b8) ?_
 refine kP hC false (kn b8) ?_
 exact Vc.nil kM
 iterate 3 refine kF hC (kn b8) ?_
 refine kP hC true (kn b8) ?_
 exact Vc.nil kM
 iterate 4 refine kF hC (kn b7) ?_
 refine kP hC true (kn b7) ?_
 refine kO hT hC ?_
 iterate 3 refine kF hC rfl ?_
 refine kO hT hC ?_
 exact Vc.nil kM
 refine kS h ?_ ?_ <;> intro b9 h
 refine kt b9 (Xaa ?_)
 refine kO hT hC ?_
 exact Vc.nil (Xad (Xal kR))
 refine kf b9 (Xab (Xag (Xaa ?_)))
 refine kO hT hC ?_
 refine kN ?_
 iterate 2 refine kO hT hC ?_
 refine kC hC [(2, 592)] Try.call21 h (fun _ => Xeo) fun q15 h => ?_
 refine kO hT hC ?_
 refine kN ?_
 iterate 2 refine kO hT hC ?_
 refine kC hC [(0, 593)] Try.call22 h (fun _ => Xd0) fun q16 h => ?_
 refine kO hT hC ?_
 refine kN ?_
 refine kO hT hC ?_
 refine kN ?_
 iterate 2 refine kO hT hC ?_
 refine kC hC [] Try.call23 h (fun _ => Xen) fun q17 h => ?_
 refine kO hT hC ?_
 refine Vc.nil (Xbb (Xaa ?_))
 iterate 2 refine kO hT hC ?_
 refine Vc.nil ?_
 refine kS h ?_ ?_ <;> intro b10 h
 refine kt b10 (Xaa ?_)
 refine kO hT hC ?_
 exact Vc.nil (Xad (Xal kR))
 refine kf b10 (Xab (Xag (Xaa ?_)))
 iterate 2 refine kO hT hC ?_
 refine kC hC [] Try.call24 h (fun _ => Xcg) fun q18 h => ?_
 refine kO hT hC ?_
 refine Vc.nil (Xbb (Xaa ?_))
 iterate 2 refine kO hT hC ?_
 refine Vc.nil ?_
 refine kS h ?_ ?_ <;> intro b11 h
 refine kt b11 (Xaa ?_)
 refine kO hT hC ?_
 exact Vc.nil (Xad (Xal kR))
 refine kf b11 (Xab (Xag (Xbb (Xaa ?_))))
 iterate 3 refine kO hT hC ?_
 refine Vc.nil ?_
 refine kS h ?_ ?_ <;> intro b12 h
 refine kt b12 (Xaa ?_)
 refine kO hT hC ?_
 exact Vc.nil (Xad (Xal kR))
 refine kf b12 (Xab (Xag (Xaa ?_)))
 refine kO hT hC ?_
 refine kC hC [(16, 1664)] Try.call17 h (fun _ => Xcr) fun q19 h => ?_
 refine kO hT hC ?_
 obtain ⟨q20, hq, h⟩ := Xay h
 refine Xob hC [(16, 1696), (17, 1697)] rfl rfl rfl rfl Try.call18 (Xej hq) rfl (by decide) trivial rfl (.inr ⟨rfl, ⟨fun _ => rfl, fun _ => rfl, trivial⟩⟩) rfl ?_
 iterate 8 refine kO hT hC ?_
 refine Vc.nil (Xbb ?_)
 refine kL [6,7,8,10,11,14,16,17,18] [96,160,256,448,449,592,593,1696,1697] [_,_,_,_,_,_,_,_,_] [_,_,_,_,_,_,_,_,_] ?_
 refine kA h (fun v21 => ([(124, .sv (.bool v21)), (6, .any), (7, .any), (8, .any), (16, .any), (17, .any), (18, .any)], [(96, none), (256, none), (448, none), (449, none), (1696, none), (1697, none)])) (fun v21 h => ?_) fun v21 h => ?_
 refine Xaf ?_
 iterate 2 refine kO hT hC ?_
 refine kC hC [] Try.call19 h (fun _ => Xcp) fun q22 h => ?_
 iterate 2 refine kO hT hC ?_
 refine kS h ?_ ?_ <;> intro b13 h
 iterate 2 refine kI hT hC (kn b13) ?_
 refine kE hC (kn b13) [] Try.call20 h (fun _ => Xb4) fun q23 h => ?_
 refine kI hT hC (kn b13) ?_
 refine kP hC false (kn b13) ?_
 refine kO hT hC ?_
 refine kS h ?_ ?_ <;> intro b14 h
 iterate 3 refine kI hT hC (kn b14) ?_
 refine kP hC false (kn b14) ?_
 exact Vc.nil kM
 iterate 3 refine kF hC (kn b14) ?_
 refine kP hC true (kn b14) ?_
 exact Vc.nil kM
 iterate 4 refine kF hC (kn b13) ?_
 refine kP hC true (kn b13) ?_
 refine kO hT hC ?_
 iterate 3 refine kF hC rfl ?_
 refine kO hT hC ?_
 exact Vc.nil kM
 refine kS h ?_ ?_ <;> intro b15 h
 refine kt b15 (Xaa ?_)
 refine kO hT hC ?_
 exact Vc.nil (Xad (Xal kR))
 refine kf b15 (Xab (Xag (Xaa ?_)))
 refine kO hT hC ?_
 refine kN ?_
 iterate 2 refine kO hT hC ?_
 refine kC hC [] Try.call23 h (fun _ => Xen) fun q24 h => ?_
 refine kO hT hC ?_
 refine Vc.nil (Xbb (Xaa ?_))
 iterate 2 refine kO hT hC ?_
 refine Vc.nil ?_
 refine kS h ?_ ?_ <;> intro b16 h
 refine kt b16 (Xaa ?_)
 refine kO hT hC ?_
 exact Vc.nil (Xad (Xal kR))
 refine kf b16 (Xab (Xag (Xaa ?_)))
 iterate 2 refine kO hT hC ?_
 refine kC hC [] Try.call24 h (fun _ => Xcg) fun q25 h => ?_
 refine kO hT hC ?_
 refine Vc.nil (Xbb (Xaa ?_))
 iterate 2 refine kO hT hC ?_
 refine Vc.nil ?_
 refine kS h ?_ ?_ <;> intro b17 h
 refine kt b17 (Xaa ?_)
 refine kO hT hC ?_
 exact Vc.nil (Xad (Xal kR))
 refine kf b17 (Xab (Xag (Xbb (Xaa ?_))))
 iterate 3 refine kO hT hC ?_
 refine Vc.nil ?_
 refine kS h ?_ ?_ <;> intro b18 h
 refine kt b18 (Xaa ?_)
 refine kO hT hC ?_
 exact Vc.nil (Xad (Xal kR))
 refine kf b18 (Xab (Xag (Xaa ?_)))
 refine kO hT hC ?_
 exact Vc.nil (Xad kR)
end
end Go.Proofs.Ytlebkepfhdjnmaa.A
