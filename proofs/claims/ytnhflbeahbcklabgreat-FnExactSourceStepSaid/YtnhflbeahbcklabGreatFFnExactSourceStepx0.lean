/- Contracts of the functions that the law FnExactSourceStep reaches, part 0: each comes to what its pure function tells. Written by a program of this session. Conditions: as each statement tells. -/
import Derived.Test.YtnhflbeahbcklabGreatBFnExactSourceStep
namespace Go.Proofs.YtnhflbeahbcklabGreat.A
open Go Go.Proofs Go.Proofs.YtnhflbeahbcklabGreatAL Go.RowKit
set_option linter.unusedVariables false
set_option linter.unusedSimpArgs false
set_option maxRecDepth 100000
set_option maxHeartbeats 2000000
noncomputable section
def Yhr (r : ByteArray) : AV := .sv (.str r)
def Yhq (r : ByteArray) : Xax := []
theorem Xvd {p0 p1 r} (h : Xk1 p0 p1 = some r) : AC Tryz.prog 218 [.sv (.int .i64 p0), .sv (.int .u8 p1)] [] (Yhr r) (Yhq r) := by
 refine Xaf hT Tryz.func218 rfl fun C hC => ?_
 unfold Xk1 at h
 refine Xab ?_
 refine kO hT hC ?_
 refine kN ?_
 refine kO hT hC ?_
 obtain ⟨hq, h⟩ := Xaw h
 refine Yqs hT hC rfl rfl rfl rfl ⟨hq.1, hq.2.1, hq.2.2, by decide⟩ ?_
 refine kO hT hC ?_
 refine Vc.nil (Xam (Xab ?_))
 refine kO hT hC ?_
 refine Vc.nil ?_
 refine kL [0,1,5,6] [128] [_,_,_,_] [_] ?_
 refine kX h (fun v2 => ([(6, .sv (.int .i64 v2.1))], [(128, some (.ints .u8 v2.2))])) (fun v4 => ([(0, .any), (1, .any), (6, .any)], [(128, some (.ints .u8 v4))])) (kW hC []) (fun v2 s h => ?_) fun v4 h => ?_
 unfold Xie at h
 refine Xam (Xab ?_)
 iterate 3 refine kO hT hC ?_
 refine Vc.nil ?_
 refine kS h ?_ ?_ <;> intro b3 h
 refine kt b3 (Xag (Xae (Xam (Xak (Xac ?_)))))
 iterate 3 refine kO hT hC ?_
 iterate 2 refine kQ hT hC h fun h => ?_
 refine Vc.nil (Xap (Xae (Xac ?_)))
 iterate 3 refine kO hT hC ?_
 exact Vc.nil kG
 exact kf b3 (Xan (Xat ku))
 refine Xae (Xab ?_)
 iterate 3 refine kO hT hC ?_
 exact Vc.nil (Xah kR)
def Yqc (r : ByteArray) : AV := .sv (.str r)
def Yqb (r : ByteArray) : Xax := []
theorem Xc7 {p0 r} (h : Xcm p0 = some r) : AC Tryz.prog 159 [.sv (.int .i64 p0)] [] (Yqc r) (Yqb r) := by
 refine Xaf hT Tryz.func159 rfl fun C hC => ?_
 unfold Xcm at h
 refine Xab ?_
 refine kO hT hC ?_
 refine kN ?_
 iterate 3 refine kO hT hC ?_
 refine kN ?_
 refine kO hT hC ?_
 refine Vc.nil (Xam ?_)
 refine kL [3,4] [] [_,_] [] ?_
 refine kX h (fun v2 => ([(3, .sv (.int .i64 v2.1)), (4, .sv (.str v2.2))], [])) (fun v4 => ([(4, .sv (.str v4)), (3, .any)], [])) (kW hC []) (fun v2 s h => ?_) fun v4 h => ?_
 unfold Xi3 at h
 refine Xam (Xab ?_)
 iterate 2 refine kO hT hC ?_
 refine Vc.nil ?_
 refine kS h ?_ ?_ <;> intro b3 h
 refine kt b3 (Xag (Xae (Xak (Xab ?_))))
 refine kO hT hC ?_
 refine kQ hT hC h fun h => ?_
 iterate 5 refine kO hT hC ?_
 refine kQ hT hC h fun h => ?_
 refine kO hT hC ?_
 refine Vc.nil (Xac ?_)
 refine kO hT hC ?_
 refine kQ hT hC h fun h => ?_
 refine kO hT hC ?_
 exact Vc.nil (Xap kG)
 exact kf b3 (Xan (Xat ku))
 refine Xae (Xab ?_)
 iterate 3 refine kO hT hC ?_
 refine kC hC [] Tryz.call218 h (fun _ => Xvd) fun q6 h => ?_
 refine kO hT hC ?_
 refine kQ hT hC h fun h => ?_
 refine kO hT hC ?_
 exact Vc.nil (Xah kR)
def Ymv (r : ByteArray) : AV := .sv (.str r)
def Ymu (r : ByteArray) : Xax := []
theorem Xri {p0 p1 r} (h : Xkj p0 p1 = some r) : AC Tryz.prog 160 [.sv (.int .i64 p0), .sv (.int .i64 p1)] [] (Ymv r) (Ymu r) := by
 refine Xaf hT Tryz.func160 rfl fun C hC => ?_
 unfold Xkj at h
 refine Xab ?_
 refine kO hT hC ?_
 refine kN ?_
 refine kO hT hC ?_
 obtain ⟨hq, h⟩ := Xaw h
 refine Yqs hT hC rfl rfl rfl rfl ⟨hq.1, hq.2.1, hq.2.2, by decide⟩ ?_
 refine kO hT hC ?_
 refine Vc.nil (Xam (Xab ?_))
 iterate 3 refine kO hT hC ?_
 refine Vc.nil ?_
 refine kL [0,5,6] [128] [_,_,_] [_] ?_
 refine kX h (fun v2 => ([(0, .sv (.int .i64 v2.1)), (6, .sv (.int .i64 v2.2.1))], [(128, some (.ints .u8 v2.2.2))])) (fun v4 => ([(0, .any), (6, .any)], [(128, some (.ints .u8 v4))])) (kW hC []) (fun v2 s h => ?_) fun v4 h => ?_
 unfold Xju at h
 refine Xam (Xab ?_)
 iterate 2 refine kO hT hC ?_
 refine Vc.nil ?_
 refine kS h ?_ ?_ <;> intro b3 h
 refine kt b3 (Xag (Xae (Xam (Xak (Xab ?_)))))
 iterate 3 refine kO hT hC ?_
 refine kQ hT hC h fun h => ?_
 iterate 2 refine kO hT hC ?_
 iterate 2 refine kQ hT hC h fun h => ?_
 refine Vc.nil (Xac ?_)
 refine kO hT hC ?_
 refine kQ hT hC h fun h => ?_
 refine kO hT hC ?_
 refine Vc.nil (Xap (Xae (Xac ?_)))
 iterate 3 refine kO hT hC ?_
 exact Vc.nil kG
 exact kf b3 (Xan (Xat ku))
 refine Xae (Xab ?_)
 iterate 3 refine kO hT hC ?_
 exact Vc.nil (Xah kR)
def Yhz (r : ByteArray) : AV := .sv (.str r)
def Yhy (r : ByteArray) : Xax := []
theorem Xvi {p0 r} (h : Xk4 p0 = some r) : AC Tryz.prog 179 [.sv (.ints .i64 p0)] [] (Yhz r) (Yhy r) := by
 refine Xaf hT Tryz.func179 rfl fun C hC => ?_
 unfold Xk4 at h
 refine Xab ?_
 refine kO hT hC ?_
 refine kN ?_
 iterate 2 refine kO hT hC ?_
 refine kC hC [] Tryz.call159 h (fun _ => Xc7) fun q1 h => ?_
 refine kO hT hC ?_
 refine Vc.nil (Xam (Xab ?_))
 refine kO hT hC ?_
 refine Vc.nil ?_
 refine kL [0,3,4] [] [_,_,_] [] ?_
 refine kX h (fun v4 => ([(3, .sv (.str v4.1)), (4, .sv (.int .i64 v4.2))], [])) (fun v7 => ([(3, .sv (.str v7)), (0, .any), (4, .any)], [])) (kW hC []) (fun v4 s h => ?_) fun v7 h => ?_
 unfold Xif at h
 refine Xam (Xab ?_)
 iterate 4 refine kO hT hC ?_
 refine Vc.nil ?_
 refine kS h ?_ ?_ <;> intro b3 h
 refine kt b3 (Xag (Xae (Xam (Xak (Xac ?_)))))
 iterate 3 refine kO hT hC ?_
 refine kQ hT hC h fun h => ?_
 refine kO hT hC ?_
 refine kC hC [] Tryz.call159 h (fun _ => Xc7) fun q8 h => ?_
 refine kQ hT hC h fun h => ?_
 refine kO hT hC ?_
 refine Vc.nil (Xap (Xae (Xac ?_)))
 iterate 3 refine kO hT hC ?_
 exact Vc.nil kG
 exact kf b3 (Xan (Xat ku))
 refine Xae (Xab ?_)
 iterate 2 refine kO hT hC ?_
 exact Vc.nil (Xah kR)
def Ymz (r : ByteArray) : AV := .sv (.str r)
def Ymy (r : ByteArray) : Xax := []
theorem Yqf {p0 r} (h : Xp8 p0 = some r) : AC Tryz.prog 106 [.agg [.sv (.int .i64 p0.Level), .sv (.int .i64 p0.Bits), .sv (.ints .i64 p0.Cols), .sv (.ints .i64 p0.Rows)]] [] (Ymz r) (Ymy r) := by
 refine Xaf hT Tryz.func106 rfl fun C hC => ?_
 unfold Xp8 at h
 refine Xab ?_
 iterate 2 refine kO hT hC ?_
 refine Vc.nil ?_
 refine Xbs hm ?_
 iterate 2 refine kO hT hC ?_
 refine kC hC [] Tryz.call159 h (fun _ => Xc7) fun q1 h => ?_
 iterate 2 refine kO hT hC ?_
 refine kC hC [] Tryz.call160 h (fun _ => Xri) fun q2 h => ?_
 refine kQ hT hC h fun h => ?_
 iterate 2 refine kO hT hC ?_
 refine kC hC [] Tryz.call179 h (fun _ => Xvi) fun q3 h => ?_
 refine kQ hT hC h fun h => ?_
 iterate 2 refine kO hT hC ?_
 refine kC hC [] Tryz.call179 h (fun _ => Xvi) fun q4 h => ?_
 refine kQ hT hC h fun h => ?_
 refine kO hT hC ?_
 exact kD (Xah kR)
def Yh1 (r : Bool) : AV := .sv (.bool r)
def Yh0 (r : Bool) : Xax := []
theorem Ym0 {p0 r} (h : Xn2 p0 = some r) : AC Tryz.prog 163 [.sv (.int .i64 p0)] [] (Yh1 r) (Yh0 r) := by
 refine Xaf hT Tryz.func163 rfl fun C hC => ?_
 unfold Xn2 at h
 refine Xab ?_
 refine kO hT hC ?_
 refine Vc.nil ?_
 refine kL [0,2] [] [_,_] [] ?_
 refine kA h (fun v1 => ([(2, .sv (.bool v1)), (0, .any)], [])) (fun v1 h => ?_) fun v1 h => ?_
 refine Xac ?_
 iterate 3 refine kO hT hC ?_
 refine kS h ?_ ?_ <;> intro b1 h
 iterate 2 refine kF hC b1 ?_
 refine kP hC true b1 ?_
 refine kO hT hC ?_
 iterate 2 refine kF hC rfl ?_
 iterate 2 refine kO hT hC ?_
 iterate 2 refine kF hC rfl ?_
 iterate 2 refine kO hT hC ?_
 exact Vc.nil kM
 iterate 2 refine kI hT hC b1 ?_
 refine kP hC false b1 ?_
 refine kO hT hC ?_
 refine kS h ?_ ?_ <;> intro b2 h
 iterate 2 refine kF hC b2 ?_
 refine kP hC true b2 ?_
 refine kO hT hC ?_
 iterate 2 refine kF hC rfl ?_
 iterate 2 refine kO hT hC ?_
 exact Vc.nil kM
 iterate 2 refine kI hT hC b2 ?_
 refine kP hC false b2 ?_
 refine kO hT hC ?_
 refine kS h ?_ ?_ <;> intro b3 h
 iterate 2 refine kF hC b3 ?_
 refine kP hC true b3 ?_
 refine kO hT hC ?_
 exact Vc.nil kM
 iterate 2 refine kI hT hC b3 ?_
 refine kP hC false b3 ?_
 refine kO hT hC ?_
 exact Vc.nil kM
 exact Xah kR
def Xvg (r : Bool) : AV := .sv (.bool r)
def Xvf (r : Bool) : Xax := []
theorem Yp7 {p0 r} (h : Xp4 p0 = some r) : AC Tryz.prog 225 [.sv (.str p0)] [] (Xvg r) (Xvf r) := by
 refine Xaf hT Tryz.func225 rfl fun C hC => ?_
 unfold Xp4 at h
 refine Xab ?_
 refine kO hT hC ?_
 refine Vc.nil (Xam (Xab ?_))
 refine kO hT hC ?_
 refine Vc.nil ?_
 refine kL [0,3] [] [_,_] [] ?_
 obtain ⟨o8, hl, h⟩ := Xa3 h
 refine Xf9 (fun v3 => ([(3, .sv (.int .i64 v3))], [])) (fun v6 => ([(0, .any), (3, .any)], [])) (fun r => Xqe C T Tryz.f225.results.toList (Xvg r) (Xvf r)) hl ?_ ?_ ?_ ?_
 apply Xdo hC []
 exact co
 rfl
 decide
 rfl
 intro v3 s hs
 have h := hs
 unfold Xjv at h
 refine Xam (Xab ?_)
 iterate 4 refine kO hT hC ?_
 refine Vc.nil ?_
 refine kS h ?_ ?_ <;> intro b7 h
 refine kt b7 (Xag (Xae (Xam (Xak ?_))))
 refine kL [0,3] [] [_,_] [] ?_
 refine kA h (fun v7 => ([(19, .sv (.bool v7))], [])) (fun v7 h => ?_) fun v7 h => ?_
 refine Xac ?_
 iterate 2 refine kO hT hC ?_
 refine kQ hT hC h fun h => ?_
 iterate 2 refine kO hT hC ?_
 refine kS h ?_ ?_ <;> intro b8 h
 iterate 2 refine kI hT hC b8 ?_
 refine kJ hT hC b8 h fun h => ?_
 refine kI hT hC b8 ?_
 refine kP hC true b8 ?_
 exact Vc.nil kM
 iterate 4 refine kF hC b8 ?_
 refine kP hC false b8 ?_
 exact Vc.nil kM
 refine kS h ?_ ?_ <;> intro b9 h
 refine kt b9 (Xab ?_)
 refine kO hT hC ?_
 refine Vc.nil (Xah (Xer (Xaq ?_)))
 obtain rfl := kj h
 refine Xrb (Xra ?_)
 exact Xby (Xmd.refl _) rfl trivial
 refine kf b9 (Xag (Xap (Xae (Xac ?_))))
 iterate 3 refine kO hT hC ?_
 exact Vc.nil kG
 exact kf b7 (Xan (Xat kb))
 intro v6 e
 subst e
 refine Xae (Xab ?_)
 refine kO hT hC ?_
 exact Vc.nil (Xah kR)
 intro r' σ' e hE
 subst e
 obtain rfl := kj h
 refine Xaq ?_
 exact hE
def Ypv (r : Bool) : AV := .sv (.bool r)
def Ypu (r : Bool) : Xax := []
theorem Yto {p0 r} (h : Xsg p0 = some r) : AC Tryz.prog 164 [.sv (.str p0)] [] (Ypv r) (Ypu r) := by
 refine Xaf hT Tryz.func164 rfl fun C hC => ?_
 unfold Xsg at h
 refine Xab ?_
 refine kO hT hC ?_
 refine Vc.nil ?_
 refine kL [0,2] [] [_,_] [] ?_
 refine kA h (fun v1 => ([(2, .sv (.bool v1)), (0, .any)], [])) (fun v1 h => ?_) fun v1 h => ?_
 refine Xac ?_
 iterate 4 refine kO hT hC ?_
 refine kS h ?_ ?_ <;> intro b1 h
 refine kI hT hC b1 ?_
 refine kE hC b1 [] Tryz.call225 h (fun _ => Yp7) fun q2 h => ?_
 refine kP hC true b1 ?_
 refine kO hT hC ?_
 exact Vc.nil kM
 iterate 2 refine kF hC b1 ?_
 refine kP hC false b1 ?_
 refine kO hT hC ?_
 exact Vc.nil kM
 exact Xah kR
def Yet (r : ByteArray) : AV := .sv (.str r)
def Yes (r : ByteArray) : Xax := []
theorem Yhs {p0 r} (h : Xl0 p0 = some r) : AC Tryz.prog 165 [.sv (.str p0)] [] (Yet r) (Yes r) := by
 refine Xaf hT Tryz.func165 rfl fun C hC => ?_
 unfold Xl0 at h
 refine Xab ?_
 refine kO hT hC ?_
 refine kN ?_
 refine kO hT hC ?_
 refine kQ hT hC h fun h => ?_
 refine kO hT hC ?_
 refine kT hT hC h fun h => ?_
 refine kO hT hC ?_
 refine Vc.nil (Xam ?_)
 refine kL [3] [176] [_] [_] ?_
 refine kX h (fun v2 => ([], [(176, some (.ints .u8 v2))])) (fun v4 => ([], [(176, some (.ints .u8 v4))])) (kW hC []) (fun v2 s h => ?_) fun v4 h => ?_
 unfold Xg8 at h
 refine Xam (Xab ?_)
 iterate 2 refine kO hT hC ?_
 refine kQ hT hC h fun h => ?_
 refine kO hT hC ?_
 refine Vc.nil ?_
 refine kS h ?_ ?_ <;> intro b3 h
 refine kt b3 (Xag (Xae (Xak (Xac ?_))))
 iterate 2 refine kO hT hC ?_
 refine kT hT hC h fun h => ?_
 refine kO hT hC ?_
 refine Vc.nil (Xap ?_)
 obtain rfl := kj h
 exact Yd2 (kW hC [(176, 288)])
 exact kf b3 (Xan (Xat ku))
 refine Xae (Xab ?_)
 iterate 2 refine kO hT hC ?_
 refine Vc.nil (Xam (Xab ?_))
 refine kO hT hC ?_
 refine Vc.nil ?_
 refine kL [3,4,5] [176,304] [_,_,_] [_,_] ?_
 refine kX h (fun v12 => ([(5, .sv (.int .i64 v12.1))], [(304, some (.ints .u8 v12.2))])) (fun v19 => ([(3, .any), (5, .any)], [(304, some (.ints .u8 v19)), (176, none)])) (kW hC []) (fun v12 s h => ?_) fun v19 h => ?_
 unfold Xge at h
 refine Xam (Xab ?_)
 iterate 4 refine kO hT hC ?_
 refine Vc.nil ?_
 refine kS h ?_ ?_ <;> intro b12 h
 refine kt b12 (Xag (Xae (Xam (Xak (Xab ?_)))))
 refine kO hT hC ?_
 refine Vc.nil (Xam (Xab ?_))
 refine kO hT hC ?_
 refine Vc.nil ?_
 refine kL [3,4,5,6,7] [176,304] [_,_,_,_,_] [_,_] ?_
 refine kX h (fun v21 => ([(6, .sv (.int .i64 v21.1)), (7, .sv (.int .i64 v21.2))], [])) (fun v23 => ([(6, .sv (.int .i64 v23)), (7, .any)], [])) (kW hC []) (fun v21 s h => ?_) fun v23 h => ?_
 unfold Xd7 at h
 refine Xam (Xab ?_)
 iterate 2 refine kO hT hC ?_
 refine Vc.nil ?_
 refine kS h ?_ ?_ <;> intro b15 h
 refine kt b15 (Xag (Xae (Xam (Xak (Xac ?_)))))
 iterate 6 refine kO hT hC ?_
 iterate 2 refine kQ hT hC h fun h => ?_
 iterate 4 refine kO hT hC ?_
 refine Vc.nil (Xap (Xae (Xac ?_)))
 iterate 3 refine kO hT hC ?_
 exact Vc.nil kG
 exact kf b15 (Xan (Xat ku))
 refine Xae (Xac ?_)
 iterate 4 refine kO hT hC ?_
 refine kT hT hC h fun h => ?_
 refine kO hT hC ?_
 refine Vc.nil (Xap (Xae (Xac ?_)))
 iterate 3 refine kO hT hC ?_
 refine Vc.nil ?_
 obtain rfl := kj h
 exact Yd2 (kW hC [(304, 720)])
 exact kf b12 (Xan (Xat ku))
 refine Xae (Xab ?_)
 iterate 3 refine kO hT hC ?_
 exact Vc.nil (Xah kR)
def Ymt (r : (ByteArray × Bool)) : AV := .tup [.sv (.str r.1), .sv (.bool r.2)]
def Yms (r : (ByteArray × Bool)) : Xax := []
theorem Xrg {p0 p1 r} (h : Xki p0 p1 = some r) : AC Tryz.prog 84 [.sv (.int .i64 p0), .sv (.str p1)] [] (Ymt r) (Yms r) := by
 refine Xaf hT Tryz.func84 rfl fun C hC => ?_
 unfold Xki at h
 refine Xab ?_
 iterate 2 refine kO hT hC ?_
 refine Vc.nil (Xam ?_)
 refine kL [0,1] [] [_,_] [] ?_
 refine kA h (fun v1 => ([(13, .sv (.bool v1))], [])) (fun v1 h => ?_) fun v1 h => ?_
 refine Xac ?_
 refine kO hT hC ?_
 refine kC hC [] Tryz.call163 h (fun _ => Ym0) fun q2 h => ?_
 iterate 2 refine kO hT hC ?_
 refine kS h ?_ ?_ <;> intro b1 h
 refine kI hT hC (kn b1) ?_
 refine kE hC (kn b1) [] Tryz.call164 h (fun _ => Yto) fun q3 h => ?_
 refine kI hT hC (kn b1) ?_
 refine kP hC false (kn b1) ?_
 exact Vc.nil kM
 iterate 3 refine kF hC (kn b1) ?_
 refine kP hC true (kn b1) ?_
 exact Vc.nil kM
 refine kS h ?_ ?_ <;> intro b2 h
 refine kt b2 (Xab ?_)
 iterate 2 refine kO hT hC ?_
 exact Vc.nil (Xah (Xaq kR))
 refine kf b2 (Xag (Xae ?_))
 refine Xbs hm ?_
 iterate 5 refine kO hT hC ?_
 refine kC hC [] Tryz.call165 h (fun _ => Yhs) fun q4 h => ?_
 refine kQ hT hC h fun h => ?_
 iterate 2 refine kO hT hC ?_
 exact kD (Xah kR)
def Yhx (r : ByteArray) : AV := .sv (.str r)
def Yhw (r : ByteArray) : Xax := []
theorem Xp5 {p0 r} (h : Xk3 p0 = some r) : AC Tryz.prog 180 [.sv (.bool p0)] [] (Yhx r) (Yhw r) := by
 refine Xaf hT Tryz.func180 rfl fun C hC => ?_
 unfold Xk3 at h
 refine Xab ?_
 refine kO hT hC ?_
 refine Vc.nil (Xam (Xab ?_))
 refine kO hT hC ?_
 refine Vc.nil ?_
 refine kS h ?_ ?_ <;> intro b1 h
 refine kt b1 (Xab ?_)
 refine kO hT hC ?_
 exact Vc.nil (Xah (Xaq kR))
 refine kf b1 (Xag (Xae (Xab ?_)))
 refine kO hT hC ?_
 exact Vc.nil (Xah kR)
def Ymx (r : ByteArray) : AV := .sv (.str r)
def Ymw (r : ByteArray) : Xax := []
theorem Yqd {p0 r} (h : Xp7 p0 = some r) : AC Tryz.prog 107 [.agg [.sv (.int .i64 p0.Qp), .sv (.bool p0.Large), .sv (.bool p0.Exact), .sv (.bool p0.Confined)]] [] (Ymx r) (Ymw r) := by
 refine Xaf hT Tryz.func107 rfl fun C hC => ?_
 unfold Xp7 at h
 refine Xab ?_
 iterate 2 refine kO hT hC ?_
 refine Vc.nil ?_
 refine Xbs hm ?_
 iterate 2 refine kO hT hC ?_
 refine kC hC [] Tryz.call160 h (fun _ => Xri) fun q1 h => ?_
 iterate 2 refine kO hT hC ?_
 refine kC hC [] Tryz.call180 h (fun _ => Xp5) fun q2 h => ?_
 refine kQ hT hC h fun h => ?_
 iterate 2 refine kO hT hC ?_
 refine kC hC [] Tryz.call180 h (fun _ => Xp5) fun q3 h => ?_
 refine kQ hT hC h fun h => ?_
 iterate 2 refine kO hT hC ?_
 refine kC hC [] Tryz.call180 h (fun _ => Xp5) fun q4 h => ?_
 refine kQ hT hC h fun h => ?_
 refine kO hT hC ?_
 exact kD (Xah kR)
def Yp6 (r : Bool) : AV := .sv (.bool r)
def Yp5 (r : Bool) : Xax := []
theorem Xal {p0 p1 p2 r} (h : Xas p0 p1 p2 = some r) : AC Tryz.prog 149 [.sv (.int .i64 p0), .sv (.int .i64 p1), .sv (.int .i64 p2)] [] (Yp6 r) (Yp5 r) := by
 refine Xaf hT Tryz.func149 rfl fun C hC => ?_
 unfold Xas at h
 refine Xab ?_
 refine kO hT hC ?_
 refine Vc.nil ?_
 refine kL [0,1,2,6] [] [_,_,_,_] [] ?_
 refine kA h (fun v1 => ([(6, .sv (.bool v1)), (0, .any), (1, .any), (2, .any)], [])) (fun v1 h => ?_) fun v1 h => ?_
 refine Xac ?_
 iterate 4 refine kO hT hC ?_
 refine kS h ?_ ?_ <;> intro b1 h
 iterate 3 refine kI hT hC b1 ?_
 refine kP hC true b1 ?_
 refine kO hT hC ?_
 exact Vc.nil kM
 iterate 3 refine kF hC b1 ?_
 refine kP hC false b1 ?_
 refine kO hT hC ?_
 exact Vc.nil kM
 exact Xah kR
def Xvl (r : Int) : AV := .sv (.int .i64 r)
def Xvk (r : Int) : Xax := []
theorem Xnm {p0 r} (h : Xig p0 = some r) : AC Tryz.prog 120 [.sv (.ints .i64 p0)] [] (Xvl r) (Xvk r) := by
 refine Xaf hT Tryz.func120 rfl fun C hC => ?_
 unfold Xig at h
 refine Xab ?_
 refine kO hT hC ?_
 refine Vc.nil (Xam ?_)
 refine kL [0] [] [_] [] ?_
 refine kA h (fun v1 => ([(12, .sv (.bool v1))], [])) (fun v1 h => ?_) fun v1 h => ?_
 refine Xac ?_
 iterate 4 refine kO hT hC ?_
 refine kS h ?_ ?_ <;> intro b1 h
 iterate 3 refine kF hC b1 ?_
 refine kP hC true b1 ?_
 exact Vc.nil kM
 iterate 3 refine kI hT hC b1 ?_
 refine kP hC false b1 ?_
 exact Vc.nil kM
 refine kS h ?_ ?_ <;> intro b2 h
 refine kt b2 (Xab ?_)
 refine kO hT hC ?_
 exact Vc.nil (Xah (Xaq kR))
 refine kf b2 (Xag (Xae (Xab ?_)))
 refine kO hT hC ?_
 refine Vc.nil (Xam (Xab ?_))
 refine kO hT hC ?_
 refine Vc.nil ?_
 refine kL [0,3,4] [] [_,_,_] [] ?_
 obtain ⟨o9, hl, h⟩ := Xa3 h
 refine Xf9 (fun v4 => ([(3, .sv (.int .i64 v4.1)), (4, .sv (.int .i64 v4.2))], [])) (fun v7 => ([(3, .sv (.int .i64 v7)), (0, .any), (4, .any)], [])) (fun r => Xqe C T Tryz.f120.results.toList (Xvl r) (Xvk r)) hl ?_ ?_ ?_ ?_
 try dsimp only
 apply Xdo hC []
 exact co
 rfl
 decide
 rfl
 intro v4 s hs
 have h := hs
 unfold Xhh at h
 refine Xam (Xab ?_)
 iterate 4 refine kO hT hC ?_
 refine Vc.nil ?_
 refine kS h ?_ ?_ <;> intro b7 h
 refine kt b7 (Xag (Xae (Xam (Xak (Xam (Xab ?_))))))
 iterate 2 refine kO hT hC ?_
 refine kQ hT hC h fun h => ?_
 refine kO hT hC ?_
 refine kC hC [] Tryz.call149 h (fun _ => Xal) fun q8 h => ?_
 refine kO hT hC ?_
 refine Vc.nil ?_
 refine kS h ?_ ?_ <;> intro b8 h
 refine kt b8 (Xab ?_)
 refine kO hT hC ?_
 refine Vc.nil (Xah (Xaq (Xer (Xaq ?_))))
 obtain rfl := kj h
 refine Xrb (Xra ?_)
 exact Xby (Xmd.refl _) rfl trivial
 refine kf b8 (Xag (Xae (Xac ?_)))
 iterate 3 refine kO hT hC ?_
 refine kQ hT hC h fun h => ?_
 iterate 3 refine kO hT hC ?_
 refine Vc.nil (Xap (Xae (Xac ?_)))
 iterate 3 refine kO hT hC ?_
 exact Vc.nil kG
 exact kf b7 (Xan (Xat kb))
 intro v7 e
 subst e
 refine Xae (Xab ?_)
 iterate 2 refine kO hT hC ?_
 exact Vc.nil (Xah kR)
 intro r' σ' e hE
 subst e
 obtain rfl := kj h
 refine Xaq ?_
 exact hE
def Yb8 (r : Int) : AV := .sv (.int .i64 r)
def Yb7 (r : Int) : Xax := []
theorem Yeq {p0 r} (h : Xjs p0 = some r) : AC Tryz.prog 193 [.agg [.sv (.int .i64 p0.Level), .sv (.int .i64 p0.Bits), .sv (.ints .i64 p0.Cols), .sv (.ints .i64 p0.Rows)]] [] (Yb8 r) (Yb7 r) := by
 refine Xaf hT Tryz.func193 rfl fun C hC => ?_
 unfold Xjs at h
 refine Xab ?_
 iterate 2 refine kO hT hC ?_
 refine Vc.nil ?_
 refine Xbs hm ?_
 iterate 2 refine kO hT hC ?_
 refine kC hC [] Tryz.call120 h (fun _ => Xnm) fun q1 h => ?_
 iterate 2 refine kO hT hC ?_
 refine kC hC [] Tryz.call120 h (fun _ => Xnm) fun q2 h => ?_
 iterate 2 refine kO hT hC ?_
 exact kD (Xah kR)
def Xvb (r : Int) : AV := .sv (.int .i64 r)
def Xva (r : Int) : Xax := []
theorem Xwu {p0 r} (h : Xgc p0 = some r) : AC Tryz.prog 194 [.sv (.int .i64 p0)] [] (Xvb r) (Xva r) := by
 refine Xaf hT Tryz.func194 rfl fun C hC => ?_
 unfold Xgc at h
 refine Xab ?_
 refine kO hT hC ?_
 refine Vc.nil (Xam (Xab ?_))
 refine kO hT hC ?_
 refine Vc.nil (Xak (Xab ?_))
 iterate 2 refine kO hT hC ?_
 refine Vc.nil ?_
 refine kS h ?_ ?_ <;> intro b1 h
 refine kt b1 (Xab ?_)
 refine kO hT hC ?_
 exact Vc.nil (Xah (Xer (Xaq kR)))
 refine kf b1 (Xab ?_)
 iterate 2 refine kO hT hC ?_
 refine Vc.nil ?_
 refine kS h ?_ ?_ <;> intro b2 h
 refine kt b2 (Xab ?_)
 refine kO hT hC ?_
 exact Vc.nil (Xah (Xer (Xaq kR)))
 refine kf b2 (Xab ?_)
 iterate 2 refine kO hT hC ?_
 refine Vc.nil ?_
 refine kS h ?_ ?_ <;> intro b3 h
 refine kt b3 (Xab ?_)
 refine kO hT hC ?_
 exact Vc.nil (Xah (Xer (Xaq kR)))
 refine kf b3 (Xag (Xap (Xae (Xab ?_))))
 refine kO hT hC ?_
 exact Vc.nil (Xah kR)
def Ypz (r : Bool) : AV := .sv (.bool r)
def Ypy (r : Bool) : Xax := []
theorem Ybw {p0 r} (h : Xo5 p0 = some r) : AC Tryz.prog 119 [.agg [.sv (.int .i64 p0.Level), .sv (.int .i64 p0.Bits), .sv (.ints .i64 p0.Cols), .sv (.ints .i64 p0.Rows)]] [] (Ypz r) (Ypy r) := by
 refine Xaf hT Tryz.func119 rfl fun C hC => ?_
 unfold Xo5 at h
 refine Xab ?_
 iterate 2 refine kO hT hC ?_
 refine Vc.nil ?_
 refine kL [1,2] [16] [_,_] [_] ?_
 refine kA h (fun v1 => ([(2, .sv (.bool v1)), (1, .any)], [(16, none)])) (fun v1 h => ?_) fun v1 h => ?_
 refine Xb4 hm ?_
 refine kO hT hC ?_
 refine kC hC [] Tryz.call193 h (fun _ => Yeq) fun q2 h => ?_
 iterate 2 refine kO hT hC ?_
 refine kC hC [] Tryz.call194 h (fun _ => Xwu) fun q3 h => ?_
 refine kC hC [] Tryz.call149 h (fun _ => Xal) fun q4 h => ?_
 refine kO hT hC ?_
 refine kS h ?_ ?_ <;> intro b1 h
 iterate 2 refine kI hT hC b1 ?_
 refine kE hC b1 [] Tryz.call149 h (fun _ => Xal) fun q5 h => ?_
 refine kP hC true b1 ?_
 refine kO hT hC ?_
 exact kD kM
 iterate 3 refine kF hC b1 ?_
 refine kP hC false b1 ?_
 refine kO hT hC ?_
 exact kD kM
 exact Xah kR
def Yhp (r : Int) : AV := .sv (.int .i64 r)
def Yho (r : Int) : Xax := []
theorem Xvc {p0 r} (h : Xic p0 = some r) : AC Tryz.prog 101 [.agg [.sv (.int .i64 p0.Level), .sv (.int .i64 p0.Bits), .sv (.ints .i64 p0.Cols), .sv (.ints .i64 p0.Rows)]] [] (Yhp r) (Yho r) := by
 refine Xaf hT Tryz.func101 rfl fun C hC => ?_
 unfold Xic at h
 refine Xab ?_
 iterate 2 refine kO hT hC ?_
 refine Vc.nil (Xam (Xab ?_))
 refine kO hT hC ?_
 refine kC hC [] Tryz.call119 h (fun _ => Ybw) fun q1 h => ?_
 refine kO hT hC ?_
 refine Vc.nil ?_
 refine kS h ?_ ?_ <;> intro b1 h
 refine kt b1 (Xab ?_)
 refine kO hT hC ?_
 exact Vc.nil (Xah (Xaq kR))
 refine kf b1 (Xag (Xae (Xab ?_)))
 iterate 8 refine kO hT hC ?_
 exact Vc.nil (Xah kR)
def Ypp (r : Bool) : AV := .sv (.bool r)
def Ypo (r : Bool) : Xax := []
theorem Ybu {p0 r} (h : Xo4 p0 = some r) : AC Tryz.prog 96 [.agg [.sv (.int .i64 p0.Qp), .sv (.bool p0.Large), .sv (.bool p0.Exact), .sv (.bool p0.Confined)]] [] (Ypp r) (Ypo r) := by
 refine Xaf hT Tryz.func96 rfl fun C hC => ?_
 unfold Xo4 at h
 refine Xab ?_
 iterate 2 refine kO hT hC ?_
 refine Vc.nil ?_
 refine kL [1,2] [16] [_,_] [_] ?_
 refine kA h (fun v1 => ([(2, .sv (.bool v1)), (1, .any)], [(16, none)])) (fun v1 h => ?_) fun v1 h => ?_
 refine Xac ?_
 iterate 2 refine kO hT hC ?_
 refine kC hC [] Tryz.call149 h (fun _ => Xal) fun q2 h => ?_
 refine kO hT hC ?_
 refine kS h ?_ ?_ <;> intro b1 h
 iterate 3 refine kI hT hC b1 ?_
 refine kS h ?_ ?_ <;> intro b2 h
 iterate 2 refine kI hT hC b2 ?_
 refine Xa6 hC rfl rfl rfl rfl b1 rfl rfl (b := true) b2 rfl rfl rfl trivial ?_
 refine kI hT hC b1 ?_
 refine kP hC true b1 ?_
 refine kO hT hC ?_
 exact Vc.nil kM
 iterate 2 refine kF hC b2 ?_
 refine Xa6 hC rfl rfl rfl rfl b1 rfl rfl (b := false) b2 rfl rfl rfl trivial ?_
 refine kI hT hC b1 ?_
 refine kP hC true b1 ?_
 refine kO hT hC ?_
 exact Vc.nil kM
 iterate 3 refine kF hC b1 ?_
 iterate 2 refine Xd4 hC rfl rfl rfl rfl rfl rfl ?_
 iterate 2 refine kF hC b1 ?_
 refine kP hC false b1 ?_
 refine kO hT hC ?_
 exact Vc.nil kM
 exact Xah kR
def Yl2 (r : Bool) : AV := .sv (.bool r)
def Yl1 (r : Bool) : Xax := []
theorem Ypl {p0 p1 p2 r} (h : Xpw p0 p1 p2 = some r) : AC Tryz.prog 158 [.agg [.sv (.int .i64 p0.Level), .sv (.int .i64 p0.Bits), .sv (.ints .i64 p0.Cols), .sv (.ints .i64 p0.Rows)], .agg [.sv (.int .i64 p1.Qp), .sv (.bool p1.Large), .sv (.bool p1.Exact), .sv (.bool p1.Confined)], .agg [.sv (.int .i64 p2.Tile), .sv (.int .i64 p2.Frame), .sv (.int .i64 p2.Qp)]] [] (Yl2 r) (Yl1 r) := by
 refine Xaf hT Tryz.func158 rfl fun C hC => ?_
 unfold Xpw at h
 refine Xab ?_
 iterate 4 refine kO hT hC ?_
 refine Vc.nil ?_
 refine kL [3,4,5,6] [48,64,80] [_,_,_,_] [_,_,_] ?_
 refine kA h (fun v1 => ([(6, .sv (.bool v1)), (3, .any), (4, .any), (5, .any)], [(48, none), (64, none), (80, none)])) (fun v1 h => ?_) fun v1 h => ?_
 refine Xb4 hm ?_
 refine kO hT hC ?_
 refine kC hC [] Tryz.call96 h (fun _ => Ybu) fun q2 h => ?_
 refine kO hT hC ?_
 refine kS h ?_ ?_ <;> intro b1 h
 iterate 3 refine kI hT hC b1 ?_
 refine kP hC true b1 ?_
 refine kO hT hC ?_
 refine kS h ?_ ?_ <;> intro b2 h
 iterate 3 refine kI hT hC b2 ?_
 refine kE hC b2 [] Tryz.call101 h (fun _ => Xvc) fun q3 h => ?_
 refine kI hT hC b2 ?_
 refine kP hC true b2 ?_
 refine kO hT hC ?_
 refine kS h ?_ ?_ <;> intro b3 h
 iterate 3 refine kI hT hC b3 ?_
 refine kP hC true b3 ?_
 refine kO hT hC ?_
 refine kS h ?_ ?_ <;> intro b4 h
 iterate 5 refine kI hT hC b4 ?_
 refine kJ hT hC b4 h fun h => ?_
 refine kI hT hC b4 ?_
 refine kP hC true b4 ?_
 refine kO hT hC ?_
 refine kS h ?_ ?_ <;> intro b5 h
 iterate 2 refine kI hT hC b5 ?_
 refine kE hC b5 [] Tryz.call149 h (fun _ => Xal) fun q4 h => ?_
 refine kP hC true b5 ?_
 refine kO hT hC ?_
 exact kD kM
 iterate 3 refine kF hC b5 ?_
 refine kP hC false b5 ?_
 refine kO hT hC ?_
 exact kD kM
 iterate 7 refine kF hC b4 ?_
 refine kP hC false b4 ?_
 refine kO hT hC ?_
 iterate 3 refine kF hC rfl ?_
 iterate 2 refine kO hT hC ?_
 exact kD kM
 iterate 3 refine kF hC b3 ?_
 refine kP hC false b3 ?_
 refine kO hT hC ?_
 iterate 7 refine kF hC rfl ?_
 iterate 2 refine kO hT hC ?_
 iterate 3 refine kF hC rfl ?_
 iterate 2 refine kO hT hC ?_
 exact kD kM
 iterate 5 refine kF hC b2 ?_
 refine kP hC false b2 ?_
 refine kO hT hC ?_
 iterate 3 refine kF hC rfl ?_
 iterate 2 refine kO hT hC ?_
 iterate 7 refine kF hC rfl ?_
 iterate 2 refine kO hT hC ?_
 iterate 3 refine kF hC rfl ?_
 iterate 2 refine kO hT hC ?_
 exact kD kM
 iterate 3 refine kF hC b1 ?_
 refine kP hC false b1 ?_
 refine kO hT hC ?_
 iterate 5 refine kF hC rfl ?_
 iterate 2 refine kO hT hC ?_
 iterate 3 refine kF hC rfl ?_
 iterate 2 refine kO hT hC ?_
 iterate 7 refine kF hC rfl ?_
 iterate 2 refine kO hT hC ?_
 iterate 3 refine kF hC rfl ?_
 iterate 2 refine kO hT hC ?_
 exact kD kM
 exact Xah kR
def Yl0 (r : (Int × Bool)) : AV := .tup [.sv (.int .i64 r.1), .sv (.bool r.2)]
def Ylz (r : (Int × Bool)) : Xax := []
theorem Yph {p0 r} (h : Xpt p0 = some r) : AC Tryz.prog 223 [.sv (.int .i64 p0)] [] (Yl0 r) (Ylz r) := by
 refine Xaf hT Tryz.func223 rfl fun C hC => ?_
 unfold Xpt at h
 refine Xab ?_
 iterate 2 refine kO hT hC ?_
 refine Vc.nil (Xam (Xab ?_))
 refine kO hT hC ?_
 refine kC hC [] Tryz.call149 h (fun _ => Xal) fun q1 h => ?_
 refine kO hT hC ?_
 refine Vc.nil ?_
 refine kS h ?_ ?_ <;> intro b1 h
 refine kt b1 (Xab ?_)
 iterate 2 refine kO hT hC ?_
 exact Vc.nil (Xah (Xaq kR))
 refine kf b1 (Xag (Xae (Xam (Xab ?_))))
 iterate 2 refine kO hT hC ?_
 refine Vc.nil ?_
 refine kS h ?_ ?_ <;> intro b2 h
 refine kt b2 (Xab ?_)
 iterate 5 refine kO hT hC ?_
 exact Vc.nil (Xah (Xaq kR))
 refine kf b2 (Xag (Xae (Xab ?_)))
 iterate 4 refine kO hT hC ?_
 exact Vc.nil (Xah kR)
def Yqa (r : ByteArray) : AV := .sv (.str r)
def Yp9 (r : ByteArray) : Xax := []
theorem Xl1 {p0 r} (h : Xi2 p0 = some r) : AC Tryz.prog 161 [.sv (.int .i64 p0)] [] (Yqa r) (Yp9 r) := by
 refine Xaf hT Tryz.func161 rfl fun C hC => ?_
 unfold Xi2 at h
 refine Xab ?_
 refine kO hT hC ?_
 refine kN ?_
 refine kO hT hC ?_
 refine kC hC [] Tryz.call223 h (fun _ => Yph) fun q1 h => ?_
 iterate 5 refine kO hT hC ?_
 refine kN ?_
 refine kO hT hC ?_
 refine kC hC [] Tryz.call159 h (fun _ => Xc7) fun q2 h => ?_
 refine kO hT hC ?_
 exact Vc.nil (Xah kR)
def Yhb (r : (ByteArray × Bool)) : AV := .tup [.sv (.str r.1), .sv (.bool r.2)]
def Yha (r : (ByteArray × Bool)) : Xax := []
theorem Yl3 {p0 p1 p2 r} (h : Xn1 p0 p1 p2 = some r) : AC Tryz.prog 81 [.agg [.sv (.int .i64 p0.Level), .sv (.int .i64 p0.Bits), .sv (.ints .i64 p0.Cols), .sv (.ints .i64 p0.Rows)], .agg [.sv (.int .i64 p1.Qp), .sv (.bool p1.Large), .sv (.bool p1.Exact), .sv (.bool p1.Confined)], .agg [.sv (.int .i64 p2.Tile), .sv (.int .i64 p2.Frame), .sv (.int .i64 p2.Qp)]] [] (Yhb r) (Yha r) := by
 refine Xaf hT Tryz.func81 rfl fun C hC => ?_
 unfold Xn1 at h
 refine Xab ?_
 iterate 5 refine kO hT hC ?_
 refine Vc.nil (Xam (Xab ?_))
 iterate 3 refine kO hT hC ?_
 refine kC hC [] Tryz.call158 h (fun _ => Ypl) fun q1 h => ?_
 refine kO hT hC ?_
 refine Vc.nil ?_
 refine kS h ?_ ?_ <;> intro b1 h
 refine kt b1 (Xab ?_)
 iterate 2 refine kO hT hC ?_
 exact Vc.nil (Xah (Xaq kR))
 refine kf b1 (Xag (Xae ?_))
 refine Xbs hm ?_
 iterate 2 refine kO hT hC ?_
 refine kC hC [] Tryz.call159 h (fun _ => Xc7) fun q2 h => ?_
 iterate 4 refine kO hT hC ?_
 refine kC hC [] Tryz.call160 h (fun _ => Xri) fun q3 h => ?_
 refine kQ hT hC h fun h => ?_
 iterate 5 refine kO hT hC ?_
 refine kC hC [] Tryz.call161 h (fun _ => Xl1) fun q4 h => ?_
 refine kQ hT hC h fun h => ?_
 iterate 2 refine kO hT hC ?_
 exact kD (Xah kR)
def Yid (r : ByteArray) : AV := .sv (.str r)
def Yic (r : ByteArray) : Xax := []
theorem Xih {p0 r} (h : Xfd p0 = some r) : AC Tryz.prog 262 [.sv (.ints .i64 p0)] [] (Yid r) (Yic r) := by
 refine Xaf hT Tryz.func262 rfl fun C hC => ?_
 unfold Xfd at h
 refine Xab ?_
 refine kO hT hC ?_
 refine kN ?_
 refine kO hT hC ?_
 refine kN ?_
 refine kO hT hC ?_
 refine kN ?_
 refine kO hT hC ?_
 refine Vc.nil (Xam (Xab ?_))
 refine kO hT hC ?_
 refine Vc.nil ?_
 refine kL [0,3,4,5,6] [] [_,_,_,_,_] [] ?_
 refine kX h (fun v5 => ([(3, .sv (.int .i64 v5.1)), (4, .sv (.int .i64 v5.2.1)), (5, .sv (.str v5.2.2.1)), (6, .sv (.int .i64 v5.2.2.2))], [])) (fun v10 => ([(3, .sv (.int .i64 v10.1)), (5, .sv (.str v10.2)), (0, .any), (4, .any), (6, .any)], [])) (kW hC []) (fun v5 s h => ?_) fun v10 h => ?_
 unfold Xgf at h
 refine Xam (Xab ?_)
 iterate 4 refine kO hT hC ?_
 refine Vc.nil ?_
 refine kS h ?_ ?_ <;> intro b5 h
 refine kt b5 (Xag (Xae ?_))
 refine kL [0,3,4,5,6] [] [_,_,_,_,_] [] ?_
 refine kA h (fun v11 => ([(3, .sv (.int .i64 v11.1)), (4, .sv (.int .i64 v11.2.1)), (5, .sv (.str v11.2.2))], [])) (fun v11 h => ?_) fun v11 h => ?_
 refine Xak (Xam (Xab ?_))
 iterate 2 refine kO hT hC ?_
 refine kQ hT hC h fun h => ?_
 iterate 2 refine kO hT hC ?_
 refine Vc.nil ?_
 refine kS h ?_ ?_ <;> intro b6 h
 refine kt b6 (Xab ?_)
 iterate 3 refine kO hT hC ?_
 exact Vc.nil (Xan (Xat (Yja kM)))
 refine kf b6 (Xag (Xae (Xab ?_)))
 iterate 3 refine kO hT hC ?_
 refine Vc.nil ?_
 refine Xbs hm ?_
 iterate 2 refine kO hT hC ?_
 refine kC hC [] Tryz.call159 h (fun _ => Xc7) fun q12 h => ?_
 refine kQ hT hC h fun h => ?_
 iterate 2 refine kO hT hC ?_
 refine kQ hT hC h fun h => ?_
 refine kO hT hC ?_
 refine kC hC [] Tryz.call161 h (fun _ => Xl1) fun q13 h => ?_
 refine kQ hT hC h fun h => ?_
 refine kO hT hC ?_
 refine kD (Xac ?_)
 refine kO hT hC ?_
 exact Vc.nil (Xap kM)
 refine Xac ?_
 iterate 3 refine kO hT hC ?_
 exact Vc.nil kG
 exact kf b5 (Xan (Xat ku))
 refine Xae (Xab ?_)
 refine kO hT hC ?_
 refine kC hC [] Tryz.call159 h (fun _ => Xc7) fun q15 h => ?_
 refine kO hT hC ?_
 refine kQ hT hC h fun h => ?_
 refine kO hT hC ?_
 exact Vc.nil (Xah kR)
def Ym8 (r : ByteArray) : AV := .sv (.str r)
def Ym7 (r : ByteArray) : Xax := []
theorem Xx1 {p0 p1 r} (h : Xm9 p0 p1 = some r) : AC Tryz.prog 224 [.sv (.ints .i64 p0), .agg [.sv (.bool p1.Key), .sv (.int .i64 p1.Qp), .sv (.bool p1.Large), .sv (.bool p1.Exact)]] [] (Ym8 r) (Ym7 r) := by
 refine Xaf hT Tryz.func224 rfl fun C hC => ?_
 unfold Xm9 at h
 refine Xab ?_
 iterate 2 refine kO hT hC ?_
 refine Vc.nil (Xam ?_)
 refine kL [0,3] [48] [_,_] [_] ?_
 refine kA h (fun v1 => ([(10, .sv (.bool v1)), (3, .any)], [(48, none)])) (fun v1 h => ?_) fun v1 h => ?_
 refine Xac ?_
 iterate 3 refine kO hT hC ?_
 refine kS h ?_ ?_ <;> intro b1 h
 iterate 2 refine kF hC b1 ?_
 refine kP hC true b1 ?_
 exact Vc.nil kM
 iterate 2 refine kI hT hC b1 ?_
 refine kP hC false b1 ?_
 exact Vc.nil kM
 refine kS h ?_ ?_ <;> intro b2 h
 refine kt b2 (Xab ?_)
 refine kO hT hC ?_
 refine kC hC [] Tryz.call262 h (fun _ => Xih) fun q2 h => ?_
 refine kO hT hC ?_
 exact Vc.nil (Xah (Xaq kR))
 refine kf b2 (Xag (Xae ?_))
 refine Xbs hm ?_
 refine kO hT hC ?_
 refine kQ hT hC h fun h => ?_
 refine kC hC [] Tryz.call262 h (fun _ => Xih) fun q3 h => ?_
 refine kO hT hC ?_
 refine kQ hT hC h fun h => ?_
 refine kC hC [] Tryz.call262 h (fun _ => Xih) fun q4 h => ?_
 refine kQ hT hC h fun h => ?_
 refine kO hT hC ?_
 refine kQ hT hC h fun h => ?_
 refine kC hC [] Tryz.call262 h (fun _ => Xih) fun q5 h => ?_
 refine kQ hT hC h fun h => ?_
 refine kO hT hC ?_
 refine kQ hT hC h fun h => ?_
 refine kC hC [] Tryz.call262 h (fun _ => Xih) fun q6 h => ?_
 refine kQ hT hC h fun h => ?_
 refine kO hT hC ?_
 exact kD (Xah kR)
def Yna (r : ByteArray) : AV := .sv (.str r)
def Ym9 (r : ByteArray) : Xax := []
theorem Yqm {p0 p1 r} (h : Xp9 p0 p1 = some r) : AC Tryz.prog 162 [.agg [.sv (.int .i64 p0.Kind), .sv (.int .i64 p0.Mode), .sv (.int .i64 p0.Dx), .sv (.int .i64 p0.Dy), .sv (.ints .i64 p0.Levels)], .agg [.sv (.bool p1.Key), .sv (.int .i64 p1.Qp), .sv (.bool p1.Large), .sv (.bool p1.Exact)]] [] (Yna r) (Ym9 r) := by
 refine Xaf hT Tryz.func162 rfl fun C hC => ?_
 unfold Xp9 at h
 refine Xab ?_
 iterate 3 refine kO hT hC ?_
 refine kN ?_
 refine kO hT hC ?_
 refine Vc.nil ?_
 refine kL [2,3,5] [32,48] [_,_,_] [_,_] ?_
 refine kA h (fun v1 => ([(5, .sv (.str v1))], [])) (fun v1 h => ?_) fun v1 h => ?_
 refine Xab ?_
 iterate 3 refine kO hT hC ?_
 refine Vc.nil ?_
 refine kS h ?_ ?_ <;> intro b1 h
 refine kt b1 (Xac ?_)
 iterate 2 refine kO hT hC ?_
 refine kC hC [] Tryz.call159 h (fun _ => Xc7) fun q2 h => ?_
 refine kO hT hC ?_
 exact Vc.nil kM
 exact kf b1 (Xag kM)
 refine Xam (Xab ?_)
 iterate 2 refine kO hT hC ?_
 refine Vc.nil (Xak (Xab ?_))
 iterate 2 refine kO hT hC ?_
 refine Vc.nil ?_
 refine kS h ?_ ?_ <;> intro b2 h
 refine kt b2 ?_
 refine Xbs hm ?_
 iterate 3 refine kO hT hC ?_
 refine kC hC [] Tryz.call161 h (fun _ => Xl1) fun q3 h => ?_
 refine kQ hT hC h fun h => ?_
 iterate 2 refine kO hT hC ?_
 refine kC hC [] Tryz.call161 h (fun _ => Xl1) fun q4 h => ?_
 refine kQ hT hC h fun h => ?_
 iterate 3 refine kO hT hC ?_
 refine kC hC [] Tryz.call224 h (fun _ => Xx1) fun q5 h => ?_
 refine kQ hT hC h fun h => ?_
 refine kO hT hC ?_
 exact kD (Xah (Xer (Xaq kR)))
 refine kf b2 (Xab ?_)
 iterate 2 refine kO hT hC ?_
 refine Vc.nil ?_
 refine kS h ?_ ?_ <;> intro b3 h
 refine kt b3 ?_
 refine Xbs hm ?_
 iterate 3 refine kO hT hC ?_
 refine kC hC [] Tryz.call159 h (fun _ => Xc7) fun q6 h => ?_
 refine kQ hT hC h fun h => ?_
 iterate 3 refine kO hT hC ?_
 refine kC hC [] Tryz.call224 h (fun _ => Xx1) fun q7 h => ?_
 refine kQ hT hC h fun h => ?_
 refine kO hT hC ?_
 exact kD (Xah (Xer (Xaq kR)))
 refine kf b3 (Xag (Xap (Xae (Xab ?_))))
 iterate 2 refine kO hT hC ?_
 exact Vc.nil (Xah kR)
def Yne (r : ByteArray) : AV := .sv (.str r)
def Ynd (r : ByteArray) : Xax := []
theorem Yqp {p0 p1 r} (h : Xna p0 p1 = some r) : AC Tryz.prog 82 [.sv (Xda.sv p0), .agg [.sv (.bool p1.Key), .sv (.int .i64 p1.Qp), .sv (.bool p1.Large), .sv (.bool p1.Exact)]] [] (Yne r) (Ynd r) := by
 refine Xaf hT Tryz.func82 rfl fun C hC => ?_
 unfold Xna at h
 refine Xab ?_
 iterate 2 refine kO hT hC ?_
 refine kN ?_
 iterate 2 refine kO hT hC ?_
 refine Vc.nil (Xam (Xab ?_))
 refine kO hT hC ?_
 refine Vc.nil ?_
 refine kL [0,3,5,6] [48,112] [_,_,_,_] [_,_] ?_
 refine kX h (fun v3 => ([(6, .sv (.int .i64 v3.1))], [(112, some (.ints .u8 v3.2))])) (fun v6 => ([(0, .any), (3, .any), (6, .any)], [(112, some (.ints .u8 v6)), (48, none)])) (kW hC []) (fun v3 s h => ?_) fun v6 h => ?_
 unfold Xjw at h
 refine Xam (Xab ?_)
 iterate 4 refine kO hT hC ?_
 refine Vc.nil ?_
 refine kS h ?_ ?_ <;> intro b3 h
 refine kt b3 (Xag (Xae (Xam (Xak ?_))))
 refine Xb4 hm ?_
 iterate 3 refine kO hT hC ?_
 refine kQ hT hC h fun h => ?_
 iterate 2 refine kO hT hC ?_
 refine kC hC [] Tryz.call162 h (fun _ => Yqm) fun q7 h => ?_
 refine kT hT hC h fun h => ?_
 refine kO hT hC ?_
 refine kD (Xap (Xae (Xac ?_)))
 iterate 3 refine kO hT hC ?_
 refine Vc.nil ?_
 obtain rfl := kj h
 exact Yd2 (kW hC [(112, 336)])
 exact kf b3 (Xan (Xat ku))
 refine Xae (Xab ?_)
 iterate 3 refine kO hT hC ?_
 exact Vc.nil (Xah kR)
def Ydj (r : (List Int)) : AV := .own 16
def Ydi (r : (List Int)) : Xax := [(16, .ints .i64 r)]
theorem Xj0 {p0 r} (h : Xdt p0 = some r) : AC Tryz.prog 146 [.sv (.ints .i64 p0)] [] (Ydj r) (Ydi r) := by
 refine Xaf hT Tryz.func146 rfl fun C hC => ?_
 unfold Xdt at h
 refine Xab ?_
 refine kO hT hC ?_
 refine kN ?_
 iterate 2 refine kO hT hC ?_
 refine kT hT hC h fun h => ?_
 refine kO hT hC ?_
 refine Vc.nil (Xah ?_)
 obtain rfl := kj h
 exact Xby (τ := ⟨[(2, .own 16)], [(16, some (.ints .i64 (([] : List Int) ++ p0)))]⟩) (kW hC [(16, 80)]) rfl ⟨rfl, trivial⟩
def Ygi (r : Seq) : AV := .agg [.sv (.int .i64 r.Level), .sv (.int .i64 r.Bits), .own 16, .own 17]
def Ygh (r : Seq) : Xax := [(16, .ints .i64 r.Cols), (17, .ints .i64 r.Rows)]
theorem Ykm {p0 r} (h : Xnt p0 = some r) : AC Tryz.prog 71 [.agg [.sv (.int .i64 p0.Level), .sv (.int .i64 p0.Bits), .sv (.ints .i64 p0.Cols), .sv (.ints .i64 p0.Rows)]] [] (Ygi r) (Ygh r) := by
 refine Xaf hT Tryz.func71 rfl fun C hC => ?_
 unfold Xnt at h
 refine Xab ?_
 iterate 2 refine kO hT hC ?_
 refine kN ?_
 iterate 2 refine kO hT hC ?_
 refine kC hC [(16, 80)] Tryz.call146 h (fun _ => Xj0) fun q1 h => ?_
 iterate 2 refine kO hT hC ?_
 refine kN ?_
 iterate 2 refine kO hT hC ?_
 refine kC hC [(16, 144)] Tryz.call146 h (fun _ => Xj0) fun q2 h => ?_
 iterate 2 refine kO hT hC ?_
 refine kN ?_
 iterate 2 refine kO hT hC ?_
 refine Vc.nil (Xah ?_)
 obtain rfl := kj h
 exact Xby (τ := ⟨[(2, .ptr 2000000 0)], [(16, some (.ints .i64 q1)), (17, some (.ints .i64 q2)), (2000000, some (.box [.sv (.int .i64 p0.Level), .sv (.int .i64 p0.Bits), .own 16, .own 17]))]⟩) (kW hC [(16, 80), (17, 144), (2000000, 32)]) rfl ⟨rfl, rfl, trivial⟩
def Ykx (r : Bool) : AV := .sv (.bool r)
def Ykw (r : Bool) : Xax := []
theorem Xai {p0 p1 p2 r} (h : Xao p0 p1 p2 = some r) : AC Tryz.prog 116 [.sv (.int .i64 p0), .sv (.int .i64 p1), .sv (.int .i64 p2)] [] (Ykx r) (Ykw r) := by
 refine Xaf hT Tryz.func116 rfl fun C hC => ?_
 unfold Xao at h
 refine Xab ?_
 refine kO hT hC ?_
 refine Vc.nil ?_
 refine kL [0,1,2,6] [] [_,_,_,_] [] ?_
 refine kA h (fun v1 => ([(6, .sv (.bool v1)), (0, .any), (1, .any), (2, .any)], [])) (fun v1 h => ?_) fun v1 h => ?_
 refine Xac ?_
 iterate 4 refine kO hT hC ?_
 refine kS h ?_ ?_ <;> intro b1 h
 iterate 3 refine kI hT hC b1 ?_
 refine kP hC true b1 ?_
 refine kO hT hC ?_
 exact Vc.nil kM
 iterate 3 refine kF hC b1 ?_
 refine kP hC false b1 ?_
 refine kO hT hC ?_
 exact Vc.nil kM
 exact Xah kR
def Yor (r : Int) : AV := .sv (.int .i64 r)
def Yoq (r : Int) : Xax := []
theorem Xiu {p0 r} (h : Xb6 p0 = some r) : AC Tryz.prog 195 [.sv (.ints .i64 p0)] [] (Yor r) (Yoq r) := by
 refine Xaf hT Tryz.func195 rfl fun C hC => ?_
 unfold Xb6 at h
 refine Xab ?_
 refine kO hT hC ?_
 refine kN ?_
 refine kO hT hC ?_
 refine Vc.nil (Xam (Xab ?_))
 iterate 3 refine kO hT hC ?_
 refine Vc.nil ?_
 refine kL [3,6,7,8] [] [_,_,_,_] [] ?_
 refine kX h (fun v2 => ([(3, .sv (.int .i64 v2.1)), (8, .sv (.int .i64 v2.2))], [])) (fun v4 => ([(3, .sv (.int .i64 v4)), (6, .any), (7, .any), (8, .any)], [])) (kW hC []) (fun v2 s h => ?_) fun v4 h => ?_
 unfold Xdu at h
 refine Xab ?_
 refine kO hT hC ?_
 refine Vc.nil (Xam ?_)
 refine kS h ?_ ?_ <;> intro b3 h
 refine kt b3 (Xag (Xae (Xam (Xak (Xab ?_)))))
 refine kQ hT hC h fun h => ?_
 iterate 2 refine kO hT hC ?_
 refine Vc.nil (Xac ?_)
 iterate 4 refine kO hT hC ?_
 refine Vc.nil (Xap (Xae (Xac ?_)))
 iterate 2 refine kO hT hC ?_
 exact Vc.nil kG
 exact kf b3 (Xan (Xat ku))
 refine Xae (Xab ?_)
 iterate 2 refine kO hT hC ?_
 exact Vc.nil (Xah kR)
def Xli (r : Int) : AV := .sv (.int .i64 r)
def Xlh (r : Int) : Xax := []
theorem Ydg {p0 r} (h : Xjk p0 = some r) : AC Tryz.prog 145 [.agg [.sv (.int .i64 p0.Level), .sv (.int .i64 p0.Bits), .sv (.ints .i64 p0.Cols), .sv (.ints .i64 p0.Rows)]] [] (Xli r) (Xlh r) := by
 refine Xaf hT Tryz.func145 rfl fun C hC => ?_
 unfold Xjk at h
 refine Xab ?_
 iterate 2 refine kO hT hC ?_
 refine Vc.nil (Xam (Xab ?_))
 iterate 7 refine kO hT hC ?_
 refine Vc.nil ?_
 refine kL [1,11,12,13] [16,176] [_,_,_,_] [_,_] ?_
 obtain ⟨o32, hl, h⟩ := Xa3 h
 refine Xf9 (fun v11 => ([(13, .sv (.int .i64 v11))], [])) (fun v22 => ([(11, .any), (12, .any), (13, .any)], [(176, none)])) (fun r => Xqe C T Tryz.f145.results.toList (Xli r) (Xlh r)) hl ?_ ?_ ?_ ?_
 apply Xdo hC []
 exact co
 rfl
 decide
 rfl
 intro v11 s hs
 have h := hs
 unfold Xdn at h
 refine Xab ?_
 refine kO hT hC ?_
 refine Vc.nil (Xam ?_)
 refine kS h ?_ ?_ <;> intro b17 h
 refine kt b17 (Xag (Xae (Xam (Xak (Xab ?_)))))
 iterate 2 refine kQ hT hC h fun h => ?_
 refine kO hT hC ?_
 refine Vc.nil (Xam (Xab ?_))
 iterate 2 refine kO hT hC ?_
 refine kC hC [] Tryz.call116 h (fun _ => Xai) fun q23 h => ?_
 refine kO hT hC ?_
 refine Vc.nil ?_
 refine kS h ?_ ?_ <;> intro b18 h
 refine kt b18 (Xab ?_)
 refine kO hT hC ?_
 refine Vc.nil (Xah (Xaq (Xer (Xaq ?_))))
 obtain rfl := kj h
 refine Xrb (Xra ?_)
 exact Xby (Xmd.refl _) rfl trivial
 refine kf b18 (Xag (Xae (Xab ?_)))
 iterate 3 refine kO hT hC ?_
 refine Vc.nil ?_
 refine kL [1,11,12,13,21,22,23] [16,176] [_,_,_,_,_,_,_] [_,_] ?_
 obtain ⟨o31, hl, h⟩ := Xa3 h
 refine Xf9 (fun v26 => ([(23, .sv (.int .i64 v26))], [])) (fun v29 => ([(21, .any), (22, .any), (23, .any)], [])) (fun r => Xqe C T Tryz.f145.results.toList (Xli r) (Xlh r)) hl ?_ ?_ ?_ ?_
 apply Xdo hC []
 exact co
 rfl
 decide
 rfl
 intro v26 s hs
 have h := hs
 unfold Xcd at h
 refine Xab ?_
 refine kO hT hC ?_
 refine Vc.nil (Xam ?_)
 refine kS h ?_ ?_ <;> intro b23 h
 refine kt b23 (Xag (Xae (Xam (Xak (Xab ?_)))))
 refine kQ hT hC h fun h => ?_
 iterate 2 refine kO hT hC ?_
 refine kN ?_
 refine kO hT hC ?_
 refine kC hC [] Tryz.call116 h (fun _ => Xai) fun q30 h => ?_
 refine kO hT hC ?_
 refine Vc.nil ?_
 refine kS h ?_ ?_ <;> intro b24 h
 refine kt b24 (Xab ?_)
 refine kO hT hC ?_
 refine Vc.nil (Xah (Xer (Xaq ?_)))
 obtain rfl := kj h
 refine Xrb (Xra ?_)
 exact Xby (Xmd.refl _) rfl trivial
 refine kf b24 (Xag (Xap (Xae (Xac ?_))))
 iterate 2 refine kO hT hC ?_
 exact Vc.nil kG
 exact kf b23 (Xan (Xat kb))
 intro v29 e
 subst e
 refine Xap (Xae (Xac ?_))
 iterate 2 refine kO hT hC ?_
 exact Vc.nil kG
 intro r' σ' e hE
 subst e
 obtain rfl := kj h
 refine Xer (Xaq (Xrb (Xra ?_)))
 exact hE
 exact kf b17 (Xan (Xat kb))
 intro v22 e
 subst e
 refine Xae ?_
 refine Xbs hm ?_
 iterate 2 refine kO hT hC ?_
 refine kC hC [] Tryz.call195 h (fun _ => Xiu) fun q33 h => ?_
 iterate 2 refine kO hT hC ?_
 refine kC hC [] Tryz.call195 h (fun _ => Xiu) fun q34 h => ?_
 iterate 2 refine kO hT hC ?_
 exact kD (Xah kR)
 intro r' σ' e hE
 subst e
 obtain rfl := kj h
 refine Xaq ?_
 exact hE
def Xur (r : Int) : AV := .sv (.int .i64 r)
def Xuq (r : Int) : Xax := []
theorem Xwo {p0 r} (h : Xfy p0 = some r) : AC Tryz.prog 231 [.sv (.int .i64 p0)] [] (Xur r) (Xuq r) := by
 refine Xaf hT Tryz.func231 rfl fun C hC => ?_
 unfold Xfy at h
 refine Xab ?_
 refine kO hT hC ?_
 refine Vc.nil (Xam (Xab ?_))
 refine kO hT hC ?_
 refine kC hC [] Tryz.call116 h (fun _ => Xai) fun q1 h => ?_
 refine kO hT hC ?_
 refine Vc.nil ?_
 refine kS h ?_ ?_ <;> intro b1 h
 refine kt b1 (Xab ?_)
 refine kO hT hC ?_
 exact Vc.nil (Xah (Xaq kR))
 refine kf b1 (Xag (Xae (Xab ?_)))
 iterate 3 refine kO hT hC ?_
 iterate 2 refine kQ hT hC h fun h => ?_
 refine kO hT hC ?_
 exact Vc.nil (Xah kR)
def Yob (r : Bool) : AV := .sv (.bool r)
def Yoa (r : Bool) : Xax := []
theorem Xor {p0 r} (h : Xkq p0 = some r) : AC Tryz.prog 182 [.agg [.sv (.int .i64 p0.Level), .sv (.int .i64 p0.Bits), .sv (.ints .i64 p0.Cols), .sv (.ints .i64 p0.Rows)]] [] (Yob r) (Yoa r) := by
 refine Xaf hT Tryz.func182 rfl fun C hC => ?_
 unfold Xkq at h
 refine Xab ?_
 iterate 2 refine kO hT hC ?_
 refine Vc.nil ?_
 refine kL [1,2] [16] [_,_] [_] ?_
 refine kA h (fun v1 => ([(2, .sv (.bool v1)), (1, .any)], [(16, none)])) (fun v1 h => ?_) fun v1 h => ?_
 refine Xb4 hm ?_
 refine kO hT hC ?_
 refine kC hC [] Tryz.call145 h (fun _ => Ydg) fun q2 h => ?_
 iterate 2 refine kO hT hC ?_
 refine kC hC [] Tryz.call231 h (fun _ => Xwo) fun q3 h => ?_
 refine kC hC [] Tryz.call116 h (fun _ => Xai) fun q4 h => ?_
 refine kO hT hC ?_
 refine kS h ?_ ?_ <;> intro b1 h
 iterate 2 refine kI hT hC b1 ?_
 refine kE hC b1 [] Tryz.call116 h (fun _ => Xai) fun q5 h => ?_
 refine kP hC true b1 ?_
 refine kO hT hC ?_
 exact kD kM
 iterate 3 refine kF hC b1 ?_
 refine kP hC false b1 ?_
 refine kO hT hC ?_
 exact kD kM
 exact Xah kR
def Yn1 (r : Bool) : AV := .sv (.bool r)
def Yn0 (r : Bool) : Xax := []
theorem Xsy {p0 r} (h : Xml p0 = some r) : AC Tryz.prog 69 [.agg [.sv (.int .i64 p0.Qp), .sv (.bool p0.Large), .sv (.bool p0.Exact), .sv (.bool p0.Confined)]] [] (Yn1 r) (Yn0 r) := by
 refine Xaf hT Tryz.func69 rfl fun C hC => ?_
 unfold Xml at h
 refine Xab ?_
 iterate 2 refine kO hT hC ?_
 refine Vc.nil ?_
 refine kL [1,2] [16] [_,_] [_] ?_
 refine kA h (fun v1 => ([(2, .sv (.bool v1)), (1, .any)], [(16, none)])) (fun v1 h => ?_) fun v1 h => ?_
 refine Xac ?_
 iterate 2 refine kO hT hC ?_
 refine kC hC [] Tryz.call116 h (fun _ => Xai) fun q2 h => ?_
 refine kO hT hC ?_
 refine kS h ?_ ?_ <;> intro b1 h
 iterate 3 refine kI hT hC b1 ?_
 refine kS h ?_ ?_ <;> intro b2 h
 iterate 2 refine kI hT hC b2 ?_
 refine Xa6 hC rfl rfl rfl rfl b1 rfl rfl (b := true) b2 rfl rfl rfl trivial ?_
 refine kI hT hC b1 ?_
 refine kP hC true b1 ?_
 refine kO hT hC ?_
 exact Vc.nil kM
 iterate 2 refine kF hC b2 ?_
 refine Xa6 hC rfl rfl rfl rfl b1 rfl rfl (b := false) b2 rfl rfl rfl trivial ?_
 refine kI hT hC b1 ?_
 refine kP hC true b1 ?_
 refine kO hT hC ?_
 exact Vc.nil kM
 iterate 3 refine kF hC b1 ?_
 iterate 2 refine Xd4 hC rfl rfl rfl rfl rfl rfl ?_
 iterate 2 refine kF hC b1 ?_
 refine kP hC false b1 ?_
 refine kO hT hC ?_
 exact Vc.nil kM
 exact Xah kR
def Ygg (r : Int) : AV := .sv (.int .i64 r)
def Ygf (r : Int) : Xax := []
theorem Xuu {p0 r} (h : Xhv p0 = some r) : AC Tryz.prog 123 [.agg [.sv (.int .i64 p0.Level), .sv (.int .i64 p0.Bits), .sv (.ints .i64 p0.Cols), .sv (.ints .i64 p0.Rows)]] [] (Ygg r) (Ygf r) := by
 refine Xaf hT Tryz.func123 rfl fun C hC => ?_
 unfold Xhv at h
 refine Xab ?_
 iterate 2 refine kO hT hC ?_
 refine Vc.nil (Xam (Xab ?_))
 refine kO hT hC ?_
 refine kC hC [] Tryz.call182 h (fun _ => Xor) fun q1 h => ?_
 refine kO hT hC ?_
 refine Vc.nil ?_
 refine kS h ?_ ?_ <;> intro b1 h
 refine kt b1 (Xab ?_)
 refine kO hT hC ?_
 exact Vc.nil (Xah (Xaq kR))
 refine kf b1 (Xag (Xae (Xab ?_)))
 iterate 8 refine kO hT hC ?_
 exact Vc.nil (Xah kR)
def Ykc (r : (Int × Int)) : AV := .tup [.sv (.int .i64 r.1), .sv (.int .i64 r.2)]
def Ykb (r : (Int × Int)) : Xax := []
theorem Yoe {p0 r} (h : Xpe p0 = some r) : AC Tryz.prog 125 [.agg [.sv (.int .i64 p0.Level), .sv (.int .i64 p0.Bits), .sv (.ints .i64 p0.Cols), .sv (.ints .i64 p0.Rows)]] [] (Ykc r) (Ykb r) := by
 refine Xaf hT Tryz.func125 rfl fun C hC => ?_
 unfold Xpe at h
 refine Xab ?_
 iterate 3 refine kO hT hC ?_
 refine Vc.nil (Xam (Xab ?_))
 refine kO hT hC ?_
 refine kC hC [] Tryz.call182 h (fun _ => Xor) fun q1 h => ?_
 refine kO hT hC ?_
 refine Vc.nil ?_
 refine kS h ?_ ?_ <;> intro b1 h
 refine kt b1 (Xab ?_)
 iterate 2 refine kO hT hC ?_
 exact Vc.nil (Xah (Xaq kR))
 refine kf b1 (Xag (Xae ?_))
 refine Xbs hm ?_
 iterate 2 refine kO hT hC ?_
 refine kC hC [] Tryz.call195 h (fun _ => Xiu) fun q2 h => ?_
 iterate 3 refine kO hT hC ?_
 refine kC hC [] Tryz.call195 h (fun _ => Xiu) fun q3 h => ?_
 iterate 3 refine kO hT hC ?_
 exact kD (Xah kR)
def Yn5 (r : Bool) : AV := .sv (.bool r)
def Yn4 (r : Bool) : Xax := []
theorem Xds {p0 r} (h : Xcx p0 = some r) : AC Tryz.prog 47 [.agg [.sv (.int .i64 p0.Wide), .sv (.int .i64 p0.High), .sv (.str p0.Dots)]] [] (Yn5 r) (Yn4 r) := by
 refine Xaf hT Tryz.func47 rfl fun C hC => ?_
 unfold Xcx at h
 refine Xab ?_
 iterate 2 refine kO hT hC ?_
 refine Vc.nil ?_
 refine kL [1,2] [16] [_,_] [_] ?_
 refine kA h (fun v1 => ([(2, .sv (.bool v1)), (1, .any)], [(16, none)])) (fun v1 h => ?_) fun v1 h => ?_
 refine Xac ?_
 iterate 2 refine kO hT hC ?_
 refine kC hC [] Tryz.call116 h (fun _ => Xai) fun q2 h => ?_
 refine kO hT hC ?_
 refine kS h ?_ ?_ <;> intro b1 h
 iterate 2 refine kI hT hC b1 ?_
 refine kE hC b1 [] Tryz.call116 h (fun _ => Xai) fun q3 h => ?_
 refine kP hC true b1 ?_
 refine kO hT hC ?_
 refine kS h ?_ ?_ <;> intro b2 h
 iterate 9 refine kI hT hC b2 ?_
 refine kP hC true b2 ?_
 refine kO hT hC ?_
 exact Vc.nil kM
 iterate 9 refine kF hC b2 ?_
 refine kP hC false b2 ?_
 refine kO hT hC ?_
 exact Vc.nil kM
 iterate 3 refine kF hC b1 ?_
 refine kP hC false b1 ?_
 refine kO hT hC ?_
 iterate 9 refine kF hC rfl ?_
 iterate 2 refine kO hT hC ?_
 exact Vc.nil kM
 exact Xah kR
def Yr9 (r : Bool) : AV := .sv (.bool r)
def Yr8 (r : Bool) : Xax := []
theorem Yfb {p0 p1 r} (h : Xrt p0 p1 = some r) : AC Tryz.prog 57 [.agg [.sv (.int .i64 p0.Wide), .sv (.int .i64 p0.High), .sv (.str p0.Dots)], .agg [.sv (.int .i64 p1.Level), .sv (.int .i64 p1.Bits), .sv (.ints .i64 p1.Cols), .sv (.ints .i64 p1.Rows)]] [] (Yr9 r) (Yr8 r) := by
 refine Xaf hT Tryz.func57 rfl fun C hC => ?_
 unfold Xrt at h
 refine Xab ?_
 iterate 3 refine kO hT hC ?_
 refine kN ?_
 refine kO hT hC ?_
 refine kC hC [] Tryz.call125 h (fun _ => Yoe) fun q1 h => ?_
 iterate 5 refine kO hT hC ?_
 refine Vc.nil ?_
 refine kL [2,4,5,6] [32] [_,_,_,_] [_] ?_
 refine kA h (fun v2 => ([(4, .sv (.bool v2)), (2, .any), (5, .any), (6, .any)], [(32, none)])) (fun v2 h => ?_) fun v2 h => ?_
 refine Xac ?_
 refine kO hT hC ?_
 refine kC hC [] Tryz.call47 h (fun _ => Xds) fun q3 h => ?_
 refine kO hT hC ?_
 refine kS h ?_ ?_ <;> intro b1 h
 iterate 4 refine kI hT hC b1 ?_
 refine kP hC true b1 ?_
 refine kO hT hC ?_
 refine kS h ?_ ?_ <;> intro b2 h
 iterate 4 refine kI hT hC b2 ?_
 refine kP hC true b2 ?_
 refine kO hT hC ?_
 exact Vc.nil kM
 iterate 4 refine kF hC b2 ?_
 refine kP hC false b2 ?_
 refine kO hT hC ?_
 exact Vc.nil kM
 iterate 4 refine kF hC b1 ?_
 refine kP hC false b1 ?_
 refine kO hT hC ?_
 iterate 4 refine kF hC rfl ?_
 iterate 2 refine kO hT hC ?_
 exact Vc.nil kM
 exact Xah kR
def Ykp (r : Bool) : AV := .sv (.bool r)
def Yko (r : Bool) : Xax := []
theorem Yom {p0 r} (h : Xph p0 = some r) : AC Tryz.prog 140 [.sv (.int .i64 p0)] [] (Ykp r) (Yko r) := by
 refine Xaf hT Tryz.func140 rfl fun C hC => ?_
 unfold Xph at h
 refine Xab ?_
 refine kO hT hC ?_
 refine Vc.nil ?_
 refine kL [0,2] [] [_,_] [] ?_
 refine kA h (fun v1 => ([(2, .sv (.bool v1)), (0, .any)], [])) (fun v1 h => ?_) fun v1 h => ?_
 refine Xac ?_
 iterate 3 refine kO hT hC ?_
 refine kS h ?_ ?_ <;> intro b1 h
 iterate 2 refine kF hC b1 ?_
 refine kP hC true b1 ?_
 refine kO hT hC ?_
 iterate 2 refine kF hC rfl ?_
 iterate 2 refine kO hT hC ?_
 iterate 2 refine kF hC rfl ?_
 iterate 2 refine kO hT hC ?_
 exact Vc.nil kM
 iterate 2 refine kI hT hC b1 ?_
 refine kP hC false b1 ?_
 refine kO hT hC ?_
 refine kS h ?_ ?_ <;> intro b2 h
 iterate 2 refine kF hC b2 ?_
 refine kP hC true b2 ?_
 refine kO hT hC ?_
 iterate 2 refine kF hC rfl ?_
 iterate 2 refine kO hT hC ?_
 exact Vc.nil kM
 iterate 2 refine kI hT hC b2 ?_
 refine kP hC false b2 ?_
 refine kO hT hC ?_
 refine kS h ?_ ?_ <;> intro b3 h
 iterate 2 refine kF hC b3 ?_
 refine kP hC true b3 ?_
 refine kO hT hC ?_
 exact Vc.nil kM
 iterate 2 refine kI hT hC b3 ?_
 refine kP hC false b3 ?_
 refine kO hT hC ?_
 exact Vc.nil kM
 exact Xah kR
def Xw5 (r : Bool) : AV := .sv (.bool r)
def Xw4 (r : Bool) : Xax := []
theorem Yr4 {p0 r} (h : Xrr p0 = some r) : AC Tryz.prog 215 [.sv (.str p0)] [] (Xw5 r) (Xw4 r) := by
 refine Xaf hT Tryz.func215 rfl fun C hC => ?_
 unfold Xrr at h
 refine Xab ?_
 refine kO hT hC ?_
 refine Vc.nil (Xam (Xab ?_))
 iterate 3 refine kO hT hC ?_
 refine Vc.nil ?_
 refine kS h ?_ ?_ <;> intro b1 h
 refine kt b1 (Xab ?_)
 refine kO hT hC ?_
 exact Vc.nil (Xah (Xaq kR))
 refine kf b1 (Xag (Xae (Xam (Xab ?_))))
 refine kO hT hC ?_
 refine Vc.nil ?_
 refine kL [0,3] [] [_,_] [] ?_
 obtain ⟨o8, hl, h⟩ := Xa3 h
 refine Xf9 (fun v3 => ([(3, .sv (.int .i64 v3))], [])) (fun v6 => ([(0, .any), (3, .any)], [])) (fun r => Xqe C T Tryz.f215.results.toList (Xw5 r) (Xw4 r)) hl ?_ ?_ ?_ ?_
 apply Xdo hC []
 exact co
 rfl
 decide
 rfl
 intro v3 s hs
 have h := hs
 unfold Xlf at h
 refine Xam (Xab ?_)
 iterate 4 refine kO hT hC ?_
 refine Vc.nil ?_
 refine kS h ?_ ?_ <;> intro b8 h
 refine kt b8 (Xag (Xae (Xam (Xak ?_))))
 refine kL [0,3] [] [_,_] [] ?_
 refine kA h (fun v7 => ([(22, .sv (.bool v7))], [])) (fun v7 h => ?_) fun v7 h => ?_
 refine Xac ?_
 iterate 2 refine kO hT hC ?_
 refine kQ hT hC h fun h => ?_
 iterate 2 refine kO hT hC ?_
 refine kS h ?_ ?_ <;> intro b9 h
 iterate 2 refine kI hT hC b9 ?_
 refine kJ hT hC b9 h fun h => ?_
 refine kI hT hC b9 ?_
 refine kP hC true b9 ?_
 exact Vc.nil kM
 iterate 4 refine kF hC b9 ?_
 refine kP hC false b9 ?_
 exact Vc.nil kM
 refine kS h ?_ ?_ <;> intro b10 h
 refine kt b10 (Xab ?_)
 refine kO hT hC ?_
 refine Vc.nil (Xah (Xer (Xaq ?_)))
 obtain rfl := kj h
 refine Xrb (Xra ?_)
 exact Xby (Xmd.refl _) rfl trivial
 refine kf b10 (Xag (Xap (Xae (Xac ?_))))
 iterate 3 refine kO hT hC ?_
 exact Vc.nil kG
 exact kf b8 (Xan (Xat kb))
 intro v6 e
 subst e
 refine Xae (Xab ?_)
 refine kO hT hC ?_
 exact Vc.nil (Xah kR)
 intro r' σ' e hE
 subst e
 obtain rfl := kj h
 refine Xaq ?_
 exact hE
def Yjq (r : Bool) : AV := .sv (.bool r)
def Yjp (r : Bool) : Xax := []
theorem Ynx {p0 p1 p2 r} (h : Xo9 p0 p1 p2 = some r) : AC Tryz.prog 132 [.agg [.sv (.int .i64 p0.Level), .sv (.int .i64 p0.Bits), .sv (.ints .i64 p0.Cols), .sv (.ints .i64 p0.Rows)], .agg [.sv (.int .i64 p1.Qp), .sv (.bool p1.Large), .sv (.bool p1.Exact), .sv (.bool p1.Confined)], .agg [.sv (.int .i64 p2.Tile), .sv (.int .i64 p2.Frame), .sv (.int .i64 p2.Qp)]] [] (Yjq r) (Yjp r) := by
 refine Xaf hT Tryz.func132 rfl fun C hC => ?_
 unfold Xo9 at h
 refine Xab ?_
 iterate 4 refine kO hT hC ?_
 refine Vc.nil ?_
 refine kL [3,4,5,6] [48,64,80] [_,_,_,_] [_,_,_] ?_
 refine kA h (fun v1 => ([(6, .sv (.bool v1)), (3, .any), (4, .any), (5, .any)], [(48, none), (64, none), (80, none)])) (fun v1 h => ?_) fun v1 h => ?_
 refine Xb4 hm ?_
 refine kO hT hC ?_
 refine kC hC [] Tryz.call182 h (fun _ => Xor) fun q2 h => ?_
 refine kO hT hC ?_
 refine kS h ?_ ?_ <;> intro b1 h
 refine kI hT hC b1 ?_
 refine kE hC b1 [] Tryz.call69 h (fun _ => Xsy) fun q3 h => ?_
 refine kP hC true b1 ?_
 refine kO hT hC ?_
 refine kS h ?_ ?_ <;> intro b2 h
 iterate 3 refine kI hT hC b2 ?_
 refine kE hC b2 [] Tryz.call123 h (fun _ => Xuu) fun q4 h => ?_
 refine kI hT hC b2 ?_
 refine kE hC b2 [] Tryz.call116 h (fun _ => Xai) fun q5 h => ?_
 refine kP hC true b2 ?_
 refine kO hT hC ?_
 refine kS h ?_ ?_ <;> intro b3 h
 iterate 4 refine kI hT hC b3 ?_
 refine kJ hT hC b3 h fun h => ?_
 refine kI hT hC b3 ?_
 refine kE hC b3 [] Tryz.call116 h (fun _ => Xai) fun q6 h => ?_
 refine kP hC true b3 ?_
 refine kO hT hC ?_
 refine kS h ?_ ?_ <;> intro b4 h
 iterate 2 refine kI hT hC b4 ?_
 refine kE hC b4 [] Tryz.call116 h (fun _ => Xai) fun q7 h => ?_
 refine kP hC true b4 ?_
 refine kO hT hC ?_
 exact kD kM
 iterate 3 refine kF hC b4 ?_
 refine kP hC false b4 ?_
 refine kO hT hC ?_
 exact kD kM
 iterate 7 refine kF hC b3 ?_
 refine kP hC false b3 ?_
 refine kO hT hC ?_
 iterate 3 refine kF hC rfl ?_
 iterate 2 refine kO hT hC ?_
 exact kD kM
 iterate 6 refine kF hC b2 ?_
 refine kP hC false b2 ?_
 refine kO hT hC ?_
 iterate 7 refine kF hC rfl ?_
 iterate 2 refine kO hT hC ?_
 iterate 3 refine kF hC rfl ?_
 iterate 2 refine kO hT hC ?_
 exact kD kM
 iterate 2 refine kF hC b1 ?_
 refine kP hC false b1 ?_
 refine kO hT hC ?_
 iterate 6 refine kF hC rfl ?_
 iterate 2 refine kO hT hC ?_
 iterate 7 refine kF hC rfl ?_
 iterate 2 refine kO hT hC ?_
 iterate 3 refine kF hC rfl ?_
 iterate 2 refine kO hT hC ?_
 exact kD kM
 exact Xah kR
def Yjk (r : Bool) : AV := .sv (.bool r)
def Yjj (r : Bool) : Xax := []
theorem Xhb {p0 r} (h : Xff p0 = some r) : AC Tryz.prog 127 [.agg [.sv (.bool p0.Key), .sv (.int .i64 p0.Qp), .sv (.bool p0.Large), .sv (.bool p0.Exact)]] [] (Yjk r) (Yjj r) := by
 refine Xaf hT Tryz.func127 rfl fun C hC => ?_
 unfold Xff at h
 refine Xab ?_
 iterate 2 refine kO hT hC ?_
 refine Vc.nil ?_
 refine kL [1,2] [16] [_,_] [_] ?_
 refine kA h (fun v1 => ([(2, .sv (.bool v1)), (1, .any)], [(16, none)])) (fun v1 h => ?_) fun v1 h => ?_
 refine Xac ?_
 iterate 2 refine kO hT hC ?_
 refine kC hC [] Tryz.call116 h (fun _ => Xai) fun q2 h => ?_
 refine kO hT hC ?_
 refine kS h ?_ ?_ <;> intro b1 h
 iterate 3 refine kI hT hC b1 ?_
 refine kS h ?_ ?_ <;> intro b2 h
 iterate 2 refine kI hT hC b2 ?_
 refine Xa6 hC rfl rfl rfl rfl b1 rfl rfl (b := true) b2 rfl rfl rfl trivial ?_
 refine kI hT hC b1 ?_
 refine kP hC true b1 ?_
 refine kO hT hC ?_
 exact Vc.nil kM
 iterate 2 refine kF hC b2 ?_
 refine Xa6 hC rfl rfl rfl rfl b1 rfl rfl (b := false) b2 rfl rfl rfl trivial ?_
 refine kI hT hC b1 ?_
 refine kP hC true b1 ?_
 refine kO hT hC ?_
 exact Vc.nil kM
 iterate 3 refine kF hC b1 ?_
 iterate 2 refine Xd4 hC rfl rfl rfl rfl rfl rfl ?_
 iterate 2 refine kF hC b1 ?_
 refine kP hC false b1 ?_
 refine kO hT hC ?_
 exact Vc.nil kM
 exact Xah kR
def Xxa (r : Bool) : AV := .sv (.bool r)
def Xw9 (r : Bool) : Xax := []
theorem Xbx {p0 p1 p2 p3 r} (h : Xbf p0 p1 p2 p3 = some r) : AC Tryz.prog 197 [.sv (.ints .i64 p0), .sv (.int .i64 p1), .sv (.int .i64 p2), .sv (.int .i64 p3)] [] (Xxa r) (Xw9 r) := by
 refine Xaf hT Tryz.func197 rfl fun C hC => ?_
 unfold Xbf at h
 refine Xab ?_
 refine kO hT hC ?_
 refine Vc.nil (Xam (Xab ?_))
 iterate 3 refine kO hT hC ?_
 refine Vc.nil ?_
 refine kL [0,1,2,3,11,12,13] [] [_,_,_,_,_,_,_] [] ?_
 obtain ⟨o8, hl, h⟩ := Xa3 h
 refine Xf9 (fun v3 => ([(13, .sv (.int .i64 v3))], [])) (fun v6 => ([(2, .any), (3, .any), (11, .any), (12, .any), (13, .any)], [])) (fun r => Xqe C T Tryz.f197.results.toList (Xxa r) (Xw9 r)) hl ?_ ?_ ?_ ?_
 apply Xdo hC []
 exact co
 rfl
 decide
 rfl
 intro v3 s hs
 have h := hs
 unfold Xlk at h
 refine Xab ?_
 refine kO hT hC ?_
 refine Vc.nil (Xam ?_)
 refine kS h ?_ ?_ <;> intro b5 h
 refine kt b5 (Xag (Xae (Xam (Xak (Xab ?_)))))
 refine kQ hT hC h fun h => ?_
 iterate 2 refine kO hT hC ?_
 refine kN ?_
 iterate 3 refine kO hT hC ?_
 refine kC hC [] Tryz.call116 h (fun _ => Xai) fun q7 h => ?_
 refine kO hT hC ?_
 refine Vc.nil ?_
 refine kS h ?_ ?_ <;> intro b6 h
 refine kt b6 (Xab ?_)
 refine kO hT hC ?_
 refine Vc.nil (Xah (Xer (Xaq ?_)))
 obtain rfl := kj h
 refine Xrb (Xra ?_)
 exact Xby (Xmd.refl _) rfl trivial
 refine kf b6 (Xag (Xap (Xae (Xac ?_))))
 iterate 2 refine kO hT hC ?_
 exact Vc.nil kG
 exact kf b5 (Xan (Xat kb))
 intro v6 e
 subst e
 refine Xae (Xab ?_)
 iterate 5 refine kO hT hC ?_
 exact Vc.nil (Xah kR)
 intro r' σ' e hE
 subst e
 obtain rfl := kj h
 refine Xaq ?_
 exact hE
def Yau (r : Bool) : AV := .sv (.bool r)
def Yat (r : Bool) : Xax := []
theorem Xmq {p0 r} (h : Xfi p0 = some r) : AC Tryz.prog 248 [.sv (.ints .i64 p0)] [] (Yau r) (Yat r) := by
 refine Xaf hT Tryz.func248 rfl fun C hC => ?_
 unfold Xfi at h
 refine Xab ?_
 refine kO hT hC ?_
 refine kN ?_
 refine kO hT hC ?_
 refine kC hC [] Tryz.call197 h (fun _ => Xbx) fun q1 h => ?_
 refine kO hT hC ?_
 exact Vc.nil (Xah kR)
def Ydd (r : Bool) : AV := .sv (.bool r)
def Ydc (r : Bool) : Xax := []
theorem Xtj {p0 r} (h : Xis p0 = some r) : AC Tryz.prog 211 [.agg [.sv (.int .i64 p0.Kind), .sv (.int .i64 p0.Mode), .sv (.int .i64 p0.Dx), .sv (.int .i64 p0.Dy), .sv (.ints .i64 p0.Levels)]] [] (Ydd r) (Ydc r) := by
 refine Xaf hT Tryz.func211 rfl fun C hC => ?_
 unfold Xis at h
 refine Xab ?_
 iterate 2 refine kO hT hC ?_
 refine Vc.nil (Xam (Xab ?_))
 iterate 2 refine kO hT hC ?_
 refine Vc.nil (Xak (Xab ?_))
 iterate 2 refine kO hT hC ?_
 refine Vc.nil ?_
 refine kS h ?_ ?_ <;> intro b1 h
 refine kt b1 ?_
 refine kL [1,2] [16] [_,_] [_] ?_
 refine kA h (fun v1 => ([(2, .sv (.bool v1)), (1, .any)], [(16, none)])) (fun v1 h => ?_) fun v1 h => ?_
 refine Xac ?_
 iterate 4 refine kO hT hC ?_
 refine kS h ?_ ?_ <;> intro b2 h
 iterate 3 refine kI hT hC b2 ?_
 refine kP hC true b2 ?_
 refine kO hT hC ?_
 refine kS h ?_ ?_ <;> intro b3 h
 iterate 3 refine kI hT hC b3 ?_
 refine kP hC true b3 ?_
 refine kO hT hC ?_
 refine kS h ?_ ?_ <;> intro b4 h
 iterate 4 refine kI hT hC b4 ?_
 refine kP hC true b4 ?_
 refine kO hT hC ?_
 exact Vc.nil kM
 iterate 4 refine kF hC b4 ?_
 refine kP hC false b4 ?_
 refine kO hT hC ?_
 exact Vc.nil kM
 iterate 3 refine kF hC b3 ?_
 refine kP hC false b3 ?_
 refine kO hT hC ?_
 iterate 4 refine kF hC rfl ?_
 iterate 2 refine kO hT hC ?_
 exact Vc.nil kM
 iterate 3 refine kF hC b2 ?_
 refine kP hC false b2 ?_
 refine kO hT hC ?_
 iterate 3 refine kF hC rfl ?_
 iterate 2 refine kO hT hC ?_
 iterate 4 refine kF hC rfl ?_
 iterate 2 refine kO hT hC ?_
 exact Vc.nil kM
 exact Xah (Xer (Xaq kR))
 refine kf b1 (Xab ?_)
 iterate 2 refine kO hT hC ?_
 refine Vc.nil ?_
 refine kS h ?_ ?_ <;> intro b5 h
 refine kt b5 ?_
 refine kL [1,2] [16] [_,_] [_] ?_
 refine kA h (fun v2 => ([(2, .sv (.bool v2)), (1, .any)], [(16, none)])) (fun v2 h => ?_) fun v2 h => ?_
 refine Xac ?_
 iterate 4 refine kO hT hC ?_
 refine kS h ?_ ?_ <;> intro b6 h
 iterate 2 refine kI hT hC b6 ?_
 refine kE hC b6 [] Tryz.call116 h (fun _ => Xai) fun q3 h => ?_
 refine kP hC true b6 ?_
 refine kO hT hC ?_
 refine kS h ?_ ?_ <;> intro b7 h
 iterate 2 refine kI hT hC b7 ?_
 refine kE hC b7 [] Tryz.call116 h (fun _ => Xai) fun q4 h => ?_
 refine kP hC true b7 ?_
 refine kO hT hC ?_
 refine kS h ?_ ?_ <;> intro b8 h
 iterate 2 refine kI hT hC b8 ?_
 refine kE hC b8 [] Tryz.call248 h (fun _ => Xmq) fun q5 h => ?_
 refine kP hC true b8 ?_
 refine kO hT hC ?_
 exact Vc.nil kM
 iterate 3 refine kF hC b8 ?_
 refine kP hC false b8 ?_
 refine kO hT hC ?_
 exact Vc.nil kM
 iterate 3 refine kF hC b7 ?_
 refine kP hC false b7 ?_
 refine kO hT hC ?_
 iterate 3 refine kF hC rfl ?_
 iterate 2 refine kO hT hC ?_
 exact Vc.nil kM
 iterate 3 refine kF hC b6 ?_
 refine kP hC false b6 ?_
 refine kO hT hC ?_
 iterate 3 refine kF hC rfl ?_
 iterate 2 refine kO hT hC ?_
 iterate 3 refine kF hC rfl ?_
 iterate 2 refine kO hT hC ?_
 exact Vc.nil kM
 exact Xah (Xer (Xaq kR))
 refine kf b5 (Xab ?_)
 iterate 2 refine kO hT hC ?_
 refine Vc.nil ?_
 refine kS h ?_ ?_ <;> intro b9 h
 refine kt b9 ?_
 refine kL [1,2] [16] [_,_] [_] ?_
 refine kA h (fun v6 => ([(2, .sv (.bool v6)), (1, .any)], [(16, none)])) (fun v6 h => ?_) fun v6 h => ?_
 refine Xac ?_
 iterate 2 refine kO hT hC ?_
 refine kC hC [] Tryz.call116 h (fun _ => Xai) fun q7 h => ?_
 refine kO hT hC ?_
 refine kS h ?_ ?_ <;> intro b10 h
 iterate 3 refine kI hT hC b10 ?_
 refine kP hC true b10 ?_
 refine kO hT hC ?_
 refine kS h ?_ ?_ <;> intro b11 h
 iterate 3 refine kI hT hC b11 ?_
 refine kP hC true b11 ?_
 refine kO hT hC ?_
 refine kS h ?_ ?_ <;> intro b12 h
 iterate 2 refine kI hT hC b12 ?_
 refine kE hC b12 [] Tryz.call248 h (fun _ => Xmq) fun q8 h => ?_
 refine kP hC true b12 ?_
 refine kO hT hC ?_
 exact Vc.nil kM
 iterate 3 refine kF hC b12 ?_
 refine kP hC false b12 ?_
 refine kO hT hC ?_
 exact Vc.nil kM
 iterate 3 refine kF hC b11 ?_
 refine kP hC false b11 ?_
 refine kO hT hC ?_
 iterate 3 refine kF hC rfl ?_
 iterate 2 refine kO hT hC ?_
 exact Vc.nil kM
 iterate 3 refine kF hC b10 ?_
 refine kP hC false b10 ?_
 refine kO hT hC ?_
 iterate 3 refine kF hC rfl ?_
 iterate 2 refine kO hT hC ?_
 iterate 3 refine kF hC rfl ?_
 iterate 2 refine kO hT hC ?_
 exact Vc.nil kM
 exact Xah (Xer (Xaq kR))
 refine kf b9 (Xag (Xap (Xae (Xab ?_))))
 refine kO hT hC ?_
 exact Vc.nil (Xah kR)
def Ykr (r : Bool) : AV := .sv (.bool r)
def Ykq (r : Bool) : Xax := []
theorem Xxb {p0 r} (h : Xmr p0 = some r) : AC Tryz.prog 126 [.sv (.int .i64 p0)] [] (Ykr r) (Ykq r) := by
 refine Xaf hT Tryz.func126 rfl fun C hC => ?_
 unfold Xmr at h
 refine Xab ?_
 refine kO hT hC ?_
 refine Vc.nil ?_
 refine kL [0,2] [] [_,_] [] ?_
 refine kA h (fun v1 => ([(2, .sv (.bool v1)), (0, .any)], [])) (fun v1 h => ?_) fun v1 h => ?_
 refine Xac ?_
 refine kO hT hC ?_
 refine kQ hT hC h fun h => ?_
 iterate 2 refine kO hT hC ?_
 refine kS h ?_ ?_ <;> intro b1 h
 refine kI hT hC b1 ?_
 refine kE hC b1 [] Tryz.call116 h (fun _ => Xai) fun q2 h => ?_
 refine kP hC true b1 ?_
 refine kO hT hC ?_
 exact Vc.nil kM
 iterate 2 refine kF hC b1 ?_
 refine kP hC false b1 ?_
 refine kO hT hC ?_
 exact Vc.nil kM
 exact Xah kR
def Yae (r : Bool) : AV := .sv (.bool r)
def Yad (r : Bool) : Xax := []
theorem Yc3 {p0 p1 r} (h : Xjh p0 p1 = some r) : AC Tryz.prog 233 [.agg [.sv (.int .i64 p0.Wide), .sv (.int .i64 p0.High), .sv (.str p0.Dots)], .agg [.sv (.int .i64 p1.Left), .sv (.int .i64 p1.Top), .sv (.int .i64 p1.Wide), .sv (.int .i64 p1.High)]] [] (Yae r) (Yad r) := by
 refine Xaf hT Tryz.func233 rfl fun C hC => ?_
 unfold Xjh at h
 refine Xab ?_
 iterate 3 refine kO hT hC ?_
 refine Vc.nil ?_
 refine kL [2,3,4] [32,48] [_,_,_] [_,_] ?_
 refine kA h (fun v1 => ([(4, .sv (.bool v1)), (2, .any), (3, .any)], [(32, none), (48, none)])) (fun v1 h => ?_) fun v1 h => ?_
 refine Xac ?_
 iterate 4 refine kO hT hC ?_
 refine kC hC [] Tryz.call116 h (fun _ => Xai) fun q2 h => ?_
 refine kO hT hC ?_
 refine kS h ?_ ?_ <;> intro b1 h
 iterate 4 refine kI hT hC b1 ?_
 refine kE hC b1 [] Tryz.call116 h (fun _ => Xai) fun q3 h => ?_
 refine kP hC true b1 ?_
 refine kO hT hC ?_
 refine kS h ?_ ?_ <;> intro b2 h
 iterate 7 refine kI hT hC b2 ?_
 refine kE hC b2 [] Tryz.call116 h (fun _ => Xai) fun q4 h => ?_
 refine kP hC true b2 ?_
 refine kO hT hC ?_
 refine kS h ?_ ?_ <;> intro b3 h
 iterate 7 refine kI hT hC b3 ?_
 refine kE hC b3 [] Tryz.call116 h (fun _ => Xai) fun q5 h => ?_
 refine kP hC true b3 ?_
 refine kO hT hC ?_
 exact Vc.nil kM
 iterate 8 refine kF hC b3 ?_
 refine kP hC false b3 ?_
 refine kO hT hC ?_
 exact Vc.nil kM
 iterate 8 refine kF hC b2 ?_
 refine kP hC false b2 ?_
 refine kO hT hC ?_
 iterate 8 refine kF hC rfl ?_
 iterate 2 refine kO hT hC ?_
 exact Vc.nil kM
 iterate 5 refine kF hC b1 ?_
 refine kP hC false b1 ?_
 refine kO hT hC ?_
 iterate 8 refine kF hC rfl ?_
 iterate 2 refine kO hT hC ?_
 iterate 8 refine kF hC rfl ?_
 iterate 2 refine kO hT hC ?_
 exact Vc.nil kM
 exact Xah kR
def Yr1 (r : Pic) : AV := .agg [.sv (.int .i64 r.Wide), .sv (.int .i64 r.High), .sv (.str r.Dots)]
def Yr0 (r : Pic) : Xax := []
theorem Yus {p0 p1 r} (h : Xup p0 p1 = some r) : AC Tryz.prog 128 [.sv (.int .i64 p0), .sv (.int .i64 p1)] [] (Yr1 r) (Yr0 r) := by
 refine Xaf hT Tryz.func128 rfl fun C hC => ?_
 unfold Xup at h
 refine Xab ?_
 refine kO hT hC ?_
 refine Vc.nil (Xam ?_)
 refine kL [0,1,4] [64] [_,_,_] [_] ?_
 refine kA h (fun v1 => ([(14, .sv (.bool v1))], [])) (fun v1 h => ?_) fun v1 h => ?_
 refine Xac ?_
 refine kO hT hC ?_
 refine kC hC [] Tryz.call116 h (fun _ => Xai) fun q2 h => ?_
 iterate 2 refine kO hT hC ?_
 refine kS h ?_ ?_ <;> intro b1 h
 refine kI hT hC (kn b1) ?_
 refine kE hC (kn b1) [] Tryz.call116 h (fun _ => Xai) fun q3 h => ?_
 refine kI hT hC (kn b1) ?_
 refine kP hC false (kn b1) ?_
 exact Vc.nil kM
 iterate 3 refine kF hC (kn b1) ?_
 refine kP hC true (kn b1) ?_
 exact Vc.nil kM
 refine kS h ?_ ?_ <;> intro b2 h
 refine kt b2 (Xab ?_)
 iterate 2 refine kO hT hC ?_
 exact Vc.nil (Xah (Xaq kR))
 refine kf b2 (Xag (Xae (Xab ?_)))
 iterate 3 refine kO hT hC ?_
 obtain ⟨hq, h⟩ := Xaw h
 refine Yqs hT hC rfl rfl rfl rfl ⟨hq.1, hq.2.1, hq.2.2, by decide⟩ ?_
 refine kO hT hC ?_
 refine Vc.nil (Xam (Xab ?_))
 iterate 3 refine kO hT hC ?_
 refine Vc.nil ?_
 refine kL [0,1,4,5,21,22] [64,304] [_,_,_,_,_,_] [_,_] ?_
 refine kX h (fun v5 => ([(22, .sv (.int .i64 v5.1))], [(304, some (.ints .u8 v5.2))])) (fun v7 => ([(21, .any), (22, .any)], [(304, some (.ints .u8 v7))])) (kW hC []) (fun v5 s h => ?_) fun v7 h => ?_
 unfold Xnp at h
 refine Xab ?_
 refine kO hT hC ?_
 refine Vc.nil (Xam ?_)
 refine kS h ?_ ?_ <;> intro b5 h
 refine kt b5 (Xag (Xae (Xam (Xak (Xab ?_)))))
 iterate 2 refine kO hT hC ?_
 refine Vc.nil (Xac ?_)
 iterate 2 refine kO hT hC ?_
 iterate 2 refine kQ hT hC h fun h => ?_
 refine Vc.nil (Xap (Xae (Xac ?_)))
 iterate 2 refine kO hT hC ?_
 exact Vc.nil kG
 exact kf b5 (Xan (Xat ku))
 refine Xae (Xab ?_)
 iterate 6 refine kO hT hC ?_
 exact Vc.nil (Xah kR)
def Xut (r : Bool) : AV := .sv (.bool r)
def Xus (r : Bool) : Xax := []
theorem Xft {p0 p1 p2 r} (h : Xbw p0 p1 p2 = some r) : AC Tryz.prog 196 [.agg [.sv (.int .i64 p0.Wide), .sv (.int .i64 p0.High), .sv (.str p0.Dots)], .sv (.int .i64 p1), .sv (.int .i64 p2)] [] (Xut r) (Xus r) := by
 refine Xaf hT Tryz.func196 rfl fun C hC => ?_
 unfold Xbw at h
 refine Xab ?_
 iterate 2 refine kO hT hC ?_
 refine Vc.nil ?_
 refine kL [1,2,3,6] [48] [_,_,_,_] [_] ?_
 refine kA h (fun v1 => ([(6, .sv (.bool v1)), (1, .any), (2, .any), (3, .any)], [(48, none)])) (fun v1 h => ?_) fun v1 h => ?_
 refine Xac ?_
 refine kO hT hC ?_
 refine kQ hT hC h fun h => ?_
 iterate 2 refine kO hT hC ?_
 refine kS h ?_ ?_ <;> intro b1 h
 refine kI hT hC b1 ?_
 refine kJ hT hC b1 h fun h => ?_
 refine kI hT hC b1 ?_
 refine kP hC true b1 ?_
 refine kO hT hC ?_
 refine kS h ?_ ?_ <;> intro b2 h
 iterate 4 refine kI hT hC b2 ?_
 refine kE hC b2 [] Tryz.call116 h (fun _ => Xai) fun q2 h => ?_
 refine kP hC true b2 ?_
 refine kO hT hC ?_
 refine kS h ?_ ?_ <;> intro b3 h
 iterate 4 refine kI hT hC b3 ?_
 refine kE hC b3 [] Tryz.call116 h (fun _ => Xai) fun q3 h => ?_
 refine kP hC true b3 ?_
 refine kO hT hC ?_
 exact Vc.nil kM
 iterate 5 refine kF hC b3 ?_
 refine kP hC false b3 ?_
 refine kO hT hC ?_
 exact Vc.nil kM
 iterate 5 refine kF hC b2 ?_
 refine kP hC false b2 ?_
 refine kO hT hC ?_
 iterate 5 refine kF hC rfl ?_
 iterate 2 refine kO hT hC ?_
 exact Vc.nil kM
 iterate 3 refine kF hC b1 ?_
 refine kP hC false b1 ?_
 refine kO hT hC ?_
 iterate 5 refine kF hC rfl ?_
 iterate 2 refine kO hT hC ?_
 iterate 5 refine kF hC rfl ?_
 iterate 2 refine kO hT hC ?_
 exact Vc.nil kM
 exact Xah kR
def Xyr (r : Bool) : AV := .sv (.bool r)
def Xyq (r : Bool) : Xax := []
theorem Xqm {p0 p1 r} (h : Xee p0 p1 = some r) : AC Tryz.prog 212 [.agg [.sv (.int .i64 p0.Kind), .sv (.int .i64 p0.Mode), .sv (.int .i64 p0.Dx), .sv (.int .i64 p0.Dy), .sv (.ints .i64 p0.Levels)], .agg [.sv (.bool p1.Key), .sv (.int .i64 p1.Qp), .sv (.bool p1.Large), .sv (.bool p1.Exact)]] [] (Xyr r) (Xyq r) := by
 refine Xaf hT Tryz.func212 rfl fun C hC => ?_
 unfold Xee at h
 refine Xab ?_
 iterate 3 refine kO hT hC ?_
 refine Vc.nil ?_
 refine kL [2,3,4] [32,48] [_,_,_] [_,_] ?_
 refine kA h (fun v1 => ([(4, .sv (.bool v1)), (2, .any), (3, .any)], [(32, none), (48, none)])) (fun v1 h => ?_) fun v1 h => ?_
 refine Xac ?_
 iterate 4 refine kO hT hC ?_
 refine kS h ?_ ?_ <;> intro b1 h
 iterate 3 refine kI hT hC (kn b1) ?_
 refine kP hC false (kn b1) ?_
 refine kO hT hC ?_
 exact Vc.nil kM
 iterate 3 refine kF hC (kn b1) ?_
 refine kP hC true (kn b1) ?_
 refine kO hT hC ?_
 exact Vc.nil kM
 exact Xah kR
def Yfv (r : Int) : AV := .sv (.int .i64 r)
def Yfu (r : Int) : Xax := []
theorem Xd9 {p0 p1 p2 r} (h : Xco p0 p1 p2 = some r) : AC Tryz.prog 141 [.sv (.int .i64 p0), .sv (.int .i64 p1), .sv (.int .i64 p2)] [] (Yfv r) (Yfu r) := by
 refine Xaf hT Tryz.func141 rfl fun C hC => ?_
 unfold Xco at h
 refine Xab ?_
 refine kO hT hC ?_
 refine kN ?_
 iterate 6 refine kO hT hC ?_
 exact Vc.nil (Xah kR)
def Yf4 (r : Int) : AV := .sv (.int .i64 r)
def Yf3 (r : Int) : Xax := []
theorem Xlc {p0 p1 p2 r} (h : Xe3 p0 p1 p2 = some r) : AC Tryz.prog 206 [.agg [.sv (.int .i64 p0.Wide), .sv (.int .i64 p0.High), .sv (.str p0.Dots)], .sv (.int .i64 p1), .sv (.int .i64 p2)] [] (Yf4 r) (Yf3 r) := by
 refine Xaf hT Tryz.func206 rfl fun C hC => ?_
 unfold Xe3 at h
 refine Xab ?_
 iterate 2 refine kO hT hC ?_
 refine Vc.nil ?_
 refine Xbs hm ?_
 iterate 6 refine kO hT hC ?_
 refine kC hC [] Tryz.call141 h (fun _ => Xd9) fun q1 h => ?_
 iterate 7 refine kO hT hC ?_
 refine kC hC [] Tryz.call141 h (fun _ => Xd9) fun q2 h => ?_
 refine kO hT hC ?_
 refine kQ hT hC h fun h => ?_
 iterate 2 refine kO hT hC ?_
 exact kD (Xah kR)
def Yac (r : (List Int)) : AV := .own 16
def Yab (r : (List Int)) : Xax := [(16, .ints .i64 r)]
theorem Xd5 {p0 p1 p2 r} (h : Xbu p0 p1 p2 = some r) : AC Tryz.prog 130 [.agg [.sv (.int .i64 p0.Wide), .sv (.int .i64 p0.High), .sv (.str p0.Dots)], .sv (.int .i64 p1), .sv (.int .i64 p2)] [] (Yac r) (Yab r) := by
 refine Xaf hT Tryz.func130 rfl fun C hC => ?_
 unfold Xbu at h
 refine Xab ?_
 iterate 2 refine kO hT hC ?_
 refine kN ?_
 obtain ⟨hq, h⟩ := Xaw h
 refine Yqs hT hC rfl rfl rfl rfl ⟨hq.1, hq.2.1, hq.2.2, by decide⟩ ?_
 refine kO hT hC ?_
 refine Vc.nil (Xam (Xab ?_))
 refine kO hT hC ?_
 refine Vc.nil ?_
 refine kL [1,2,3,7,11] [48,160] [_,_,_,_,_] [_,_] ?_
 refine kX h (fun v10 => ([(11, .sv (.int .i64 v10.1))], [(160, some (.ints .i64 v10.2))])) (fun v20 => ([(1, .any), (2, .any), (3, .any), (11, .any)], [(160, some (.ints .i64 v20)), (48, none)])) (kW hC []) (fun v10 s h => ?_) fun v20 h => ?_
 unfold Xe1 at h
 refine Xab ?_
 refine kO hT hC ?_
 refine Vc.nil (Xam ?_)
 refine kS h ?_ ?_ <;> intro b9 h
 refine kt b9 (Xag (Xae (Xam (Xak (Xab ?_)))))
 iterate 2 refine kO hT hC ?_
 refine kN ?_
 refine kO hT hC ?_
 refine Vc.nil ?_
 refine kL [1,2,3,7,8,11,14] [48,160] [_,_,_,_,_,_,_] [_,_] ?_
 refine kX h (fun v23 => ([(14, .sv (.int .i64 v23.1))], [(160, some (.ints .i64 v23.2))])) (fun v26 => ([(8, .any), (14, .any)], [(160, some (.ints .i64 v26))])) (kW hC []) (fun v23 s h => ?_) fun v26 h => ?_
 unfold Xe2 at h
 refine Xab ?_
 refine kO hT hC ?_
 refine Vc.nil (Xam ?_)
 refine kS h ?_ ?_ <;> intro b12 h
 refine kt b12 (Xag (Xae (Xam (Xak (Xab ?_)))))
 iterate 2 refine kO hT hC ?_
 refine Vc.nil (Xac ?_)
 iterate 8 refine kO hT hC ?_
 refine kC hC [] Tryz.call206 h (fun _ => Xlc) fun q27 h => ?_
 refine kO hT hC ?_
 refine kT hT hC h fun h => ?_
 refine kO hT hC ?_
 refine Vc.nil (Xap (Xae (Xac ?_)))
 iterate 2 refine kO hT hC ?_
 refine Vc.nil ?_
 obtain rfl := kj h
 exact Yd2 (kW hC [(160, 432)])
 exact kf b12 (Xan (Xat ku))
 refine Xap (Xae (Xac ?_))
 iterate 2 refine kO hT hC ?_
 exact Vc.nil kG
 exact kf b9 (Xan (Xat ku))
 refine Xae (Xab ?_)
 iterate 2 refine kO hT hC ?_
 refine Vc.nil (Xah ?_)
 obtain rfl := kj h
 exact Xby (τ := ⟨[(6, .own 16)], [(16, some (.ints .i64 v20))]⟩) (kW hC [(16, 160)]) rfl ⟨rfl, trivial⟩
def Ya2 (r : (List Int)) : AV := .own 16
def Ya1 (r : (List Int)) : Xax := [(16, .ints .i64 r)]
theorem Xrx {p0 r} (h : Xhe p0 = some r) : AC Tryz.prog 266 [.sv (.int .i64 p0)] [] (Ya2 r) (Ya1 r) := by
 refine Xaf hT Tryz.func266 rfl fun C hC => ?_
 unfold Xhe at h
 refine Xab ?_
 refine kO hT hC ?_
 refine kN ?_
 iterate 2 refine kO hT hC ?_
 refine Vc.nil (Xam (Xab ?_))
 refine kO hT hC ?_
 refine Vc.nil ?_
 refine kL [0,3,4] [128] [_,_,_] [_] ?_
 refine kX h (fun v16 => ([(4, .sv (.int .i64 v16.1))], [(128, some (.ints .i64 v16.2))])) (fun v32 => ([(0, .any), (4, .any)], [(128, some (.ints .i64 v32))])) (kW hC []) (fun v16 s h => ?_) fun v32 h => ?_
 unfold Xhn at h
 refine Xam (Xab ?_)
 iterate 5 refine kO hT hC ?_
 refine Vc.nil ?_
 refine kS h ?_ ?_ <;> intro b27 h
 refine kt b27 (Xag (Xae (Xam (Xak (Xab ?_)))))
 refine kO hT hC ?_
 refine Vc.nil ?_
 refine kL [0,3,4,5] [128] [_,_,_,_] [_] ?_
 refine kX h (fun v37 => ([(5, .sv (.int .i64 v37.1))], [(128, some (.ints .i64 v37.2))])) (fun v42 => ([(5, .any)], [(128, some (.ints .i64 v42))])) (kW hC []) (fun v37 s h => ?_) fun v42 h => ?_
 unfold Xlm at h
 refine Xam (Xab ?_)
 iterate 3 refine kO hT hC ?_
 refine Vc.nil ?_
 refine kS h ?_ ?_ <;> intro b36 h
 refine kt b36 (Xag (Xae ?_))
 refine kL [0,3,4,5] [128] [_,_,_,_] [_] ?_
 refine kA h (fun v43 => ([], [(128, some (.ints .i64 v43))])) (fun v43 h => ?_) fun v43 h => ?_
 refine Xak (Xab ?_)
 iterate 2 refine kO hT hC ?_
 refine Vc.nil ?_
 refine kL [0,3,4,5,6] [128] [_,_,_,_,_] [_] ?_
 refine kA h (fun v44 => ([(6, .sv (.int .i64 v44))], [])) (fun v44 h => ?_) fun v44 h => ?_
 refine Xab ?_
 refine kO hT hC ?_
 refine kQ hT hC h fun h => ?_
 refine kO hT hC ?_
 refine Vc.nil ?_
 refine kS h ?_ ?_ <;> intro b37 h
 refine kt b37 (Xac ?_)
 iterate 4 refine kO hT hC ?_
 exact Vc.nil kM
 exact kf b37 (Xag kM)
 refine Xab ?_
 iterate 4 refine kO hT hC ?_
 refine Vc.nil ?_
 refine kL [0,3,4,5,6,7] [128] [_,_,_,_,_,_] [_] ?_
 refine kA h (fun v45 => ([(38, .sv (.bool v45))], [])) (fun v45 h => ?_) fun v45 h => ?_
 refine Xac ?_
 iterate 4 refine kO hT hC ?_
 refine kS h ?_ ?_ <;> intro b38 h
 iterate 3 refine kI hT hC b38 ?_
 refine kP hC true b38 ?_
 exact Vc.nil kM
 iterate 3 refine kF hC b38 ?_
 refine kP hC false b38 ?_
 exact Vc.nil kM
 refine kS h ?_ ?_ <;> intro b39 h
 refine kt b39 (Xac ?_)
 iterate 7 refine kO hT hC ?_
 refine kT hT hC h fun h => ?_
 refine kO hT hC ?_
 refine Vc.nil (Xap ?_)
 obtain rfl := kj h
 exact Xhz (kW hC [(128, 736)])
 exact kf b39 (Xag (Xap kM))
 refine Xac ?_
 iterate 3 refine kO hT hC ?_
 exact Vc.nil kG
 exact kf b36 (Xan (Xat ku))
 refine Xap (Xae (Xac ?_))
 iterate 3 refine kO hT hC ?_
 exact Vc.nil kG
 exact kf b27 (Xan (Xat ku))
 refine Xae (Xab ?_)
 iterate 2 refine kO hT hC ?_
 refine Vc.nil (Xah ?_)
 obtain rfl := kj h
 exact Xby (τ := ⟨[(2, .own 16)], [(16, some (.ints .i64 v32))]⟩) (kW hC [(16, 128)]) rfl ⟨rfl, trivial⟩
def Yas (r : ((List Int) × Bool)) : AV := .tup [.own 16, .sv (.bool r.2)]
def Yar (r : ((List Int) × Bool)) : Xax := [(16, .ints .i64 r.1)]
theorem Xmp {p0 p1 r} (h : Xfh p0 p1 = some r) : AC Tryz.prog 273 [.sv (.int .i64 p0), .sv (.ints .i64 p1)] [] (Yas r) (Yar r) := by
 refine Xaf hT Tryz.func273 rfl fun C hC => ?_
 unfold Xfh at h
 refine Xab ?_
 iterate 2 refine kO hT hC ?_
 refine Vc.nil (Xam ?_)
 refine kL [0,1] [] [_,_] [] ?_
 refine kA h (fun v1 => ([(22, .sv (.bool v1))], [])) (fun v1 h => ?_) fun v1 h => ?_
 refine Xac ?_
 iterate 3 refine kO hT hC ?_
 refine kS h ?_ ?_ <;> intro b1 h
 iterate 2 refine kI hT hC b1 ?_
 refine kP hC true b1 ?_
 refine kO hT hC ?_
 refine kS h ?_ ?_ <;> intro b2 h
 iterate 6 refine kF hC b2 ?_
 refine kP hC true b2 ?_
 exact Vc.nil kM
 iterate 6 refine kI hT hC b2 ?_
 refine kP hC false b2 ?_
 exact Vc.nil kM
 iterate 2 refine kF hC b1 ?_
 refine kP hC false b1 ?_
 refine kO hT hC ?_
 iterate 6 refine kI hT hC rfl ?_
 refine kO hT hC ?_
 exact Vc.nil kM
 refine kS h ?_ ?_ <;> intro b3 h
 refine kt b3 (Xab ?_)
 iterate 3 refine kO hT hC ?_
 refine Vc.nil (Xah (Xaq ?_))
 obtain rfl := kj h
 exact Xby (τ := ⟨[(4, .own 16), (5, .sv (.bool false))], [(16, some (.ints .i64 ([] : List Int)))]⟩) (kW hC [(16, 368)]) rfl ⟨rfl, trivial⟩
 refine kf b3 (Xag (Xae (Xab ?_)))
 iterate 2 refine kO hT hC ?_
 obtain ⟨hq, h⟩ := Xaw h
 refine Yqs hT hC rfl rfl rfl rfl ⟨hq.1, hq.2.1, hq.2.2, by decide⟩ ?_
 refine kO hT hC ?_
 refine Vc.nil (Xam (Xab ?_))
 refine kO hT hC ?_
 refine kC hC [(16, 448)] Tryz.call266 h (fun _ => Xrx) fun q2 h => ?_
 iterate 2 refine kO hT hC ?_
 refine Vc.nil ?_
 refine kL [1,6,28,29,30] [416,448] [_,_,_,_,_] [_,_] ?_
 refine kX h (fun v4 => ([(30, .sv (.int .i64 v4.1))], [(416, some (.ints .i64 v4.2))])) (fun v6 => ([(1, .any), (28, .any), (29, .any), (30, .any)], [(416, some (.ints .i64 v6)), (448, none)])) (kW hC []) (fun v4 s h => ?_) fun v6 h => ?_
 unfold Xit at h
 refine Xab ?_
 refine kO hT hC ?_
 refine Vc.nil (Xam ?_)
 refine kS h ?_ ?_ <;> intro b6 h
 refine kt b6 (Xag (Xae (Xam (Xak (Xab ?_)))))
 refine kO hT hC ?_
 iterate 2 refine kQ hT hC h fun h => ?_
 iterate 2 refine kO hT hC ?_
 refine Vc.nil (Xac ?_)
 iterate 4 refine kO hT hC ?_
 refine kQ hT hC h fun h => ?_
 refine kO hT hC ?_
 iterate 2 refine kQ hT hC h fun h => ?_
 refine Vc.nil (Xap (Xae (Xac ?_)))
 iterate 2 refine kO hT hC ?_
 exact Vc.nil kG
 exact kf b6 (Xan (Xat ku))
 refine Xae (Xab ?_)
 iterate 3 refine kO hT hC ?_
 refine Vc.nil (Xah ?_)
 obtain rfl := kj h
 exact Xby (τ := ⟨[(4, .own 16), (5, .sv (.bool true))], [(16, some (.ints .i64 v6))]⟩) (kW hC [(16, 416)]) rfl ⟨rfl, trivial⟩
def Yke (r : Int) : AV := .sv (.int .i64 r)
def Ykd (r : Int) : Xax := []
theorem Xw8 {p0 r} (h : Xke p0 = some r) : AC Tryz.prog 268 [.sv (.int .i64 p0)] [] (Yke r) (Ykd r) := by
 refine Xaf hT Tryz.func268 rfl fun C hC => ?_
 unfold Xke at h
 refine Xab ?_
 refine kO hT hC ?_
 refine Vc.nil (Xam (Xab ?_))
 refine kO hT hC ?_
 refine kC hC [] Tryz.call116 h (fun _ => Xai) fun q1 h => ?_
 refine kO hT hC ?_
 refine Vc.nil ?_
 refine kS h ?_ ?_ <;> intro b1 h
 refine kt b1 (Xab ?_)
 refine kO hT hC ?_
 exact Vc.nil (Xah (Xaq kR))
 refine kf b1 (Xag (Xae (Xab ?_)))
 iterate 2 refine kO hT hC ?_
 iterate 3 refine kQ hT hC h fun h => ?_
 refine kO hT hC ?_
 iterate 2 refine kQ hT hC h fun h => ?_
 refine kO hT hC ?_
 exact Vc.nil (Xah kR)
def Xz8 (r : Int) : AV := .sv (.int .i64 r)
def Xz7 (r : Int) : Xax := []
theorem Yc0 {p0 p1 r} (h : Xjg p0 p1 = some r) : AC Tryz.prog 274 [.sv (.int .i64 p0), .sv (.int .i64 p1)] [] (Xz8 r) (Xz7 r) := by
 refine Xaf hT Tryz.func274 rfl fun C hC => ?_
 unfold Xjg at h
 refine Xab ?_
 refine kO hT hC ?_
 refine Vc.nil (Xam (Xab ?_))
 refine kO hT hC ?_
 refine kC hC [] Tryz.call116 h (fun _ => Xai) fun q1 h => ?_
 refine kO hT hC ?_
 refine Vc.nil ?_
 refine kS h ?_ ?_ <;> intro b1 h
 refine kt b1 (Xab ?_)
 refine kO hT hC ?_
 exact Vc.nil (Xah (Xaq kR))
 refine kf b1 (Xag (Xae (Xab ?_)))
 iterate 2 refine kO hT hC ?_
 refine kC hC [] Tryz.call268 h (fun _ => Xw8) fun q2 h => ?_
 iterate 2 refine kO hT hC ?_
 exact Vc.nil (Xah kR)
def Yka (r : Int) : AV := .sv (.int .i64 r)
def Yj9 (r : Int) : Xax := []
theorem Xw7 {p0 p1 r} (h : Xmn p0 p1 = some r) : AC Tryz.prog 298 [.sv (.int .i64 p0), .sv (.int .i64 p1)] [] (Yka r) (Yj9 r) := by
 refine Xaf hT Tryz.func298 rfl fun C hC => ?_
 unfold Xmn at h
 refine Xab ?_
 refine kO hT hC ?_
 refine Vc.nil (Xam ?_)
 refine kL [0,1] [] [_,_] [] ?_
 refine kA h (fun v1 => ([(13, .sv (.bool v1))], [])) (fun v1 h => ?_) fun v1 h => ?_
 refine Xac ?_
 refine kO hT hC ?_
 refine kC hC [] Tryz.call116 h (fun _ => Xai) fun q2 h => ?_
 iterate 2 refine kO hT hC ?_
 refine kS h ?_ ?_ <;> intro b1 h
 refine kI hT hC (kn b1) ?_
 refine kE hC (kn b1) [] Tryz.call116 h (fun _ => Xai) fun q3 h => ?_
 refine kI hT hC (kn b1) ?_
 refine kP hC false (kn b1) ?_
 exact Vc.nil kM
 iterate 3 refine kF hC (kn b1) ?_
 refine kP hC true (kn b1) ?_
 exact Vc.nil kM
 refine kS h ?_ ?_ <;> intro b2 h
 refine kt b2 (Xab ?_)
 refine kO hT hC ?_
 exact Vc.nil (Xah (Xaq kR))
 refine kf b2 (Xag (Xae (Xab ?_)))
 iterate 4 refine kO hT hC ?_
 refine Vc.nil (Xam (Xab ?_))
 iterate 3 refine kO hT hC ?_
 refine kQ hT hC h fun h => ?_
 iterate 3 refine kO hT hC ?_
 refine kQ hT hC h fun h => ?_
 iterate 2 refine kO hT hC ?_
 refine kQ hT hC h fun h => ?_
 refine kO hT hC ?_
 refine Vc.nil ?_
 refine kS h ?_ ?_ <;> intro b3 h
 refine kt b3 (Xab ?_)
 refine kO hT hC ?_
 exact Vc.nil (Xah (Xaq kR))
 refine kf b3 (Xag (Xae (Xab ?_)))
 refine kO hT hC ?_
 exact Vc.nil (Xah kR)
def Ysj (r : (List Int)) : AV := .own 16
def Ysi (r : (List Int)) : Xax := [(16, .ints .i64 r)]
theorem Yff {p0 r} (h : Xr0 p0 = some r) : AC Tryz.prog 267 [.sv (.ints .i64 p0)] [] (Ysj r) (Ysi r) := by
 refine Xaf hT Tryz.func267 rfl fun C hC => ?_
 unfold Xr0 at h
 refine Xab ?_
 refine kO hT hC ?_
 refine kN ?_
 obtain ⟨hq, h⟩ := Xaw h
 refine Yqs hT hC rfl rfl rfl rfl ⟨hq.1, hq.2.1, hq.2.2, by decide⟩ ?_
 refine kO hT hC ?_
 refine Vc.nil (Xam (Xab ?_))
 refine kO hT hC ?_
 refine Vc.nil ?_
 refine kL [0,3,12] [176] [_,_,_] [_] ?_
 refine kX h (fun v31 => ([(12, .sv (.int .i64 v31.1))], [(176, some (.ints .i64 v31.2))])) (fun v62 => ([(0, .any), (12, .any)], [(176, some (.ints .i64 v62))])) (kW hC []) (fun v31 s h => ?_) fun v62 h => ?_
 unfold Xs3 at h
 refine Xab ?_
 refine kO hT hC ?_
 refine Vc.nil (Xam ?_)
 refine kS h ?_ ?_ <;> intro b27 h
 refine kt b27 (Xag (Xae (Xam (Xak (Xab ?_)))))
 iterate 2 refine kO hT hC ?_
 refine kN ?_
 refine kO hT hC ?_
 refine Vc.nil ?_
 refine kL [0,3,4,12,15] [176] [_,_,_,_,_] [_] ?_
 refine kX h (fun v72 => ([(15, .sv (.int .i64 v72.1))], [(176, some (.ints .i64 v72.2))])) (fun v82 => ([(4, .any), (15, .any)], [(176, some (.ints .i64 v82))])) (kW hC []) (fun v72 s h => ?_) fun v82 h => ?_
 unfold Xs4 at h
 refine Xab ?_
 refine kO hT hC ?_
 refine Vc.nil (Xam ?_)
 refine kS h ?_ ?_ <;> intro b36 h
 refine kt b36 (Xag (Xae (Xam (Xak (Xab ?_)))))
 iterate 2 refine kO hT hC ?_
 refine kN ?_
 refine kO hT hC ?_
 refine Vc.nil ?_
 refine kL [0,3,4,5,12,15,18] [176] [_,_,_,_,_,_,_] [_] ?_
 refine kX h (fun v85 => ([(18, .sv (.int .i64 v85.1))], [(176, some (.ints .i64 v85.2))])) (fun v88 => ([(5, .any), (18, .any)], [(176, some (.ints .i64 v88))])) (kW hC []) (fun v85 s h => ?_) fun v88 h => ?_
 unfold Xlo at h
 refine Xab ?_
 refine kO hT hC ?_
 refine Vc.nil (Xam ?_)
 refine kS h ?_ ?_ <;> intro b39 h
 refine kt b39 (Xag (Xae (Xam (Xak (Xab ?_)))))
 iterate 2 refine kO hT hC ?_
 refine Vc.nil ?_
 refine Xb4 hm ?_
 iterate 10 refine kO hT hC ?_
 iterate 2 refine kQ hT hC h fun h => ?_
 iterate 2 refine kO hT hC ?_
 refine kC hC [] Tryz.call298 h (fun _ => Xw7) fun q89 h => ?_
 iterate 5 refine kO hT hC ?_
 refine kQ hT hC h fun h => ?_
 iterate 3 refine kO hT hC ?_
 iterate 2 refine kQ hT hC h fun h => ?_
 refine kD (Xap (Xae (Xac ?_)))
 iterate 2 refine kO hT hC ?_
 exact Vc.nil kG
 exact kf b39 (Xan (Xat ku))
 refine Xap (Xae (Xac ?_))
 iterate 2 refine kO hT hC ?_
 exact Vc.nil kG
 exact kf b36 (Xan (Xat ku))
 refine Xap (Xae (Xac ?_))
 iterate 2 refine kO hT hC ?_
 exact Vc.nil kG
 exact kf b27 (Xan (Xat ku))
 refine Xae (Xab ?_)
 obtain ⟨hq, h⟩ := Xaw h
 refine Yqs hT hC rfl rfl rfl rfl ⟨hq.1, hq.2.1, hq.2.2, by decide⟩ ?_
 refine kO hT hC ?_
 refine Vc.nil (Xam (Xab ?_))
 refine kO hT hC ?_
 refine Vc.nil ?_
 refine kL [3,7,50] [176,784] [_,_,_] [_,_] ?_
 refine kX h (fun v123 => ([(50, .sv (.int .i64 v123.1))], [(784, some (.ints .i64 v123.2))])) (fun v154 => ([(3, .any), (50, .any)], [(784, some (.ints .i64 v154)), (176, none)])) (kW hC []) (fun v123 s h => ?_) fun v154 h => ?_
 unfold Xq5 at h
 refine Xab ?_
 refine kO hT hC ?_
 refine Vc.nil (Xam ?_)
 refine kS h ?_ ?_ <;> intro b66 h
 refine kt b66 (Xag (Xae (Xam (Xak (Xab ?_)))))
 iterate 2 refine kO hT hC ?_
 refine kN ?_
 refine kO hT hC ?_
 refine Vc.nil ?_
 refine kL [3,7,8,50,53] [176,784] [_,_,_,_,_] [_,_] ?_
 refine kX h (fun v164 => ([(53, .sv (.int .i64 v164.1))], [(784, some (.ints .i64 v164.2))])) (fun v174 => ([(8, .any), (53, .any)], [(784, some (.ints .i64 v174))])) (kW hC []) (fun v164 s h => ?_) fun v174 h => ?_
 unfold Xq6 at h
 refine Xab ?_
 refine kO hT hC ?_
 refine Vc.nil (Xam ?_)
 refine kS h ?_ ?_ <;> intro b75 h
 refine kt b75 (Xag (Xae (Xam (Xak (Xab ?_)))))
 iterate 2 refine kO hT hC ?_
 refine kN ?_
 refine kO hT hC ?_
 refine Vc.nil ?_
 refine kL [3,7,8,9,50,53,56] [176,784] [_,_,_,_,_,_,_] [_,_] ?_
 refine kX h (fun v177 => ([(56, .sv (.int .i64 v177.1))], [(784, some (.ints .i64 v177.2))])) (fun v180 => ([(9, .any), (56, .any)], [(784, some (.ints .i64 v180))])) (kW hC []) (fun v177 s h => ?_) fun v180 h => ?_
 unfold Xjl at h
 refine Xab ?_
 refine kO hT hC ?_
 refine Vc.nil (Xam ?_)
 refine kS h ?_ ?_ <;> intro b78 h
 refine kt b78 (Xag (Xae (Xam (Xak (Xab ?_)))))
 iterate 2 refine kO hT hC ?_
 refine Vc.nil ?_
 refine Xb4 hm ?_
 iterate 10 refine kO hT hC ?_
 iterate 2 refine kQ hT hC h fun h => ?_
 iterate 2 refine kO hT hC ?_
 refine kC hC [] Tryz.call298 h (fun _ => Xw7) fun q181 h => ?_
 iterate 5 refine kO hT hC ?_
 iterate 2 refine kQ hT hC h fun h => ?_
 iterate 2 refine kO hT hC ?_
 iterate 2 refine kQ hT hC h fun h => ?_
 refine kD (Xap (Xae (Xac ?_)))
 iterate 2 refine kO hT hC ?_
 exact Vc.nil kG
 exact kf b78 (Xan (Xat ku))
 refine Xap (Xae (Xac ?_))
 iterate 2 refine kO hT hC ?_
 exact Vc.nil kG
 exact kf b75 (Xan (Xat ku))
 refine Xap (Xae (Xac ?_))
 iterate 2 refine kO hT hC ?_
 exact Vc.nil kG
 exact kf b66 (Xan (Xat ku))
 refine Xae (Xab ?_)
 iterate 2 refine kO hT hC ?_
 refine Vc.nil (Xah ?_)
 obtain rfl := kj h
 exact Xby (τ := ⟨[(2, .own 16)], [(16, some (.ints .i64 v154))]⟩) (kW hC [(16, 784)]) rfl ⟨rfl, trivial⟩
def Yol (r : Int) : AV := .sv (.int .i64 r)
def Yok (r : Int) : Xax := []
theorem Xs0 {p0 p1 r} (h : Xo0 p0 p1 = some r) : AC Tryz.prog 303 [.sv (.int .i64 p0), .sv (.int .i64 p1)] [] (Yol r) (Yok r) := by
 refine Xaf hT Tryz.func303 rfl fun C hC => ?_
 unfold Xo0 at h
 refine Xab ?_
 refine kO hT hC ?_
 refine kN ?_
 iterate 2 refine kO hT hC ?_
 refine kQ hT hC h fun h => ?_
 refine kO hT hC ?_
 refine Vc.nil ?_
 refine kL [0,1,5] [] [_,_,_] [] ?_
 refine kA h (fun v1 => ([(5, .sv (.int .i64 v1)), (0, .any), (1, .any)], [])) (fun v1 h => ?_) fun v1 h => ?_
 refine Xab ?_
 iterate 2 refine kO hT hC ?_
 refine kQ hT hC h fun h => ?_
 refine kO hT hC ?_
 refine Vc.nil ?_
 refine kS h ?_ ?_ <;> intro b1 h
 refine kt b1 (Xac ?_)
 iterate 3 refine kO hT hC ?_
 exact Vc.nil kM
 exact kf b1 (Xag kM)
 refine Xab ?_
 iterate 2 refine kO hT hC ?_
 exact Vc.nil (Xah kR)
def Ygm (r : ((List Int) × (List Int))) : AV := .own 0
def Ygl (r : ((List Int) × (List Int))) : Xax := [(0, .ints .i64 r.2)]
theorem Xuw {p0 r} (h : Xkw p0 = some r) : AC Tryz.prog 300 [.own 0] [(0, .ints .i64 p0)] (Ygm r) (Ygl r) := by
 refine Xaf hT Tryz.func300 rfl fun C hC => ?_
 unfold Xkw at h
 refine Xab ?_
 refine kO hT hC ?_
 refine Vc.nil (Xam (Xab ?_))
 iterate 3 refine kO hT hC ?_
 refine Vc.nil ?_
 refine kL [0,5,6,7] [0] [_,_,_,_] [_] ?_
 refine kX h (fun v3 => ([(7, .sv (.int .i64 v3.1))], [(0, some (.ints .i64 v3.2))])) (fun v6 => ([(5, .any), (6, .any), (7, .any)], [(0, some (.ints .i64 v6))])) (kW hC []) (fun v3 s h => ?_) fun v6 h => ?_
 unfold Xpj at h
 refine Xab ?_
 refine kO hT hC ?_
 refine Vc.nil (Xam ?_)
 refine kS h ?_ ?_ <;> intro b3 h
 refine kt b3 (Xag (Xae (Xam (Xak (Xab ?_)))))
 refine kO hT hC ?_
 iterate 2 refine kQ hT hC h fun h => ?_
 iterate 2 refine kO hT hC ?_
 refine Vc.nil (Xac ?_)
 iterate 4 refine kO hT hC ?_
 refine kC hC [] Tryz.call303 h (fun _ => Xs0) fun q7 h => ?_
 iterate 2 refine kQ hT hC h fun h => ?_
 refine Vc.nil (Xap (Xae (Xac ?_)))
 iterate 2 refine kO hT hC ?_
 exact Vc.nil kG
 exact kf b3 (Xan (Xat ku))
 refine Xae (Xab ?_)
 iterate 2 refine kO hT hC ?_
 refine Vc.nil (Xah ?_)
 obtain rfl := kj h
 exact Xby (Xmd.refl _) rfl ⟨rfl, trivial⟩
def Xz5 (r : (List Int)) : AV := .own 16
def Xz4 (r : (List Int)) : Xax := [(16, .ints .i64 r)]
theorem Ycx {p0 r} (h : Xjf p0 = some r) : AC Tryz.prog 275 [.sv (.ints .i64 p0)] [] (Xz5 r) (Xz4 r) := by
 refine Xaf hT Tryz.func275 rfl fun C hC => ?_
 unfold Xjf at h
 refine Xab ?_
 refine kO hT hC ?_
 refine Vc.nil (Xam (Xab ?_))
 refine kO hT hC ?_
 refine kC hC [] Tryz.call197 h (fun _ => Xbx) fun q1 h => ?_
 refine kO hT hC ?_
 refine Vc.nil ?_
 refine kS h ?_ ?_ <;> intro b1 h
 refine kt b1 (Xab ?_)
 iterate 2 refine kO hT hC ?_
 refine Vc.nil (Xah (Xaq ?_))
 obtain rfl := kj h
 exact Xby (τ := ⟨[(2, .own 16)], [(16, some (.ints .i64 ([] : List Int)))]⟩) (kW hC [(16, 96)]) rfl ⟨rfl, trivial⟩
 refine kf b1 (Xag (Xae (Xab ?_)))
 refine kO hT hC ?_
 refine kC hC [(16, 128)] Tryz.call267 h (fun _ => Yff) fun q2 h => ?_
 refine kC hC [(0, 128)] Tryz.call300 h (fun _ => Xuw) fun q3 h => ?_
 refine kO hT hC ?_
 refine Vc.nil (Xah ?_)
 obtain rfl := kj h
 exact Xby (τ := ⟨[(2, .own 16)], [(16, some (.ints .i64 q3.2))]⟩) (kW hC [(16, 128)]) rfl ⟨rfl, trivial⟩
def Yjy (r : Int) : AV := .sv (.int .i64 r)
def Yjx (r : Int) : Xax := []
theorem Xw3 {p0 r} (h : Xsx p0 = some r) : AC Tryz.prog 299 [.sv (.int .i64 p0)] [] (Yjy r) (Yjx r) := by
 refine Xaf hT Tryz.func299 rfl fun C hC => ?_
 unfold Xsx at h
 refine Xab ?_
 refine kO hT hC ?_
 refine Vc.nil (Xam (Xab ?_))
 refine kO hT hC ?_
 refine kC hC [] Tryz.call116 h (fun _ => Xai) fun q1 h => ?_
 refine kO hT hC ?_
 refine Vc.nil ?_
 refine kS h ?_ ?_ <;> intro b1 h
 refine kt b1 (Xab ?_)
 refine kO hT hC ?_
 exact Vc.nil (Xah (Xaq kR))
 refine kf b1 (Xag (Xae (Xab ?_)))
 refine kO hT hC ?_
 iterate 2 refine kQ hT hC h fun h => ?_
 refine kO hT hC ?_
 iterate 2 refine kQ hT hC h fun h => ?_
 iterate 2 refine kO hT hC ?_
 refine Vc.nil (Xam (Xak ?_))
 refine kL [3,4] [] [_,_] [] ?_
 refine kA h (fun v2 => ([(14, .sv (.bool v2))], [])) (fun v2 h => ?_) fun v2 h => ?_
 refine Xac ?_
 iterate 3 refine kO hT hC ?_
 refine kS h ?_ ?_ <;> intro b2 h
 iterate 2 refine kI hT hC b2 ?_
 refine kP hC true b2 ?_
 refine kO hT hC ?_
 exact Vc.nil kM
 iterate 2 refine kF hC b2 ?_
 refine kP hC false b2 ?_
 refine kO hT hC ?_
 exact Vc.nil kM
 refine kS h ?_ ?_ <;> intro b3 h
 refine kt b3 (Xab ?_)
 refine kO hT hC ?_
 exact Vc.nil (Xah (Xer (Xaq kR)))
 refine kf b3 ?_
 refine kL [3,4] [] [_,_] [] ?_
 refine kA h (fun v3 => ([(21, .sv (.bool v3)), (3, .any), (4, .any)], [])) (fun v3 h => ?_) fun v3 h => ?_
 refine Xac ?_
 iterate 3 refine kO hT hC ?_
 refine kS h ?_ ?_ <;> intro b4 h
 iterate 2 refine kI hT hC b4 ?_
 refine kP hC true b4 ?_
 refine kO hT hC ?_
 exact Vc.nil kM
 iterate 2 refine kF hC b4 ?_
 refine kP hC false b4 ?_
 refine kO hT hC ?_
 exact Vc.nil kM
 refine kS h ?_ ?_ <;> intro b5 h
 refine kt b5 (Xab ?_)
 refine kO hT hC ?_
 exact Vc.nil (Xah (Xer (Xaq kR)))
 refine kf b5 (Xag (Xap (Xae (Xab ?_))))
 refine kO hT hC ?_
 exact Vc.nil (Xah kR)
def Yga (r : Int) : AV := .sv (.int .i64 r)
def Yf9 (r : Int) : Xax := []
theorem Yj3 {p0 p1 r} (h : Xnr p0 p1 = some r) : AC Tryz.prog 301 [.sv (.int .i64 p0), .sv (.int .i64 p1)] [] (Yga r) (Yf9 r) := by
 refine Xaf hT Tryz.func301 rfl fun C hC => ?_
 unfold Xnr at h
 refine Xab ?_
 refine kO hT hC ?_
 refine Vc.nil (Xam ?_)
 refine kL [0,1] [] [_,_] [] ?_
 refine kA h (fun v1 => ([(13, .sv (.bool v1))], [])) (fun v1 h => ?_) fun v1 h => ?_
 refine Xac ?_
 refine kO hT hC ?_
 refine kC hC [] Tryz.call116 h (fun _ => Xai) fun q2 h => ?_
 iterate 2 refine kO hT hC ?_
 refine kS h ?_ ?_ <;> intro b1 h
 refine kI hT hC (kn b1) ?_
 refine kE hC (kn b1) [] Tryz.call116 h (fun _ => Xai) fun q3 h => ?_
 refine kI hT hC (kn b1) ?_
 refine kP hC false (kn b1) ?_
 exact Vc.nil kM
 iterate 3 refine kF hC (kn b1) ?_
 refine kP hC true (kn b1) ?_
 exact Vc.nil kM
 refine kS h ?_ ?_ <;> intro b2 h
 refine kt b2 (Xab ?_)
 refine kO hT hC ?_
 exact Vc.nil (Xah (Xaq kR))
 refine kf b2 (Xag (Xae (Xab ?_)))
 iterate 9 refine kO hT hC ?_
 refine Vc.nil ?_
 refine Xbs hm ?_
 refine kO hT hC ?_
 refine kQ hT hC h fun h => ?_
 refine kO hT hC ?_
 refine kC hC [] Tryz.call299 h (fun _ => Xw3) fun q4 h => ?_
 iterate 2 refine kQ hT hC h fun h => ?_
 obtain ⟨hq, h⟩ := Xaw h
 refine Zgm hT hC rfl rfl rfl rfl rfl rfl hq ?_
 refine kO hT hC ?_
 iterate 2 refine kQ hT hC h fun h => ?_
 refine kO hT hC ?_
 exact kD (Xah kR)
def Yag (r : Int) : AV := .sv (.int .i64 r)
def Yaf (r : Int) : Xax := []
theorem Yc8 {p0 p1 p2 r} (h : Xji p0 p1 p2 = some r) : AC Tryz.prog 276 [.sv (.int .i64 p0), .sv (.int .i64 p1), .sv (.int .i64 p2)] [] (Yag r) (Yaf r) := by
 refine Xaf hT Tryz.func276 rfl fun C hC => ?_
 unfold Xji at h
 refine Xab ?_
 refine kO hT hC ?_
 refine Vc.nil (Xam (Xab ?_))
 refine kO hT hC ?_
 refine kC hC [] Tryz.call116 h (fun _ => Xai) fun q1 h => ?_
 refine kO hT hC ?_
 refine Vc.nil ?_
 refine kS h ?_ ?_ <;> intro b1 h
 refine kt b1 (Xab ?_)
 refine kO hT hC ?_
 exact Vc.nil (Xah (Xaq kR))
 refine kf b1 (Xag (Xae (Xab ?_)))
 iterate 3 refine kO hT hC ?_
 refine kC hC [] Tryz.call301 h (fun _ => Yj3) fun q2 h => ?_
 iterate 2 refine kO hT hC ?_
 exact Vc.nil (Xah kR)
def Xyd (r : (Int × Int × Int × Int)) : AV := .agg [.sv (.int .i64 r.1), .sv (.int .i64 r.2.1), .sv (.int .i64 r.2.2.1), .sv (.int .i64 r.2.2.2)]
def Xyc (r : (Int × Int × Int × Int)) : Xax := []
theorem Xqk {p0 p1 p2 p3 r} (h : Xea p0 p1 p2 p3 = some r) : AC Tryz.prog 302 [.sv (.int .i64 p0), .sv (.int .i64 p1), .sv (.int .i64 p2), .sv (.int .i64 p3)] [] (Xyd r) (Xyc r) := by
 refine Xaf hT Tryz.func302 rfl fun C hC => ?_
 unfold Xea at h
 refine Xab ?_
 refine kO hT hC ?_
 refine kN ?_
 iterate 7 refine kO hT hC ?_
 refine kC hC [] Tryz.call303 h (fun _ => Xs0) fun q1 h => ?_
 iterate 4 refine kO hT hC ?_
 refine kC hC [] Tryz.call303 h (fun _ => Xs0) fun q2 h => ?_
 iterate 5 refine kO hT hC ?_
 refine kN ?_
 iterate 14 refine kO hT hC ?_
 exact Vc.nil (Xah kR)
def Xmu (r : (List Int)) : AV := .own 16
def Xmt (r : (List Int)) : Xax := [(16, .ints .i64 r)]
theorem Xnv {p0 r} (h : Xcf p0 = some r) : AC Tryz.prog 270 [.sv (.ints .i64 p0), .fn 302 []] [] (Xmu r) (Xmt r) := by
 refine Xaf hT Tryz.func270 rfl fun C hC => ?_
 unfold Xcf at h
 refine Xab ?_
 refine kO hT hC ?_
 refine kN ?_
 refine kO hT hC ?_
 refine kC hC [(16, 208)] Tryz.call146 h (fun _ => Xj0) fun q1 h => ?_
 refine kO hT hC ?_
 refine Vc.nil (Xam (Xab ?_))
 refine kO hT hC ?_
 refine Vc.nil ?_
 refine kL [1,5,6] [208] [_,_,_] [_] ?_
 refine kX h (fun v4 => ([(6, .sv (.int .i64 v4.1))], [(208, some (.ints .i64 v4.2))])) (fun v7 => ([(6, .any)], [(208, some (.ints .i64 v7))])) (kW hC []) (fun v4 s h => ?_) fun v7 h => ?_
 unfold Xgi at h
 refine Xam (Xab ?_)
 iterate 2 refine kO hT hC ?_
 refine Vc.nil ?_
 refine kS h ?_ ?_ <;> intro b3 h
 refine kt b3 (Xag (Xae (Xam (Xak ?_))))
 refine Xbs hm ?_
 iterate 3 refine kO hT hC ?_
 iterate 2 refine kQ hT hC h fun h => ?_
 iterate 3 refine kO hT hC ?_
 iterate 2 refine kQ hT hC h fun h => ?_
 iterate 3 refine kO hT hC ?_
 iterate 2 refine kQ hT hC h fun h => ?_
 iterate 3 refine kO hT hC ?_
 iterate 2 refine kQ hT hC h fun h => ?_
 refine kC hC [] Tryz.call302 h (fun _ => Xqk) fun q8 h => ?_
 iterate 2 refine kO hT hC ?_
 refine kD ?_
 refine Xb4 hm ?_
 iterate 4 refine kO hT hC ?_
 refine kQ hT hC h fun h => ?_
 refine Zgj hT hC rfl rfl rfl rfl rfl rfl rfl rfl rfl ?_
 obtain ⟨hq, h⟩ := Xaw h
 refine Zd4 hT hC rfl rfl rfl rfl rfl rfl rfl rfl rfl ⟨⟨trivial, hq.1⟩, hq.2⟩ ?_
 refine kD (Xap (Xae (Xac ?_)))
 iterate 3 refine kO hT hC ?_
 exact Vc.nil kG
 exact kf b3 (Xan (Xat ku))
 refine Xae (Xam (Xab ?_))
 refine kO hT hC ?_
 refine Vc.nil ?_
 refine kL [1,5,46] [208] [_,_,_] [_] ?_
 refine kX h (fun v17 => ([(46, .sv (.int .i64 v17.1))], [(208, some (.ints .i64 v17.2))])) (fun v25 => ([(1, .any), (46, .any)], [(208, some (.ints .i64 v25))])) (kW hC []) (fun v17 s h => ?_) fun v25 h => ?_
 unfold Xf1 at h
 refine Xab ?_
 refine kO hT hC ?_
 refine Vc.nil (Xam ?_)
 refine kS h ?_ ?_ <;> intro b12 h
 refine kt b12 (Xag (Xae (Xam (Xak (Xab ?_)))))
 iterate 2 refine kO hT hC ?_
 refine Vc.nil ?_
 refine Xbs hm ?_
 iterate 3 refine kO hT hC ?_
 iterate 2 refine kQ hT hC h fun h => ?_
 iterate 3 refine kO hT hC ?_
 iterate 2 refine kQ hT hC h fun h => ?_
 iterate 3 refine kO hT hC ?_
 iterate 2 refine kQ hT hC h fun h => ?_
 iterate 3 refine kO hT hC ?_
 iterate 2 refine kQ hT hC h fun h => ?_
 refine kC hC [] Tryz.call302 h (fun _ => Xqk) fun q26 h => ?_
 iterate 2 refine kO hT hC ?_
 refine kD (Xab ?_)
 iterate 2 refine kO hT hC ?_
 refine Vc.nil ?_
 refine kL [1,5,8,46,70,71] [208] [_,_,_,_,_,_] [_] ?_
 refine kX h (fun v28 => ([(71, .sv (.int .i64 v28.1))], [(208, some (.ints .i64 v28.2))])) (fun v30 => ([(8, .any), (70, .any), (71, .any)], [(208, some (.ints .i64 v30))])) (kW hC []) (fun v28 s h => ?_) fun v30 h => ?_
 unfold Xf2 at h
 refine Xab ?_
 refine kO hT hC ?_
 refine Vc.nil (Xam ?_)
 refine kS h ?_ ?_ <;> intro b15 h
 refine kt b15 (Xag (Xae (Xam (Xak (Xab ?_)))))
 refine kO hT hC ?_
 obtain ⟨hq, h⟩ := Xaw h
 refine Zgk hT hC rfl rfl rfl rfl rfl rfl rfl hq ?_
 iterate 2 refine kO hT hC ?_
 refine Vc.nil (Xac ?_)
 iterate 6 refine kO hT hC ?_
 iterate 2 refine kQ hT hC h fun h => ?_
 refine Vc.nil (Xap (Xae (Xac ?_)))
 iterate 2 refine kO hT hC ?_
 exact Vc.nil kG
 exact kf b15 (Xan (Xat ku))
 refine Xap (Xae (Xac ?_))
 iterate 2 refine kO hT hC ?_
 exact Vc.nil kG
 exact kf b12 (Xan (Xat ku))
 refine Xae (Xab ?_)
 iterate 2 refine kO hT hC ?_
 refine Vc.nil (Xah ?_)
 obtain rfl := kj h
 exact Xby (τ := ⟨[(4, .own 16)], [(16, some (.ints .i64 v25))]⟩) (kW hC [(16, 208)]) rfl ⟨rfl, trivial⟩
def Ycz (r : (List Int)) : AV := .own 16
def Ycy (r : (List Int)) : Xax := [(16, .ints .i64 r)]
theorem Yfy {p0 r} (h : Xlb p0 = some r) : AC Tryz.prog 277 [.sv (.ints .i64 p0)] [] (Ycz r) (Ycy r) := by
 refine Xaf hT Tryz.func277 rfl fun C hC => ?_
 unfold Xlb at h
 refine Xab ?_
 refine kO hT hC ?_
 refine Vc.nil (Xam (Xab ?_))
 refine kO hT hC ?_
 refine kC hC [] Tryz.call197 h (fun _ => Xbx) fun q1 h => ?_
 refine kO hT hC ?_
 refine Vc.nil ?_
 refine kS h ?_ ?_ <;> intro b1 h
 refine kt b1 (Xab ?_)
 iterate 2 refine kO hT hC ?_
 refine Vc.nil (Xah (Xaq ?_))
 obtain rfl := kj h
 exact Xby (τ := ⟨[(2, .own 16)], [(16, some (.ints .i64 ([] : List Int)))]⟩) (kW hC [(16, 96)]) rfl ⟨rfl, trivial⟩
 refine kf b1 (Xag (Xae (Xab ?_)))
 refine kO hT hC ?_
 refine kC hC [(16, 128)] Tryz.call270 h (fun _ => Xnv) fun q2 h => ?_
 refine kC hC [(0, 128)] Tryz.call300 h (fun _ => Xuw) fun q3 h => ?_
 refine kO hT hC ?_
 refine Vc.nil (Xah ?_)
 obtain rfl := kj h
 exact Xby (τ := ⟨[(2, .own 16)], [(16, some (.ints .i64 q3.2))]⟩) (kW hC [(16, 128)]) rfl ⟨rfl, trivial⟩
def Ygk (r : (List Int)) : AV := .own 16
def Ygj (r : (List Int)) : Xax := [(16, .ints .i64 r)]
theorem Xuv {p0 r} (h : Xkt p0 = some r) : AC Tryz.prog 240 [.sv (.int .i64 p0)] [] (Ygk r) (Ygj r) := by
 refine Xaf hT Tryz.func240 rfl fun C hC => ?_
 unfold Xkt at h
 refine Xab ?_
 refine kO hT hC ?_
 refine kN ?_
 iterate 2 refine kO hT hC ?_
 refine Vc.nil (Xam (Xab ?_))
 refine kO hT hC ?_
 refine Vc.nil ?_
 refine kL [0,3,7] [96] [_,_,_] [_] ?_
 refine kX h (fun v7 => ([(7, .sv (.int .i64 v7.1))], [(96, some (.ints .i64 v7.2))])) (fun v14 => ([(0, .any), (7, .any)], [(96, some (.ints .i64 v14))])) (kW hC []) (fun v7 s h => ?_) fun v14 h => ?_
 unfold Xj2 at h
 refine Xab ?_
 refine kO hT hC ?_
 refine Vc.nil (Xam ?_)
 refine kS h ?_ ?_ <;> intro b9 h
 refine kt b9 (Xag (Xae (Xam (Xak (Xab ?_)))))
 iterate 2 refine kO hT hC ?_
 refine kN ?_
 refine kO hT hC ?_
 refine Vc.nil ?_
 refine kL [0,3,4,7,10] [96] [_,_,_,_,_] [_] ?_
 refine kX h (fun v16 => ([(10, .sv (.int .i64 v16.1))], [(96, some (.ints .i64 v16.2))])) (fun v18 => ([(4, .any), (10, .any)], [(96, some (.ints .i64 v18))])) (kW hC []) (fun v16 s h => ?_) fun v18 h => ?_
 unfold Xoa at h
 refine Xab ?_
 refine kO hT hC ?_
 refine Vc.nil (Xam ?_)
 refine kS h ?_ ?_ <;> intro b12 h
 refine kt b12 (Xag (Xae (Xam (Xak (Xab ?_)))))
 iterate 2 refine kO hT hC ?_
 refine Vc.nil (Xac ?_)
 iterate 3 refine kO hT hC ?_
 refine kQ hT hC h fun h => ?_
 iterate 6 refine kO hT hC ?_
 refine kQ hT hC h fun h => ?_
 iterate 3 refine kO hT hC ?_
 refine kT hT hC h fun h => ?_
 refine kO hT hC ?_
 refine Vc.nil (Xap (Xae (Xac ?_)))
 iterate 2 refine kO hT hC ?_
 refine Vc.nil ?_
 obtain rfl := kj h
 exact Yd2 (kW hC [(96, 432)])
 exact kf b12 (Xan (Xat ku))
 refine Xap (Xae (Xac ?_))
 iterate 2 refine kO hT hC ?_
 exact Vc.nil kG
 exact kf b9 (Xan (Xat ku))
 refine Xae (Xab ?_)
 iterate 2 refine kO hT hC ?_
 refine Vc.nil (Xah ?_)
 obtain rfl := kj h
 exact Xby (τ := ⟨[(2, .own 16)], [(16, some (.ints .i64 v14))]⟩) (kW hC [(16, 96)]) rfl ⟨rfl, trivial⟩
def Xyh (r : ((List Int) × Bool)) : AV := .tup [.own 16, .sv (.bool r.2)]
def Xyg (r : ((List Int) × Bool)) : Xax := [(16, .ints .i64 r.1)]
theorem Yaa {p0 p1 r} (h : Xhq p0 p1 = some r) : AC Tryz.prog 246 [.sv (.ints .i64 p0), .agg [.sv (.bool p1.Key), .sv (.int .i64 p1.Qp), .sv (.bool p1.Large), .sv (.bool p1.Exact)]] [] (Xyh r) (Xyg r) := by
 refine Xaf hT Tryz.func246 rfl fun C hC => ?_
 unfold Xhq at h
 refine Xab ?_
 iterate 3 refine kO hT hC ?_
 refine Vc.nil (Xam ?_)
 refine kL [0,3] [48] [_,_] [_] ?_
 refine kA h (fun v1 => ([(26, .sv (.bool v1))], [])) (fun v1 h => ?_) fun v1 h => ?_
 refine Xac ?_
 refine kO hT hC ?_
 refine kC hC [] Tryz.call248 h (fun _ => Xmq) fun q2 h => ?_
 iterate 2 refine kO hT hC ?_
 refine kS h ?_ ?_ <;> intro b1 h
 refine kI hT hC (kn b1) ?_
 refine kE hC (kn b1) [] Tryz.call127 h (fun _ => Xhb) fun q3 h => ?_
 refine kI hT hC (kn b1) ?_
 refine kP hC false (kn b1) ?_
 exact Vc.nil kM
 iterate 3 refine kF hC (kn b1) ?_
 refine kP hC true (kn b1) ?_
 exact Vc.nil kM
 refine kS h ?_ ?_ <;> intro b2 h
 refine kt b2 (Xab ?_)
 iterate 3 refine kO hT hC ?_
 refine Vc.nil (Xah (Xaq ?_))
 obtain rfl := kj h
 exact Xby (τ := ⟨[(4, .own 16), (5, .sv (.bool false))], [(16, some (.ints .i64 ([] : List Int)))]⟩) (kW hC [(16, 432)]) rfl ⟨rfl, trivial⟩
 refine kf b2 (Xag (Xae (Xam (Xab ?_))))
 iterate 2 refine kO hT hC ?_
 refine Vc.nil ?_
 refine kS h ?_ ?_ <;> intro b3 h
 refine kt b3 (Xab ?_)
 refine kO hT hC ?_
 refine kC hC [(16, 496)] Tryz.call273 h (fun _ => Xmp) fun q4 h => ?_
 iterate 4 refine kO hT hC ?_
 refine Vc.nil (Xah (Xaq ?_))
 obtain rfl := kj h
 exact Xby (τ := ⟨[(4, .own 16), (5, .sv (.bool q4.2))], [(16, some (.ints .i64 q4.1))]⟩) (kW hC [(16, 496)]) rfl ⟨rfl, trivial⟩
 refine kf b3 (Xag (Xae (Xam (Xab ?_))))
 iterate 2 refine kO hT hC ?_
 refine Vc.nil ?_
 refine kS h ?_ ?_ <;> intro b4 h
 refine kt b4 (Xab ?_)
 refine kO hT hC ?_
 refine kC hC [(16, 608)] Tryz.call273 h (fun _ => Xmp) fun q5 h => ?_
 iterate 5 refine kO hT hC ?_
 refine Vc.nil (Xam (Xab ?_))
 iterate 3 refine kO hT hC ?_
 refine Vc.nil ?_
 refine kL [3,6,41,42,43] [48,608] [_,_,_,_,_] [_,_] ?_
 refine kX h (fun v8 => ([(43, .sv (.int .i64 v8.1))], [(608, some (.ints .i64 v8.2))])) (fun v11 => ([(3, .any), (41, .any), (42, .any), (43, .any)], [(608, some (.ints .i64 v11)), (48, none)])) (kW hC []) (fun v8 s h => ?_) fun v11 h => ?_
 unfold Xe0 at h
 refine Xab ?_
 refine kO hT hC ?_
 refine Vc.nil (Xam ?_)
 refine kS h ?_ ?_ <;> intro b7 h
 refine kt b7 (Xag (Xae (Xam (Xak (Xab ?_)))))
 refine kO hT hC ?_
 iterate 2 refine kQ hT hC h fun h => ?_
 iterate 2 refine kO hT hC ?_
 refine Vc.nil (Xac ?_)
 iterate 5 refine kO hT hC ?_
 refine kC hC [] Tryz.call274 h (fun _ => Yc0) fun q12 h => ?_
 iterate 2 refine kQ hT hC h fun h => ?_
 refine Vc.nil (Xap (Xae (Xac ?_)))
 iterate 2 refine kO hT hC ?_
 exact Vc.nil kG
 exact kf b7 (Xan (Xat ku))
 refine Xae (Xab ?_)
 refine kO hT hC ?_
 refine kC hC [(16, 912)] Tryz.call275 h (fun _ => Ycx) fun q14 h => ?_
 iterate 2 refine kO hT hC ?_
 refine Vc.nil (Xah (Xaq ?_))
 obtain rfl := kj h
 exact Xby (τ := ⟨[(4, .own 16), (5, .sv (.bool true))], [(16, some (.ints .i64 q14))]⟩) (kW hC [(16, 912)]) rfl ⟨rfl, trivial⟩
 refine kf b4 (Xag (Xae (Xab ?_)))
 obtain ⟨hq, h⟩ := Xaw h
 refine Yqs hT hC rfl rfl rfl rfl ⟨hq.1, hq.2.1, hq.2.2, by decide⟩ ?_
 refine kO hT hC ?_
 refine Vc.nil (Xam (Xab ?_))
 refine kO hT hC ?_
 refine Vc.nil ?_
 refine kL [0,3,10,59] [48,928] [_,_,_,_] [_,_] ?_
 refine kX h (fun v32 => ([(59, .sv (.int .i64 v32.1))], [(928, some (.ints .i64 v32.2))])) (fun v50 => ([(0, .any), (3, .any), (59, .any)], [(928, some (.ints .i64 v50)), (48, none)])) (kW hC []) (fun v32 s h => ?_) fun v50 h => ?_
 unfold Xkc at h
 refine Xab ?_
 refine kO hT hC ?_
 refine Vc.nil (Xam ?_)
 refine kS h ?_ ?_ <;> intro b22 h
 refine kt b22 (Xag (Xae (Xam (Xak (Xab ?_)))))
 iterate 2 refine kO hT hC ?_
 refine kN ?_
 iterate 6 refine kO hT hC ?_
 refine kQ hT hC h fun h => ?_
 refine kC hC [(16, 1120)] Tryz.call273 h (fun _ => Xmp) fun q51 h => ?_
 iterate 5 refine kO hT hC ?_
 refine Vc.nil (Xam (Xab ?_))
 iterate 3 refine kO hT hC ?_
 refine Vc.nil ?_
 refine kL [0,3,10,11,12,59,73,74,75] [48,928,1120] [_,_,_,_,_,_,_,_,_] [_,_,_] ?_
 refine kX h (fun v54 => ([(75, .sv (.int .i64 v54.1))], [(1120, some (.ints .i64 v54.2))])) (fun v57 => ([(73, .any), (74, .any), (75, .any)], [(1120, some (.ints .i64 v57))])) (kW hC []) (fun v54 s h => ?_) fun v57 h => ?_
 unfold Xeb at h
 refine Xab ?_
 refine kO hT hC ?_
 refine Vc.nil (Xam ?_)
 refine kS h ?_ ?_ <;> intro b25 h
 refine kt b25 (Xag (Xae (Xam (Xak (Xab ?_)))))
 refine kO hT hC ?_
 iterate 2 refine kQ hT hC h fun h => ?_
 iterate 2 refine kO hT hC ?_
 refine Vc.nil (Xac ?_)
 iterate 6 refine kO hT hC ?_
 refine kC hC [] Tryz.call276 h (fun _ => Yc8) fun q58 h => ?_
 iterate 2 refine kQ hT hC h fun h => ?_
 refine Vc.nil (Xap (Xae (Xac ?_)))
 iterate 2 refine kO hT hC ?_
 exact Vc.nil kG
 exact kf b25 (Xan (Xat ku))
 refine Xae (Xab ?_)
 refine kO hT hC ?_
 refine kC hC [(16, 1440)] Tryz.call277 h (fun _ => Yfy) fun q60 h => ?_
 refine kO hT hC ?_
 refine kN ?_
 refine kO hT hC ?_
 refine kC hC [(16, 1472)] Tryz.call240 h (fun _ => Xuv) fun q61 h => ?_
 iterate 2 refine kO hT hC ?_
 refine Vc.nil ?_
 refine kL [0,3,10,16,59,92,93,94] [48,928,1440,1472] [_,_,_,_,_,_,_,_] [_,_,_,_] ?_
 refine kX h (fun v63 => ([(94, .sv (.int .i64 v63.1))], [(928, some (.ints .i64 v63.2))])) (fun v65 => ([(16, .any), (92, .any), (93, .any), (94, .any)], [(928, some (.ints .i64 v65)), (1440, none), (1472, none)])) (kW hC []) (fun v63 s h => ?_) fun v65 h => ?_
 unfold Xgp at h
 refine Xab ?_
 refine kO hT hC ?_
 refine Vc.nil (Xam ?_)
 refine kS h ?_ ?_ <;> intro b28 h
 refine kt b28 (Xag (Xae (Xam (Xak (Xab ?_)))))
 refine kO hT hC ?_
 iterate 2 refine kQ hT hC h fun h => ?_
 iterate 2 refine kO hT hC ?_
 refine Vc.nil (Xac ?_)
 iterate 4 refine kO hT hC ?_
 iterate 4 refine kQ hT hC h fun h => ?_
 refine Vc.nil (Xap (Xae (Xac ?_)))
 iterate 2 refine kO hT hC ?_
 exact Vc.nil kG
 exact kf b28 (Xan (Xat ku))
 refine Xap (Xae (Xac ?_))
 iterate 2 refine kO hT hC ?_
 exact Vc.nil kG
 exact kf b22 (Xan (Xat ku))
 refine Xae (Xab ?_)
 iterate 3 refine kO hT hC ?_
 refine Vc.nil (Xah ?_)
 obtain rfl := kj h
 exact Xby (τ := ⟨[(4, .own 16), (5, .sv (.bool true))], [(16, some (.ints .i64 v50))]⟩) (kW hC [(16, 928)]) rfl ⟨rfl, trivial⟩
def Yju (r : (List Int)) : AV := .own 16
def Yjt (r : (List Int)) : Xax := [(16, .ints .i64 r)]
theorem Xw1 {p0 p1 r} (h : Xmj p0 p1 = some r) : AC Tryz.prog 247 [.sv (.ints .i64 p0), .sv (.ints .i64 p1)] [] (Yju r) (Yjt r) := by
 refine Xaf hT Tryz.func247 rfl fun C hC => ?_
 unfold Xmj at h
 refine Xab ?_
 refine kO hT hC ?_
 refine kN ?_
 iterate 2 refine kO hT hC ?_
 refine Vc.nil (Xam ?_)
 refine kL [0,1,5] [128] [_,_,_] [_] ?_
 refine kA h (fun v1 => ([(16, .sv (.bool v1))], [])) (fun v1 h => ?_) fun v1 h => ?_
 refine Xac ?_
 refine kO hT hC ?_
 refine kC hC [] Tryz.call197 h (fun _ => Xbx) fun q2 h => ?_
 iterate 2 refine kO hT hC ?_
 refine kS h ?_ ?_ <;> intro b1 h
 refine kI hT hC (kn b1) ?_
 refine kE hC (kn b1) [] Tryz.call197 h (fun _ => Xbx) fun q3 h => ?_
 refine kI hT hC (kn b1) ?_
 refine kP hC false (kn b1) ?_
 exact Vc.nil kM
 iterate 3 refine kF hC (kn b1) ?_
 refine kP hC true (kn b1) ?_
 exact Vc.nil kM
 refine kS h ?_ ?_ <;> intro b2 h
 refine kt b2 (Xab ?_)
 iterate 2 refine kO hT hC ?_
 refine Vc.nil (Xah (Xaq ?_))
 obtain rfl := kj h
 exact Xby (τ := ⟨[(4, .own 16)], [(16, some (.ints .i64 ([] : List Int)))]⟩) (kW hC [(16, 128)]) rfl ⟨rfl, trivial⟩
 refine kf b2 (Xag (Xae (Xam (Xab ?_))))
 iterate 3 refine kO hT hC ?_
 refine Vc.nil ?_
 refine kL [1,5,18,19,20] [128] [_,_,_,_,_] [_] ?_
 refine kX h (fun v6 => ([(20, .sv (.int .i64 v6.1))], [(128, some (.ints .i64 v6.2))])) (fun v9 => ([(1, .any), (18, .any), (19, .any), (20, .any)], [(128, some (.ints .i64 v9))])) (kW hC []) (fun v6 s h => ?_) fun v9 h => ?_
 unfold Xnd at h
 refine Xab ?_
 refine kO hT hC ?_
 refine Vc.nil (Xam ?_)
 refine kS h ?_ ?_ <;> intro b5 h
 refine kt b5 (Xag (Xae (Xam (Xak (Xab ?_)))))
 refine kO hT hC ?_
 refine kQ hT hC h fun h => ?_
 iterate 3 refine kO hT hC ?_
 refine Vc.nil (Xac ?_)
 iterate 4 refine kO hT hC ?_
 refine kQ hT hC h fun h => ?_
 iterate 2 refine kO hT hC ?_
 refine kC hC [] Tryz.call141 h (fun _ => Xd9) fun q10 h => ?_
 refine kO hT hC ?_
 refine kT hT hC h fun h => ?_
 refine kO hT hC ?_
 refine Vc.nil (Xap (Xae (Xac ?_)))
 iterate 2 refine kO hT hC ?_
 refine Vc.nil ?_
 obtain rfl := kj h
 exact Yd2 (kW hC [(128, 544)])
 exact kf b5 (Xan (Xat ku))
 refine Xae (Xab ?_)
 iterate 2 refine kO hT hC ?_
 refine Vc.nil (Xah ?_)
 obtain rfl := kj h
 exact Xby (τ := ⟨[(4, .own 16)], [(16, some (.ints .i64 v9))]⟩) (kW hC [(16, 128)]) rfl ⟨rfl, trivial⟩
def Yfx (r : (Xim × Bool)) : AV := .tup [.agg [.own 16, .own 17, .sv (.int .i64 r.1.Corner)], .sv (.bool r.2)]
def Yfw (r : (Xim × Bool)) : Xax := [(16, .ints .i64 r.1.Above), (17, .ints .i64 r.1.Left)]
theorem Xum {p0 p1 p2 r} (h : Xkn p0 p1 p2 = some r) : AC Tryz.prog 198 [.agg [.sv (.int .i64 p0.Wide), .sv (.int .i64 p0.High), .sv (.str p0.Dots)], .sv (.int .i64 p1), .sv (.int .i64 p2)] [] (Yfx r) (Yfw r) := by
 refine Xaf hT Tryz.func198 rfl fun C hC => ?_
 unfold Xkn at h
 refine Xab ?_
 iterate 3 refine kO hT hC ?_
 refine Vc.nil (Xam ?_)
 refine kL [1,2,3,6] [48,96] [_,_,_,_] [_,_] ?_
 refine kA h (fun v1 => ([(19, .sv (.bool v1))], [])) (fun v1 h => ?_) fun v1 h => ?_
 refine Xac ?_
 refine kO hT hC ?_
 refine kC hC [] Tryz.call47 h (fun _ => Xds) fun q2 h => ?_
 iterate 2 refine kO hT hC ?_
 refine kS h ?_ ?_ <;> intro b1 h
 iterate 3 refine kI hT hC (kn b1) ?_
 refine kE hC (kn b1) [] Tryz.call196 h (fun _ => Xft) fun q3 h => ?_
 refine kI hT hC (kn b1) ?_
 refine kP hC false (kn b1) ?_
 exact Vc.nil kM
 iterate 5 refine kF hC (kn b1) ?_
 refine kP hC true (kn b1) ?_
 exact Vc.nil kM
 refine kS h ?_ ?_ <;> intro b2 h
 refine kt b2 (Xab ?_)
 iterate 3 refine kO hT hC ?_
 refine Vc.nil (Xah (Xaq ?_))
 obtain rfl := kj h
 refine Xby (τ := ⟨[(6, .ptr 2000000 0), (7, .sv (.bool false))], [(16, some (.ints .i64 [])), (17, some (.ints .i64 [])), (2000000, some (.box [.own 16, .own 17, .sv (.int .i64 0)]))]⟩) ?_ rfl ⟨rfl, rfl, trivial⟩
 refine Xol hC 96 0 1105 (.ints .i64 []) rfl rfl rfl rfl rfl trivial ?_
 refine Xol hC 96 1 1106 (.ints .i64 []) rfl rfl rfl rfl rfl trivial ?_
 apply Xdo hC [(16, 1105), (17, 1106), (2000000, 96)]
 exact co
 rfl
 decide
 rfl
 refine kf b2 (Xag (Xae (Xab ?_)))
 iterate 3 refine kO hT hC ?_
 refine Vc.nil (Xam (Xab ?_))
 refine kO hT hC ?_
 refine Vc.nil ?_
 refine kL [1,2,3,6,8,22] [48,96,128] [_,_,_,_,_,_] [_,_,_] ?_
 obtain ⟨v15, hl, h⟩ := Xa3 h
 refine Zbd (fun v9 => ([(22, .sv (.int .i64 v9.1))], [(128, some (.box [.own 1129, .own 1130, .sv (.int .i64 (-1))])), (1129, some (.ints .i64 v9.2.1)), (1130, some (.ints .i64 v9.2.2))])) (fun v15 => ([(22, .any)], [(128, some (.box [.own 1133, .own 1134, .sv (.int .i64 (-1))])), (1133, some (.ints .i64 v15.1)), (1134, some (.ints .i64 v15.2))])) hl ?_ ?_ ?_
 refine Xol hC 128 0 1135 (.ints .i64 []) rfl rfl rfl rfl rfl trivial ?_
 refine Xol hC 128 1 1136 (.ints .i64 []) rfl rfl rfl rfl rfl trivial ?_
 try dsimp only
 apply Xdo hC [(1129, 1135), (1130, 1136)]
 exact co
 rfl
 decide
 rfl
 intro v9 s hs
 have h := hs
 unfold Xla at h
 refine Xab ?_
 refine kO hT hC ?_
 refine Vc.nil (Xam ?_)
 refine kS h ?_ ?_ <;> intro b9 h
 refine kt b9 (Xag (Xae ?_))
 refine kL [1,2,3,6,8,22] [48,96,128,1129,1130] [_,_,_,_,_,_] [_,_,_,_,_] ?_
 refine kA h (fun v16 => ([], [(1129, some (.ints .i64 v16.1)), (1130, some (.ints .i64 v16.2))])) (fun v16 h => ?_) fun v16 h => ?_
 refine Xak (Xab ?_)
 iterate 2 refine kO hT hC ?_
 refine Vc.nil ?_
 refine kL [1,2,3,6,8,9,22] [48,96,128,1129,1130] [_,_,_,_,_,_,_] [_,_,_,_,_] ?_
 refine kA h (fun v17 => ([], [(1129, some (.ints .i64 v17))])) (fun v17 h => ?_) fun v17 h => ?_
 refine Xab ?_
 iterate 2 refine kO hT hC ?_
 refine Vc.nil ?_
 refine kS h ?_ ?_ <;> intro b10 h
 refine kt b10 ?_
 refine Xb4 hm ?_
 iterate 8 refine kO hT hC ?_
 refine kC hC [] Tryz.call206 h (fun _ => Xlc) fun q18 h => ?_
 refine kO hT hC ?_
 refine kT hT hC h fun h => ?_
 iterate 2 refine kO hT hC ?_
 refine kD ?_
 obtain rfl := kj h
 exact Xhz (kW hC [(1129, 592)])
 exact kf b10 (Xag kM)
 refine Xab ?_
 iterate 2 refine kO hT hC ?_
 refine Vc.nil ?_
 refine kS h ?_ ?_ <;> intro b11 h
 refine kt b11 ?_
 refine Xb4 hm ?_
 iterate 8 refine kO hT hC ?_
 refine kC hC [] Tryz.call206 h (fun _ => Xlc) fun q19 h => ?_
 refine kO hT hC ?_
 refine kT hT hC h fun h => ?_
 iterate 2 refine kO hT hC ?_
 refine kD (Xap ?_)
 obtain rfl := kj h
 exact Xhz (kW hC [(1130, 816)])
 exact kf b11 (Xag (Xap kM))
 refine Xac ?_
 iterate 2 refine kO hT hC ?_
 exact Vc.nil kG
 refine kf b9 (Xan (Xat ?_))
 obtain rfl := kj h
 exact Yyc (Zer (kW hC [(1133, 1129), (1134, 1130)]))
 refine Xae ?_
 refine kL [1,2,3,6,8] [48,96,128,1133,1134] [_,_,_,_,_] [_,_,_,_,_] ?_
 refine kA h (fun v21 => ([(1, .any), (2, .any), (3, .any)], [(128, some (.box [.own 1133, .own 1134, .sv (.int .i64 v21)])), (48, none)])) (fun v21 h => ?_) fun v21 h => ?_
 refine kL [1,2,3,6,8] [48,96,128,1133,1134] [_,_,_,_,_] [_,_,_,_,_] ?_
 refine kA h (fun v22 => ([(59, .sv (.bool v22))], [])) (fun v22 h => ?_) fun v22 h => ?_
 refine Xac ?_
 iterate 3 refine kO hT hC ?_
 refine kS h ?_ ?_ <;> intro b12 h
 iterate 2 refine kI hT hC b12 ?_
 refine kP hC true b12 ?_
 exact Vc.nil kM
 iterate 2 refine kF hC b12 ?_
 refine kP hC false b12 ?_
 exact Vc.nil kM
 refine kS h ?_ ?_ <;> intro b13 h
 refine kt b13 (Xac ?_)
 iterate 5 refine kO hT hC ?_
 refine kC hC [] Tryz.call206 h (fun _ => Xlc) fun q23 h => ?_
 iterate 2 refine kO hT hC ?_
 exact Vc.nil kM
 exact kf b13 (Xag kM)
 refine Xab ?_
 iterate 3 refine kO hT hC ?_
 refine Vc.nil (Xah ?_)
 obtain rfl := kj h
 exact Xby (τ := ⟨[(6, .ptr 2000000 0), (7, .sv (.bool true))], [(16, some (.ints .i64 v15.1)), (17, some (.ints .i64 v15.2)), (2000000, some (.box [.own 16, .own 17, .sv (.int .i64 v21)]))]⟩) (kW hC [(16, 1133), (17, 1134), (2000000, 96)]) rfl ⟨rfl, rfl, trivial⟩
def Xth (r : Bool) : AV := .sv (.bool r)
def Xtg (r : Bool) : Xax := []
theorem Xun {p0 r} (h : Xko p0 = some r) : AC Tryz.prog 235 [.agg [.sv (.ints .i64 p0.Above), .sv (.ints .i64 p0.Left), .sv (.int .i64 p0.Corner)]] [] (Xth r) (Xtg r) := by
 refine Xaf hT Tryz.func235 rfl fun C hC => ?_
 unfold Xko at h
 refine Xab ?_
 iterate 2 refine kO hT hC ?_
 refine Vc.nil (Xam (Xab ?_))
 iterate 7 refine kO hT hC ?_
 refine Vc.nil ?_
 refine kL [1,9,10,11] [16,144] [_,_,_,_] [_,_] ?_
 obtain ⟨o11, hl, h⟩ := Xa3 h
 refine Xf9 (fun v4 => ([(11, .sv (.int .i64 v4))], [])) (fun v8 => ([(9, .any), (10, .any), (11, .any)], [(144, none)])) (fun r => Xqe C T Tryz.f235.results.toList (Xth r) (Xtg r)) hl ?_ ?_ ?_ ?_
 apply Xdo hC []
 exact co
 rfl
 decide
 rfl
 intro v4 s hs
 have h := hs
 unfold Xfx at h
 refine Xab ?_
 refine kO hT hC ?_
 refine Vc.nil (Xam ?_)
 refine kS h ?_ ?_ <;> intro b7 h
 refine kt b7 (Xag (Xae (Xam (Xak (Xab ?_)))))
 iterate 2 refine kQ hT hC h fun h => ?_
 refine kO hT hC ?_
 refine Vc.nil ?_
 refine kL [1,4,9,10,11] [16,144] [_,_,_,_,_] [_,_] ?_
 refine kA h (fun v9 => ([(22, .sv (.bool v9)), (4, .any)], [])) (fun v9 h => ?_) fun v9 h => ?_
 refine Xac ?_
 iterate 4 refine kO hT hC ?_
 refine kS h ?_ ?_ <;> intro b8 h
 refine kI hT hC b8 ?_
 refine kE hC b8 [] Tryz.call197 h (fun _ => Xbx) fun q10 h => ?_
 refine kI hT hC b8 ?_
 refine kP hC true b8 ?_
 exact Vc.nil kM
 iterate 3 refine kF hC b8 ?_
 refine kP hC false b8 ?_
 exact Vc.nil kM
 refine kS h ?_ ?_ <;> intro b9 h
 refine kt b9 (Xab ?_)
 refine kO hT hC ?_
 refine Vc.nil (Xah (Xer (Xaq ?_)))
 obtain rfl := kj h
 refine Xrb (Xra ?_)
 exact Xby (Xmd.refl _) rfl trivial
 refine kf b9 (Xag (Xap (Xae (Xac ?_))))
 iterate 2 refine kO hT hC ?_
 exact Vc.nil kG
 exact kf b7 (Xan (Xat kb))
 intro v8 e
 subst e
 refine Xae (Xab ?_)
 iterate 2 refine kO hT hC ?_
 refine kC hC [] Tryz.call116 h (fun _ => Xai) fun q12 h => ?_
 refine kO hT hC ?_
 exact Vc.nil (Xah kR)
 intro r' σ' e hE
 subst e
 obtain rfl := kj h
 refine Xaq ?_
 exact hE
def Ykt (r : (List Int)) : AV := .sv (.ints .i64 r)
def Yks (r : (List Int)) : Xax := []
theorem Xxd {p0 r} (h : Xms p0 = some r) : AC Tryz.prog 243 [.sv (.ints .i64 p0)] [] (Ykt r) (Yks r) := by
 refine Xaf hT Tryz.func243 rfl fun C hC => ?_
 unfold Xms at h
 refine Xab ?_
 refine kO hT hC ?_
 refine Vc.nil (Xam (Xab ?_))
 iterate 3 refine kO hT hC ?_
 refine Vc.nil ?_
 refine kS h ?_ ?_ <;> intro b1 h
 refine kt b1 (Xab ?_)
 iterate 2 refine kO hT hC ?_
 refine Vc.nil (Xah (Xaq ?_))
 obtain rfl := kj h
 exact Xby (τ := ⟨[(2, .sv (.ints .i64 ([128, 128, 128, 128, 128, 128, 128, 128])))], []⟩) (kW hC []) rfl trivial
 refine kf b1 (Xag (Xae (Xab ?_)))
 iterate 2 refine kO hT hC ?_
 exact Vc.nil (Xah kR)
def Yf0 (r : (List Int)) : AV := .own 16
def Yfz (r : (List Int)) : Xax := [(16, .ints .i64 r)]
theorem Xo8 {p0 p1 r} (h : Xgh p0 p1 = some r) : AC Tryz.prog 202 [.sv (.int .i64 p0), .agg [.sv (.ints .i64 p1.Above), .sv (.ints .i64 p1.Left), .sv (.int .i64 p1.Corner)]] [] (Yf0 r) (Yfz r) := by
 refine Xaf hT Tryz.func202 rfl fun C hC => ?_
 unfold Xgh at h
 refine Xab ?_
 iterate 2 refine kO hT hC ?_
 refine kN ?_
 iterate 2 refine kO hT hC ?_
 refine Vc.nil (Xam ?_)
 refine kL [0,3,5] [48,208] [_,_,_] [_,_] ?_
 refine kA h (fun v1 => ([(21, .sv (.bool v1))], [])) (fun v1 h => ?_) fun v1 h => ?_
 refine Xac ?_
 refine kO hT hC ?_
 refine kC hC [] Tryz.call235 h (fun _ => Xun) fun q2 h => ?_
 iterate 2 refine kO hT hC ?_
 refine kS h ?_ ?_ <;> intro b1 h
 refine kI hT hC (kn b1) ?_
 refine kE hC (kn b1) [] Tryz.call116 h (fun _ => Xai) fun q3 h => ?_
 refine kI hT hC (kn b1) ?_
 refine kP hC false (kn b1) ?_
 exact Vc.nil kM
 iterate 3 refine kF hC (kn b1) ?_
 refine kP hC true (kn b1) ?_
 exact Vc.nil kM
 refine kS h ?_ ?_ <;> intro b2 h
 refine kt b2 (Xab ?_)
 iterate 2 refine kO hT hC ?_
 refine Vc.nil (Xah (Xaq ?_))
 obtain rfl := kj h
 exact Xby (τ := ⟨[(4, .own 16)], [(16, some (.ints .i64 ([] : List Int)))]⟩) (kW hC [(16, 208)]) rfl ⟨rfl, trivial⟩
 refine kf b2 (Xag (Xae (Xab ?_)))
 refine kO hT hC ?_
 refine Vc.nil ?_
 refine kL [0,3,5,6] [48,208] [_,_,_,_] [_,_] ?_
 refine kA h (fun v4 => ([(6, .sv (.int .i64 v4))], [])) (fun v4 h => ?_) fun v4 h => ?_
 refine Xab ?_
 iterate 8 refine kO hT hC ?_
 refine kN ?_
 iterate 2 refine kO hT hC ?_
 refine Vc.nil ?_
 refine kS h ?_ ?_ <;> intro b3 h
 refine kt b3 ?_
 refine Xb4 hm ?_
 iterate 2 refine kO hT hC ?_
 refine kC hC [] Tryz.call195 h (fun _ => Xiu) fun q5 h => ?_
 iterate 2 refine kO hT hC ?_
 refine kC hC [] Tryz.call195 h (fun _ => Xiu) fun q6 h => ?_
 iterate 2 refine kO hT hC ?_
 refine kQ hT hC h fun h => ?_
 iterate 2 refine kO hT hC ?_
 refine kQ hT hC h fun h => ?_
 refine kO hT hC ?_
 exact kD kM
 exact kf b3 (Xag kM)
 refine Xbs hm ?_
 iterate 2 refine kO hT hC ?_
 refine kC hC [] Tryz.call243 h (fun _ => Xxd) fun q7 h => ?_
 iterate 2 refine kO hT hC ?_
 refine kC hC [] Tryz.call243 h (fun _ => Xxd) fun q8 h => ?_
 iterate 5 refine kO hT hC ?_
 refine kD ?_
 refine kL [0,5,6,8,9,10] [208] [_,_,_,_,_,_] [_] ?_
 refine kA h (fun v9 => ([(10, .sv (.int .i64 v9))], [])) (fun v9 h => ?_) fun v9 h => ?_
 refine Xab ?_
 iterate 2 refine kO hT hC ?_
 refine Vc.nil ?_
 refine kS h ?_ ?_ <;> intro b4 h
 refine kt b4 (Xac ?_)
 refine kO hT hC ?_
 exact Vc.nil kM
 exact kf b4 (Xag kM)
 refine Xam (Xab ?_)
 refine kO hT hC ?_
 refine Vc.nil ?_
 refine kL [0,5,6,8,9,10,54] [208] [_,_,_,_,_,_,_] [_] ?_
 refine kX h (fun v22 => ([(54, .sv (.int .i64 v22.1))], [(208, some (.ints .i64 v22.2))])) (fun v35 => ([(0, .any), (6, .any), (8, .any), (9, .any), (10, .any), (54, .any)], [(208, some (.ints .i64 v35))])) (kW hC []) (fun v22 s h => ?_) fun v35 h => ?_
 unfold Xn5 at h
 refine Xab ?_
 refine kO hT hC ?_
 refine Vc.nil (Xam ?_)
 refine kS h ?_ ?_ <;> intro b31 h
 refine kt b31 (Xag (Xae (Xam (Xak (Xab ?_)))))
 iterate 2 refine kO hT hC ?_
 refine kN ?_
 refine kO hT hC ?_
 refine Vc.nil ?_
 refine kL [0,5,6,8,9,10,11,54,57] [208] [_,_,_,_,_,_,_,_,_] [_] ?_
 refine kX h (fun v39 => ([(57, .sv (.int .i64 v39.1))], [(208, some (.ints .i64 v39.2))])) (fun v43 => ([(11, .any), (57, .any)], [(208, some (.ints .i64 v43))])) (kW hC []) (fun v39 s h => ?_) fun v43 h => ?_
 unfold Xg1 at h
 refine Xab ?_
 refine kO hT hC ?_
 refine Vc.nil (Xam ?_)
 refine kS h ?_ ?_ <;> intro b40 h
 refine kt b40 (Xag (Xae ?_))
 refine kL [0,5,6,8,9,10,11,54,57] [208] [_,_,_,_,_,_,_,_,_] [_] ?_
 refine kA h (fun v44 => ([(5, .own 1700)], [(1700, some (.ints .i64 v44)), (208, none)])) (fun v44 h => ?_) fun v44 h => ?_
 refine Xak (Xab ?_)
 iterate 2 refine kO hT hC ?_
 refine kN ?_
 refine kO hT hC ?_
 refine Vc.nil (Xak (Xab ?_))
 iterate 2 refine kO hT hC ?_
 refine Vc.nil ?_
 refine kS h ?_ ?_ <;> intro b41 h
 refine kt b41 (Xac ?_)
 iterate 3 refine kO hT hC ?_
 refine kT hT hC h fun h => ?_
 refine kO hT hC ?_
 refine Vc.nil ?_
 iterate 2 refine Xap ?_
 obtain rfl := kj h
 exact Xhz (kW hC [(1700, 1296)])
 refine kf b41 (Xab ?_)
 iterate 2 refine kO hT hC ?_
 refine Vc.nil ?_
 refine kS h ?_ ?_ <;> intro b42 h
 refine kt b42 (Xac ?_)
 iterate 3 refine kO hT hC ?_
 refine kQ hT hC h fun h => ?_
 iterate 2 refine kO hT hC ?_
 refine kT hT hC h fun h => ?_
 refine kO hT hC ?_
 refine Vc.nil ?_
 iterate 2 refine Xap ?_
 obtain rfl := kj h
 exact Xhz (kW hC [(1700, 1440)])
 refine kf b42 (Xab ?_)
 iterate 2 refine kO hT hC ?_
 refine Vc.nil ?_
 refine kS h ?_ ?_ <;> intro b43 h
 refine kt b43 (Xac ?_)
 iterate 3 refine kO hT hC ?_
 refine kQ hT hC h fun h => ?_
 iterate 2 refine kO hT hC ?_
 refine kT hT hC h fun h => ?_
 refine kO hT hC ?_
 refine Vc.nil ?_
 iterate 2 refine Xap ?_
 obtain rfl := kj h
 exact Xhz (kW hC [(1700, 1584)])
 refine kf b43 ?_
 refine Xb4 hm ?_
 iterate 3 refine kO hT hC ?_
 refine kQ hT hC h fun h => ?_
 iterate 3 refine kO hT hC ?_
 refine kQ hT hC h fun h => ?_
 iterate 4 refine kO hT hC ?_
 refine kC hC [] Tryz.call141 h (fun _ => Xd9) fun q45 h => ?_
 refine kO hT hC ?_
 refine kT hT hC h fun h => ?_
 refine kO hT hC ?_
 refine kD ?_
 iterate 2 refine Xap ?_
 obtain rfl := kj h
 exact Xhz (kW hC [(1700, 1200)])
 refine Xac ?_
 iterate 2 refine kO hT hC ?_
 refine Vc.nil ?_
 obtain rfl := kj h
 exact Yd2 (kW hC [(208, 1700)])
 exact kf b40 (Xan (Xat ku))
 refine Xap (Xae (Xac ?_))
 iterate 2 refine kO hT hC ?_
 exact Vc.nil kG
 exact kf b31 (Xan (Xat ku))
 refine Xae (Xab ?_)
 iterate 2 refine kO hT hC ?_
 refine Vc.nil (Xah ?_)
 obtain rfl := kj h
 exact Xby (τ := ⟨[(4, .own 16)], [(16, some (.ints .i64 v35))]⟩) (kW hC [(16, 208)]) rfl ⟨rfl, trivial⟩
def Xyp (r : ((List Int) × Bool)) : AV := .tup [.own 16, .sv (.bool r.2)]
def Xyo (r : ((List Int) × Bool)) : Xax := [(16, .ints .i64 r.1)]
theorem Yak {p0 p1 p2 p3 p4 p5 p6 p7 r} (h : Xed p0 p1 p2 p3 p4 p5 p6 p7 = some r) : AC Tryz.prog 205 [.agg [.sv (.int .i64 p0.Wide), .sv (.int .i64 p0.High), .sv (.str p0.Dots)], .agg [.sv (.int .i64 p1.Wide), .sv (.int .i64 p1.High), .sv (.str p1.Dots)], .sv (.int .i64 p2), .sv (.int .i64 p3), .agg [.sv (.bool p4.Key), .sv (.int .i64 p4.Qp), .sv (.bool p4.Large), .sv (.bool p4.Exact)], .sv (.int .i64 p5), .sv (.int .i64 p6), .agg [.sv (.int .i64 p7.Kind), .sv (.int .i64 p7.Mode), .sv (.int .i64 p7.Dx), .sv (.int .i64 p7.Dy), .sv (.ints .i64 p7.Levels)]] [] (Xyp r) (Xyo r) := by
 refine Xaf hT Tryz.func205 rfl fun C hC => ?_
 unfold Xed at h
 refine Xab ?_
 iterate 6 refine kO hT hC ?_
 refine Vc.nil (Xam ?_)
 refine kL [2,3,5,6,8,9,12,15] [128,144,192,240] [_,_,_,_,_,_,_,_] [_,_,_,_] ?_
 refine kA h (fun v1 => ([(67, .sv (.bool v1))], [])) (fun v1 h => ?_) fun v1 h => ?_
 refine Xac ?_
 refine kO hT hC ?_
 refine kC hC [] Tryz.call47 h (fun _ => Xds) fun q2 h => ?_
 iterate 2 refine kO hT hC ?_
 refine kS h ?_ ?_ <;> intro b1 h
 iterate 3 refine kI hT hC (kn b1) ?_
 refine kE hC (kn b1) [] Tryz.call196 h (fun _ => Xft) fun q3 h => ?_
 refine kI hT hC (kn b1) ?_
 refine kP hC false (kn b1) ?_
 refine kO hT hC ?_
 refine kS h ?_ ?_ <;> intro b2 h
 refine kI hT hC (kn b2) ?_
 refine kE hC (kn b2) [] Tryz.call116 h (fun _ => Xai) fun q4 h => ?_
 refine kI hT hC (kn b2) ?_
 refine kP hC false (kn b2) ?_
 refine kO hT hC ?_
 refine kS h ?_ ?_ <;> intro b3 h
 refine kI hT hC (kn b3) ?_
 refine kE hC (kn b3) [] Tryz.call116 h (fun _ => Xai) fun q5 h => ?_
 refine kI hT hC (kn b3) ?_
 refine kP hC false (kn b3) ?_
 refine kO hT hC ?_
 refine kS h ?_ ?_ <;> intro b4 h
 refine kI hT hC (kn b4) ?_
 refine kE hC (kn b4) [] Tryz.call211 h (fun _ => Xtj) fun q6 h => ?_
 refine kI hT hC (kn b4) ?_
 refine kP hC false (kn b4) ?_
 refine kO hT hC ?_
 refine kS h ?_ ?_ <;> intro b5 h
 refine kI hT hC (kn b5) ?_
 refine kE hC (kn b5) [] Tryz.call127 h (fun _ => Xhb) fun q7 h => ?_
 refine kI hT hC (kn b5) ?_
 refine kP hC false (kn b5) ?_
 refine kO hT hC ?_
 refine kS h ?_ ?_ <;> intro b6 h
 iterate 2 refine kI hT hC (kn b6) ?_
 refine kE hC (kn b6) [] Tryz.call212 h (fun _ => Xqm) fun q8 h => ?_
 refine kI hT hC (kn b6) ?_
 refine kP hC false (kn b6) ?_
 refine kO hT hC ?_
 refine kS h ?_ ?_ <;> intro b7 h
 iterate 4 refine kI hT hC (kn b7) ?_
 refine kS h ?_ ?_ <;> intro b8 h
 refine kI hT hC b8 ?_
 refine kE hC b8 [] Tryz.call47 h (fun _ => Xds) fun q9 h => ?_
 refine kI hT hC b8 ?_
 refine Xa6 hC rfl rfl rfl rfl (kn b7) rfl rfl (b := true) b8 rfl rfl rfl trivial ?_
 refine kP hC false (kn b7) ?_
 exact Vc.nil kM
 iterate 3 refine kF hC b8 ?_
 refine Xa6 hC rfl rfl rfl rfl (kn b7) rfl rfl (b := false) b8 rfl rfl rfl trivial ?_
 refine kP hC false (kn b7) ?_
 exact Vc.nil kM
 iterate 4 refine kF hC (kn b7) ?_
 iterate 3 refine Xd4 hC rfl rfl rfl rfl rfl rfl ?_
 refine kF hC (kn b7) ?_
 refine kP hC true (kn b7) ?_
 exact Vc.nil kM
 iterate 4 refine kF hC (kn b6) ?_
 refine kP hC true (kn b6) ?_
 refine kO hT hC ?_
 iterate 4 refine kF hC rfl ?_
 iterate 3 refine Xd4 hC rfl rfl rfl rfl rfl rfl ?_
 refine kF hC rfl ?_
 refine kO hT hC ?_
 exact Vc.nil kM
 iterate 3 refine kF hC (kn b5) ?_
 refine kP hC true (kn b5) ?_
 refine kO hT hC ?_
 iterate 4 refine kF hC rfl ?_
 iterate 2 refine kO hT hC ?_
 iterate 4 refine kF hC rfl ?_
 iterate 3 refine Xd4 hC rfl rfl rfl rfl rfl rfl ?_
 refine kF hC rfl ?_
 refine kO hT hC ?_
 exact Vc.nil kM
 iterate 3 refine kF hC (kn b4) ?_
 refine kP hC true (kn b4) ?_
 refine kO hT hC ?_
 iterate 3 refine kF hC rfl ?_
 iterate 2 refine kO hT hC ?_
 iterate 4 refine kF hC rfl ?_
 iterate 2 refine kO hT hC ?_
 iterate 4 refine kF hC rfl ?_
 iterate 3 refine Xd4 hC rfl rfl rfl rfl rfl rfl ?_
 refine kF hC rfl ?_
 refine kO hT hC ?_
 exact Vc.nil kM
 iterate 3 refine kF hC (kn b3) ?_
 refine kP hC true (kn b3) ?_
 refine kO hT hC ?_
 iterate 3 refine kF hC rfl ?_
 iterate 2 refine kO hT hC ?_
 iterate 3 refine kF hC rfl ?_
 iterate 2 refine kO hT hC ?_
 iterate 4 refine kF hC rfl ?_
 iterate 2 refine kO hT hC ?_
 iterate 4 refine kF hC rfl ?_
 iterate 3 refine Xd4 hC rfl rfl rfl rfl rfl rfl ?_
 refine kF hC rfl ?_
 refine kO hT hC ?_
 exact Vc.nil kM
 iterate 3 refine kF hC (kn b2) ?_
 refine kP hC true (kn b2) ?_
 refine kO hT hC ?_
 iterate 3 refine kF hC rfl ?_
 iterate 2 refine kO hT hC ?_
 iterate 3 refine kF hC rfl ?_
 iterate 2 refine kO hT hC ?_
 iterate 3 refine kF hC rfl ?_
 iterate 2 refine kO hT hC ?_
 iterate 4 refine kF hC rfl ?_
 iterate 2 refine kO hT hC ?_
 iterate 4 refine kF hC rfl ?_
 iterate 3 refine Xd4 hC rfl rfl rfl rfl rfl rfl ?_
 refine kF hC rfl ?_
 refine kO hT hC ?_
 exact Vc.nil kM
 iterate 5 refine kF hC (kn b1) ?_
 refine kP hC true (kn b1) ?_
 refine kO hT hC ?_
 iterate 3 refine kF hC rfl ?_
 iterate 2 refine kO hT hC ?_
 iterate 3 refine kF hC rfl ?_
 iterate 2 refine kO hT hC ?_
 iterate 3 refine kF hC rfl ?_
 iterate 2 refine kO hT hC ?_
 iterate 3 refine kF hC rfl ?_
 iterate 2 refine kO hT hC ?_
 iterate 4 refine kF hC rfl ?_
 iterate 2 refine kO hT hC ?_
 iterate 4 refine kF hC rfl ?_
 iterate 3 refine Xd4 hC rfl rfl rfl rfl rfl rfl ?_
 refine kF hC rfl ?_
 refine kO hT hC ?_
 exact Vc.nil kM
 refine kS h ?_ ?_ <;> intro b9 h
 refine kt b9 (Xab ?_)
 iterate 3 refine kO hT hC ?_
 refine Vc.nil (Xah (Xaq ?_))
 obtain rfl := kj h
 exact Xby (τ := ⟨[(16, .own 16), (17, .sv (.bool false))], [(16, some (.ints .i64 ([] : List Int)))]⟩) (kW hC [(16, 1088)]) rfl ⟨rfl, trivial⟩
 refine kf b9 (Xag (Xae (Xam (Xab ?_))))
 iterate 3 refine kO hT hC ?_
 refine Vc.nil ?_
 refine kS h ?_ ?_ <;> intro b10 h
 refine kt b10 (Xab ?_)
 iterate 7 refine kO hT hC ?_
 refine kC hC [(16, 1264)] Tryz.call130 h (fun _ => Xd5) fun q10 h => ?_
 iterate 2 refine kO hT hC ?_
 refine Vc.nil (Xah (Xaq ?_))
 obtain rfl := kj h
 exact Xby (τ := ⟨[(16, .own 16), (17, .sv (.bool true))], [(16, some (.ints .i64 q10))]⟩) (kW hC [(16, 1264)]) rfl ⟨rfl, trivial⟩
 refine kf b10 (Xag (Xae (Xab ?_)))
 iterate 3 refine kO hT hC ?_
 refine kC hC [(16, 1344)] Tryz.call246 h (fun _ => Yaa) fun q11 h => ?_
 iterate 5 refine kO hT hC ?_
 refine Vc.nil (Xam (Xab ?_))
 iterate 3 refine kO hT hC ?_
 refine Vc.nil ?_
 refine kS h ?_ ?_ <;> intro b11 h
 refine kt b11 (Xab ?_)
 iterate 13 refine kO hT hC ?_
 refine kC hC [(16, 1648)] Tryz.call130 h (fun _ => Xd5) fun q12 h => ?_
 refine kO hT hC ?_
 refine kC hC [(16, 1680)] Tryz.call247 h (fun _ => Xw1) fun q13 h => ?_
 iterate 2 refine kO hT hC ?_
 refine Vc.nil (Xah (Xaq ?_))
 obtain rfl := kj h
 exact Xby (τ := ⟨[(16, .own 16), (17, .sv (.bool true))], [(16, some (.ints .i64 q13))]⟩) (kW hC [(16, 1680)]) rfl ⟨rfl, trivial⟩
 refine kf b11 (Xag (Xae (Xab ?_)))
 iterate 3 refine kO hT hC ?_
 refine kC hC [(16, 1760), (17, 1761)] Tryz.call198 h (fun _ => Xum) fun q14 h => ?_
 iterate 6 refine kO hT hC ?_
 refine kN ?_
 iterate 3 refine kO hT hC ?_
 refine kC hC [(16, 1856)] Tryz.call202 h (fun _ => Xo8) fun q15 h => ?_
 refine kO hT hC ?_
 refine kC hC [(16, 1888)] Tryz.call247 h (fun _ => Xw1) fun q16 h => ?_
 iterate 2 refine kO hT hC ?_
 refine Vc.nil (Xah ?_)
 obtain rfl := kj h
 exact Xby (τ := ⟨[(16, .own 16), (17, .sv (.bool true))], [(16, some (.ints .i64 q16))]⟩) (kW hC [(16, 1888)]) rfl ⟨rfl, trivial⟩
def Yr7 (r : (List Int)) : AV := .own 16
def Yr6 (r : (List Int)) : Xax := [(16, .ints .u8 r)]
theorem Yuu {p0 r} (h : Yav p0 = some r) : AC Tryz.prog 207 [.agg [.sv (.int .i64 p0.Wide), .sv (.int .i64 p0.High), .sv (.str p0.Dots)]] [] (Yr7 r) (Yr6 r) := by
 refine Xaf hT Tryz.func207 rfl fun C hC => ?_
 unfold Yav at h
 refine Xab ?_
 iterate 2 refine kO hT hC ?_
 refine kN ?_
 iterate 2 refine kO hT hC ?_
 refine kQ hT hC h fun h => ?_
 refine kO hT hC ?_
 refine Vc.nil (Xah ?_)
 obtain rfl := kj h
 exact Xby (τ := ⟨[(2, .own 16)], [(16, some (.ints .u8 (Xa8 p0.Dots)))]⟩) (kW hC [(16, 80)]) rfl ⟨rfl, trivial⟩
def Yuy (r : Pic) : AV := .agg [.sv (.int .i64 r.Wide), .sv (.int .i64 r.High), .sv (.str r.Dots)]
def Yux (r : Pic) : Xax := []
theorem Ywl {p0 p1 p2 p3 r} (h : Ya0 p0 p1 p2 p3 = some r) : AC Tryz.prog 131 [.agg [.sv (.int .i64 p0.Wide), .sv (.int .i64 p0.High), .sv (.str p0.Dots)], .sv (.int .i64 p1), .sv (.int .i64 p2), .sv (.ints .i64 p3)] [] (Yuy r) (Yux r) := by
 refine Xaf hT Tryz.func131 rfl fun C hC => ?_
 unfold Ya0 at h
 refine Xab ?_
 iterate 2 refine kO hT hC ?_
 refine kN ?_
 refine kO hT hC ?_
 refine kC hC [(16, 208)] Tryz.call207 h (fun _ => Yuu) fun q1 h => ?_
 refine kO hT hC ?_
 refine Vc.nil (Xam (Xab ?_))
 iterate 3 refine kO hT hC ?_
 refine Vc.nil ?_
 refine kL [1,2,4,8,9,14,15,16] [64,128,208] [_,_,_,_,_,_,_,_] [_,_,_] ?_
 refine kX h (fun v3 => ([(16, .sv (.int .i64 v3.1))], [(208, some (.ints .u8 v3.2))])) (fun v5 => ([(1, .any), (2, .any), (14, .any), (15, .any), (16, .any)], [(208, some (.ints .u8 v5))])) (kW hC []) (fun v3 s h => ?_) fun v5 h => ?_
 unfold Xs2 at h
 refine Xab ?_
 refine kO hT hC ?_
 refine Vc.nil (Xam ?_)
 refine kS h ?_ ?_ <;> intro b3 h
 refine kt b3 (Xag (Xae (Xam (Xak (Xab ?_)))))
 refine kO hT hC ?_
 refine kQ hT hC h fun h => ?_
 iterate 3 refine kO hT hC ?_
 refine Vc.nil (Xac ?_)
 iterate 3 refine kO hT hC ?_
 refine kQ hT hC h fun h => ?_
 iterate 7 refine kO hT hC ?_
 refine kQ hT hC h fun h => ?_
 iterate 3 refine kO hT hC ?_
 iterate 2 refine kQ hT hC h fun h => ?_
 refine Vc.nil (Xap (Xae (Xac ?_)))
 iterate 2 refine kO hT hC ?_
 exact Vc.nil kG
 exact kf b3 (Xan (Xat ku))
 refine Xae (Xab ?_)
 iterate 4 refine kO hT hC ?_
 refine kN ?_
 iterate 2 refine kO hT hC ?_
 exact Vc.nil (Xah kR)
def Ymc (r : Bool) : AV := .sv (.bool r)
def Ymb (r : Bool) : Xax := []
theorem Xre {p0 r} (h : Xkh p0 = some r) : AC Tryz.prog 148 [.agg [.sv (.int .i64 p0.Qp), .sv (.int .i64 p0.Target), .sv (.int .i64 p0.Debt)]] [] (Ymc r) (Ymb r) := by
 refine Xaf hT Tryz.func148 rfl fun C hC => ?_
 unfold Xkh at h
 refine Xab ?_
 iterate 2 refine kO hT hC ?_
 refine Vc.nil ?_
 refine kL [1,2] [16] [_,_] [_] ?_
 refine kA h (fun v1 => ([(2, .sv (.bool v1)), (1, .any)], [(16, none)])) (fun v1 h => ?_) fun v1 h => ?_
 refine Xac ?_
 iterate 2 refine kO hT hC ?_
 refine kC hC [] Tryz.call149 h (fun _ => Xal) fun q2 h => ?_
 refine kO hT hC ?_
 refine kS h ?_ ?_ <;> intro b1 h
 iterate 2 refine kI hT hC b1 ?_
 refine kE hC b1 [] Tryz.call149 h (fun _ => Xal) fun q3 h => ?_
 refine kP hC true b1 ?_
 refine kO hT hC ?_
 refine kS h ?_ ?_ <;> intro b2 h
 iterate 8 refine kI hT hC b2 ?_
 refine kE hC b2 [] Tryz.call149 h (fun _ => Xal) fun q4 h => ?_
 refine kP hC true b2 ?_
 refine kO hT hC ?_
 exact Vc.nil kM
 iterate 9 refine kF hC b2 ?_
 refine kP hC false b2 ?_
 refine kO hT hC ?_
 exact Vc.nil kM
 iterate 3 refine kF hC b1 ?_
 refine kP hC false b1 ?_
 refine kO hT hC ?_
 iterate 9 refine kF hC rfl ?_
 iterate 2 refine kO hT hC ?_
 exact Vc.nil kM
 exact Xah kR
def Ymm (r : (Int × Int)) : AV := .tup [.sv (.int .i64 r.1), .sv (.int .i64 r.2)]
def Yml (r : (Int × Int)) : Xax := []
theorem Xxx {p0 r} (h : Xm7 p0 = some r) : AC Tryz.prog 52 [.agg [.sv (.int .i64 p0.Level), .sv (.int .i64 p0.Bits), .sv (.ints .i64 p0.Cols), .sv (.ints .i64 p0.Rows)]] [] (Ymm r) (Yml r) := by
 refine Xaf hT Tryz.func52 rfl fun C hC => ?_
 unfold Xm7 at h
 refine Xab ?_
 iterate 3 refine kO hT hC ?_
 refine Vc.nil (Xam (Xab ?_))
 refine kO hT hC ?_
 refine kC hC [] Tryz.call119 h (fun _ => Ybw) fun q1 h => ?_
 refine kO hT hC ?_
 refine Vc.nil ?_
 refine kS h ?_ ?_ <;> intro b1 h
 refine kt b1 (Xab ?_)
 iterate 2 refine kO hT hC ?_
 exact Vc.nil (Xah (Xaq kR))
 refine kf b1 (Xag (Xae ?_))
 refine Xbs hm ?_
 iterate 2 refine kO hT hC ?_
 refine kC hC [] Tryz.call120 h (fun _ => Xnm) fun q2 h => ?_
 iterate 3 refine kO hT hC ?_
 refine kC hC [] Tryz.call120 h (fun _ => Xnm) fun q3 h => ?_
 iterate 3 refine kO hT hC ?_
 exact kD (Xah kR)
def Ypr (r : Bool) : AV := .sv (.bool r)
def Ypq (r : Bool) : Xax := []
theorem Xdx {p0 r} (h : Xd6 p0 = some r) : AC Tryz.prog 77 [.agg [.sv (.int .i64 p0.Wide), .sv (.int .i64 p0.High), .sv (.str p0.Dots)]] [] (Ypr r) (Ypq r) := by
 refine Xaf hT Tryz.func77 rfl fun C hC => ?_
 unfold Xd6 at h
 refine Xab ?_
 iterate 2 refine kO hT hC ?_
 refine Vc.nil ?_
 refine kL [1,2] [16] [_,_] [_] ?_
 refine kA h (fun v1 => ([(2, .sv (.bool v1)), (1, .any)], [(16, none)])) (fun v1 h => ?_) fun v1 h => ?_
 refine Xac ?_
 iterate 2 refine kO hT hC ?_
 refine kC hC [] Tryz.call149 h (fun _ => Xal) fun q2 h => ?_
 refine kO hT hC ?_
 refine kS h ?_ ?_ <;> intro b1 h
 iterate 2 refine kI hT hC b1 ?_
 refine kE hC b1 [] Tryz.call149 h (fun _ => Xal) fun q3 h => ?_
 refine kP hC true b1 ?_
 refine kO hT hC ?_
 refine kS h ?_ ?_ <;> intro b2 h
 iterate 9 refine kI hT hC b2 ?_
 refine kP hC true b2 ?_
 refine kO hT hC ?_
 exact Vc.nil kM
 iterate 9 refine kF hC b2 ?_
 refine kP hC false b2 ?_
 refine kO hT hC ?_
 exact Vc.nil kM
 iterate 3 refine kF hC b1 ?_
 refine kP hC false b1 ?_
 refine kO hT hC ?_
 iterate 9 refine kF hC rfl ?_
 iterate 2 refine kO hT hC ?_
 exact Vc.nil kM
 exact Xah kR
def Yem (r : Bool) : AV := .sv (.bool r)
def Yel (r : Bool) : Xax := []
theorem Xoe {p0 r} (h : Xgy p0 = some r) : AC Tryz.prog 76 [.agg [.sv (.int .i64 p0.Seq.Level), .sv (.int .i64 p0.Seq.Bits), .sv (.ints .i64 p0.Seq.Cols), .sv (.ints .i64 p0.Seq.Rows), .sv (.int .i64 p0.Par.Qp), .sv (.bool p0.Par.Large), .sv (.bool p0.Par.Exact), .sv (.bool p0.Par.Confined), .sv (.int .i64 p0.Rate.Qp), .sv (.int .i64 p0.Rate.Target), .sv (.int .i64 p0.Rate.Debt), .sv (.int .i64 p0.Frame), .sv (.int .i64 p0.Since), .sv (.int .i64 p0.Every), .sv (.int .i64 p0.Reach), .sv (.bool p0.Has), .sv (.int .i64 p0.Ref.Wide), .sv (.int .i64 p0.Ref.High), .sv (.str p0.Ref.Dots)]] [] (Yem r) (Yel r) := by
 refine Xaf hT Tryz.func76 rfl fun C hC => ?_
 unfold Xgy at h
 refine Xab ?_
 iterate 2 refine kO hT hC ?_
 refine Vc.nil (Xam ?_)
 refine kL [1] [16] [_] [_] ?_
 refine kA h (fun v1 => ([(35, .sv (.bool v1))], [])) (fun v1 h => ?_) fun v1 h => ?_
 refine Xac ?_
 iterate 2 refine kO hT hC ?_
 refine kC hC [] Tryz.call101 h (fun _ => Xvc) fun q2 h => ?_
 iterate 2 refine kO hT hC ?_
 refine kS h ?_ ?_ <;> intro b1 h
 iterate 4 refine kF hC b1 ?_
 refine kP hC true b1 ?_
 refine kO hT hC ?_
 iterate 4 refine kF hC rfl ?_
 iterate 2 refine kO hT hC ?_
 iterate 3 refine kF hC rfl ?_
 iterate 2 refine kO hT hC ?_
 iterate 8 refine kF hC rfl ?_
 refine kO hT hC ?_
 exact Vc.nil kM
 iterate 2 refine kI hT hC b1 ?_
 refine kE hC b1 [] Tryz.call96 h (fun _ => Ybu) fun q3 h => ?_
 refine kI hT hC b1 ?_
 refine kP hC false b1 ?_
 refine kO hT hC ?_
 refine kS h ?_ ?_ <;> intro b2 h
 iterate 2 refine kI hT hC (kn b2) ?_
 refine kE hC (kn b2) [] Tryz.call148 h (fun _ => Xre) fun q4 h => ?_
 refine kI hT hC (kn b2) ?_
 refine kP hC false (kn b2) ?_
 refine kO hT hC ?_
 refine kS h ?_ ?_ <;> intro b3 h
 iterate 3 refine kI hT hC (kn b3) ?_
 refine kP hC false (kn b3) ?_
 refine kO hT hC ?_
 refine kS h ?_ ?_ <;> intro b4 h
 iterate 8 refine kF hC b4 ?_
 refine kP hC true b4 ?_
 exact Vc.nil kM
 iterate 6 refine kI hT hC b4 ?_
 refine kJ hT hC b4 h fun h => ?_
 refine kI hT hC b4 ?_
 refine kP hC false b4 ?_
 exact Vc.nil kM
 iterate 3 refine kF hC (kn b3) ?_
 refine kP hC true (kn b3) ?_
 refine kO hT hC ?_
 iterate 8 refine kF hC rfl ?_
 refine kO hT hC ?_
 exact Vc.nil kM
 iterate 4 refine kF hC (kn b2) ?_
 refine kP hC true (kn b2) ?_
 refine kO hT hC ?_
 iterate 3 refine kF hC rfl ?_
 iterate 2 refine kO hT hC ?_
 iterate 8 refine kF hC rfl ?_
 refine kO hT hC ?_
 exact Vc.nil kM
 refine kS h ?_ ?_ <;> intro b5 h
 refine kt b5 (Xab ?_)
 refine kO hT hC ?_
 exact Vc.nil (Xah (Xaq kR))
 refine kf b5 (Xag (Xae (Xam ?_)))
 refine kL [1] [16] [_] [_] ?_
 refine kA h (fun v5 => ([(51, .sv (.bool v5))], [])) (fun v5 h => ?_) fun v5 h => ?_
 refine Xac ?_
 iterate 2 refine kO hT hC ?_
 refine kC hC [] Tryz.call149 h (fun _ => Xal) fun q6 h => ?_
 iterate 2 refine kO hT hC ?_
 refine kS h ?_ ?_ <;> intro b6 h
 iterate 2 refine kI hT hC (kn b6) ?_
 refine kE hC (kn b6) [] Tryz.call149 h (fun _ => Xal) fun q7 h => ?_
 refine kI hT hC (kn b6) ?_
 refine kP hC false (kn b6) ?_
 refine kO hT hC ?_
 refine kS h ?_ ?_ <;> intro b7 h
 iterate 2 refine kI hT hC (kn b7) ?_
 refine kE hC (kn b7) [] Tryz.call149 h (fun _ => Xal) fun q8 h => ?_
 refine kI hT hC (kn b7) ?_
 refine kP hC false (kn b7) ?_
 exact Vc.nil kM
 iterate 4 refine kF hC (kn b7) ?_
 refine kP hC true (kn b7) ?_
 exact Vc.nil kM
 iterate 4 refine kF hC (kn b6) ?_
 refine kP hC true (kn b6) ?_
 refine kO hT hC ?_
 iterate 4 refine kF hC rfl ?_
 refine kO hT hC ?_
 exact Vc.nil kM
 refine kS h ?_ ?_ <;> intro b8 h
 refine kt b8 (Xab ?_)
 refine kO hT hC ?_
 exact Vc.nil (Xah (Xaq kR))
 refine kf b8 (Xag (Xae (Xab ?_)))
 iterate 2 refine kO hT hC ?_
 refine kC hC [] Tryz.call52 h (fun _ => Xxx) fun q9 h => ?_
 iterate 5 refine kO hT hC ?_
 refine Vc.nil (Xam (Xab ?_))
 iterate 2 refine kO hT hC ?_
 refine Vc.nil ?_
 refine kS h ?_ ?_ <;> intro b9 h
 refine kt b9 ?_
 refine kL [1,3,4] [16] [_,_,_] [_] ?_
 refine kA h (fun v10 => ([(2, .sv (.bool v10)), (1, .any), (3, .any), (4, .any)], [(16, none)])) (fun v10 h => ?_) fun v10 h => ?_
 refine Xac ?_
 iterate 2 refine kO hT hC ?_
 refine kC hC [] Tryz.call77 h (fun _ => Xdx) fun q11 h => ?_
 refine kO hT hC ?_
 refine kS h ?_ ?_ <;> intro b10 h
 iterate 5 refine kI hT hC b10 ?_
 refine kP hC true b10 ?_
 refine kO hT hC ?_
 refine kS h ?_ ?_ <;> intro b11 h
 iterate 5 refine kI hT hC b11 ?_
 refine kP hC true b11 ?_
 refine kO hT hC ?_
 exact Vc.nil kM
 iterate 5 refine kF hC b11 ?_
 refine kP hC false b11 ?_
 refine kO hT hC ?_
 exact Vc.nil kM
 iterate 5 refine kF hC b10 ?_
 refine kP hC false b10 ?_
 refine kO hT hC ?_
 iterate 5 refine kF hC rfl ?_
 iterate 2 refine kO hT hC ?_
 exact Vc.nil kM
 exact Xah (Xaq kR)
 refine kf b9 (Xag (Xae ?_))
 refine kL [1] [16] [_] [_] ?_
 refine kA h (fun v12 => ([(2, .sv (.bool v12)), (1, .any)], [(16, none)])) (fun v12 h => ?_) fun v12 h => ?_
 refine Xac ?_
 iterate 5 refine kO hT hC ?_
 refine kS h ?_ ?_ <;> intro b12 h
 iterate 4 refine kI hT hC b12 ?_
 refine kP hC true b12 ?_
 refine kO hT hC ?_
 refine kS h ?_ ?_ <;> intro b13 h
 iterate 5 refine kI hT hC b13 ?_
 refine kP hC true b13 ?_
 refine kO hT hC ?_
 exact Vc.nil kM
 iterate 5 refine kF hC b13 ?_
 refine kP hC false b13 ?_
 refine kO hT hC ?_
 exact Vc.nil kM
 iterate 4 refine kF hC b12 ?_
 refine kP hC false b12 ?_
 refine kO hT hC ?_
 iterate 5 refine kF hC rfl ?_
 iterate 2 refine kO hT hC ?_
 exact Vc.nil kM
 exact Xah kR
def Yg2 (r : Int) : AV := .sv (.int .i64 r)
def Yg1 (r : Int) : Xax := []
theorem Xdc {p0 p1 p2 r} (h : Xb7 p0 p1 p2 = some r) : AC Tryz.prog 150 [.sv (.int .i64 p0), .sv (.int .i64 p1), .sv (.int .i64 p2)] [] (Yg2 r) (Yg1 r) := by
 refine Xaf hT Tryz.func150 rfl fun C hC => ?_
 unfold Xb7 at h
 refine Xab ?_
 refine kO hT hC ?_
 refine Vc.nil (Xam ?_)
 refine kL [0,1,2] [] [_,_,_] [] ?_
 refine kA h (fun v1 => ([(14, .sv (.bool v1))], [])) (fun v1 h => ?_) fun v1 h => ?_
 refine Xac ?_
 iterate 4 refine kO hT hC ?_
 refine kS h ?_ ?_ <;> intro b1 h
 iterate 3 refine kF hC b1 ?_
 refine kP hC true b1 ?_
 exact Vc.nil kM
 iterate 3 refine kI hT hC b1 ?_
 refine kP hC false b1 ?_
 exact Vc.nil kM
 refine kS h ?_ ?_ <;> intro b2 h
 refine kt b2 (Xab ?_)
 iterate 2 refine kO hT hC ?_
 exact Vc.nil (Xah (Xaq kR))
 refine kf b2 (Xag (Xae (Xam (Xab ?_))))
 iterate 3 refine kO hT hC ?_
 refine Vc.nil ?_
 refine kS h ?_ ?_ <;> intro b3 h
 refine kt b3 (Xab ?_)
 iterate 2 refine kO hT hC ?_
 exact Vc.nil (Xah (Xaq kR))
 refine kf b3 (Xag (Xae (Xab ?_)))
 iterate 2 refine kO hT hC ?_
 exact Vc.nil (Xah kR)
def Ype (r : Int) : AV := .sv (.int .i64 r)
def Ypd (r : Int) : Xax := []
theorem Xox {p0 p1 p2 r} (h : Xga p0 p1 p2 = some r) : AC Tryz.prog 122 [.agg [.sv (.int .i64 p0.Wide), .sv (.int .i64 p0.High), .sv (.str p0.Dots)], .sv (.int .i64 p1), .sv (.int .i64 p2)] [] (Ype r) (Ypd r) := by
 refine Xaf hT Tryz.func122 rfl fun C hC => ?_
 unfold Xga at h
 refine Xab ?_
 iterate 2 refine kO hT hC ?_
 refine Vc.nil (Xam (Xab ?_))
 refine kO hT hC ?_
 refine kC hC [] Tryz.call77 h (fun _ => Xdx) fun q1 h => ?_
 refine kO hT hC ?_
 refine Vc.nil ?_
 refine kS h ?_ ?_ <;> intro b1 h
 refine kt b1 (Xab ?_)
 refine kO hT hC ?_
 exact Vc.nil (Xah (Xaq kR))
 refine kf b1 (Xag (Xae ?_))
 refine Xbs hm ?_
 iterate 6 refine kO hT hC ?_
 refine kC hC [] Tryz.call150 h (fun _ => Xdc) fun q2 h => ?_
 iterate 7 refine kO hT hC ?_
 refine kC hC [] Tryz.call150 h (fun _ => Xdc) fun q3 h => ?_
 refine kO hT hC ?_
 refine kQ hT hC h fun h => ?_
 iterate 2 refine kO hT hC ?_
 exact kD (Xah kR)
def Yj2 (r : Bool) : AV := .sv (.bool r)
def Yj1 (r : Bool) : Xax := []
theorem Xq1 {p0 r} (h : Xkd p0 = some r) : AC Tryz.prog 124 [.agg [.sv (.int .i64 p0.Qp), .sv (.int .i64 p0.Target), .sv (.int .i64 p0.Debt)]] [] (Yj2 r) (Yj1 r) := by
 refine Xaf hT Tryz.func124 rfl fun C hC => ?_
 unfold Xkd at h
 refine Xab ?_
 iterate 2 refine kO hT hC ?_
 refine Vc.nil ?_
 refine kL [1,2] [16] [_,_] [_] ?_
 refine kA h (fun v1 => ([(2, .sv (.bool v1)), (1, .any)], [(16, none)])) (fun v1 h => ?_) fun v1 h => ?_
 refine Xac ?_
 iterate 2 refine kO hT hC ?_
 refine kC hC [] Tryz.call116 h (fun _ => Xai) fun q2 h => ?_
 refine kO hT hC ?_
 refine kS h ?_ ?_ <;> intro b1 h
 iterate 2 refine kI hT hC b1 ?_
 refine kE hC b1 [] Tryz.call116 h (fun _ => Xai) fun q3 h => ?_
 refine kP hC true b1 ?_
 refine kO hT hC ?_
 refine kS h ?_ ?_ <;> intro b2 h
 iterate 8 refine kI hT hC b2 ?_
 refine kE hC b2 [] Tryz.call116 h (fun _ => Xai) fun q4 h => ?_
 refine kP hC true b2 ?_
 refine kO hT hC ?_
 exact Vc.nil kM
 iterate 9 refine kF hC b2 ?_
 refine kP hC false b2 ?_
 refine kO hT hC ?_
 exact Vc.nil kM
 iterate 3 refine kF hC b1 ?_
 refine kP hC false b1 ?_
 refine kO hT hC ?_
 iterate 9 refine kF hC rfl ?_
 iterate 2 refine kO hT hC ?_
 exact Vc.nil kM
 exact Xah kR
def Yda (r : Bool) : AV := .sv (.bool r)
def Yc9 (r : Bool) : Xax := []
theorem Xn6 {p0 r} (h : Xgr p0 = some r) : AC Tryz.prog 56 [.agg [.sv (.int .i64 p0.Seq.Level), .sv (.int .i64 p0.Seq.Bits), .sv (.ints .i64 p0.Seq.Cols), .sv (.ints .i64 p0.Seq.Rows), .sv (.int .i64 p0.Par.Qp), .sv (.bool p0.Par.Large), .sv (.bool p0.Par.Exact), .sv (.bool p0.Par.Confined), .sv (.int .i64 p0.Rate.Qp), .sv (.int .i64 p0.Rate.Target), .sv (.int .i64 p0.Rate.Debt), .sv (.int .i64 p0.Frame), .sv (.int .i64 p0.Since), .sv (.int .i64 p0.Every), .sv (.int .i64 p0.Reach), .sv (.bool p0.Has), .sv (.int .i64 p0.Ref.Wide), .sv (.int .i64 p0.Ref.High), .sv (.str p0.Ref.Dots)]] [] (Yda r) (Yc9 r) := by
 refine Xaf hT Tryz.func56 rfl fun C hC => ?_
 unfold Xgr at h
 refine Xab ?_
 iterate 2 refine kO hT hC ?_
 refine Vc.nil (Xam ?_)
 refine kL [1] [16] [_] [_] ?_
 refine kA h (fun v1 => ([(47, .sv (.bool v1))], [])) (fun v1 h => ?_) fun v1 h => ?_
 refine Xb4 hm ?_
 iterate 2 refine kO hT hC ?_
 refine kC hC [] Tryz.call123 h (fun _ => Xuu) fun q2 h => ?_
 iterate 2 refine kO hT hC ?_
 refine kS h ?_ ?_ <;> intro b1 h
 iterate 4 refine kF hC b1 ?_
 refine kP hC true b1 ?_
 refine kO hT hC ?_
 iterate 4 refine kF hC rfl ?_
 iterate 2 refine kO hT hC ?_
 iterate 9 refine kF hC rfl ?_
 iterate 2 refine kO hT hC ?_
 iterate 4 refine kF hC rfl ?_
 iterate 2 refine kO hT hC ?_
 iterate 4 refine kF hC rfl ?_
 iterate 2 refine kO hT hC ?_
 iterate 4 refine kF hC rfl ?_
 refine kO hT hC ?_
 exact kD kM
 iterate 2 refine kI hT hC b1 ?_
 refine kE hC b1 [] Tryz.call69 h (fun _ => Xsy) fun q3 h => ?_
 refine kI hT hC b1 ?_
 refine kP hC false b1 ?_
 refine kO hT hC ?_
 refine kS h ?_ ?_ <;> intro b2 h
 iterate 2 refine kI hT hC (kn b2) ?_
 refine kE hC (kn b2) [] Tryz.call124 h (fun _ => Xq1) fun q4 h => ?_
 refine kI hT hC (kn b2) ?_
 refine kP hC false (kn b2) ?_
 refine kO hT hC ?_
 refine kS h ?_ ?_ <;> intro b3 h
 iterate 5 refine kI hT hC (kn b3) ?_
 refine kJ hT hC (kn b3) h fun h => ?_
 refine kI hT hC (kn b3) ?_
 refine kE hC (kn b3) [] Tryz.call116 h (fun _ => Xai) fun q5 h => ?_
 refine kI hT hC (kn b3) ?_
 refine kP hC false (kn b3) ?_
 refine kO hT hC ?_
 refine kS h ?_ ?_ <;> intro b4 h
 iterate 2 refine kI hT hC (kn b4) ?_
 refine kE hC (kn b4) [] Tryz.call116 h (fun _ => Xai) fun q6 h => ?_
 refine kI hT hC (kn b4) ?_
 refine kP hC false (kn b4) ?_
 refine kO hT hC ?_
 refine kS h ?_ ?_ <;> intro b5 h
 iterate 2 refine kI hT hC (kn b5) ?_
 refine kE hC (kn b5) [] Tryz.call116 h (fun _ => Xai) fun q7 h => ?_
 refine kI hT hC (kn b5) ?_
 refine kP hC false (kn b5) ?_
 refine kO hT hC ?_
 refine kS h ?_ ?_ <;> intro b6 h
 iterate 2 refine kI hT hC (kn b6) ?_
 refine kE hC (kn b6) [] Tryz.call116 h (fun _ => Xai) fun q8 h => ?_
 refine kI hT hC (kn b6) ?_
 refine kP hC false (kn b6) ?_
 exact kD kM
 iterate 4 refine kF hC (kn b6) ?_
 refine kP hC true (kn b6) ?_
 exact kD kM
 iterate 4 refine kF hC (kn b5) ?_
 refine kP hC true (kn b5) ?_
 refine kO hT hC ?_
 iterate 4 refine kF hC rfl ?_
 refine kO hT hC ?_
 exact kD kM
 iterate 4 refine kF hC (kn b4) ?_
 refine kP hC true (kn b4) ?_
 refine kO hT hC ?_
 iterate 4 refine kF hC rfl ?_
 iterate 2 refine kO hT hC ?_
 iterate 4 refine kF hC rfl ?_
 refine kO hT hC ?_
 exact kD kM
 iterate 9 refine kF hC (kn b3) ?_
 refine kP hC true (kn b3) ?_
 refine kO hT hC ?_
 iterate 4 refine kF hC rfl ?_
 iterate 2 refine kO hT hC ?_
 iterate 4 refine kF hC rfl ?_
 iterate 2 refine kO hT hC ?_
 iterate 4 refine kF hC rfl ?_
 refine kO hT hC ?_
 exact kD kM
 iterate 4 refine kF hC (kn b2) ?_
 refine kP hC true (kn b2) ?_
 refine kO hT hC ?_
 iterate 9 refine kF hC rfl ?_
 iterate 2 refine kO hT hC ?_
 iterate 4 refine kF hC rfl ?_
 iterate 2 refine kO hT hC ?_
 iterate 4 refine kF hC rfl ?_
 iterate 2 refine kO hT hC ?_
 iterate 4 refine kF hC rfl ?_
 refine kO hT hC ?_
 exact kD kM
 refine kS h ?_ ?_ <;> intro b7 h
 refine kt b7 (Xab ?_)
 refine kO hT hC ?_
 exact Vc.nil (Xah (Xaq kR))
 refine kf b7 (Xag (Xae (Xam (Xab ?_))))
 iterate 2 refine kO hT hC ?_
 refine Vc.nil ?_
 refine kS h ?_ ?_ <;> intro b8 h
 refine kt b8 (Xab ?_)
 iterate 4 refine kO hT hC ?_
 refine kC hC [] Tryz.call57 h (fun _ => Yfb) fun q9 h => ?_
 refine kO hT hC ?_
 exact Vc.nil (Xah (Xaq kR))
 refine kf b8 (Xag (Xae (Xab ?_)))
 iterate 3 refine kO hT hC ?_
 refine Zhn hC rfl rfl rfl rfl Zfq rfl rfl ?_
 refine kO hT hC ?_
 exact Vc.nil (Xah kR)
def Xyt (r : Source) : AV := .agg [.sv (.int .i64 r.Seq.Level), .sv (.int .i64 r.Seq.Bits), .own 16, .own 17, .sv (.int .i64 r.Par.Qp), .sv (.bool r.Par.Large), .sv (.bool r.Par.Exact), .sv (.bool r.Par.Confined), .sv (.int .i64 r.Rate.Qp), .sv (.int .i64 r.Rate.Target), .sv (.int .i64 r.Rate.Debt), .sv (.int .i64 r.Frame), .sv (.int .i64 r.Since), .sv (.int .i64 r.Every), .sv (.int .i64 r.Reach), .sv (.bool r.Has), .sv (.int .i64 r.Ref.Wide), .sv (.int .i64 r.Ref.High), .sv (.str r.Ref.Dots)]
def Xys (r : Source) : Xax := [(16, .ints .i64 r.Seq.Cols), (17, .ints .i64 r.Seq.Rows)]
theorem Xll {p0 r} (h : Xce p0 = some r) : AC Tryz.prog 58 [.agg [.sv (.int .i64 p0.Seq.Level), .sv (.int .i64 p0.Seq.Bits), .sv (.ints .i64 p0.Seq.Cols), .sv (.ints .i64 p0.Seq.Rows), .sv (.int .i64 p0.Par.Qp), .sv (.bool p0.Par.Large), .sv (.bool p0.Par.Exact), .sv (.bool p0.Par.Confined), .sv (.int .i64 p0.Rate.Qp), .sv (.int .i64 p0.Rate.Target), .sv (.int .i64 p0.Rate.Debt), .sv (.int .i64 p0.Frame), .sv (.int .i64 p0.Since), .sv (.int .i64 p0.Every), .sv (.int .i64 p0.Reach), .sv (.bool p0.Has), .sv (.int .i64 p0.Ref.Wide), .sv (.int .i64 p0.Ref.High), .sv (.str p0.Ref.Dots)]] [] (Xyt r) (Xys r) := by
 refine Xaf hT Tryz.func58 rfl fun C hC => ?_
 unfold Xce at h
 refine Xab ?_
 iterate 2 refine kO hT hC ?_
 refine kN ?_
 iterate 2 refine kO hT hC ?_
 refine kC hC [(16, 80), (17, 81)] Tryz.call71 h (fun _ => Ykm) fun q1 h => ?_
 iterate 2 refine kO hT hC ?_
 refine kN ?_
 iterate 2 refine kO hT hC ?_
 refine Vc.nil (Xah ?_)
 obtain rfl := kj h
 exact Xby (τ := ⟨[(2, .ptr 2000000 0)], [(16, some (.ints .i64 q1.Cols)), (17, some (.ints .i64 q1.Rows)), (2000000, some (.box [.sv (.int .i64 q1.Level), .sv (.int .i64 q1.Bits), .own 16, .own 17, .sv (.int .i64 p0.Par.Qp), .sv (.bool p0.Par.Large), .sv (.bool p0.Par.Exact), .sv (.bool p0.Par.Confined), .sv (.int .i64 p0.Rate.Qp), .sv (.int .i64 p0.Rate.Target), .sv (.int .i64 p0.Rate.Debt), .sv (.int .i64 p0.Frame), .sv (.int .i64 p0.Since), .sv (.int .i64 p0.Every), .sv (.int .i64 p0.Reach), .sv (.bool p0.Has), .sv (.int .i64 p0.Ref.Wide), .sv (.int .i64 p0.Ref.High), .sv (.str p0.Ref.Dots)]))]⟩) (kW hC [(16, 80), (17, 81), (2000000, 32)]) rfl ⟨rfl, rfl, trivial⟩
def Yjw (r : Bool) : AV := .sv (.bool r)
def Yjv (r : Bool) : Xax := []
theorem Ynz {p0 p1 r} (h : Xpa p0 p1 = some r) : AC Tryz.prog 59 [.agg [.sv (.int .i64 p0.Seq.Level), .sv (.int .i64 p0.Seq.Bits), .sv (.ints .i64 p0.Seq.Cols), .sv (.ints .i64 p0.Seq.Rows), .sv (.int .i64 p0.Par.Qp), .sv (.bool p0.Par.Large), .sv (.bool p0.Par.Exact), .sv (.bool p0.Par.Confined), .sv (.int .i64 p0.Rate.Qp), .sv (.int .i64 p0.Rate.Target), .sv (.int .i64 p0.Rate.Debt), .sv (.int .i64 p0.Frame), .sv (.int .i64 p0.Since), .sv (.int .i64 p0.Every), .sv (.int .i64 p0.Reach), .sv (.bool p0.Has), .sv (.int .i64 p0.Ref.Wide), .sv (.int .i64 p0.Ref.High), .sv (.str p0.Ref.Dots)], .sv (.bool p1)] [] (Yjw r) (Yjv r) := by
 refine Xaf hT Tryz.func59 rfl fun C hC => ?_
 unfold Xpa at h
 refine Xab ?_
 iterate 2 refine kO hT hC ?_
 refine Vc.nil ?_
 refine kL [1,2,4] [32] [_,_,_] [_] ?_
 refine kA h (fun v1 => ([(4, .sv (.bool v1)), (1, .any), (2, .any)], [(32, none)])) (fun v1 h => ?_) fun v1 h => ?_
 refine Xac ?_
 refine kO hT hC ?_
 refine kC hC [] Tryz.call56 h (fun _ => Xn6) fun q2 h => ?_
 refine kO hT hC ?_
 refine kS h ?_ ?_ <;> intro b1 h
 iterate 2 refine kI hT hC b1 ?_
 refine kS h ?_ ?_ <;> intro b2 h
 iterate 3 refine kF hC b2 ?_
 refine Xa6 hC rfl rfl rfl rfl b1 rfl rfl (b := true) b2 rfl rfl rfl trivial ?_
 refine kI hT hC b1 ?_
 iterate 5 refine kF hC rfl ?_
 refine Xa6 hC rfl rfl rfl rfl b1 rfl rfl (b := true) rfl rfl rfl rfl trivial ?_
 refine kP hC true b1 ?_
 refine kO hT hC ?_
 exact Vc.nil kM
 iterate 3 refine kI hT hC b2 ?_
 refine Xa6 hC rfl rfl rfl rfl b1 rfl rfl (b := false) b2 rfl rfl rfl trivial ?_
 refine kI hT hC b1 ?_
 refine kS h ?_ ?_ <;> intro b3 h
 iterate 5 refine kI hT hC (kn b3) ?_
 refine Xa6 hC rfl rfl rfl rfl b1 rfl rfl (b := false) (kn b3) rfl rfl rfl trivial ?_
 refine kP hC true b1 ?_
 refine kO hT hC ?_
 exact Vc.nil kM
 iterate 5 refine kF hC (kn b3) ?_
 refine Xa6 hC rfl rfl rfl rfl b1 rfl rfl (b := true) (kn b3) rfl rfl rfl trivial ?_
 refine kP hC true b1 ?_
 refine kO hT hC ?_
 exact Vc.nil kM
 iterate 2 refine kF hC b1 ?_
 iterate 3 refine Xd4 hC rfl rfl rfl rfl rfl rfl ?_
 iterate 2 refine kF hC b1 ?_
 iterate 5 refine Xd4 hC rfl rfl rfl rfl rfl rfl ?_
 refine kF hC b1 ?_
 refine kP hC false b1 ?_
 refine kO hT hC ?_
 exact Vc.nil kM
 exact Xah kR
def Yn7 (r : Int) : AV := .sv (.int .i64 r)
def Yn6 (r : Int) : Xax := []
theorem Yr2 {p0 p1 r} (h : Xrq p0 p1 = some r) : AC Tryz.prog 60 [.agg [.sv (.int .i64 p0.Qp), .sv (.int .i64 p0.Target), .sv (.int .i64 p0.Debt)], .sv (.bool p1)] [] (Yn7 r) (Yn6 r) := by
 refine Xaf hT Tryz.func60 rfl fun C hC => ?_
 unfold Xrq at h
 refine Xab ?_
 iterate 2 refine kO hT hC ?_
 refine Vc.nil (Xam (Xak (Xab ?_)))
 refine kO hT hC ?_
 refine kC hC [] Tryz.call124 h (fun _ => Xq1) fun q1 h => ?_
 iterate 2 refine kO hT hC ?_
 refine Vc.nil ?_
 refine kS h ?_ ?_ <;> intro b1 h
 refine kt b1 (Xab ?_)
 refine kO hT hC ?_
 exact Vc.nil (Xah (Xer (Xaq kR)))
 refine kf b1 (Xab ?_)
 iterate 2 refine kO hT hC ?_
 refine Vc.nil ?_
 refine kS h ?_ ?_ <;> intro b2 h
 refine kt b2 (Xab ?_)
 iterate 5 refine kO hT hC ?_
 exact Vc.nil (Xah (Xer (Xaq kR)))
 refine kf b2 (Xag (Xap (Xae (Xab ?_))))
 iterate 3 refine kO hT hC ?_
 exact Vc.nil (Xah kR)
def Ysg (r : Int) : AV := .sv (.int .i64 r)
def Ysf (r : Int) : Xax := []
theorem Xuz {p0 r} (h : Xnu p0 = some r) : AC Tryz.prog 244 [.sv (.int .i64 p0)] [] (Ysg r) (Ysf r) := by
 refine Xaf hT Tryz.func244 rfl fun C hC => ?_
 unfold Xnu at h
 refine Xab ?_
 refine kO hT hC ?_
 refine kN ?_
 iterate 5 refine kO hT hC ?_
 exact Vc.nil (Xah kR)
def Yuw (r : Int) : AV := .sv (.int .i64 r)
def Yuv (r : Int) : Xax := []
theorem Xyu {p0 p1 r} (h : Xqo p0 p1 = some r) : AC Tryz.prog 203 [.sv (.ints .i64 p0), .sv (.ints .i64 p1)] [] (Yuw r) (Yuv r) := by
 refine Xaf hT Tryz.func203 rfl fun C hC => ?_
 unfold Xqo at h
 refine Xab ?_
 refine kO hT hC ?_
 refine kN ?_
 refine kO hT hC ?_
 refine Vc.nil (Xam (Xab ?_))
 iterate 3 refine kO hT hC ?_
 refine Vc.nil ?_
 refine kL [1,5,8,9,10] [] [_,_,_,_,_] [] ?_
 refine kX h (fun v3 => ([(5, .sv (.int .i64 v3.1)), (10, .sv (.int .i64 v3.2))], [])) (fun v6 => ([(5, .sv (.int .i64 v6)), (1, .any), (8, .any), (9, .any), (10, .any)], [])) (kW hC []) (fun v3 s h => ?_) fun v6 h => ?_
 unfold Xpg at h
 refine Xab ?_
 refine kO hT hC ?_
 refine Vc.nil (Xam ?_)
 refine kS h ?_ ?_ <;> intro b3 h
 refine kt b3 (Xag (Xae (Xam (Xak (Xab ?_)))))
 refine kO hT hC ?_
 refine kQ hT hC h fun h => ?_
 iterate 3 refine kO hT hC ?_
 refine Vc.nil (Xac ?_)
 iterate 4 refine kO hT hC ?_
 refine kQ hT hC h fun h => ?_
 iterate 2 refine kO hT hC ?_
 refine kC hC [] Tryz.call244 h (fun _ => Xuz) fun q7 h => ?_
 iterate 2 refine kO hT hC ?_
 refine Vc.nil (Xap (Xae (Xac ?_)))
 iterate 2 refine kO hT hC ?_
 exact Vc.nil kG
 exact kf b3 (Xan (Xat ku))
 refine Xae (Xab ?_)
 iterate 2 refine kO hT hC ?_
 exact Vc.nil (Xah kR)
def Yax (r : Int) : AV := .sv (.int .i64 r)
def Yaw (r : Int) : Xax := []
theorem Ydk {p0 r} (h : Xnf p0 = some r) : AC Tryz.prog 210 [.sv (.int .i64 p0)] [] (Yax r) (Yaw r) := by
 refine Xaf hT Tryz.func210 rfl fun C hC => ?_
 unfold Xnf at h
 refine Xab ?_
 refine kO hT hC ?_
 refine kN ?_
 refine kO hT hC ?_
 refine Vc.nil (Xam ?_)
 refine kL [0,3] [] [_,_] [] ?_
 refine kX h (fun v2 => ([(0, .sv (.int .i64 v2.1)), (3, .sv (.int .i64 v2.2))], [])) (fun v4 => ([(3, .sv (.int .i64 v4)), (0, .any)], [])) (kW hC []) (fun v2 s h => ?_) fun v4 h => ?_
 unfold Xcy at h
 refine Xam (Xab ?_)
 iterate 2 refine kO hT hC ?_
 refine Vc.nil ?_
 refine kS h ?_ ?_ <;> intro b3 h
 refine kt b3 (Xag (Xae (Xam (Xak (Xac ?_)))))
 iterate 3 refine kO hT hC ?_
 refine Vc.nil (Xap (Xae (Xac ?_)))
 refine kO hT hC ?_
 refine kQ hT hC h fun h => ?_
 refine kO hT hC ?_
 exact Vc.nil kG
 exact kf b3 (Xan (Xat ku))
 refine Xae (Xab ?_)
 iterate 2 refine kO hT hC ?_
 exact Vc.nil (Xah kR)
def Yop (r : ByteArray) : AV := .sv (.str r)
def Yoo (r : ByteArray) : Xax := []
theorem Xot {p0 p1 r} (h : Xkx p0 p1 = some r) : AC Tryz.prog 135 [.sv (.int .i64 p0), .sv (.int .i64 p1)] [] (Yop r) (Yoo r) := by
 refine Xaf hT Tryz.func135 rfl fun C hC => ?_
 unfold Xkx at h
 refine Xab ?_
 refine kO hT hC ?_
 refine kN ?_
 refine kO hT hC ?_
 obtain ⟨hq, h⟩ := Xaw h
 refine Yqs hT hC rfl rfl rfl rfl ⟨hq.1, hq.2.1, hq.2.2, by decide⟩ ?_
 refine kO hT hC ?_
 refine Vc.nil (Xam (Xab ?_))
 iterate 3 refine kO hT hC ?_
 refine Vc.nil ?_
 refine kL [0,5,6] [128] [_,_,_] [_] ?_
 refine kX h (fun v2 => ([(0, .sv (.int .i64 v2.1)), (6, .sv (.int .i64 v2.2.1))], [(128, some (.ints .u8 v2.2.2))])) (fun v4 => ([(0, .any), (6, .any)], [(128, some (.ints .u8 v4))])) (kW hC []) (fun v2 s h => ?_) fun v4 h => ?_
 unfold Xln at h
 refine Xam (Xab ?_)
 iterate 2 refine kO hT hC ?_
 refine Vc.nil ?_
 refine kS h ?_ ?_ <;> intro b3 h
 refine kt b3 (Xag (Xae (Xam (Xak (Xab ?_)))))
 iterate 6 refine kO hT hC ?_
 iterate 2 refine kQ hT hC h fun h => ?_
 refine Vc.nil (Xac ?_)
 refine kO hT hC ?_
 refine kQ hT hC h fun h => ?_
 refine kO hT hC ?_
 refine Vc.nil (Xap (Xae (Xac ?_)))
 iterate 3 refine kO hT hC ?_
 exact Vc.nil kG
 exact kf b3 (Xan (Xat ku))
 refine Xae (Xab ?_)
 iterate 3 refine kO hT hC ?_
 exact Vc.nil (Xah kR)
def Ywn (r : ByteArray) : AV := .sv (.str r)
def Ywm (r : ByteArray) : Xax := []
theorem Xhf {p0 r} (h : Xi8 p0 = some r) : AC Tryz.prog 134 [.sv (.int .i64 p0)] [] (Ywn r) (Ywm r) := by
 refine Xaf hT Tryz.func134 rfl fun C hC => ?_
 unfold Xi8 at h
 refine Xab ?_
 refine kO hT hC ?_
 refine kN ?_
 iterate 4 refine kO hT hC ?_
 refine kC hC [] Tryz.call210 h (fun _ => Ydk) fun q1 h => ?_
 iterate 2 refine kO hT hC ?_
 refine kC hC [] Tryz.call135 h (fun _ => Xot) fun q2 h => ?_
 refine kO hT hC ?_
 exact Vc.nil (Xah kR)
def Yoi (r : (ByteArray × Bool)) : AV := .tup [.sv (.str r.1), .sv (.bool r.2)]
def Yoh (r : (ByteArray × Bool)) : Xax := []
theorem Yaq {p0 r} (h : Xoz p0 = some r) : AC Tryz.prog 209 [.sv (.int .i64 p0)] [] (Yoi r) (Yoh r) := by
 refine Xaf hT Tryz.func209 rfl fun C hC => ?_
 unfold Xoz at h
 refine Xab ?_
 iterate 2 refine kO hT hC ?_
 refine Vc.nil (Xam (Xab ?_))
 refine kO hT hC ?_
 refine kC hC [] Tryz.call116 h (fun _ => Xai) fun q1 h => ?_
 refine kO hT hC ?_
 refine Vc.nil ?_
 refine kS h ?_ ?_ <;> intro b1 h
 refine kt b1 (Xab ?_)
 iterate 2 refine kO hT hC ?_
 exact Vc.nil (Xah (Xaq kR))
 refine kf b1 (Xag (Xae (Xab ?_)))
 refine kO hT hC ?_
 refine kC hC [] Tryz.call134 h (fun _ => Xhf) fun q2 h => ?_
 iterate 2 refine kO hT hC ?_
 exact Vc.nil (Xah kR)
def Ykj (r : Int) : AV := .sv (.int .i64 r)
def Yki (r : Int) : Xax := []
theorem Yoj {p0 r} (h : Xmo p0 = some r) : AC Tryz.prog 236 [.sv (.int .i64 p0)] [] (Ykj r) (Yki r) := by
 refine Xaf hT Tryz.func236 rfl fun C hC => ?_
 unfold Xmo at h
 refine Xab ?_
 refine kO hT hC ?_
 refine kN ?_
 refine kO hT hC ?_
 refine kC hC [] Tryz.call209 h (fun _ => Yaq) fun q1 h => ?_
 iterate 5 refine kO hT hC ?_
 refine kN ?_
 iterate 3 refine kO hT hC ?_
 exact Vc.nil (Xah kR)
def Xz3 (r : (Int × Int)) : AV := .tup [.sv (.int .i64 r.1), .sv (.int .i64 r.2)]
def Xz2 (r : (Int × Int)) : Xax := []
theorem Ycu {p0 p1 r} (h : Xje p0 p1 = some r) : AC Tryz.prog 199 [.sv (.ints .i64 p0), .agg [.sv (.ints .i64 p1.Above), .sv (.ints .i64 p1.Left), .sv (.int .i64 p1.Corner)]] [] (Xz3 r) (Xz2 r) := by
 refine Xaf hT Tryz.func199 rfl fun C hC => ?_
 unfold Xje at h
 refine Xab ?_
 iterate 3 refine kO hT hC ?_
 refine Vc.nil (Xam ?_)
 refine kL [0,3] [48] [_,_] [_] ?_
 refine kA h (fun v1 => ([(17, .sv (.bool v1))], [])) (fun v1 h => ?_) fun v1 h => ?_
 refine Xac ?_
 refine kO hT hC ?_
 refine kC hC [] Tryz.call235 h (fun _ => Xun) fun q2 h => ?_
 iterate 2 refine kO hT hC ?_
 refine kS h ?_ ?_ <;> intro b1 h
 refine kI hT hC (kn b1) ?_
 refine kE hC (kn b1) [] Tryz.call197 h (fun _ => Xbx) fun q3 h => ?_
 refine kI hT hC (kn b1) ?_
 refine kP hC false (kn b1) ?_
 exact Vc.nil kM
 iterate 3 refine kF hC (kn b1) ?_
 refine kP hC true (kn b1) ?_
 exact Vc.nil kM
 refine kS h ?_ ?_ <;> intro b2 h
 refine kt b2 (Xab ?_)
 iterate 2 refine kO hT hC ?_
 exact Vc.nil (Xah (Xaq kR))
 refine kf b2 (Xag (Xae (Xab ?_)))
 iterate 2 refine kO hT hC ?_
 refine Vc.nil (Xam (Xab ?_))
 refine kO hT hC ?_
 refine Vc.nil ?_
 refine kL [0,3,6,7,8] [48] [_,_,_,_,_] [_] ?_
 refine kX h (fun v16 => ([(6, .sv (.int .i64 v16.1)), (7, .sv (.int .i64 v16.2.1)), (8, .sv (.int .i64 v16.2.2))], [])) (fun v23 => ([(6, .sv (.int .i64 v23.1)), (7, .sv (.int .i64 v23.2)), (0, .any), (3, .any), (8, .any)], [(48, none)])) (kW hC []) (fun v16 s h => ?_) fun v23 h => ?_
 unfold Xiq at h
 refine Xam (Xab ?_)
 iterate 2 refine kO hT hC ?_
 refine Vc.nil ?_
 refine kS h ?_ ?_ <;> intro b12 h
 refine kt b12 (Xag (Xae ?_))
 refine kL [0,3,6,7,8] [48] [_,_,_,_,_] [_] ?_
 refine kA h (fun v24 => ([(6, .sv (.int .i64 v24.1)), (7, .sv (.int .i64 v24.2))], [])) (fun v24 h => ?_) fun v24 h => ?_
 refine Xak (Xab ?_)
 iterate 3 refine kO hT hC ?_
 refine kC hC [(16, 400)] Tryz.call202 h (fun _ => Xo8) fun q25 h => ?_
 refine kC hC [] Tryz.call203 h (fun _ => Xyu) fun q26 h => ?_
 refine kO hT hC ?_
 refine kC hC [] Tryz.call236 h (fun _ => Yoj) fun q27 h => ?_
 iterate 2 refine kO hT hC ?_
 refine Vc.nil ?_
 refine kL [0,3,6,7,8,9] [48] [_,_,_,_,_,_] [_] ?_
 refine kA h (fun v28 => ([(36, .sv (.bool v28))], [])) (fun v28 h => ?_) fun v28 h => ?_
 refine Xac ?_
 iterate 3 refine kO hT hC ?_
 refine kS h ?_ ?_ <;> intro b13 h
 iterate 3 refine kF hC b13 ?_
 refine kP hC true b13 ?_
 exact Vc.nil kM
 iterate 3 refine kI hT hC b13 ?_
 refine kP hC false b13 ?_
 exact Vc.nil kM
 refine kS h ?_ ?_ <;> intro b14 h
 refine kt b14 (Xac ?_)
 iterate 4 refine kO hT hC ?_
 exact Vc.nil (Xap kM)
 exact kf b14 (Xag (Xap kM))
 refine Xac ?_
 iterate 3 refine kO hT hC ?_
 exact Vc.nil kG
 exact kf b12 (Xan (Xat ku))
 refine Xae (Xab ?_)
 iterate 4 refine kO hT hC ?_
 exact Vc.nil (Xah kR)
def Ydm (r : (List Int)) : AV := .own 16
def Ydl (r : (List Int)) : Xax := [(16, .ints .i64 r)]
theorem Xtn {p0 p1 r} (h : Xgt p0 p1 = some r) : AC Tryz.prog 201 [.sv (.ints .i64 p0), .sv (.ints .i64 p1)] [] (Ydm r) (Ydl r) := by
 refine Xaf hT Tryz.func201 rfl fun C hC => ?_
 unfold Xgt at h
 refine Xab ?_
 refine kO hT hC ?_
 refine kN ?_
 iterate 2 refine kO hT hC ?_
 refine Vc.nil (Xam (Xab ?_))
 iterate 3 refine kO hT hC ?_
 refine Vc.nil ?_
 refine kL [1,5,9,10,11] [128] [_,_,_,_,_] [_] ?_
 refine kX h (fun v2 => ([(11, .sv (.int .i64 v2.1))], [(128, some (.ints .i64 v2.2))])) (fun v4 => ([(1, .any), (9, .any), (10, .any), (11, .any)], [(128, some (.ints .i64 v4))])) (kW hC []) (fun v2 s h => ?_) fun v4 h => ?_
 unfold Xj1 at h
 refine Xab ?_
 refine kO hT hC ?_
 refine Vc.nil (Xam ?_)
 refine kS h ?_ ?_ <;> intro b3 h
 refine kt b3 (Xag (Xae (Xam (Xak (Xab ?_)))))
 refine kO hT hC ?_
 refine kQ hT hC h fun h => ?_
 iterate 3 refine kO hT hC ?_
 refine Vc.nil (Xac ?_)
 iterate 4 refine kO hT hC ?_
 refine kQ hT hC h fun h => ?_
 iterate 3 refine kO hT hC ?_
 refine kT hT hC h fun h => ?_
 refine kO hT hC ?_
 refine Vc.nil (Xap (Xae (Xac ?_)))
 iterate 2 refine kO hT hC ?_
 refine Vc.nil ?_
 obtain rfl := kj h
 exact Yd2 (kW hC [(128, 384)])
 exact kf b3 (Xan (Xat ku))
 refine Xae (Xab ?_)
 iterate 2 refine kO hT hC ?_
 refine Vc.nil (Xah ?_)
 obtain rfl := kj h
 exact Xby (τ := ⟨[(4, .own 16)], [(16, some (.ints .i64 v4))]⟩) (kW hC [(16, 128)]) rfl ⟨rfl, trivial⟩
end
end Go.Proofs.YtnhflbeahbcklabGreat.A
