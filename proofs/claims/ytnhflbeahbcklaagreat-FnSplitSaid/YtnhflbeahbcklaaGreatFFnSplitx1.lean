/- Contracts of the functions that the law FnSplit reaches, part 1: each comes to what its pure function tells. Written by a program of this session. Conditions: as each statement tells. -/
import Derived.Test.YtnhflbeahbcklaaGreatFFnSplitx0
namespace Go.Proofs.YtnhflbeahbcklaaGreat.A
open Go Go.Proofs Go.Proofs.YtnhflbeahbcklaaGreatAL Go.RowKit
set_option linter.unusedVariables false
set_option linter.unusedSimpArgs false
set_option maxRecDepth 100000
set_option maxHeartbeats 2000000
noncomputable section
def Yeh (r : Int) : AV := .sv (.int .i64 r)
def Yeg (r : Int) : Xbj := []
theorem Yhg {p0 r} (h : Xll p0 = some r) : AC Tryz.prog 225 [.sv (.int .i64 p0)] [] (Yeh r) (Yeg r) := by
 refine Xae hT Tryz.func225 rfl fun C hC => ?_
 unfold Xll at h
 refine Xad ?_
 refine kO hT hC ?_
 refine Vc.nil (Xa3 (Xad ?_))
 refine kO hT hC ?_
 refine kC hC [] Tryz.call69 h (fun _ => Xak) fun q1 h => ?_
 refine kO hT hC ?_
 refine Vc.nil ?_
 refine kS h ?_ ?_ <;> intro b1 h
 refine kt b1 (Xad ?_)
 refine kO hT hC ?_
 exact Vc.nil (Xah (Xa9 kR))
 refine kf b1 (Xag (Xaf (Xad ?_)))
 iterate 2 refine kO hT hC ?_
 iterate 3 refine kQ hT hC h fun h => ?_
 refine kO hT hC ?_
 iterate 2 refine kQ hT hC h fun h => ?_
 refine kO hT hC ?_
 exact Vc.nil (Xah kR)
def Xwv (r : Int) : AV := .sv (.int .i64 r)
def Xwu (r : Int) : Xbj := []
theorem Xyt {p0 p1 r} (h : Xip p0 p1 = some r) : AC Tryz.prog 205 [.sv (.int .i64 p0), .sv (.int .i64 p1)] [] (Xwv r) (Xwu r) := by
 refine Xae hT Tryz.func205 rfl fun C hC => ?_
 unfold Xip at h
 refine Xad ?_
 refine kO hT hC ?_
 refine Vc.nil (Xa3 (Xad ?_))
 refine kO hT hC ?_
 refine kC hC [] Tryz.call69 h (fun _ => Xak) fun q1 h => ?_
 refine kO hT hC ?_
 refine Vc.nil ?_
 refine kS h ?_ ?_ <;> intro b1 h
 refine kt b1 (Xad ?_)
 refine kO hT hC ?_
 exact Vc.nil (Xah (Xa9 kR))
 refine kf b1 (Xag (Xaf (Xad ?_)))
 iterate 2 refine kO hT hC ?_
 refine kC hC [] Tryz.call225 h (fun _ => Yhg) fun q2 h => ?_
 iterate 2 refine kO hT hC ?_
 exact Vc.nil (Xah kR)
def Yed (r : Int) : AV := .sv (.int .i64 r)
def Yec (r : Int) : Xbj := []
theorem Xui {p0 p1 r} (h : Xlk p0 p1 = some r) : AC Tryz.prog 252 [.sv (.int .i64 p0), .sv (.int .i64 p1)] [] (Yed r) (Yec r) := by
 refine Xae hT Tryz.func252 rfl fun C hC => ?_
 unfold Xlk at h
 refine Xad ?_
 refine kO hT hC ?_
 refine Vc.nil (Xa3 ?_)
 refine kL [0,1] [] [_,_] [] ?_
 refine kA h (fun v1 => ([(13, .sv (.bool v1))], [])) (fun v1 h => ?_) fun v1 h => ?_
 refine Xac ?_
 refine kO hT hC ?_
 refine kC hC [] Tryz.call69 h (fun _ => Xak) fun q2 h => ?_
 iterate 2 refine kO hT hC ?_
 refine kS h ?_ ?_ <;> intro b1 h
 refine kI hT hC (kn b1) ?_
 refine kE hC (kn b1) [] Tryz.call69 h (fun _ => Xak) fun q3 h => ?_
 refine kI hT hC (kn b1) ?_
 refine kP hC false (kn b1) ?_
 exact Vc.nil kM
 iterate 3 refine kF hC (kn b1) ?_
 refine kP hC true (kn b1) ?_
 exact Vc.nil kM
 refine kS h ?_ ?_ <;> intro b2 h
 refine kt b2 (Xad ?_)
 refine kO hT hC ?_
 exact Vc.nil (Xah (Xa9 kR))
 refine kf b2 (Xag (Xaf (Xad ?_)))
 iterate 4 refine kO hT hC ?_
 refine Vc.nil (Xa3 (Xad ?_))
 iterate 3 refine kO hT hC ?_
 refine kQ hT hC h fun h => ?_
 iterate 3 refine kO hT hC ?_
 refine kQ hT hC h fun h => ?_
 iterate 2 refine kO hT hC ?_
 refine kQ hT hC h fun h => ?_
 refine kO hT hC ?_
 refine Vc.nil ?_
 refine kS h ?_ ?_ <;> intro b3 h
 refine kt b3 (Xad ?_)
 refine kO hT hC ?_
 exact Vc.nil (Xah (Xa9 kR))
 refine kf b3 (Xag (Xaf (Xad ?_)))
 refine kO hT hC ?_
 exact Vc.nil (Xah kR)
def Ykq (r : (List Int)) : AV := .own 16
def Ykp (r : (List Int)) : Xbj := [(16, .ints .i64 r)]
theorem Ym3 {p0 r} (h : Xsg p0 = some r) : AC Tryz.prog 224 [.sv (.ints .i64 p0)] [] (Ykq r) (Ykp r) := by
 refine Xae hT Tryz.func224 rfl fun C hC => ?_
 unfold Xsg at h
 refine Xad ?_
 refine kO hT hC ?_
 refine kN ?_
 obtain ⟨hq, h⟩ := Xa7 h
 refine Ygp hT hC rfl rfl rfl rfl ⟨hq.1, hq.2.1, hq.2.2, by decide⟩ ?_
 refine kO hT hC ?_
 refine Vc.nil (Xa3 (Xad ?_))
 refine kO hT hC ?_
 refine Vc.nil ?_
 refine kL [0,3,12] [176] [_,_,_] [_] ?_
 refine kX h (fun v31 => ([(12, .sv (.int .i64 v31.1))], [(176, some (.ints .i64 v31.2))])) (fun v62 => ([(0, .any), (12, .any)], [(176, some (.ints .i64 v62))])) (kW hC []) (fun v31 s h => ?_) fun v62 h => ?_
 unfold Xq5 at h
 refine Xad ?_
 refine kO hT hC ?_
 refine Vc.nil (Xa3 ?_)
 refine kS h ?_ ?_ <;> intro b27 h
 refine kt b27 (Xag (Xaf (Xa3 (Xaw (Xad ?_)))))
 iterate 2 refine kO hT hC ?_
 refine kN ?_
 refine kO hT hC ?_
 refine Vc.nil ?_
 refine kL [0,3,4,12,15] [176] [_,_,_,_,_] [_] ?_
 refine kX h (fun v72 => ([(15, .sv (.int .i64 v72.1))], [(176, some (.ints .i64 v72.2))])) (fun v82 => ([(4, .any), (15, .any)], [(176, some (.ints .i64 v82))])) (kW hC []) (fun v72 s h => ?_) fun v82 h => ?_
 unfold Xq6 at h
 refine Xad ?_
 refine kO hT hC ?_
 refine Vc.nil (Xa3 ?_)
 refine kS h ?_ ?_ <;> intro b36 h
 refine kt b36 (Xag (Xaf (Xa3 (Xaw (Xad ?_)))))
 iterate 2 refine kO hT hC ?_
 refine kN ?_
 refine kO hT hC ?_
 refine Vc.nil ?_
 refine kL [0,3,4,5,12,15,18] [176] [_,_,_,_,_,_,_] [_] ?_
 refine kX h (fun v85 => ([(18, .sv (.int .i64 v85.1))], [(176, some (.ints .i64 v85.2))])) (fun v88 => ([(5, .any), (18, .any)], [(176, some (.ints .i64 v88))])) (kW hC []) (fun v85 s h => ?_) fun v88 h => ?_
 unfold Xko at h
 refine Xad ?_
 refine kO hT hC ?_
 refine Vc.nil (Xa3 ?_)
 refine kS h ?_ ?_ <;> intro b39 h
 refine kt b39 (Xag (Xaf (Xa3 (Xaw (Xad ?_)))))
 iterate 2 refine kO hT hC ?_
 refine Vc.nil ?_
 refine Xf3 hm ?_
 iterate 10 refine kO hT hC ?_
 iterate 2 refine kQ hT hC h fun h => ?_
 iterate 2 refine kO hT hC ?_
 refine kC hC [] Tryz.call252 h (fun _ => Xui) fun q89 h => ?_
 iterate 5 refine kO hT hC ?_
 refine kQ hT hC h fun h => ?_
 iterate 3 refine kO hT hC ?_
 iterate 2 refine kQ hT hC h fun h => ?_
 refine kD (Xa2 (Xaf (Xac ?_)))
 iterate 2 refine kO hT hC ?_
 exact Vc.nil kG
 exact kf b39 (Xa0 (Xbd ku))
 refine Xa2 (Xaf (Xac ?_))
 iterate 2 refine kO hT hC ?_
 exact Vc.nil kG
 exact kf b36 (Xa0 (Xbd ku))
 refine Xa2 (Xaf (Xac ?_))
 iterate 2 refine kO hT hC ?_
 exact Vc.nil kG
 exact kf b27 (Xa0 (Xbd ku))
 refine Xaf (Xad ?_)
 obtain ⟨hq, h⟩ := Xa7 h
 refine Ygp hT hC rfl rfl rfl rfl ⟨hq.1, hq.2.1, hq.2.2, by decide⟩ ?_
 refine kO hT hC ?_
 refine Vc.nil (Xa3 (Xad ?_))
 refine kO hT hC ?_
 refine Vc.nil ?_
 refine kL [3,7,50] [176,784] [_,_,_] [_,_] ?_
 refine kX h (fun v123 => ([(50, .sv (.int .i64 v123.1))], [(784, some (.ints .i64 v123.2))])) (fun v154 => ([(3, .any), (50, .any)], [(784, some (.ints .i64 v154)), (176, none)])) (kW hC []) (fun v123 s h => ?_) fun v154 h => ?_
 unfold Xpg at h
 refine Xad ?_
 refine kO hT hC ?_
 refine Vc.nil (Xa3 ?_)
 refine kS h ?_ ?_ <;> intro b66 h
 refine kt b66 (Xag (Xaf (Xa3 (Xaw (Xad ?_)))))
 iterate 2 refine kO hT hC ?_
 refine kN ?_
 refine kO hT hC ?_
 refine Vc.nil ?_
 refine kL [3,7,8,50,53] [176,784] [_,_,_,_,_] [_,_] ?_
 refine kX h (fun v164 => ([(53, .sv (.int .i64 v164.1))], [(784, some (.ints .i64 v164.2))])) (fun v174 => ([(8, .any), (53, .any)], [(784, some (.ints .i64 v174))])) (kW hC []) (fun v164 s h => ?_) fun v174 h => ?_
 unfold Xph at h
 refine Xad ?_
 refine kO hT hC ?_
 refine Vc.nil (Xa3 ?_)
 refine kS h ?_ ?_ <;> intro b75 h
 refine kt b75 (Xag (Xaf (Xa3 (Xaw (Xad ?_)))))
 iterate 2 refine kO hT hC ?_
 refine kN ?_
 refine kO hT hC ?_
 refine Vc.nil ?_
 refine kL [3,7,8,9,50,53,56] [176,784] [_,_,_,_,_,_,_] [_,_] ?_
 refine kX h (fun v177 => ([(56, .sv (.int .i64 v177.1))], [(784, some (.ints .i64 v177.2))])) (fun v180 => ([(9, .any), (56, .any)], [(784, some (.ints .i64 v180))])) (kW hC []) (fun v177 s h => ?_) fun v180 h => ?_
 unfold Xit at h
 refine Xad ?_
 refine kO hT hC ?_
 refine Vc.nil (Xa3 ?_)
 refine kS h ?_ ?_ <;> intro b78 h
 refine kt b78 (Xag (Xaf (Xa3 (Xaw (Xad ?_)))))
 iterate 2 refine kO hT hC ?_
 refine Vc.nil ?_
 refine Xf3 hm ?_
 iterate 10 refine kO hT hC ?_
 iterate 2 refine kQ hT hC h fun h => ?_
 iterate 2 refine kO hT hC ?_
 refine kC hC [] Tryz.call252 h (fun _ => Xui) fun q181 h => ?_
 iterate 5 refine kO hT hC ?_
 iterate 2 refine kQ hT hC h fun h => ?_
 iterate 2 refine kO hT hC ?_
 iterate 2 refine kQ hT hC h fun h => ?_
 refine kD (Xa2 (Xaf (Xac ?_)))
 iterate 2 refine kO hT hC ?_
 exact Vc.nil kG
 exact kf b78 (Xa0 (Xbd ku))
 refine Xa2 (Xaf (Xac ?_))
 iterate 2 refine kO hT hC ?_
 exact Vc.nil kG
 exact kf b75 (Xa0 (Xbd ku))
 refine Xa2 (Xaf (Xac ?_))
 iterate 2 refine kO hT hC ?_
 exact Vc.nil kG
 exact kf b66 (Xa0 (Xbd ku))
 refine Xaf (Xad ?_)
 iterate 2 refine kO hT hC ?_
 refine Vc.nil (Xah ?_)
 obtain rfl := kj h
 exact Xd1 (τ := ⟨[(2, .own 16)], [(16, some (.ints .i64 v154))]⟩) (kW hC [(16, 784)]) rfl ⟨rfl, trivial⟩
def Yhm (r : Int) : AV := .sv (.int .i64 r)
def Yhl (r : Int) : Xbj := []
theorem Xq2 {p0 p1 r} (h : Xn1 p0 p1 = some r) : AC Tryz.prog 233 [.sv (.int .i64 p0), .sv (.int .i64 p1)] [] (Yhm r) (Yhl r) := by
 refine Xae hT Tryz.func233 rfl fun C hC => ?_
 unfold Xn1 at h
 refine Xad ?_
 refine kO hT hC ?_
 refine kN ?_
 iterate 2 refine kO hT hC ?_
 refine kQ hT hC h fun h => ?_
 refine kO hT hC ?_
 refine Vc.nil ?_
 refine kL [0,1,5] [] [_,_,_] [] ?_
 refine kA h (fun v1 => ([(5, .sv (.int .i64 v1)), (0, .any), (1, .any)], [])) (fun v1 h => ?_) fun v1 h => ?_
 refine Xad ?_
 iterate 2 refine kO hT hC ?_
 refine kQ hT hC h fun h => ?_
 refine kO hT hC ?_
 refine Vc.nil ?_
 refine kS h ?_ ?_ <;> intro b1 h
 refine kt b1 (Xac ?_)
 iterate 3 refine kO hT hC ?_
 exact Vc.nil kM
 exact kf b1 (Xag kM)
 refine Xad ?_
 iterate 2 refine kO hT hC ?_
 exact Vc.nil (Xah kR)
def Ybr (r : ((List Int) × (List Int))) : AV := .own 0
def Ybq (r : ((List Int) × (List Int))) : Xbj := [(0, .ints .i64 r.2)]
theorem Xsf {p0 r} (h : Xjs p0 = some r) : AC Tryz.prog 230 [.own 0] [(0, .ints .i64 p0)] (Ybr r) (Ybq r) := by
 refine Xae hT Tryz.func230 rfl fun C hC => ?_
 unfold Xjs at h
 refine Xad ?_
 refine kO hT hC ?_
 refine Vc.nil (Xa3 (Xad ?_))
 iterate 3 refine kO hT hC ?_
 refine Vc.nil ?_
 refine kL [0,5,6,7] [0] [_,_,_,_] [_] ?_
 refine kX h (fun v3 => ([(7, .sv (.int .i64 v3.1))], [(0, some (.ints .i64 v3.2))])) (fun v6 => ([(5, .any), (6, .any), (7, .any)], [(0, some (.ints .i64 v6))])) (kW hC []) (fun v3 s h => ?_) fun v6 h => ?_
 unfold Xoa at h
 refine Xad ?_
 refine kO hT hC ?_
 refine Vc.nil (Xa3 ?_)
 refine kS h ?_ ?_ <;> intro b3 h
 refine kt b3 (Xag (Xaf (Xa3 (Xaw (Xad ?_)))))
 refine kO hT hC ?_
 iterate 2 refine kQ hT hC h fun h => ?_
 iterate 2 refine kO hT hC ?_
 refine Vc.nil (Xac ?_)
 iterate 4 refine kO hT hC ?_
 refine kC hC [] Tryz.call233 h (fun _ => Xq2) fun q7 h => ?_
 iterate 2 refine kQ hT hC h fun h => ?_
 refine Vc.nil (Xa2 (Xaf (Xac ?_)))
 iterate 2 refine kO hT hC ?_
 exact Vc.nil kG
 exact kf b3 (Xa0 (Xbd ku))
 refine Xaf (Xad ?_)
 iterate 2 refine kO hT hC ?_
 refine Vc.nil (Xah ?_)
 obtain rfl := kj h
 exact Xd1 (Xi6.refl _) rfl ⟨rfl, trivial⟩
def Xws (r : (List Int)) : AV := .own 16
def Xwr (r : (List Int)) : Xbj := [(16, .ints .i64 r)]
theorem Xyq {p0 r} (h : Xio p0 = some r) : AC Tryz.prog 206 [.sv (.ints .i64 p0)] [] (Xws r) (Xwr r) := by
 refine Xae hT Tryz.func206 rfl fun C hC => ?_
 unfold Xio at h
 refine Xad ?_
 refine kO hT hC ?_
 refine Vc.nil (Xa3 (Xad ?_))
 refine kO hT hC ?_
 refine kC hC [] Tryz.call163 h (fun _ => Xh5) fun q1 h => ?_
 refine kO hT hC ?_
 refine Vc.nil ?_
 refine kS h ?_ ?_ <;> intro b1 h
 refine kt b1 (Xad ?_)
 iterate 2 refine kO hT hC ?_
 refine Vc.nil (Xah (Xa9 ?_))
 obtain rfl := kj h
 exact Xd1 (τ := ⟨[(2, .own 16)], [(16, some (.ints .i64 ([] : List Int)))]⟩) (kW hC [(16, 96)]) rfl ⟨rfl, trivial⟩
 refine kf b1 (Xag (Xaf (Xad ?_)))
 refine kO hT hC ?_
 refine kC hC [(16, 128)] Tryz.call224 h (fun _ => Ym3) fun q2 h => ?_
 refine kC hC [(0, 128)] Tryz.call230 h (fun _ => Xsf) fun q3 h => ?_
 refine kO hT hC ?_
 refine Vc.nil (Xah ?_)
 obtain rfl := kj h
 exact Xd1 (τ := ⟨[(2, .own 16)], [(16, some (.ints .i64 q3.2))]⟩) (kW hC [(16, 128)]) rfl ⟨rfl, trivial⟩
def Yd4 (r : Int) : AV := .sv (.int .i64 r)
def Yd3 (r : Int) : Xbj := []
theorem Yg7 {p0 r} (h : Xvj p0 = some r) : AC Tryz.prog 253 [.sv (.int .i64 p0)] [] (Yd4 r) (Yd3 r) := by
 refine Xae hT Tryz.func253 rfl fun C hC => ?_
 unfold Xvj at h
 refine Xad ?_
 refine kO hT hC ?_
 refine Vc.nil (Xa3 (Xad ?_))
 refine kO hT hC ?_
 refine kC hC [] Tryz.call69 h (fun _ => Xak) fun q1 h => ?_
 refine kO hT hC ?_
 refine Vc.nil ?_
 refine kS h ?_ ?_ <;> intro b1 h
 refine kt b1 (Xad ?_)
 refine kO hT hC ?_
 exact Vc.nil (Xah (Xa9 kR))
 refine kf b1 (Xag (Xaf (Xad ?_)))
 refine kO hT hC ?_
 iterate 2 refine kQ hT hC h fun h => ?_
 refine kO hT hC ?_
 iterate 2 refine kQ hT hC h fun h => ?_
 iterate 2 refine kO hT hC ?_
 refine Vc.nil (Xa3 (Xaw ?_))
 refine kL [3,4] [] [_,_] [] ?_
 refine kA h (fun v2 => ([(14, .sv (.bool v2))], [])) (fun v2 h => ?_) fun v2 h => ?_
 refine Xac ?_
 iterate 3 refine kO hT hC ?_
 refine kS h ?_ ?_ <;> intro b2 h
 iterate 2 refine kI hT hC b2 ?_
 refine kP hC true b2 ?_
 refine kO hT hC ?_
 exact Vc.nil kM
 iterate 2 refine kF hC b2 ?_
 refine kP hC false b2 ?_
 refine kO hT hC ?_
 exact Vc.nil kM
 refine kS h ?_ ?_ <;> intro b3 h
 refine kt b3 (Xad ?_)
 refine kO hT hC ?_
 exact Vc.nil (Xah (Xik (Xa9 kR)))
 refine kf b3 ?_
 refine kL [3,4] [] [_,_] [] ?_
 refine kA h (fun v3 => ([(21, .sv (.bool v3)), (3, .any), (4, .any)], [])) (fun v3 h => ?_) fun v3 h => ?_
 refine Xac ?_
 iterate 3 refine kO hT hC ?_
 refine kS h ?_ ?_ <;> intro b4 h
 iterate 2 refine kI hT hC b4 ?_
 refine kP hC true b4 ?_
 refine kO hT hC ?_
 exact Vc.nil kM
 iterate 2 refine kF hC b4 ?_
 refine kP hC false b4 ?_
 refine kO hT hC ?_
 exact Vc.nil kM
 refine kS h ?_ ?_ <;> intro b5 h
 refine kt b5 (Xad ?_)
 refine kO hT hC ?_
 exact Vc.nil (Xah (Xik (Xa9 kR)))
 refine kf b5 (Xag (Xa2 (Xaf (Xad ?_))))
 refine kO hT hC ?_
 exact Vc.nil (Xah kR)
def Ybb (r : Int) : AV := .sv (.int .i64 r)
def Yba (r : Int) : Xbj := []
theorem Yeb {p0 p1 r} (h : Xmr p0 p1 = some r) : AC Tryz.prog 231 [.sv (.int .i64 p0), .sv (.int .i64 p1)] [] (Ybb r) (Yba r) := by
 refine Xae hT Tryz.func231 rfl fun C hC => ?_
 unfold Xmr at h
 refine Xad ?_
 refine kO hT hC ?_
 refine Vc.nil (Xa3 ?_)
 refine kL [0,1] [] [_,_] [] ?_
 refine kA h (fun v1 => ([(13, .sv (.bool v1))], [])) (fun v1 h => ?_) fun v1 h => ?_
 refine Xac ?_
 refine kO hT hC ?_
 refine kC hC [] Tryz.call69 h (fun _ => Xak) fun q2 h => ?_
 iterate 2 refine kO hT hC ?_
 refine kS h ?_ ?_ <;> intro b1 h
 refine kI hT hC (kn b1) ?_
 refine kE hC (kn b1) [] Tryz.call69 h (fun _ => Xak) fun q3 h => ?_
 refine kI hT hC (kn b1) ?_
 refine kP hC false (kn b1) ?_
 exact Vc.nil kM
 iterate 3 refine kF hC (kn b1) ?_
 refine kP hC true (kn b1) ?_
 exact Vc.nil kM
 refine kS h ?_ ?_ <;> intro b2 h
 refine kt b2 (Xad ?_)
 refine kO hT hC ?_
 exact Vc.nil (Xah (Xa9 kR))
 refine kf b2 (Xag (Xaf (Xad ?_)))
 iterate 9 refine kO hT hC ?_
 refine Vc.nil ?_
 refine Xc6 hm ?_
 refine kO hT hC ?_
 refine kQ hT hC h fun h => ?_
 refine kO hT hC ?_
 refine kC hC [] Tryz.call253 h (fun _ => Yg7) fun q4 h => ?_
 iterate 2 refine kQ hT hC h fun h => ?_
 obtain ⟨hq, h⟩ := Xa7 h
 refine Yzm hT hC rfl rfl rfl rfl rfl rfl hq ?_
 refine kO hT hC ?_
 iterate 2 refine kQ hT hC h fun h => ?_
 refine kO hT hC ?_
 exact kD (Xah kR)
def Xw2 (r : Int) : AV := .sv (.int .i64 r)
def Xw1 (r : Int) : Xbj := []
theorem Xyw {p0 p1 p2 r} (h : Xiq p0 p1 p2 = some r) : AC Tryz.prog 207 [.sv (.int .i64 p0), .sv (.int .i64 p1), .sv (.int .i64 p2)] [] (Xw2 r) (Xw1 r) := by
 refine Xae hT Tryz.func207 rfl fun C hC => ?_
 unfold Xiq at h
 refine Xad ?_
 refine kO hT hC ?_
 refine Vc.nil (Xa3 (Xad ?_))
 refine kO hT hC ?_
 refine kC hC [] Tryz.call69 h (fun _ => Xak) fun q1 h => ?_
 refine kO hT hC ?_
 refine Vc.nil ?_
 refine kS h ?_ ?_ <;> intro b1 h
 refine kt b1 (Xad ?_)
 refine kO hT hC ?_
 exact Vc.nil (Xah (Xa9 kR))
 refine kf b1 (Xag (Xaf (Xad ?_)))
 iterate 3 refine kO hT hC ?_
 refine kC hC [] Tryz.call231 h (fun _ => Yeb) fun q2 h => ?_
 iterate 2 refine kO hT hC ?_
 exact Vc.nil (Xah kR)
def Xvi (r : (Int × Int × Int × Int)) : AV := .agg [.sv (.int .i64 r.1), .sv (.int .i64 r.2.1), .sv (.int .i64 r.2.2.1), .sv (.int .i64 r.2.2.2)]
def Xvh (r : (Int × Int × Int × Int)) : Xbj := []
theorem Xo1 {p0 p1 p2 p3 r} (h : Xd9 p0 p1 p2 p3 = some r) : AC Tryz.prog 232 [.sv (.int .i64 p0), .sv (.int .i64 p1), .sv (.int .i64 p2), .sv (.int .i64 p3)] [] (Xvi r) (Xvh r) := by
 refine Xae hT Tryz.func232 rfl fun C hC => ?_
 unfold Xd9 at h
 refine Xad ?_
 refine kO hT hC ?_
 refine kN ?_
 iterate 7 refine kO hT hC ?_
 refine kC hC [] Tryz.call233 h (fun _ => Xq2) fun q1 h => ?_
 iterate 4 refine kO hT hC ?_
 refine kC hC [] Tryz.call233 h (fun _ => Xq2) fun q2 h => ?_
 iterate 5 refine kO hT hC ?_
 refine kN ?_
 iterate 14 refine kO hT hC ?_
 exact Vc.nil (Xah kR)
def Xlr (r : (List Int)) : AV := .own 16
def Xlq (r : (List Int)) : Xbj := [(16, .ints .i64 r)]
theorem Xmv {p0 r} (h : Xct p0 = some r) : AC Tryz.prog 227 [.sv (.ints .i64 p0), .fn 232 []] [] (Xlr r) (Xlq r) := by
 refine Xae hT Tryz.func227 rfl fun C hC => ?_
 unfold Xct at h
 refine Xad ?_
 refine kO hT hC ?_
 refine kN ?_
 refine kO hT hC ?_
 refine kC hC [(16, 208)] Tryz.call135 h (fun _ => Xnd) fun q1 h => ?_
 refine kO hT hC ?_
 refine Vc.nil (Xa3 (Xad ?_))
 refine kO hT hC ?_
 refine Vc.nil ?_
 refine kL [1,5,6] [208] [_,_,_] [_] ?_
 refine kX h (fun v4 => ([(6, .sv (.int .i64 v4.1))], [(208, some (.ints .i64 v4.2))])) (fun v7 => ([(6, .any)], [(208, some (.ints .i64 v7))])) (kW hC []) (fun v4 s h => ?_) fun v7 h => ?_
 unfold Xf0 at h
 refine Xa3 (Xad ?_)
 iterate 2 refine kO hT hC ?_
 refine Vc.nil ?_
 refine kS h ?_ ?_ <;> intro b3 h
 refine kt b3 (Xag (Xaf (Xa3 (Xaw ?_))))
 refine Xc6 hm ?_
 iterate 3 refine kO hT hC ?_
 iterate 2 refine kQ hT hC h fun h => ?_
 iterate 3 refine kO hT hC ?_
 iterate 2 refine kQ hT hC h fun h => ?_
 iterate 3 refine kO hT hC ?_
 iterate 2 refine kQ hT hC h fun h => ?_
 iterate 3 refine kO hT hC ?_
 iterate 2 refine kQ hT hC h fun h => ?_
 refine kC hC [] Tryz.call232 h (fun _ => Xo1) fun q8 h => ?_
 iterate 2 refine kO hT hC ?_
 refine kD ?_
 refine Xf3 hm ?_
 iterate 4 refine kO hT hC ?_
 refine kQ hT hC h fun h => ?_
 refine Yzj hT hC rfl rfl rfl rfl rfl rfl rfl rfl rfl ?_
 obtain ⟨hq, h⟩ := Xa7 h
 refine Ywm hT hC rfl rfl rfl rfl rfl rfl rfl rfl rfl ⟨⟨trivial, hq.1⟩, hq.2⟩ ?_
 refine kD (Xa2 (Xaf (Xac ?_)))
 iterate 3 refine kO hT hC ?_
 exact Vc.nil kG
 exact kf b3 (Xa0 (Xbd ku))
 refine Xaf (Xa3 (Xad ?_))
 refine kO hT hC ?_
 refine Vc.nil ?_
 refine kL [1,5,46] [208] [_,_,_] [_] ?_
 refine kX h (fun v17 => ([(46, .sv (.int .i64 v17.1))], [(208, some (.ints .i64 v17.2))])) (fun v25 => ([(1, .any), (46, .any)], [(208, some (.ints .i64 v25))])) (kW hC []) (fun v17 s h => ?_) fun v25 h => ?_
 unfold Xfh at h
 refine Xad ?_
 refine kO hT hC ?_
 refine Vc.nil (Xa3 ?_)
 refine kS h ?_ ?_ <;> intro b12 h
 refine kt b12 (Xag (Xaf (Xa3 (Xaw (Xad ?_)))))
 iterate 2 refine kO hT hC ?_
 refine Vc.nil ?_
 refine Xc6 hm ?_
 iterate 3 refine kO hT hC ?_
 iterate 2 refine kQ hT hC h fun h => ?_
 iterate 3 refine kO hT hC ?_
 iterate 2 refine kQ hT hC h fun h => ?_
 iterate 3 refine kO hT hC ?_
 iterate 2 refine kQ hT hC h fun h => ?_
 iterate 3 refine kO hT hC ?_
 iterate 2 refine kQ hT hC h fun h => ?_
 refine kC hC [] Tryz.call232 h (fun _ => Xo1) fun q26 h => ?_
 iterate 2 refine kO hT hC ?_
 refine kD (Xad ?_)
 iterate 2 refine kO hT hC ?_
 refine Vc.nil ?_
 refine kL [1,5,8,46,70,71] [208] [_,_,_,_,_,_] [_] ?_
 refine kX h (fun v28 => ([(71, .sv (.int .i64 v28.1))], [(208, some (.ints .i64 v28.2))])) (fun v30 => ([(8, .any), (70, .any), (71, .any)], [(208, some (.ints .i64 v30))])) (kW hC []) (fun v28 s h => ?_) fun v30 h => ?_
 unfold Xfi at h
 refine Xad ?_
 refine kO hT hC ?_
 refine Vc.nil (Xa3 ?_)
 refine kS h ?_ ?_ <;> intro b15 h
 refine kt b15 (Xag (Xaf (Xa3 (Xaw (Xad ?_)))))
 refine kO hT hC ?_
 obtain ⟨hq, h⟩ := Xa7 h
 refine Yzk hT hC rfl rfl rfl rfl rfl rfl rfl hq ?_
 iterate 2 refine kO hT hC ?_
 refine Vc.nil (Xac ?_)
 iterate 6 refine kO hT hC ?_
 iterate 2 refine kQ hT hC h fun h => ?_
 refine Vc.nil (Xa2 (Xaf (Xac ?_)))
 iterate 2 refine kO hT hC ?_
 exact Vc.nil kG
 exact kf b15 (Xa0 (Xbd ku))
 refine Xa2 (Xaf (Xac ?_))
 iterate 2 refine kO hT hC ?_
 exact Vc.nil kG
 exact kf b12 (Xa0 (Xbd ku))
 refine Xaf (Xad ?_)
 iterate 2 refine kO hT hC ?_
 refine Vc.nil (Xah ?_)
 obtain rfl := kj h
 exact Xd1 (τ := ⟨[(4, .own 16)], [(16, some (.ints .i64 v25))]⟩) (kW hC [(16, 208)]) rfl ⟨rfl, trivial⟩
def Xys (r : (List Int)) : AV := .own 16
def Xyr (r : (List Int)) : Xbj := [(16, .ints .i64 r)]
theorem Yaz {p0 r} (h : Xkf p0 = some r) : AC Tryz.prog 208 [.sv (.ints .i64 p0)] [] (Xys r) (Xyr r) := by
 refine Xae hT Tryz.func208 rfl fun C hC => ?_
 unfold Xkf at h
 refine Xad ?_
 refine kO hT hC ?_
 refine Vc.nil (Xa3 (Xad ?_))
 refine kO hT hC ?_
 refine kC hC [] Tryz.call163 h (fun _ => Xh5) fun q1 h => ?_
 refine kO hT hC ?_
 refine Vc.nil ?_
 refine kS h ?_ ?_ <;> intro b1 h
 refine kt b1 (Xad ?_)
 iterate 2 refine kO hT hC ?_
 refine Vc.nil (Xah (Xa9 ?_))
 obtain rfl := kj h
 exact Xd1 (τ := ⟨[(2, .own 16)], [(16, some (.ints .i64 ([] : List Int)))]⟩) (kW hC [(16, 96)]) rfl ⟨rfl, trivial⟩
 refine kf b1 (Xag (Xaf (Xad ?_)))
 refine kO hT hC ?_
 refine kC hC [(16, 128)] Tryz.call227 h (fun _ => Xmv) fun q2 h => ?_
 refine kC hC [(0, 128)] Tryz.call230 h (fun _ => Xsf) fun q3 h => ?_
 refine kO hT hC ?_
 refine Vc.nil (Xah ?_)
 obtain rfl := kj h
 exact Xd1 (τ := ⟨[(2, .own 16)], [(16, some (.ints .i64 q3.2))]⟩) (kW hC [(16, 128)]) rfl ⟨rfl, trivial⟩
def Ybl (r : (List Int)) : AV := .own 16
def Ybk (r : (List Int)) : Xbj := [(16, .ints .i64 r)]
theorem Yez {p0 r} (h : Xmu p0 = some r) : AC Tryz.prog 195 [.sv (.int .i64 p0)] [] (Ybl r) (Ybk r) := by
 refine Xae hT Tryz.func195 rfl fun C hC => ?_
 unfold Xmu at h
 refine Xad ?_
 refine kO hT hC ?_
 refine kN ?_
 iterate 2 refine kO hT hC ?_
 refine Vc.nil (Xa3 (Xad ?_))
 refine kO hT hC ?_
 refine Vc.nil ?_
 refine kL [0,3,7] [96] [_,_,_] [_] ?_
 refine kX h (fun v7 => ([(7, .sv (.int .i64 v7.1))], [(96, some (.ints .i64 v7.2))])) (fun v14 => ([(0, .any), (7, .any)], [(96, some (.ints .i64 v14))])) (kW hC []) (fun v7 s h => ?_) fun v14 h => ?_
 unfold Xja at h
 refine Xad ?_
 refine kO hT hC ?_
 refine Vc.nil (Xa3 ?_)
 refine kS h ?_ ?_ <;> intro b9 h
 refine kt b9 (Xag (Xaf (Xa3 (Xaw (Xad ?_)))))
 iterate 2 refine kO hT hC ?_
 refine kN ?_
 refine kO hT hC ?_
 refine Vc.nil ?_
 refine kL [0,3,4,7,10] [96] [_,_,_,_,_] [_] ?_
 refine kX h (fun v16 => ([(10, .sv (.int .i64 v16.1))], [(96, some (.ints .i64 v16.2))])) (fun v18 => ([(4, .any), (10, .any)], [(96, some (.ints .i64 v18))])) (kW hC []) (fun v16 s h => ?_) fun v18 h => ?_
 unfold Xne at h
 refine Xad ?_
 refine kO hT hC ?_
 refine Vc.nil (Xa3 ?_)
 refine kS h ?_ ?_ <;> intro b12 h
 refine kt b12 (Xag (Xaf (Xa3 (Xaw (Xad ?_)))))
 iterate 2 refine kO hT hC ?_
 refine Vc.nil (Xac ?_)
 iterate 3 refine kO hT hC ?_
 refine kQ hT hC h fun h => ?_
 iterate 6 refine kO hT hC ?_
 refine kQ hT hC h fun h => ?_
 iterate 3 refine kO hT hC ?_
 refine kT hT hC h fun h => ?_
 refine kO hT hC ?_
 refine Vc.nil (Xa2 (Xaf (Xac ?_)))
 iterate 2 refine kO hT hC ?_
 refine Vc.nil ?_
 obtain rfl := kj h
 exact Yk5 (kW hC [(96, 432)])
 exact kf b12 (Xa0 (Xbd ku))
 refine Xa2 (Xaf (Xac ?_))
 iterate 2 refine kO hT hC ?_
 exact Vc.nil kG
 exact kf b9 (Xa0 (Xbd ku))
 refine Xaf (Xad ?_)
 iterate 2 refine kO hT hC ?_
 refine Vc.nil (Xah ?_)
 obtain rfl := kj h
 exact Xd1 (τ := ⟨[(2, .own 16)], [(16, some (.ints .i64 v14))]⟩) (kW hC [(16, 96)]) rfl ⟨rfl, trivial⟩
def Xvl (r : ((List Int) × Bool)) : AV := .tup [.own 16, .sv (.bool r.2)]
def Xvk (r : ((List Int) × Bool)) : Xbj := [(16, .ints .i64 r.1)]
theorem Xww {p0 p1 r} (h : Xhb p0 p1 = some r) : AC Tryz.prog 179 [.sv (.ints .i64 p0), .agg [.sv (.bool p1.Key), .sv (.int .i64 p1.Qp), .sv (.bool p1.Large), .sv (.bool p1.Exact)]] [] (Xvl r) (Xvk r) := by
 refine Xae hT Tryz.func179 rfl fun C hC => ?_
 unfold Xhb at h
 refine Xad ?_
 iterate 3 refine kO hT hC ?_
 refine Vc.nil (Xa3 ?_)
 refine kL [0,3] [48] [_,_] [_] ?_
 refine kA h (fun v1 => ([(26, .sv (.bool v1))], [])) (fun v1 h => ?_) fun v1 h => ?_
 refine Xac ?_
 refine kO hT hC ?_
 refine kC hC [] Tryz.call201 h (fun _ => Xln) fun q2 h => ?_
 iterate 2 refine kO hT hC ?_
 refine kS h ?_ ?_ <;> intro b1 h
 refine kI hT hC (kn b1) ?_
 refine kE hC (kn b1) [] Tryz.call121 h (fun _ => Xl8) fun q3 h => ?_
 refine kI hT hC (kn b1) ?_
 refine kP hC false (kn b1) ?_
 exact Vc.nil kM
 iterate 3 refine kF hC (kn b1) ?_
 refine kP hC true (kn b1) ?_
 exact Vc.nil kM
 refine kS h ?_ ?_ <;> intro b2 h
 refine kt b2 (Xad ?_)
 iterate 3 refine kO hT hC ?_
 refine Vc.nil (Xah (Xa9 ?_))
 obtain rfl := kj h
 exact Xd1 (τ := ⟨[(4, .own 16), (5, .sv (.bool false))], [(16, some (.ints .i64 ([] : List Int)))]⟩) (kW hC [(16, 432)]) rfl ⟨rfl, trivial⟩
 refine kf b2 (Xag (Xaf (Xa3 (Xad ?_))))
 iterate 2 refine kO hT hC ?_
 refine Vc.nil ?_
 refine kS h ?_ ?_ <;> intro b3 h
 refine kt b3 (Xad ?_)
 refine kO hT hC ?_
 refine kC hC [(16, 496)] Tryz.call204 h (fun _ => Xlm) fun q4 h => ?_
 iterate 4 refine kO hT hC ?_
 refine Vc.nil (Xah (Xa9 ?_))
 obtain rfl := kj h
 exact Xd1 (τ := ⟨[(4, .own 16), (5, .sv (.bool q4.2))], [(16, some (.ints .i64 q4.1))]⟩) (kW hC [(16, 496)]) rfl ⟨rfl, trivial⟩
 refine kf b3 (Xag (Xaf (Xa3 (Xad ?_))))
 iterate 2 refine kO hT hC ?_
 refine Vc.nil ?_
 refine kS h ?_ ?_ <;> intro b4 h
 refine kt b4 (Xad ?_)
 refine kO hT hC ?_
 refine kC hC [(16, 608)] Tryz.call204 h (fun _ => Xlm) fun q5 h => ?_
 iterate 5 refine kO hT hC ?_
 refine Vc.nil (Xa3 (Xad ?_))
 iterate 3 refine kO hT hC ?_
 refine Vc.nil ?_
 refine kL [3,6,41,42,43] [48,608] [_,_,_,_,_] [_,_] ?_
 refine kX h (fun v8 => ([(43, .sv (.int .i64 v8.1))], [(608, some (.ints .i64 v8.2))])) (fun v11 => ([(3, .any), (41, .any), (42, .any), (43, .any)], [(608, some (.ints .i64 v11)), (48, none)])) (kW hC []) (fun v8 s h => ?_) fun v11 h => ?_
 unfold Xer at h
 refine Xad ?_
 refine kO hT hC ?_
 refine Vc.nil (Xa3 ?_)
 refine kS h ?_ ?_ <;> intro b7 h
 refine kt b7 (Xag (Xaf (Xa3 (Xaw (Xad ?_)))))
 refine kO hT hC ?_
 iterate 2 refine kQ hT hC h fun h => ?_
 iterate 2 refine kO hT hC ?_
 refine Vc.nil (Xac ?_)
 iterate 5 refine kO hT hC ?_
 refine kC hC [] Tryz.call205 h (fun _ => Xyt) fun q12 h => ?_
 iterate 2 refine kQ hT hC h fun h => ?_
 refine Vc.nil (Xa2 (Xaf (Xac ?_)))
 iterate 2 refine kO hT hC ?_
 exact Vc.nil kG
 exact kf b7 (Xa0 (Xbd ku))
 refine Xaf (Xad ?_)
 refine kO hT hC ?_
 refine kC hC [(16, 912)] Tryz.call206 h (fun _ => Xyq) fun q14 h => ?_
 iterate 2 refine kO hT hC ?_
 refine Vc.nil (Xah (Xa9 ?_))
 obtain rfl := kj h
 exact Xd1 (τ := ⟨[(4, .own 16), (5, .sv (.bool true))], [(16, some (.ints .i64 q14))]⟩) (kW hC [(16, 912)]) rfl ⟨rfl, trivial⟩
 refine kf b4 (Xag (Xaf (Xad ?_)))
 obtain ⟨hq, h⟩ := Xa7 h
 refine Ygp hT hC rfl rfl rfl rfl ⟨hq.1, hq.2.1, hq.2.2, by decide⟩ ?_
 refine kO hT hC ?_
 refine Vc.nil (Xa3 (Xad ?_))
 refine kO hT hC ?_
 refine Vc.nil ?_
 refine kL [0,3,10,59] [48,928] [_,_,_,_] [_,_] ?_
 refine kX h (fun v32 => ([(59, .sv (.int .i64 v32.1))], [(928, some (.ints .i64 v32.2))])) (fun v50 => ([(0, .any), (3, .any), (59, .any)], [(928, some (.ints .i64 v50)), (48, none)])) (kW hC []) (fun v32 s h => ?_) fun v50 h => ?_
 unfold Xjj at h
 refine Xad ?_
 refine kO hT hC ?_
 refine Vc.nil (Xa3 ?_)
 refine kS h ?_ ?_ <;> intro b22 h
 refine kt b22 (Xag (Xaf (Xa3 (Xaw (Xad ?_)))))
 iterate 2 refine kO hT hC ?_
 refine kN ?_
 iterate 6 refine kO hT hC ?_
 refine kQ hT hC h fun h => ?_
 refine kC hC [(16, 1120)] Tryz.call204 h (fun _ => Xlm) fun q51 h => ?_
 iterate 5 refine kO hT hC ?_
 refine Vc.nil (Xa3 (Xad ?_))
 iterate 3 refine kO hT hC ?_
 refine Vc.nil ?_
 refine kL [0,3,10,11,12,59,73,74,75] [48,928,1120] [_,_,_,_,_,_,_,_,_] [_,_,_] ?_
 refine kX h (fun v54 => ([(75, .sv (.int .i64 v54.1))], [(1120, some (.ints .i64 v54.2))])) (fun v57 => ([(73, .any), (74, .any), (75, .any)], [(1120, some (.ints .i64 v57))])) (kW hC []) (fun v54 s h => ?_) fun v57 h => ?_
 unfold Xea at h
 refine Xad ?_
 refine kO hT hC ?_
 refine Vc.nil (Xa3 ?_)
 refine kS h ?_ ?_ <;> intro b25 h
 refine kt b25 (Xag (Xaf (Xa3 (Xaw (Xad ?_)))))
 refine kO hT hC ?_
 iterate 2 refine kQ hT hC h fun h => ?_
 iterate 2 refine kO hT hC ?_
 refine Vc.nil (Xac ?_)
 iterate 6 refine kO hT hC ?_
 refine kC hC [] Tryz.call207 h (fun _ => Xyw) fun q58 h => ?_
 iterate 2 refine kQ hT hC h fun h => ?_
 refine Vc.nil (Xa2 (Xaf (Xac ?_)))
 iterate 2 refine kO hT hC ?_
 exact Vc.nil kG
 exact kf b25 (Xa0 (Xbd ku))
 refine Xaf (Xad ?_)
 refine kO hT hC ?_
 refine kC hC [(16, 1440)] Tryz.call208 h (fun _ => Yaz) fun q60 h => ?_
 refine kO hT hC ?_
 refine kN ?_
 refine kO hT hC ?_
 refine kC hC [(16, 1472)] Tryz.call195 h (fun _ => Yez) fun q61 h => ?_
 iterate 2 refine kO hT hC ?_
 refine Vc.nil ?_
 refine kL [0,3,10,16,59,92,93,94] [48,928,1440,1472] [_,_,_,_,_,_,_,_] [_,_,_,_] ?_
 refine kX h (fun v63 => ([(94, .sv (.int .i64 v63.1))], [(928, some (.ints .i64 v63.2))])) (fun v65 => ([(16, .any), (92, .any), (93, .any), (94, .any)], [(928, some (.ints .i64 v65)), (1440, none), (1472, none)])) (kW hC []) (fun v63 s h => ?_) fun v65 h => ?_
 unfold Xf6 at h
 refine Xad ?_
 refine kO hT hC ?_
 refine Vc.nil (Xa3 ?_)
 refine kS h ?_ ?_ <;> intro b28 h
 refine kt b28 (Xag (Xaf (Xa3 (Xaw (Xad ?_)))))
 refine kO hT hC ?_
 iterate 2 refine kQ hT hC h fun h => ?_
 iterate 2 refine kO hT hC ?_
 refine Vc.nil (Xac ?_)
 iterate 4 refine kO hT hC ?_
 iterate 4 refine kQ hT hC h fun h => ?_
 refine Vc.nil (Xa2 (Xaf (Xac ?_)))
 iterate 2 refine kO hT hC ?_
 exact Vc.nil kG
 exact kf b28 (Xa0 (Xbd ku))
 refine Xa2 (Xaf (Xac ?_))
 iterate 2 refine kO hT hC ?_
 exact Vc.nil kG
 exact kf b22 (Xa0 (Xbd ku))
 refine Xaf (Xad ?_)
 iterate 3 refine kO hT hC ?_
 refine Vc.nil (Xah ?_)
 obtain rfl := kj h
 exact Xd1 (τ := ⟨[(4, .own 16), (5, .sv (.bool true))], [(16, some (.ints .i64 v50))]⟩) (kW hC [(16, 928)]) rfl ⟨rfl, trivial⟩
def Yd2 (r : (List Int)) : AV := .own 16
def Yd1 (r : (List Int)) : Xbj := [(16, .ints .i64 r)]
theorem Xuf {p0 p1 r} (h : Xli p0 p1 = some r) : AC Tryz.prog 180 [.sv (.ints .i64 p0), .sv (.ints .i64 p1)] [] (Yd2 r) (Yd1 r) := by
 refine Xae hT Tryz.func180 rfl fun C hC => ?_
 unfold Xli at h
 refine Xad ?_
 refine kO hT hC ?_
 refine kN ?_
 iterate 2 refine kO hT hC ?_
 refine Vc.nil (Xa3 ?_)
 refine kL [0,1,5] [128] [_,_,_] [_] ?_
 refine kA h (fun v1 => ([(16, .sv (.bool v1))], [])) (fun v1 h => ?_) fun v1 h => ?_
 refine Xac ?_
 refine kO hT hC ?_
 refine kC hC [] Tryz.call163 h (fun _ => Xh5) fun q2 h => ?_
 iterate 2 refine kO hT hC ?_
 refine kS h ?_ ?_ <;> intro b1 h
 refine kI hT hC (kn b1) ?_
 refine kE hC (kn b1) [] Tryz.call163 h (fun _ => Xh5) fun q3 h => ?_
 refine kI hT hC (kn b1) ?_
 refine kP hC false (kn b1) ?_
 exact Vc.nil kM
 iterate 3 refine kF hC (kn b1) ?_
 refine kP hC true (kn b1) ?_
 exact Vc.nil kM
 refine kS h ?_ ?_ <;> intro b2 h
 refine kt b2 (Xad ?_)
 iterate 2 refine kO hT hC ?_
 refine Vc.nil (Xah (Xa9 ?_))
 obtain rfl := kj h
 exact Xd1 (τ := ⟨[(4, .own 16)], [(16, some (.ints .i64 ([] : List Int)))]⟩) (kW hC [(16, 128)]) rfl ⟨rfl, trivial⟩
 refine kf b2 (Xag (Xaf (Xa3 (Xad ?_))))
 iterate 3 refine kO hT hC ?_
 refine Vc.nil ?_
 refine kL [1,5,18,19,20] [128] [_,_,_,_,_] [_] ?_
 refine kX h (fun v6 => ([(20, .sv (.int .i64 v6.1))], [(128, some (.ints .i64 v6.2))])) (fun v9 => ([(1, .any), (18, .any), (19, .any), (20, .any)], [(128, some (.ints .i64 v9))])) (kW hC []) (fun v6 s h => ?_) fun v9 h => ?_
 unfold Xma at h
 refine Xad ?_
 refine kO hT hC ?_
 refine Vc.nil (Xa3 ?_)
 refine kS h ?_ ?_ <;> intro b5 h
 refine kt b5 (Xag (Xaf (Xa3 (Xaw (Xad ?_)))))
 refine kO hT hC ?_
 refine kQ hT hC h fun h => ?_
 iterate 3 refine kO hT hC ?_
 refine Vc.nil (Xac ?_)
 iterate 4 refine kO hT hC ?_
 refine kQ hT hC h fun h => ?_
 iterate 2 refine kO hT hC ?_
 refine kC hC [] Tryz.call131 h (fun _ => Xkc) fun q10 h => ?_
 refine kO hT hC ?_
 refine kT hT hC h fun h => ?_
 refine kO hT hC ?_
 refine Vc.nil (Xa2 (Xaf (Xac ?_)))
 iterate 2 refine kO hT hC ?_
 refine Vc.nil ?_
 obtain rfl := kj h
 exact Yk5 (kW hC [(128, 544)])
 exact kf b5 (Xa0 (Xbd ku))
 refine Xaf (Xad ?_)
 iterate 2 refine kO hT hC ?_
 refine Vc.nil (Xah ?_)
 obtain rfl := kj h
 exact Xd1 (τ := ⟨[(4, .own 16)], [(16, some (.ints .i64 v9))]⟩) (kW hC [(16, 128)]) rfl ⟨rfl, trivial⟩
def Yay (r : (Xm9 × Bool)) : AV := .tup [.agg [.own 16, .own 17, .sv (.int .i64 r.1.Corner)], .sv (.bool r.2)]
def Yax (r : (Xm9 × Bool)) : Xbj := [(16, .ints .i64 r.1.Above), (17, .ints .i64 r.1.Left)]
theorem Ydw {p0 p1 p2 r} (h : Xmo p0 p1 p2 = some r) : AC Tryz.prog 164 [.agg [.sv (.int .i64 p0.Wide), .sv (.int .i64 p0.High), .sv (.str p0.Dots)], .sv (.int .i64 p1), .sv (.int .i64 p2)] [] (Yay r) (Yax r) := by
 refine Xae hT Tryz.func164 rfl fun C hC => ?_
 unfold Xmo at h
 refine Xad ?_
 iterate 3 refine kO hT hC ?_
 refine Vc.nil (Xa3 ?_)
 refine kL [1,2,3,6] [48,96] [_,_,_,_] [_,_] ?_
 refine kA h (fun v1 => ([(19, .sv (.bool v1))], [])) (fun v1 h => ?_) fun v1 h => ?_
 refine Xac ?_
 refine kO hT hC ?_
 refine kC hC [] Tryz.call42 h (fun _ => Xdu) fun q2 h => ?_
 iterate 2 refine kO hT hC ?_
 refine kS h ?_ ?_ <;> intro b1 h
 iterate 3 refine kI hT hC (kn b1) ?_
 refine kE hC (kn b1) [] Tryz.call162 h (fun _ => Xnk) fun q3 h => ?_
 refine kI hT hC (kn b1) ?_
 refine kP hC false (kn b1) ?_
 exact Vc.nil kM
 iterate 5 refine kF hC (kn b1) ?_
 refine kP hC true (kn b1) ?_
 exact Vc.nil kM
 refine kS h ?_ ?_ <;> intro b2 h
 refine kt b2 (Xad ?_)
 iterate 3 refine kO hT hC ?_
 refine Vc.nil (Xah (Xa9 ?_))
 obtain rfl := kj h
 refine Xd1 (τ := ⟨[(6, .ptr 2000000 0), (7, .sv (.bool false))], [(16, some (.ints .i64 [])), (17, some (.ints .i64 [])), (2000000, some (.box [.own 16, .own 17, .sv (.int .i64 0)]))]⟩) ?_ rfl ⟨rfl, rfl, trivial⟩
 refine Xyc hC 96 0 1105 (.ints .i64 []) rfl rfl rfl rfl rfl trivial ?_
 refine Xyc hC 96 1 1106 (.ints .i64 []) rfl rfl rfl rfl rfl trivial ?_
 apply Xle hC [(16, 1105), (17, 1106), (2000000, 96)]
 exact co
 rfl
 decide
 rfl
 refine kf b2 (Xag (Xaf (Xad ?_)))
 iterate 3 refine kO hT hC ?_
 refine Vc.nil (Xa3 (Xad ?_))
 refine kO hT hC ?_
 refine Vc.nil ?_
 refine kL [1,2,3,6,8,22] [48,96,128] [_,_,_,_,_,_] [_,_,_] ?_
 obtain ⟨v15, hl, h⟩ := Xb4 h
 refine Ywk (fun v9 => ([(22, .sv (.int .i64 v9.1))], [(128, some (.box [.own 1129, .own 1130, .sv (.int .i64 (-1))])), (1129, some (.ints .i64 v9.2.1)), (1130, some (.ints .i64 v9.2.2))])) (fun v15 => ([(22, .any)], [(128, some (.box [.own 1133, .own 1134, .sv (.int .i64 (-1))])), (1133, some (.ints .i64 v15.1)), (1134, some (.ints .i64 v15.2))])) hl ?_ ?_ ?_
 refine Xyc hC 128 0 1135 (.ints .i64 []) rfl rfl rfl rfl rfl trivial ?_
 refine Xyc hC 128 1 1136 (.ints .i64 []) rfl rfl rfl rfl rfl trivial ?_
 try dsimp only
 apply Xle hC [(1129, 1135), (1130, 1136)]
 exact co
 rfl
 decide
 rfl
 intro v9 s hs
 have h := hs
 unfold Xke at h
 refine Xad ?_
 refine kO hT hC ?_
 refine Vc.nil (Xa3 ?_)
 refine kS h ?_ ?_ <;> intro b9 h
 refine kt b9 (Xag (Xaf ?_))
 refine kL [1,2,3,6,8,22] [48,96,128,1129,1130] [_,_,_,_,_,_] [_,_,_,_,_] ?_
 refine kA h (fun v16 => ([], [(1129, some (.ints .i64 v16.1)), (1130, some (.ints .i64 v16.2))])) (fun v16 h => ?_) fun v16 h => ?_
 refine Xaw (Xad ?_)
 iterate 2 refine kO hT hC ?_
 refine Vc.nil ?_
 refine kL [1,2,3,6,8,9,22] [48,96,128,1129,1130] [_,_,_,_,_,_,_] [_,_,_,_,_] ?_
 refine kA h (fun v17 => ([], [(1129, some (.ints .i64 v17))])) (fun v17 h => ?_) fun v17 h => ?_
 refine Xad ?_
 iterate 2 refine kO hT hC ?_
 refine Vc.nil ?_
 refine kS h ?_ ?_ <;> intro b10 h
 refine kt b10 ?_
 refine Xf3 hm ?_
 iterate 8 refine kO hT hC ?_
 refine kC hC [] Tryz.call171 h (fun _ => Xkg) fun q18 h => ?_
 refine kO hT hC ?_
 refine kT hT hC h fun h => ?_
 iterate 2 refine kO hT hC ?_
 refine kD ?_
 obtain rfl := kj h
 exact Xjw (kW hC [(1129, 592)])
 exact kf b10 (Xag kM)
 refine Xad ?_
 iterate 2 refine kO hT hC ?_
 refine Vc.nil ?_
 refine kS h ?_ ?_ <;> intro b11 h
 refine kt b11 ?_
 refine Xf3 hm ?_
 iterate 8 refine kO hT hC ?_
 refine kC hC [] Tryz.call171 h (fun _ => Xkg) fun q19 h => ?_
 refine kO hT hC ?_
 refine kT hT hC h fun h => ?_
 iterate 2 refine kO hT hC ?_
 refine kD (Xa2 ?_)
 obtain rfl := kj h
 exact Xjw (kW hC [(1130, 816)])
 exact kf b11 (Xag (Xa2 kM))
 refine Xac ?_
 iterate 2 refine kO hT hC ?_
 exact Vc.nil kG
 refine kf b9 (Xa0 (Xbd ?_))
 obtain rfl := kj h
 exact Ytm (Yyh (kW hC [(1133, 1129), (1134, 1130)]))
 refine Xaf ?_
 refine kL [1,2,3,6,8] [48,96,128,1133,1134] [_,_,_,_,_] [_,_,_,_,_] ?_
 refine kA h (fun v21 => ([(1, .any), (2, .any), (3, .any)], [(128, some (.box [.own 1133, .own 1134, .sv (.int .i64 v21)])), (48, none)])) (fun v21 h => ?_) fun v21 h => ?_
 refine kL [1,2,3,6,8] [48,96,128,1133,1134] [_,_,_,_,_] [_,_,_,_,_] ?_
 refine kA h (fun v22 => ([(59, .sv (.bool v22))], [])) (fun v22 h => ?_) fun v22 h => ?_
 refine Xac ?_
 iterate 3 refine kO hT hC ?_
 refine kS h ?_ ?_ <;> intro b12 h
 iterate 2 refine kI hT hC b12 ?_
 refine kP hC true b12 ?_
 exact Vc.nil kM
 iterate 2 refine kF hC b12 ?_
 refine kP hC false b12 ?_
 exact Vc.nil kM
 refine kS h ?_ ?_ <;> intro b13 h
 refine kt b13 (Xac ?_)
 iterate 5 refine kO hT hC ?_
 refine kC hC [] Tryz.call171 h (fun _ => Xkg) fun q23 h => ?_
 iterate 2 refine kO hT hC ?_
 exact Vc.nil kM
 exact kf b13 (Xag kM)
 refine Xad ?_
 iterate 3 refine kO hT hC ?_
 refine Vc.nil (Xah ?_)
 obtain rfl := kj h
 exact Xd1 (τ := ⟨[(6, .ptr 2000000 0), (7, .sv (.bool true))], [(16, some (.ints .i64 v15.1)), (17, some (.ints .i64 v15.2)), (2000000, some (.box [.own 16, .own 17, .sv (.int .i64 v21)]))]⟩) (kW hC [(16, 1133), (17, 1134), (2000000, 96)]) rfl ⟨rfl, rfl, trivial⟩
def Xrr (r : Bool) : AV := .sv (.bool r)
def Xrq (r : Bool) : Xbj := []
theorem Ydx {p0 r} (h : Xmp p0 = some r) : AC Tryz.prog 190 [.agg [.sv (.ints .i64 p0.Above), .sv (.ints .i64 p0.Left), .sv (.int .i64 p0.Corner)]] [] (Xrr r) (Xrq r) := by
 refine Xae hT Tryz.func190 rfl fun C hC => ?_
 unfold Xmp at h
 refine Xad ?_
 iterate 2 refine kO hT hC ?_
 refine Vc.nil (Xa3 (Xad ?_))
 iterate 7 refine kO hT hC ?_
 refine Vc.nil ?_
 refine kL [1,9,10,11] [16,144] [_,_,_,_] [_,_] ?_
 obtain ⟨o11, hl, h⟩ := Xb4 h
 refine Xoe (fun v4 => ([(11, .sv (.int .i64 v4))], [])) (fun v8 => ([(9, .any), (10, .any), (11, .any)], [(144, none)])) (fun r => Xye C T Tryz.f190.results.toList (Xrr r) (Xrq r)) hl ?_ ?_ ?_ ?_
 apply Xle hC []
 exact co
 rfl
 decide
 rfl
 intro v4 s hs
 have h := hs
 unfold Xff at h
 refine Xad ?_
 refine kO hT hC ?_
 refine Vc.nil (Xa3 ?_)
 refine kS h ?_ ?_ <;> intro b7 h
 refine kt b7 (Xag (Xaf (Xa3 (Xaw (Xad ?_)))))
 iterate 2 refine kQ hT hC h fun h => ?_
 refine kO hT hC ?_
 refine Vc.nil ?_
 refine kL [1,4,9,10,11] [16,144] [_,_,_,_,_] [_,_] ?_
 refine kA h (fun v9 => ([(22, .sv (.bool v9)), (4, .any)], [])) (fun v9 h => ?_) fun v9 h => ?_
 refine Xac ?_
 iterate 4 refine kO hT hC ?_
 refine kS h ?_ ?_ <;> intro b8 h
 refine kI hT hC b8 ?_
 refine kE hC b8 [] Tryz.call163 h (fun _ => Xh5) fun q10 h => ?_
 refine kI hT hC b8 ?_
 refine kP hC true b8 ?_
 exact Vc.nil kM
 iterate 3 refine kF hC b8 ?_
 refine kP hC false b8 ?_
 exact Vc.nil kM
 refine kS h ?_ ?_ <;> intro b9 h
 refine kt b9 (Xad ?_)
 refine kO hT hC ?_
 refine Vc.nil (Xah (Xik (Xa9 ?_)))
 obtain rfl := kj h
 refine Yb0 (Yby ?_)
 exact Xd1 (Xi6.refl _) rfl trivial
 refine kf b9 (Xag (Xa2 (Xaf (Xac ?_))))
 iterate 2 refine kO hT hC ?_
 exact Vc.nil kG
 exact kf b7 (Xa0 (Xbd kb))
 intro v8 e
 subst e
 refine Xaf (Xad ?_)
 iterate 2 refine kO hT hC ?_
 refine kC hC [] Tryz.call69 h (fun _ => Xak) fun q12 h => ?_
 refine kO hT hC ?_
 exact Vc.nil (Xah kR)
 intro r' σ' e hE
 subst e
 obtain rfl := kj h
 refine Xa9 ?_
 exact hE
def Yey (r : (List Int)) : AV := .sv (.ints .i64 r)
def Yex (r : (List Int)) : Xbj := []
theorem Xuq {p0 r} (h : Xlp p0 = some r) : AC Tryz.prog 198 [.sv (.ints .i64 p0)] [] (Yey r) (Yex r) := by
 refine Xae hT Tryz.func198 rfl fun C hC => ?_
 unfold Xlp at h
 refine Xad ?_
 refine kO hT hC ?_
 refine Vc.nil (Xa3 (Xad ?_))
 iterate 3 refine kO hT hC ?_
 refine Vc.nil ?_
 refine kS h ?_ ?_ <;> intro b1 h
 refine kt b1 (Xad ?_)
 iterate 2 refine kO hT hC ?_
 refine Vc.nil (Xah (Xa9 ?_))
 obtain rfl := kj h
 exact Xd1 (τ := ⟨[(2, .sv (.ints .i64 ([128, 128, 128, 128, 128, 128, 128, 128])))], []⟩) (kW hC []) rfl trivial
 refine kf b1 (Xag (Xaf (Xad ?_)))
 iterate 2 refine kO hT hC ?_
 exact Vc.nil (Xah kR)
def Ya1 (r : (List Int)) : AV := .own 16
def Ya0 (r : (List Int)) : Xbj := [(16, .ints .i64 r)]
theorem Ydy {p0 p1 r} (h : Xjp p0 p1 = some r) : AC Tryz.prog 168 [.sv (.int .i64 p0), .agg [.sv (.ints .i64 p1.Above), .sv (.ints .i64 p1.Left), .sv (.int .i64 p1.Corner)]] [] (Ya1 r) (Ya0 r) := by
 refine Xae hT Tryz.func168 rfl fun C hC => ?_
 unfold Xjp at h
 refine Xad ?_
 iterate 2 refine kO hT hC ?_
 refine kN ?_
 iterate 2 refine kO hT hC ?_
 refine Vc.nil (Xa3 ?_)
 refine kL [0,3,5] [48,208] [_,_,_] [_,_] ?_
 refine kA h (fun v1 => ([(21, .sv (.bool v1))], [])) (fun v1 h => ?_) fun v1 h => ?_
 refine Xac ?_
 refine kO hT hC ?_
 refine kC hC [] Tryz.call190 h (fun _ => Ydx) fun q2 h => ?_
 iterate 2 refine kO hT hC ?_
 refine kS h ?_ ?_ <;> intro b1 h
 refine kI hT hC (kn b1) ?_
 refine kE hC (kn b1) [] Tryz.call69 h (fun _ => Xak) fun q3 h => ?_
 refine kI hT hC (kn b1) ?_
 refine kP hC false (kn b1) ?_
 exact Vc.nil kM
 iterate 3 refine kF hC (kn b1) ?_
 refine kP hC true (kn b1) ?_
 exact Vc.nil kM
 refine kS h ?_ ?_ <;> intro b2 h
 refine kt b2 (Xad ?_)
 iterate 2 refine kO hT hC ?_
 refine Vc.nil (Xah (Xa9 ?_))
 obtain rfl := kj h
 exact Xd1 (τ := ⟨[(4, .own 16)], [(16, some (.ints .i64 ([] : List Int)))]⟩) (kW hC [(16, 208)]) rfl ⟨rfl, trivial⟩
 refine kf b2 (Xag (Xaf (Xad ?_)))
 refine kO hT hC ?_
 refine Vc.nil ?_
 refine kL [0,3,5,6] [48,208] [_,_,_,_] [_,_] ?_
 refine kA h (fun v4 => ([(6, .sv (.int .i64 v4))], [])) (fun v4 h => ?_) fun v4 h => ?_
 refine Xad ?_
 iterate 8 refine kO hT hC ?_
 refine kN ?_
 iterate 2 refine kO hT hC ?_
 refine Vc.nil ?_
 refine kS h ?_ ?_ <;> intro b3 h
 refine kt b3 ?_
 refine Xf3 hm ?_
 iterate 2 refine kO hT hC ?_
 refine kC hC [] Tryz.call140 h (fun _ => Xez) fun q5 h => ?_
 iterate 2 refine kO hT hC ?_
 refine kC hC [] Tryz.call140 h (fun _ => Xez) fun q6 h => ?_
 iterate 2 refine kO hT hC ?_
 refine kQ hT hC h fun h => ?_
 iterate 2 refine kO hT hC ?_
 refine kQ hT hC h fun h => ?_
 refine kO hT hC ?_
 exact kD kM
 exact kf b3 (Xag kM)
 refine Xc6 hm ?_
 iterate 2 refine kO hT hC ?_
 refine kC hC [] Tryz.call198 h (fun _ => Xuq) fun q7 h => ?_
 iterate 2 refine kO hT hC ?_
 refine kC hC [] Tryz.call198 h (fun _ => Xuq) fun q8 h => ?_
 iterate 5 refine kO hT hC ?_
 refine kD ?_
 refine kL [0,5,6,8,9,10] [208] [_,_,_,_,_,_] [_] ?_
 refine kA h (fun v9 => ([(10, .sv (.int .i64 v9))], [])) (fun v9 h => ?_) fun v9 h => ?_
 refine Xad ?_
 iterate 2 refine kO hT hC ?_
 refine Vc.nil ?_
 refine kS h ?_ ?_ <;> intro b4 h
 refine kt b4 (Xac ?_)
 refine kO hT hC ?_
 exact Vc.nil kM
 exact kf b4 (Xag kM)
 refine Xa3 (Xad ?_)
 refine kO hT hC ?_
 refine Vc.nil ?_
 refine kL [0,5,6,8,9,10,54] [208] [_,_,_,_,_,_,_] [_] ?_
 refine kX h (fun v22 => ([(54, .sv (.int .i64 v22.1))], [(208, some (.ints .i64 v22.2))])) (fun v35 => ([(0, .any), (6, .any), (8, .any), (9, .any), (10, .any), (54, .any)], [(208, some (.ints .i64 v35))])) (kW hC []) (fun v22 s h => ?_) fun v35 h => ?_
 unfold Xnc at h
 refine Xad ?_
 refine kO hT hC ?_
 refine Vc.nil (Xa3 ?_)
 refine kS h ?_ ?_ <;> intro b31 h
 refine kt b31 (Xag (Xaf (Xa3 (Xaw (Xad ?_)))))
 iterate 2 refine kO hT hC ?_
 refine kN ?_
 refine kO hT hC ?_
 refine Vc.nil ?_
 refine kL [0,5,6,8,9,10,11,54,57] [208] [_,_,_,_,_,_,_,_,_] [_] ?_
 refine kX h (fun v39 => ([(57, .sv (.int .i64 v39.1))], [(208, some (.ints .i64 v39.2))])) (fun v43 => ([(11, .any), (57, .any)], [(208, some (.ints .i64 v43))])) (kW hC []) (fun v39 s h => ?_) fun v43 h => ?_
 unfold Xgg at h
 refine Xad ?_
 refine kO hT hC ?_
 refine Vc.nil (Xa3 ?_)
 refine kS h ?_ ?_ <;> intro b40 h
 refine kt b40 (Xag (Xaf ?_))
 refine kL [0,5,6,8,9,10,11,54,57] [208] [_,_,_,_,_,_,_,_,_] [_] ?_
 refine kA h (fun v44 => ([(5, .own 1700)], [(1700, some (.ints .i64 v44)), (208, none)])) (fun v44 h => ?_) fun v44 h => ?_
 refine Xaw (Xad ?_)
 iterate 2 refine kO hT hC ?_
 refine kN ?_
 refine kO hT hC ?_
 refine Vc.nil (Xaw (Xad ?_))
 iterate 2 refine kO hT hC ?_
 refine Vc.nil ?_
 refine kS h ?_ ?_ <;> intro b41 h
 refine kt b41 (Xac ?_)
 iterate 3 refine kO hT hC ?_
 refine kT hT hC h fun h => ?_
 refine kO hT hC ?_
 refine Vc.nil ?_
 iterate 2 refine Xa2 ?_
 obtain rfl := kj h
 exact Xjw (kW hC [(1700, 1296)])
 refine kf b41 (Xad ?_)
 iterate 2 refine kO hT hC ?_
 refine Vc.nil ?_
 refine kS h ?_ ?_ <;> intro b42 h
 refine kt b42 (Xac ?_)
 iterate 3 refine kO hT hC ?_
 refine kQ hT hC h fun h => ?_
 iterate 2 refine kO hT hC ?_
 refine kT hT hC h fun h => ?_
 refine kO hT hC ?_
 refine Vc.nil ?_
 iterate 2 refine Xa2 ?_
 obtain rfl := kj h
 exact Xjw (kW hC [(1700, 1440)])
 refine kf b42 (Xad ?_)
 iterate 2 refine kO hT hC ?_
 refine Vc.nil ?_
 refine kS h ?_ ?_ <;> intro b43 h
 refine kt b43 (Xac ?_)
 iterate 3 refine kO hT hC ?_
 refine kQ hT hC h fun h => ?_
 iterate 2 refine kO hT hC ?_
 refine kT hT hC h fun h => ?_
 refine kO hT hC ?_
 refine Vc.nil ?_
 iterate 2 refine Xa2 ?_
 obtain rfl := kj h
 exact Xjw (kW hC [(1700, 1584)])
 refine kf b43 ?_
 refine Xf3 hm ?_
 iterate 3 refine kO hT hC ?_
 refine kQ hT hC h fun h => ?_
 iterate 3 refine kO hT hC ?_
 refine kQ hT hC h fun h => ?_
 iterate 4 refine kO hT hC ?_
 refine kC hC [] Tryz.call131 h (fun _ => Xkc) fun q45 h => ?_
 refine kO hT hC ?_
 refine kT hT hC h fun h => ?_
 refine kO hT hC ?_
 refine kD ?_
 iterate 2 refine Xa2 ?_
 obtain rfl := kj h
 exact Xjw (kW hC [(1700, 1200)])
 refine Xac ?_
 iterate 2 refine kO hT hC ?_
 refine Vc.nil ?_
 obtain rfl := kj h
 exact Yk5 (kW hC [(208, 1700)])
 exact kf b40 (Xa0 (Xbd ku))
 refine Xa2 (Xaf (Xac ?_))
 iterate 2 refine kO hT hC ?_
 exact Vc.nil kG
 exact kf b31 (Xa0 (Xbd ku))
 refine Xaf (Xad ?_)
 iterate 2 refine kO hT hC ?_
 refine Vc.nil (Xah ?_)
 obtain rfl := kj h
 exact Xd1 (τ := ⟨[(4, .own 16)], [(16, some (.ints .i64 v35))]⟩) (kW hC [(16, 208)]) rfl ⟨rfl, trivial⟩
def Xvn (r : ((List Int) × Bool)) : AV := .tup [.own 16, .sv (.bool r.2)]
def Xvm (r : ((List Int) × Bool)) : Xbj := [(16, .ints .i64 r.1)]
theorem Xw3 {p0 p1 p2 p3 p4 p5 p6 p7 r} (h : Xdj p0 p1 p2 p3 p4 p5 p6 p7 = some r) : AC Tryz.prog 139 [.agg [.sv (.int .i64 p0.Wide), .sv (.int .i64 p0.High), .sv (.str p0.Dots)], .agg [.sv (.int .i64 p1.Wide), .sv (.int .i64 p1.High), .sv (.str p1.Dots)], .sv (.int .i64 p2), .sv (.int .i64 p3), .agg [.sv (.bool p4.Key), .sv (.int .i64 p4.Qp), .sv (.bool p4.Large), .sv (.bool p4.Exact)], .sv (.int .i64 p5), .sv (.int .i64 p6), .agg [.sv (.int .i64 p7.Kind), .sv (.int .i64 p7.Mode), .sv (.int .i64 p7.Dx), .sv (.int .i64 p7.Dy), .sv (.ints .i64 p7.Levels)]] [] (Xvn r) (Xvm r) := by
 refine Xae hT Tryz.func139 rfl fun C hC => ?_
 unfold Xdj at h
 refine Xad ?_
 iterate 6 refine kO hT hC ?_
 refine Vc.nil (Xa3 ?_)
 refine kL [2,3,5,6,8,9,12,15] [128,144,192,240] [_,_,_,_,_,_,_,_] [_,_,_,_] ?_
 refine kA h (fun v1 => ([(67, .sv (.bool v1))], [])) (fun v1 h => ?_) fun v1 h => ?_
 refine Xac ?_
 refine kO hT hC ?_
 refine kC hC [] Tryz.call42 h (fun _ => Xdu) fun q2 h => ?_
 iterate 2 refine kO hT hC ?_
 refine kS h ?_ ?_ <;> intro b1 h
 iterate 3 refine kI hT hC (kn b1) ?_
 refine kE hC (kn b1) [] Tryz.call162 h (fun _ => Xnk) fun q3 h => ?_
 refine kI hT hC (kn b1) ?_
 refine kP hC false (kn b1) ?_
 refine kO hT hC ?_
 refine kS h ?_ ?_ <;> intro b2 h
 refine kI hT hC (kn b2) ?_
 refine kE hC (kn b2) [] Tryz.call69 h (fun _ => Xak) fun q4 h => ?_
 refine kI hT hC (kn b2) ?_
 refine kP hC false (kn b2) ?_
 refine kO hT hC ?_
 refine kS h ?_ ?_ <;> intro b3 h
 refine kI hT hC (kn b3) ?_
 refine kE hC (kn b3) [] Tryz.call69 h (fun _ => Xak) fun q5 h => ?_
 refine kI hT hC (kn b3) ?_
 refine kP hC false (kn b3) ?_
 refine kO hT hC ?_
 refine kS h ?_ ?_ <;> intro b4 h
 refine kI hT hC (kn b4) ?_
 refine kE hC (kn b4) [] Tryz.call175 h (fun _ => Xrs) fun q6 h => ?_
 refine kI hT hC (kn b4) ?_
 refine kP hC false (kn b4) ?_
 refine kO hT hC ?_
 refine kS h ?_ ?_ <;> intro b5 h
 refine kI hT hC (kn b5) ?_
 refine kE hC (kn b5) [] Tryz.call121 h (fun _ => Xl8) fun q7 h => ?_
 refine kI hT hC (kn b5) ?_
 refine kP hC false (kn b5) ?_
 refine kO hT hC ?_
 refine kS h ?_ ?_ <;> intro b6 h
 iterate 2 refine kI hT hC (kn b6) ?_
 refine kE hC (kn b6) [] Tryz.call176 h (fun _ => Xw4) fun q8 h => ?_
 refine kI hT hC (kn b6) ?_
 refine kP hC false (kn b6) ?_
 refine kO hT hC ?_
 refine kS h ?_ ?_ <;> intro b7 h
 iterate 4 refine kI hT hC (kn b7) ?_
 refine kS h ?_ ?_ <;> intro b8 h
 refine kI hT hC b8 ?_
 refine kE hC b8 [] Tryz.call42 h (fun _ => Xdu) fun q9 h => ?_
 refine kI hT hC b8 ?_
 refine Xbw hC rfl rfl rfl rfl (kn b7) rfl rfl (b := true) b8 rfl rfl rfl trivial ?_
 refine kP hC false (kn b7) ?_
 exact Vc.nil kM
 iterate 3 refine kF hC b8 ?_
 refine Xbw hC rfl rfl rfl rfl (kn b7) rfl rfl (b := false) b8 rfl rfl rfl trivial ?_
 refine kP hC false (kn b7) ?_
 exact Vc.nil kM
 iterate 4 refine kF hC (kn b7) ?_
 iterate 3 refine Xld hC rfl rfl rfl rfl rfl rfl ?_
 refine kF hC (kn b7) ?_
 refine kP hC true (kn b7) ?_
 exact Vc.nil kM
 iterate 4 refine kF hC (kn b6) ?_
 refine kP hC true (kn b6) ?_
 refine kO hT hC ?_
 iterate 4 refine kF hC rfl ?_
 iterate 3 refine Xld hC rfl rfl rfl rfl rfl rfl ?_
 refine kF hC rfl ?_
 refine kO hT hC ?_
 exact Vc.nil kM
 iterate 3 refine kF hC (kn b5) ?_
 refine kP hC true (kn b5) ?_
 refine kO hT hC ?_
 iterate 4 refine kF hC rfl ?_
 iterate 2 refine kO hT hC ?_
 iterate 4 refine kF hC rfl ?_
 iterate 3 refine Xld hC rfl rfl rfl rfl rfl rfl ?_
 refine kF hC rfl ?_
 refine kO hT hC ?_
 exact Vc.nil kM
 iterate 3 refine kF hC (kn b4) ?_
 refine kP hC true (kn b4) ?_
 refine kO hT hC ?_
 iterate 3 refine kF hC rfl ?_
 iterate 2 refine kO hT hC ?_
 iterate 4 refine kF hC rfl ?_
 iterate 2 refine kO hT hC ?_
 iterate 4 refine kF hC rfl ?_
 iterate 3 refine Xld hC rfl rfl rfl rfl rfl rfl ?_
 refine kF hC rfl ?_
 refine kO hT hC ?_
 exact Vc.nil kM
 iterate 3 refine kF hC (kn b3) ?_
 refine kP hC true (kn b3) ?_
 refine kO hT hC ?_
 iterate 3 refine kF hC rfl ?_
 iterate 2 refine kO hT hC ?_
 iterate 3 refine kF hC rfl ?_
 iterate 2 refine kO hT hC ?_
 iterate 4 refine kF hC rfl ?_
 iterate 2 refine kO hT hC ?_
 iterate 4 refine kF hC rfl ?_
 iterate 3 refine Xld hC rfl rfl rfl rfl rfl rfl ?_
 refine kF hC rfl ?_
 refine kO hT hC ?_
 exact Vc.nil kM
 iterate 3 refine kF hC (kn b2) ?_
 refine kP hC true (kn b2) ?_
 refine kO hT hC ?_
 iterate 3 refine kF hC rfl ?_
 iterate 2 refine kO hT hC ?_
 iterate 3 refine kF hC rfl ?_
 iterate 2 refine kO hT hC ?_
 iterate 3 refine kF hC rfl ?_
 iterate 2 refine kO hT hC ?_
 iterate 4 refine kF hC rfl ?_
 iterate 2 refine kO hT hC ?_
 iterate 4 refine kF hC rfl ?_
 iterate 3 refine Xld hC rfl rfl rfl rfl rfl rfl ?_
 refine kF hC rfl ?_
 refine kO hT hC ?_
 exact Vc.nil kM
 iterate 5 refine kF hC (kn b1) ?_
 refine kP hC true (kn b1) ?_
 refine kO hT hC ?_
 iterate 3 refine kF hC rfl ?_
 iterate 2 refine kO hT hC ?_
 iterate 3 refine kF hC rfl ?_
 iterate 2 refine kO hT hC ?_
 iterate 3 refine kF hC rfl ?_
 iterate 2 refine kO hT hC ?_
 iterate 3 refine kF hC rfl ?_
 iterate 2 refine kO hT hC ?_
 iterate 4 refine kF hC rfl ?_
 iterate 2 refine kO hT hC ?_
 iterate 4 refine kF hC rfl ?_
 iterate 3 refine Xld hC rfl rfl rfl rfl rfl rfl ?_
 refine kF hC rfl ?_
 refine kO hT hC ?_
 exact Vc.nil kM
 refine kS h ?_ ?_ <;> intro b9 h
 refine kt b9 (Xad ?_)
 iterate 3 refine kO hT hC ?_
 refine Vc.nil (Xah (Xa9 ?_))
 obtain rfl := kj h
 exact Xd1 (τ := ⟨[(16, .own 16), (17, .sv (.bool false))], [(16, some (.ints .i64 ([] : List Int)))]⟩) (kW hC [(16, 1088)]) rfl ⟨rfl, trivial⟩
 refine kf b9 (Xag (Xaf (Xa3 (Xad ?_))))
 iterate 3 refine kO hT hC ?_
 refine Vc.nil ?_
 refine kS h ?_ ?_ <;> intro b10 h
 refine kt b10 (Xad ?_)
 iterate 7 refine kO hT hC ?_
 refine kC hC [(16, 1264)] Tryz.call123 h (fun _ => Xpz) fun q10 h => ?_
 iterate 2 refine kO hT hC ?_
 refine Vc.nil (Xah (Xa9 ?_))
 obtain rfl := kj h
 exact Xd1 (τ := ⟨[(16, .own 16), (17, .sv (.bool true))], [(16, some (.ints .i64 q10))]⟩) (kW hC [(16, 1264)]) rfl ⟨rfl, trivial⟩
 refine kf b10 (Xag (Xaf (Xad ?_)))
 iterate 3 refine kO hT hC ?_
 refine kC hC [(16, 1344)] Tryz.call179 h (fun _ => Xww) fun q11 h => ?_
 iterate 5 refine kO hT hC ?_
 refine Vc.nil (Xa3 (Xad ?_))
 iterate 3 refine kO hT hC ?_
 refine Vc.nil ?_
 refine kS h ?_ ?_ <;> intro b11 h
 refine kt b11 (Xad ?_)
 iterate 13 refine kO hT hC ?_
 refine kC hC [(16, 1648)] Tryz.call123 h (fun _ => Xpz) fun q12 h => ?_
 refine kO hT hC ?_
 refine kC hC [(16, 1680)] Tryz.call180 h (fun _ => Xuf) fun q13 h => ?_
 iterate 2 refine kO hT hC ?_
 refine Vc.nil (Xah (Xa9 ?_))
 obtain rfl := kj h
 exact Xd1 (τ := ⟨[(16, .own 16), (17, .sv (.bool true))], [(16, some (.ints .i64 q13))]⟩) (kW hC [(16, 1680)]) rfl ⟨rfl, trivial⟩
 refine kf b11 (Xag (Xaf (Xad ?_)))
 iterate 3 refine kO hT hC ?_
 refine kC hC [(16, 1760), (17, 1761)] Tryz.call164 h (fun _ => Ydw) fun q14 h => ?_
 iterate 6 refine kO hT hC ?_
 refine kN ?_
 iterate 3 refine kO hT hC ?_
 refine kC hC [(16, 1856)] Tryz.call168 h (fun _ => Ydy) fun q15 h => ?_
 refine kO hT hC ?_
 refine kC hC [(16, 1888)] Tryz.call180 h (fun _ => Xuf) fun q16 h => ?_
 iterate 2 refine kO hT hC ?_
 refine Vc.nil (Xah ?_)
 obtain rfl := kj h
 exact Xd1 (τ := ⟨[(16, .own 16), (17, .sv (.bool true))], [(16, some (.ints .i64 q16))]⟩) (kW hC [(16, 1888)]) rfl ⟨rfl, trivial⟩
def Ykk (r : (List Int)) : AV := .own 16
def Ykj (r : (List Int)) : Xbj := [(16, .ints .u8 r)]
theorem Yag {p0 r} (h : Xp5 p0 = some r) : AC Tryz.prog 161 [.agg [.sv (.int .i64 p0.Wide), .sv (.int .i64 p0.High), .sv (.str p0.Dots)]] [] (Ykk r) (Ykj r) := by
 refine Xae hT Tryz.func161 rfl fun C hC => ?_
 unfold Xp5 at h
 refine Xad ?_
 iterate 2 refine kO hT hC ?_
 refine kN ?_
 iterate 2 refine kO hT hC ?_
 refine kQ hT hC h fun h => ?_
 refine kO hT hC ?_
 refine Vc.nil (Xah ?_)
 obtain rfl := kj h
 exact Xd1 (τ := ⟨[(2, .own 16)], [(16, some (.ints .u8 (Xbu p0.Dots)))]⟩) (kW hC [(16, 80)]) rfl ⟨rfl, trivial⟩
def Ym2 (r : Pic) : AV := .agg [.sv (.int .i64 r.Wide), .sv (.int .i64 r.High), .sv (.str r.Dots)]
def Ym1 (r : Pic) : Xbj := []
theorem Yox {p0 p1 p2 p3 r} (h : Xtc p0 p1 p2 p3 = some r) : AC Tryz.prog 124 [.agg [.sv (.int .i64 p0.Wide), .sv (.int .i64 p0.High), .sv (.str p0.Dots)], .sv (.int .i64 p1), .sv (.int .i64 p2), .sv (.ints .i64 p3)] [] (Ym2 r) (Ym1 r) := by
 refine Xae hT Tryz.func124 rfl fun C hC => ?_
 unfold Xtc at h
 refine Xad ?_
 iterate 2 refine kO hT hC ?_
 refine kN ?_
 refine kO hT hC ?_
 refine kC hC [(16, 208)] Tryz.call161 h (fun _ => Yag) fun q1 h => ?_
 refine kO hT hC ?_
 refine Vc.nil (Xa3 (Xad ?_))
 iterate 3 refine kO hT hC ?_
 refine Vc.nil ?_
 refine kL [1,2,4,8,9,14,15,16] [64,128,208] [_,_,_,_,_,_,_,_] [_,_,_] ?_
 refine kX h (fun v3 => ([(16, .sv (.int .i64 v3.1))], [(208, some (.ints .u8 v3.2))])) (fun v5 => ([(1, .any), (2, .any), (14, .any), (15, .any), (16, .any)], [(208, some (.ints .u8 v5))])) (kW hC []) (fun v3 s h => ?_) fun v5 h => ?_
 unfold Xq4 at h
 refine Xad ?_
 refine kO hT hC ?_
 refine Vc.nil (Xa3 ?_)
 refine kS h ?_ ?_ <;> intro b3 h
 refine kt b3 (Xag (Xaf (Xa3 (Xaw (Xad ?_)))))
 refine kO hT hC ?_
 refine kQ hT hC h fun h => ?_
 iterate 3 refine kO hT hC ?_
 refine Vc.nil (Xac ?_)
 iterate 3 refine kO hT hC ?_
 refine kQ hT hC h fun h => ?_
 iterate 7 refine kO hT hC ?_
 refine kQ hT hC h fun h => ?_
 iterate 3 refine kO hT hC ?_
 iterate 2 refine kQ hT hC h fun h => ?_
 refine Vc.nil (Xa2 (Xaf (Xac ?_)))
 iterate 2 refine kO hT hC ?_
 exact Vc.nil kG
 exact kf b3 (Xa0 (Xbd ku))
 refine Xaf (Xad ?_)
 iterate 4 refine kO hT hC ?_
 refine kN ?_
 iterate 2 refine kO hT hC ?_
 exact Vc.nil (Xah kR)
def Xp3 (r : (Pic × Bool)) : AV := .tup [.agg [.sv (.int .i64 r.1.Wide), .sv (.int .i64 r.1.High), .sv (.str r.1.Dots)], .sv (.bool r.2)]
def Xp2 (r : (Pic × Bool)) : Xbj := []
theorem Ybc {p0 p1 p2 p3 p4 r} (h : Xkj p0 p1 p2 p3 p4 = some r) : AC Tryz.prog 81 [.agg [.sv (.int .i64 p0.Wide), .sv (.int .i64 p0.High), .sv (.str p0.Dots)], .agg [.sv (.int .i64 p1.Left), .sv (.int .i64 p1.Top), .sv (.int .i64 p1.Wide), .sv (.int .i64 p1.High)], .agg [.sv (.bool p2.Key), .sv (.int .i64 p2.Qp), .sv (.bool p2.Large), .sv (.bool p2.Exact)], .sv (.bool p3), .sv (Xe1.sv p4)] [] (Xp3 r) (Xp2 r) := by
 refine Xae hT Tryz.func81 rfl fun C hC => ?_
 unfold Xkj at h
 refine Xad ?_
 iterate 5 refine kO hT hC ?_
 refine Vc.nil (Xa3 ?_)
 refine kL [3,4,5,6,7,10] [80,96,112,160] [_,_,_,_,_,_] [_,_,_,_] ?_
 refine kA h (fun v1 => ([(59, .sv (.bool v1))], [])) (fun v1 h => ?_) fun v1 h => ?_
 refine Xac ?_
 iterate 2 refine kO hT hC ?_
 refine kC hC [] Tryz.call78 h (fun _ => Xuo) fun q2 h => ?_
 iterate 2 refine kO hT hC ?_
 refine kS h ?_ ?_ <;> intro b1 h
 iterate 2 refine kI hT hC (kn b1) ?_
 refine kE hC (kn b1) [] Tryz.call78 h (fun _ => Xuo) fun q3 h => ?_
 refine kI hT hC (kn b1) ?_
 refine kP hC false (kn b1) ?_
 refine kO hT hC ?_
 refine kS h ?_ ?_ <;> intro b2 h
 iterate 2 refine kI hT hC (kn b2) ?_
 refine kE hC (kn b2) [] Tryz.call69 h (fun _ => Xak) fun q4 h => ?_
 refine kI hT hC (kn b2) ?_
 refine kP hC false (kn b2) ?_
 refine kO hT hC ?_
 refine kS h ?_ ?_ <;> intro b3 h
 iterate 2 refine kI hT hC (kn b3) ?_
 refine kE hC (kn b3) [] Tryz.call69 h (fun _ => Xak) fun q5 h => ?_
 refine kI hT hC (kn b3) ?_
 refine kP hC false (kn b3) ?_
 refine kO hT hC ?_
 refine kS h ?_ ?_ <;> intro b4 h
 refine kI hT hC (kn b4) ?_
 refine kE hC (kn b4) [] Tryz.call121 h (fun _ => Xl8) fun q6 h => ?_
 refine kI hT hC (kn b4) ?_
 refine kP hC false (kn b4) ?_
 refine kO hT hC ?_
 refine kS h ?_ ?_ <;> intro b5 h
 iterate 4 refine kI hT hC (kn b5) ?_
 refine kJ hT hC (kn b5) h fun h => ?_
 iterate 2 refine kI hT hC (kn b5) ?_
 refine kJ hT hC (kn b5) h fun h => ?_
 iterate 2 refine kI hT hC (kn b5) ?_
 refine kP hC false (kn b5) ?_
 exact Vc.nil kM
 iterate 10 refine kF hC (kn b5) ?_
 refine kP hC true (kn b5) ?_
 exact Vc.nil kM
 iterate 3 refine kF hC (kn b4) ?_
 refine kP hC true (kn b4) ?_
 refine kO hT hC ?_
 iterate 10 refine kF hC rfl ?_
 refine kO hT hC ?_
 exact Vc.nil kM
 iterate 4 refine kF hC (kn b3) ?_
 refine kP hC true (kn b3) ?_
 refine kO hT hC ?_
 iterate 3 refine kF hC rfl ?_
 iterate 2 refine kO hT hC ?_
 iterate 10 refine kF hC rfl ?_
 refine kO hT hC ?_
 exact Vc.nil kM
 iterate 4 refine kF hC (kn b2) ?_
 refine kP hC true (kn b2) ?_
 refine kO hT hC ?_
 iterate 4 refine kF hC rfl ?_
 iterate 2 refine kO hT hC ?_
 iterate 3 refine kF hC rfl ?_
 iterate 2 refine kO hT hC ?_
 iterate 10 refine kF hC rfl ?_
 refine kO hT hC ?_
 exact Vc.nil kM
 iterate 4 refine kF hC (kn b1) ?_
 refine kP hC true (kn b1) ?_
 refine kO hT hC ?_
 iterate 4 refine kF hC rfl ?_
 iterate 2 refine kO hT hC ?_
 iterate 4 refine kF hC rfl ?_
 iterate 2 refine kO hT hC ?_
 iterate 3 refine kF hC rfl ?_
 iterate 2 refine kO hT hC ?_
 iterate 10 refine kF hC rfl ?_
 refine kO hT hC ?_
 exact Vc.nil kM
 refine kS h ?_ ?_ <;> intro b6 h
 refine kt b6 (Xad ?_)
 iterate 3 refine kO hT hC ?_
 exact Vc.nil (Xah (Xa9 kR))
 refine kf b6 (Xag (Xaf (Xa3 ?_)))
 refine kL [3,4,5,6,7,10] [80,96,112,160] [_,_,_,_,_,_] [_,_,_,_] ?_
 refine kA h (fun v7 => ([(74, .sv (.bool v7))], [])) (fun v7 h => ?_) fun v7 h => ?_
 refine Xac ?_
 iterate 4 refine kO hT hC ?_
 refine kS h ?_ ?_ <;> intro b7 h
 iterate 4 refine kF hC (kn b7) ?_
 iterate 4 refine Xld hC rfl rfl rfl rfl rfl rfl ?_
 refine kF hC (kn b7) ?_
 refine kP hC false (kn b7) ?_
 exact Vc.nil kM
 refine kI hT hC (kn b7) ?_
 refine kE hC (kn b7) [] Tryz.call42 h (fun _ => Xdu) fun q8 h => ?_
 iterate 2 refine kI hT hC (kn b7) ?_
 refine kS h ?_ ?_ <;> intro b8 h
 iterate 2 refine kI hT hC (kn b8) ?_
 refine kE hC (kn b8) [] Tryz.call137 h (fun _ => Xlj) fun q9 h => ?_
 refine kI hT hC (kn b8) ?_
 refine Xbw hC rfl rfl rfl rfl (kn b7) rfl rfl (b := false) (kn b8) rfl rfl rfl trivial ?_
 refine kP hC true (kn b7) ?_
 exact Vc.nil kM
 iterate 4 refine kF hC (kn b8) ?_
 refine Xbw hC rfl rfl rfl rfl (kn b7) rfl rfl (b := true) (kn b8) rfl rfl rfl trivial ?_
 refine kP hC true (kn b7) ?_
 exact Vc.nil kM
 refine kS h ?_ ?_ <;> intro b9 h
 refine kt b9 (Xad ?_)
 iterate 3 refine kO hT hC ?_
 exact Vc.nil (Xah (Xa9 kR))
 refine kf b9 (Xag (Xaf ?_))
 refine Xc6 hm ?_
 iterate 6 refine kO hT hC ?_
 refine kD ?_
 refine kL [3,4,5,6,7,10,12,13] [80,96,112,160] [_,_,_,_,_,_,_,_] [_,_,_,_] ?_
 refine kA h (fun v10 => ([(12, .sv (.int .i64 v10.1)), (13, .sv (.int .i64 v10.2.1)), (3, .any)], [(80, some (.box [.sv (.int .i64 v10.2.2.1), .sv (.int .i64 v10.2.2.2.1), .sv (.str v10.2.2.2.2)]))])) (fun v10 h => ?_) fun v10 h => ?_
 refine Xad ?_
 refine kO hT hC ?_
 refine Vc.nil ?_
 refine kS h ?_ ?_ <;> intro b10 h
 refine kt b10 (Xad ?_)
 iterate 2 refine kO hT hC ?_
 refine kN ?_
 iterate 3 refine kO hT hC ?_
 refine Vc.nil ?_
 refine kS h ?_ ?_ <;> intro b11 h
 refine kt b11 (Xac ?_)
 iterate 2 refine kO hT hC ?_
 refine kC hC [] Tryz.call138 h (fun _ => Yka) fun q11 h => ?_
 iterate 4 refine kO hT hC ?_
 exact Vc.nil kM
 exact kf b11 (Xag kM)
 exact kf b10 (Xag kM)
 refine Xad ?_
 iterate 4 refine kO hT hC ?_
 refine kC hC [] Tryz.call115 h (fun _ => Yae) fun q12 h => ?_
 iterate 2 refine kO hT hC ?_
 refine Vc.nil (Xa3 (Xad ?_))
 iterate 3 refine kO hT hC ?_
 refine Vc.nil ?_
 refine kL [5,6,7,10,12,13,14,95,96,97] [80,96,112,160,224] [_,_,_,_,_,_,_,_,_,_] [_,_,_,_,_] ?_
 obtain ⟨o23, hl, h⟩ := Xb4 h
 refine Xoe (fun v16 => ([(97, .sv (.int .i64 v16.1))], [(224, some (.box [.sv (.int .i64 v16.2.1), .sv (.int .i64 v16.2.2.1), .sv (.str v16.2.2.2)]))])) (fun v20 => ([(5, .any), (6, .any), (7, .any), (12, .any), (13, .any), (95, .any), (96, .any), (97, .any)], [(224, some (.box [.sv (.int .i64 v20.1), .sv (.int .i64 v20.2.1), .sv (.str v20.2.2)])), (80, none), (96, none), (112, none)])) (fun r => Xye C T Tryz.f81.results.toList (Xp3 r) (Xp2 r)) hl ?_ ?_ ?_ ?_
 try dsimp only
 apply Xle hC []
 exact co
 rfl
 decide
 rfl
 intro v16 s hs
 have h := hs
 unfold Xb1 at h
 refine Xad ?_
 refine kO hT hC ?_
 refine Vc.nil (Xa3 ?_)
 refine kS h ?_ ?_ <;> intro b16 h
 refine kt b16 (Xag (Xaf (Xa3 (Xaw (Xad ?_)))))
 refine kO hT hC ?_
 refine kQ hT hC h fun h => ?_
 iterate 4 refine kO hT hC ?_
 refine Vc.nil ?_
 refine Xc6 hm ?_
 iterate 3 refine kO hT hC ?_
 iterate 2 refine kQ hT hC h fun h => ?_
 iterate 4 refine kO hT hC ?_
 iterate 2 refine kQ hT hC h fun h => ?_
 iterate 3 refine kO hT hC ?_
 refine kD (Xad ?_)
 iterate 8 refine kO hT hC ?_
 refine kC hC [(16, 1968)] Tryz.call139 h (fun _ => Xw3) fun q21 h => ?_
 iterate 5 refine kO hT hC ?_
 refine Vc.nil (Xa3 (Xad ?_))
 iterate 2 refine kO hT hC ?_
 refine Vc.nil ?_
 refine kS h ?_ ?_ <;> intro b17 h
 refine kt b17 (Xad ?_)
 iterate 3 refine kO hT hC ?_
 refine Vc.nil (Xah (Xa9 (Xik (Xa9 ?_))))
 obtain rfl := kj h
 refine Yb0 (Yby ?_)
 exact Xd1 (Xi6.refl _) rfl trivial
 refine kf b17 (Xag (Xaf (Xac ?_)))
 iterate 4 refine kO hT hC ?_
 refine kC hC [] Tryz.call124 h (fun _ => Yox) fun q22 h => ?_
 refine kO hT hC ?_
 refine Vc.nil (Xa2 (Xaf (Xac ?_)))
 iterate 2 refine kO hT hC ?_
 exact Vc.nil kG
 exact kf b16 (Xa0 (Xbd kb))
 intro v20 e
 subst e
 refine Xaf (Xad ?_)
 iterate 3 refine kO hT hC ?_
 exact Vc.nil (Xah kR)
 intro r' σ' e hE
 subst e
 obtain rfl := kj h
 refine Xa9 ?_
 exact hE
def Yd8 (r : (Pic × Bool)) : AV := .tup [.agg [.sv (.int .i64 r.1.Wide), .sv (.int .i64 r.1.High), .sv (.str r.1.Dots)], .sv (.bool r.2)]
def Yd7 (r : (Pic × Bool)) : Xbj := []
theorem Yhb {p0 p1 p2 p3 r} (h : Xn6 p0 p1 p2 p3 = some r) : AC Tryz.prog 116 [.agg [.sv (.int .i64 p0.Wide), .sv (.int .i64 p0.High), .sv (.str p0.Dots)], .agg [.sv (.int .i64 p1.Wide), .sv (.int .i64 p1.High), .sv (.str p1.Dots)], .sv (.int .i64 p2), .sv (.int .i64 p3)] [] (Yd8 r) (Yd7 r) := by
 refine Xae hT Tryz.func116 rfl fun C hC => ?_
 unfold Xn6 at h
 refine Xad ?_
 iterate 4 refine kO hT hC ?_
 refine Vc.nil (Xa3 ?_)
 refine kL [2,3,4,5,8] [64,80,128] [_,_,_,_,_] [_,_,_] ?_
 refine kA h (fun v1 => ([(31, .sv (.bool v1))], [])) (fun v1 h => ?_) fun v1 h => ?_
 refine Xac ?_
 refine kO hT hC ?_
 refine kC hC [] Tryz.call42 h (fun _ => Xdu) fun q2 h => ?_
 iterate 2 refine kO hT hC ?_
 refine kS h ?_ ?_ <;> intro b1 h
 refine kI hT hC (kn b1) ?_
 refine kE hC (kn b1) [] Tryz.call42 h (fun _ => Xdu) fun q3 h => ?_
 refine kI hT hC (kn b1) ?_
 refine kP hC false (kn b1) ?_
 refine kO hT hC ?_
 refine kS h ?_ ?_ <;> intro b2 h
 iterate 8 refine kI hT hC (kn b2) ?_
 refine kE hC (kn b2) [] Tryz.call137 h (fun _ => Xlj) fun q4 h => ?_
 refine kI hT hC (kn b2) ?_
 refine kP hC false (kn b2) ?_
 exact Vc.nil kM
 iterate 10 refine kF hC (kn b2) ?_
 refine kP hC true (kn b2) ?_
 exact Vc.nil kM
 iterate 3 refine kF hC (kn b1) ?_
 refine kP hC true (kn b1) ?_
 refine kO hT hC ?_
 iterate 10 refine kF hC rfl ?_
 refine kO hT hC ?_
 exact Vc.nil kM
 refine kS h ?_ ?_ <;> intro b3 h
 refine kt b3 (Xad ?_)
 iterate 3 refine kO hT hC ?_
 exact Vc.nil (Xah (Xa9 kR))
 refine kf b3 (Xag (Xaf (Xad ?_)))
 refine kO hT hC ?_
 refine kC hC [(16, 544)] Tryz.call161 h (fun _ => Yag) fun q5 h => ?_
 refine kO hT hC ?_
 refine Vc.nil (Xa3 (Xad ?_))
 iterate 3 refine kO hT hC ?_
 refine Vc.nil ?_
 refine kL [2,3,4,5,8,10,36,37] [64,80,128,544] [_,_,_,_,_,_,_,_] [_,_,_,_] ?_
 refine kX h (fun v7 => ([(37, .sv (.int .i64 v7.1))], [(544, some (.ints .u8 v7.2))])) (fun v9 => ([(2, .any), (3, .any), (5, .any), (36, .any), (37, .any)], [(544, some (.ints .u8 v9)), (80, none)])) (kW hC []) (fun v7 s h => ?_) fun v9 h => ?_
 unfold Xmb at h
 refine Xad ?_
 refine kO hT hC ?_
 refine Vc.nil (Xa3 ?_)
 refine kS h ?_ ?_ <;> intro b6 h
 refine kt b6 (Xag (Xaf (Xa3 (Xaw (Xad ?_)))))
 iterate 2 refine kO hT hC ?_
 refine Vc.nil ?_
 refine Xf3 hm ?_
 iterate 9 refine kO hT hC ?_
 refine kQ hT hC h fun h => ?_
 iterate 11 refine kO hT hC ?_
 refine kQ hT hC h fun h => ?_
 obtain ⟨hq, h⟩ := Xa7 h
 refine Ywm hT hC rfl rfl rfl rfl rfl rfl rfl rfl rfl ⟨⟨trivial, hq.1⟩, hq.2⟩ ?_
 refine kD (Xa2 (Xaf (Xac ?_)))
 iterate 2 refine kO hT hC ?_
 exact Vc.nil kG
 exact kf b6 (Xa0 (Xbd ku))
 refine Xaf (Xad ?_)
 iterate 4 refine kO hT hC ?_
 refine kN ?_
 iterate 3 refine kO hT hC ?_
 exact Vc.nil (Xah kR)
def Yhk (r : Int) : AV := .sv (.int .i64 r)
def Yhj (r : Int) : Xbj := []
theorem Yki {p0 p1 r} (h : Xtb p0 p1 = some r) : AC Tryz.prog 76 [.sv (.int .i64 p0), .sv (.int .i64 p1)] [] (Yhk r) (Yhj r) := by
 refine Xae hT Tryz.func76 rfl fun C hC => ?_
 unfold Xtb at h
 refine Xad ?_
 refine kO hT hC ?_
 refine kN ?_
 iterate 3 refine kO hT hC ?_
 iterate 2 refine kQ hT hC h fun h => ?_
 refine kO hT hC ?_
 exact Vc.nil (Xah kR)
def Xpf (r : (Xam × Int × Pic × Xam)) : AV := .tup [.agg [.sv (.bool r.1.HasSeq), .sv (.bool r.1.HasPar), .sv (.bool r.1.HasRef), .sv (.int .i64 r.1.Seq.Level), .sv (.int .i64 r.1.Seq.Bits), .own 3, .own 4, .sv (.int .i64 r.1.Par.Qp), .sv (.bool r.1.Par.Large), .sv (.bool r.1.Par.Exact), .sv (.bool r.1.Par.Confined), .sv (.int .i64 r.1.Frame), .sv (.int .i64 r.1.Got), .sv (.int .i64 r.1.Now.Wide), .sv (.int .i64 r.1.Now.High), .sv (.str r.1.Now.Dots), .sv (.int .i64 r.1.Ref.Wide), .sv (.int .i64 r.1.Ref.High), .sv (.str r.1.Ref.Dots)], .sv (.int .i64 r.2.1), .agg [.sv (.int .i64 r.2.2.1.Wide), .sv (.int .i64 r.2.2.1.High), .sv (.str r.2.2.1.Dots)]]
def Xpe (r : (Xam × Int × Pic × Xam)) : Xbj := [(3, .ints .i64 r.2.2.2.Seq.Cols), (4, .ints .i64 r.2.2.2.Seq.Rows)]
theorem Xpy {p0 p1 p2 r} (h : Xdg p0 p1 p2 = some r) : AC Tryz.prog 51 [.agg [.sv (.bool p0.HasSeq), .sv (.bool p0.HasPar), .sv (.bool p0.HasRef), .sv (.int .i64 p0.Seq.Level), .sv (.int .i64 p0.Seq.Bits), .own 3, .own 4, .sv (.int .i64 p0.Par.Qp), .sv (.bool p0.Par.Large), .sv (.bool p0.Par.Exact), .sv (.bool p0.Par.Confined), .sv (.int .i64 p0.Frame), .sv (.int .i64 p0.Got), .sv (.int .i64 p0.Now.Wide), .sv (.int .i64 p0.Now.High), .sv (.str p0.Now.Dots), .sv (.int .i64 p0.Ref.Wide), .sv (.int .i64 p0.Ref.High), .sv (.str p0.Ref.Dots)], .sv (.bool p1), .sv (.str p2)] [(3, .ints .i64 p0.Seq.Cols), (4, .ints .i64 p0.Seq.Rows)] (Xpf r) (Xpe r) := by
 refine Xae hT Tryz.func51 rfl fun C hC => ?_
 unfold Xdg at h
 refine Xad ?_
 iterate 4 refine kO hT hC ?_
 refine Vc.nil (Xa3 ?_)
 refine kL [1,2,3,6,8] [3,4,48,96,128] [_,_,_,_,_] [_,_,_,_,_] ?_
 refine kA h (fun v1 => ([(26, .sv (.bool v1))], [])) (fun v1 h => ?_) fun v1 h => ?_
 refine Xac ?_
 iterate 4 refine kO hT hC ?_
 refine kS h ?_ ?_ <;> intro b1 h
 iterate 3 refine kI hT hC (kn b1) ?_
 refine kP hC false (kn b1) ?_
 exact Vc.nil kM
 iterate 3 refine kF hC (kn b1) ?_
 refine kP hC true (kn b1) ?_
 exact Vc.nil kM
 refine kS h ?_ ?_ <;> intro b2 h
 refine kt b2 (Xad ?_)
 iterate 5 refine kO hT hC ?_
 refine Vc.nil (Xah (Xa9 ?_))
 obtain rfl := kj h
 exact Xd1 (Xi6.refl _) rfl ⟨rfl, rfl, trivial⟩
 refine kf b2 (Xag (Xaf (Xad ?_)))
 iterate 5 refine kO hT hC ?_
 refine kC hC [] Tryz.call113 h (fun _ => Ya4) fun q2 h => ?_
 iterate 8 refine kO hT hC ?_
 refine Vc.nil (Xa3 (Xaw (Xad ?_)))
 iterate 3 refine kO hT hC ?_
 refine Vc.nil ?_
 refine kS h ?_ ?_ <;> intro b3 h
 refine kt b3 (Xad ?_)
 iterate 5 refine kO hT hC ?_
 refine Vc.nil (Xah (Xik (Xa9 ?_)))
 obtain rfl := kj h
 exact Xd1 (Xi6.refl _) rfl ⟨rfl, rfl, trivial⟩
 refine kf b3 (Xad ?_)
 iterate 6 refine kO hT hC ?_
 refine Vc.nil ?_
 refine kS h ?_ ?_ <;> intro b4 h
 refine kt b4 (Xad ?_)
 iterate 5 refine kO hT hC ?_
 refine Vc.nil (Xah (Xik (Xa9 ?_)))
 obtain rfl := kj h
 exact Xd1 (Xi6.refl _) rfl ⟨rfl, rfl, trivial⟩
 refine kf b4 ?_
 refine kL [1,2,3,6,8,9,10] [3,4,48,96,128,144] [_,_,_,_,_,_,_] [_,_,_,_,_,_] ?_
 refine kA h (fun v3 => ([(52, .sv (.bool v3))], [])) (fun v3 h => ?_) fun v3 h => ?_
 refine Xac ?_
 iterate 4 refine kO hT hC ?_
 refine kS h ?_ ?_ <;> intro b5 h
 iterate 5 refine kI hT hC b5 ?_
 refine kP hC true b5 ?_
 refine kO hT hC ?_
 exact Vc.nil kM
 iterate 5 refine kF hC b5 ?_
 refine kP hC false b5 ?_
 refine kO hT hC ?_
 exact Vc.nil kM
 refine kS h ?_ ?_ <;> intro b6 h
 refine kt b6 (Xad ?_)
 iterate 5 refine kO hT hC ?_
 refine Vc.nil (Xah (Xik (Xa9 ?_)))
 obtain rfl := kj h
 exact Xd1 (Xi6.refl _) rfl ⟨rfl, rfl, trivial⟩
 refine kf b6 ?_
 refine kL [1,2,3,6,8,9,10] [3,4,48,96,128,144] [_,_,_,_,_,_,_] [_,_,_,_,_,_] ?_
 refine kA h (fun v4 => ([(65, .sv (.bool v4))], [])) (fun v4 h => ?_) fun v4 h => ?_
 refine Xac ?_
 iterate 3 refine kO hT hC ?_
 refine kS h ?_ ?_ <;> intro b7 h
 iterate 3 refine kF hC (kn b7) ?_
 refine kP hC false (kn b7) ?_
 refine kO hT hC ?_
 exact Vc.nil kM
 iterate 3 refine kI hT hC (kn b7) ?_
 refine kP hC true (kn b7) ?_
 refine kO hT hC ?_
 exact Vc.nil kM
 refine kS h ?_ ?_ <;> intro b8 h
 refine kt b8 (Xad ?_)
 iterate 5 refine kO hT hC ?_
 refine Vc.nil (Xah (Xik (Xa9 ?_)))
 obtain rfl := kj h
 exact Xd1 (Xi6.refl _) rfl ⟨rfl, rfl, trivial⟩
 refine kf b8 (Xag (Xa2 (Xaf (Xad ?_))))
 iterate 12 refine kO hT hC ?_
 refine Vc.nil ?_
 refine Xc6 hm ?_
 iterate 6 refine kO hT hC ?_
 refine kC hC [] Tryz.call114 h (fun _ => Xvq) fun q5 h => ?_
 refine kO hT hC ?_
 refine kC hC [(16, 1504)] Tryz.call80 h (fun _ => Ya9) fun q6 h => ?_
 iterate 5 refine kO hT hC ?_
 refine kD (Xa3 (Xad ?_))
 iterate 2 refine kO hT hC ?_
 refine Vc.nil ?_
 refine kS h ?_ ?_ <;> intro b9 h
 refine kt b9 (Xad ?_)
 iterate 5 refine kO hT hC ?_
 refine Vc.nil (Xah (Xa9 ?_))
 obtain rfl := kj h
 exact Xd1 (Xi6.refl _) rfl ⟨rfl, rfl, trivial⟩
 refine kf b9 (Xag (Xaf (Xad ?_)))
 iterate 4 refine kO hT hC ?_
 refine kC hC [] Tryz.call82 h (fun _ => Xrt) fun q7 h => ?_
 iterate 6 refine kO hT hC ?_
 refine kN ?_
 iterate 8 refine kO hT hC ?_
 refine kC hC [] Tryz.call81 h (fun _ => Ybc) fun q8 h => ?_
 iterate 6 refine kO hT hC ?_
 refine Vc.nil ?_
 refine kL [3,6,8,9,15,17] [3,4,48,96,128,144,240,272] [_,_,_,_,_,_] [_,_,_,_,_,_,_,_] ?_
 refine kA h (fun v9 => ([], [(48, some (.box [.sv (.bool p0.HasSeq), .sv (.bool p0.HasPar), .sv (.bool p0.HasRef), .sv (.int .i64 p0.Seq.Level), .sv (.int .i64 p0.Seq.Bits), .own 3, .own 4, .sv (.int .i64 p0.Par.Qp), .sv (.bool p0.Par.Large), .sv (.bool p0.Par.Exact), .sv (.bool p0.Par.Confined), .sv (.int .i64 p0.Frame), .sv (.int .i64 p0.Got), .sv (.int .i64 v9.1), .sv (.int .i64 v9.2.1), .sv (.str v9.2.2), .sv (.int .i64 p0.Ref.Wide), .sv (.int .i64 p0.Ref.High), .sv (.str p0.Ref.Dots)]))])) (fun v9 h => ?_) fun v9 h => ?_
 refine Xad ?_
 iterate 3 refine kO hT hC ?_
 refine Vc.nil ?_
 refine kS h ?_ ?_ <;> intro b10 h
 refine kt b10 (Xac ?_)
 iterate 2 refine kO hT hC ?_
 refine kC hC [] Tryz.call83 h (fun _ => Xuj) fun q10 h => ?_
 iterate 2 refine kO hT hC ?_
 refine kC hC [] Tryz.call115 h (fun _ => Yae) fun q11 h => ?_
 iterate 2 refine kO hT hC ?_
 exact Vc.nil kM
 exact kf b10 (Xag kM)
 refine Xad ?_
 iterate 7 refine kO hT hC ?_
 refine kC hC [] Tryz.call116 h (fun _ => Yhb) fun q12 h => ?_
 iterate 5 refine kO hT hC ?_
 refine kN ?_
 iterate 5 refine kO hT hC ?_
 refine kN ?_
 iterate 4 refine kO hT hC ?_
 refine Vc.nil (Xa3 ?_)
 refine Xc6 hm ?_
 iterate 4 refine kO hT hC ?_
 refine kC hC [] Tryz.call66 h (fun _ => Xkk) fun q13 h => ?_
 refine kO hT hC ?_
 refine kD ?_
 refine kS h ?_ ?_ <;> intro b11 h
 refine kt b11 (Xad ?_)
 iterate 5 refine kO hT hC ?_
 refine Vc.nil (Xah (Xa9 ?_))
 obtain rfl := kj h
 exact Xd1 (Xi6.refl _) rfl ⟨rfl, rfl, trivial⟩
 refine kf b11 (Xag (Xaf (Xad ?_)))
 iterate 4 refine kO hT hC ?_
 refine kN ?_
 iterate 2 refine kO hT hC ?_
 refine kN ?_
 iterate 3 refine kO hT hC ?_
 refine kN ?_
 iterate 2 refine kO hT hC ?_
 refine kN ?_
 iterate 5 refine kO hT hC ?_
 refine kC hC [] Tryz.call76 h (fun _ => Yki) fun q14 h => ?_
 iterate 2 refine kO hT hC ?_
 refine Vc.nil ?_
 refine Xc6 hm ?_
 iterate 6 refine kO hT hC ?_
 refine kD (Xah ?_)
 obtain rfl := kj h
 exact Xd1 (Xi6.refl _) rfl ⟨rfl, rfl, trivial⟩
def Yaw (r : (Xam × Int × Pic)) : AV := .tup [.agg [.sv (.bool r.1.HasSeq), .sv (.bool r.1.HasPar), .sv (.bool r.1.HasRef), .sv (.int .i64 r.1.Seq.Level), .sv (.int .i64 r.1.Seq.Bits), .own 16, .own 17, .sv (.int .i64 r.1.Par.Qp), .sv (.bool r.1.Par.Large), .sv (.bool r.1.Par.Exact), .sv (.bool r.1.Par.Confined), .sv (.int .i64 r.1.Frame), .sv (.int .i64 r.1.Got), .sv (.int .i64 r.1.Now.Wide), .sv (.int .i64 r.1.Now.High), .sv (.str r.1.Now.Dots), .sv (.int .i64 r.1.Ref.Wide), .sv (.int .i64 r.1.Ref.High), .sv (.str r.1.Ref.Dots)], .sv (.int .i64 r.2.1), .agg [.sv (.int .i64 r.2.2.Wide), .sv (.int .i64 r.2.2.High), .sv (.str r.2.2.Dots)]]
def Yav (r : (Xam × Int × Pic)) : Xbj := [(16, .ints .i64 r.1.Seq.Cols), (17, .ints .i64 r.1.Seq.Rows)]
theorem Xn3 {p0 p1 r} (h : Xdf p0 p1 = some r) : AC Tryz.prog 16 [.agg [.sv (.bool p0.HasSeq), .sv (.bool p0.HasPar), .sv (.bool p0.HasRef), .sv (.int .i64 p0.Seq.Level), .sv (.int .i64 p0.Seq.Bits), .sv (.ints .i64 p0.Seq.Cols), .sv (.ints .i64 p0.Seq.Rows), .sv (.int .i64 p0.Par.Qp), .sv (.bool p0.Par.Large), .sv (.bool p0.Par.Exact), .sv (.bool p0.Par.Confined), .sv (.int .i64 p0.Frame), .sv (.int .i64 p0.Got), .sv (.int .i64 p0.Now.Wide), .sv (.int .i64 p0.Now.High), .sv (.str p0.Now.Dots), .sv (.int .i64 p0.Ref.Wide), .sv (.int .i64 p0.Ref.High), .sv (.str p0.Ref.Dots)], .sv (.str p1)] [] (Yaw r) (Yav r) := by
 refine Xae hT Tryz.func16 rfl fun C hC => ?_
 unfold Xdf at h
 refine Xad ?_
 iterate 4 refine kO hT hC ?_
 refine kN ?_
 refine kO hT hC ?_
 refine kC hC [(16, 272), (17, 273)] Tryz.call41 h (fun _ => Xn7) fun q1 h => ?_
 refine kO hT hC ?_
 refine Vc.nil (Xa3 (Xad ?_))
 refine kO hT hC ?_
 refine kC hC [] Tryz.call24 h (fun _ => Ykc) fun q2 h => ?_
 refine kO hT hC ?_
 refine Vc.nil ?_
 refine kS h ?_ ?_ <;> intro b1 h
 refine kt b1 (Xad ?_)
 iterate 5 refine kO hT hC ?_
 refine Vc.nil (Xah (Xa9 ?_))
 obtain rfl := kj h
 exact Xd1 (τ := ⟨[(4, .ptr 2000000 0), (5, .sv (.int .i64 1)), (6, .ptr 2000002 0)], [(16, some (.ints .i64 q1.Seq.Cols)), (17, some (.ints .i64 q1.Seq.Rows)), (2000000, some (.box [.sv (.bool q1.HasSeq), .sv (.bool q1.HasPar), .sv (.bool q1.HasRef), .sv (.int .i64 q1.Seq.Level), .sv (.int .i64 q1.Seq.Bits), .own 16, .own 17, .sv (.int .i64 q1.Par.Qp), .sv (.bool q1.Par.Large), .sv (.bool q1.Par.Exact), .sv (.bool q1.Par.Confined), .sv (.int .i64 q1.Frame), .sv (.int .i64 q1.Got), .sv (.int .i64 q1.Now.Wide), .sv (.int .i64 q1.Now.High), .sv (.str q1.Now.Dots), .sv (.int .i64 q1.Ref.Wide), .sv (.int .i64 q1.Ref.High), .sv (.str q1.Ref.Dots)])), (2000002, some (.box [.sv (.int .i64 0), .sv (.int .i64 0), .sv (.str ⟨#[]⟩)]))]⟩) (kW hC [(16, 272), (17, 273), (2000000, 64), (2000002, 96)]) rfl ⟨rfl, rfl, trivial⟩
 refine kf b1 (Xag (Xaf (Xad ?_)))
 refine kO hT hC ?_
 refine kC hC [] Tryz.call33 h (fun _ => Yhi) fun q3 h => ?_
 iterate 7 refine kO hT hC ?_
 refine Vc.nil (Xa3 (Xad ?_))
 iterate 2 refine kO hT hC ?_
 refine Vc.nil ?_
 refine kS h ?_ ?_ <;> intro b2 h
 refine kt b2 (Xad ?_)
 iterate 5 refine kO hT hC ?_
 refine Vc.nil (Xah (Xa9 ?_))
 obtain rfl := kj h
 exact Xd1 (τ := ⟨[(4, .ptr 2000000 0), (5, .sv (.int .i64 2)), (6, .ptr 2000002 0)], [(16, some (.ints .i64 q1.Seq.Cols)), (17, some (.ints .i64 q1.Seq.Rows)), (2000000, some (.box [.sv (.bool q1.HasSeq), .sv (.bool q1.HasPar), .sv (.bool q1.HasRef), .sv (.int .i64 q1.Seq.Level), .sv (.int .i64 q1.Seq.Bits), .own 16, .own 17, .sv (.int .i64 q1.Par.Qp), .sv (.bool q1.Par.Large), .sv (.bool q1.Par.Exact), .sv (.bool q1.Par.Confined), .sv (.int .i64 q1.Frame), .sv (.int .i64 q1.Got), .sv (.int .i64 q1.Now.Wide), .sv (.int .i64 q1.Now.High), .sv (.str q1.Now.Dots), .sv (.int .i64 q1.Ref.Wide), .sv (.int .i64 q1.Ref.High), .sv (.str q1.Ref.Dots)])), (2000002, some (.box [.sv (.int .i64 0), .sv (.int .i64 0), .sv (.str ⟨#[]⟩)]))]⟩) (kW hC [(16, 272), (17, 273), (2000000, 64), (2000002, 96)]) rfl ⟨rfl, rfl, trivial⟩
 refine kf b2 (Xag (Xaf (Xa3 (Xad ?_))))
 refine kO hT hC ?_
 refine Vc.nil (Xaw (Xad ?_))
 iterate 2 refine kO hT hC ?_
 refine Vc.nil ?_
 refine kS h ?_ ?_ <;> intro b3 h
 refine kt b3 (Xad ?_)
 refine kO hT hC ?_
 refine kC hC [(16, 608), (17, 609)] Tryz.call34 h (fun _ => Yea) fun q4 h => ?_
 iterate 8 refine kO hT hC ?_
 refine Vc.nil (Xa3 ?_)
 refine kL [2,4,6,8,10,11,12] [32,64,96,160,272,273,608,609] [_,_,_,_,_,_,_] [_,_,_,_,_,_,_,_] ?_
 refine kA h (fun v5 => ([(49, .sv (.bool v5)), (8, .any), (11, .any), (12, .any)], [])) (fun v5 h => ?_) fun v5 h => ?_
 refine Xac ?_
 iterate 3 refine kO hT hC ?_
 refine kS h ?_ ?_ <;> intro b4 h
 iterate 4 refine kI hT hC (kn b4) ?_
 refine kP hC false (kn b4) ?_
 exact Vc.nil kM
 iterate 4 refine kF hC (kn b4) ?_
 refine kP hC true (kn b4) ?_
 exact Vc.nil kM
 refine kS h ?_ ?_ <;> intro b5 h
 refine kt b5 (Xad ?_)
 iterate 5 refine kO hT hC ?_
 refine Vc.nil (Xah (Xa9 (Xik (Xa9 ?_))))
 obtain rfl := kj h
 exact Xd1 (τ := ⟨[(4, .ptr 2000000 0), (5, .sv (.int .i64 3)), (6, .ptr 2000002 0)], [(16, some (.ints .i64 q1.Seq.Cols)), (17, some (.ints .i64 q1.Seq.Rows)), (2000000, some (.box [.sv (.bool q1.HasSeq), .sv (.bool q1.HasPar), .sv (.bool q1.HasRef), .sv (.int .i64 q1.Seq.Level), .sv (.int .i64 q1.Seq.Bits), .own 16, .own 17, .sv (.int .i64 q1.Par.Qp), .sv (.bool q1.Par.Large), .sv (.bool q1.Par.Exact), .sv (.bool q1.Par.Confined), .sv (.int .i64 q1.Frame), .sv (.int .i64 q1.Got), .sv (.int .i64 q1.Now.Wide), .sv (.int .i64 q1.Now.High), .sv (.str q1.Now.Dots), .sv (.int .i64 q1.Ref.Wide), .sv (.int .i64 q1.Ref.High), .sv (.str q1.Ref.Dots)])), (2000002, some (.box [.sv (.int .i64 0), .sv (.int .i64 0), .sv (.str ⟨#[]⟩)]))]⟩) (kW hC [(16, 272), (17, 273), (2000000, 64), (2000002, 96)]) rfl ⟨rfl, rfl, trivial⟩
 refine kf b5 (Xag (Xaf (Xad ?_)))
 refine kC hC [] Tryz.call12 h (fun _ => Xl9) fun q6 h => ?_
 refine kO hT hC ?_
 refine kN ?_
 iterate 2 refine kO hT hC ?_
 refine kN ?_
 iterate 3 refine kO hT hC ?_
 refine kN ?_
 iterate 5 refine kO hT hC ?_
 refine Vc.nil (Xah (Xik (Xa9 ?_)))
 obtain rfl := kj h
 exact Xd1 (τ := ⟨[(4, .ptr 2000000 0), (5, .sv (.int .i64 0)), (6, .ptr 2000002 0)], [(16, some (.ints .i64 q4.1.Cols)), (17, some (.ints .i64 q4.1.Rows)), (2000000, some (.box [.sv (.bool true), .sv (.bool q6.HasPar), .sv (.bool q6.HasRef), .sv (.int .i64 q4.1.Level), .sv (.int .i64 q4.1.Bits), .own 16, .own 17, .sv (.int .i64 q6.Par.Qp), .sv (.bool q6.Par.Large), .sv (.bool q6.Par.Exact), .sv (.bool q6.Par.Confined), .sv (.int .i64 q6.Frame), .sv (.int .i64 q6.Got), .sv (.int .i64 q6.Now.Wide), .sv (.int .i64 q6.Now.High), .sv (.str q6.Now.Dots), .sv (.int .i64 q6.Ref.Wide), .sv (.int .i64 q6.Ref.High), .sv (.str q6.Ref.Dots)])), (2000002, some (.box [.sv (.int .i64 0), .sv (.int .i64 0), .sv (.str ⟨#[]⟩)]))]⟩) (kW hC [(16, 608), (17, 609), (2000000, 64), (2000002, 96)]) rfl ⟨rfl, rfl, trivial⟩
 refine kf b3 (Xad ?_)
 iterate 2 refine kO hT hC ?_
 refine Vc.nil ?_
 refine kS h ?_ ?_ <;> intro b6 h
 refine kt b6 (Xad ?_)
 refine kO hT hC ?_
 refine kC hC [] Tryz.call35 h (fun _ => Yd9) fun q7 h => ?_
 iterate 8 refine kO hT hC ?_
 refine Vc.nil (Xa3 ?_)
 refine kL [2,4,6,8,13,14,15] [32,64,96,208,272,273] [_,_,_,_,_,_,_] [_,_,_,_,_,_] ?_
 refine kA h (fun v8 => ([(73, .sv (.bool v8)), (8, .any), (14, .any), (15, .any)], [])) (fun v8 h => ?_) fun v8 h => ?_
 refine Xac ?_
 iterate 3 refine kO hT hC ?_
 refine kS h ?_ ?_ <;> intro b7 h
 iterate 4 refine kI hT hC (kn b7) ?_
 refine kP hC false (kn b7) ?_
 exact Vc.nil kM
 iterate 4 refine kF hC (kn b7) ?_
 refine kP hC true (kn b7) ?_
 exact Vc.nil kM
 refine kS h ?_ ?_ <;> intro b8 h
 refine kt b8 (Xad ?_)
 iterate 5 refine kO hT hC ?_
 refine Vc.nil (Xah (Xa9 (Xik (Xa9 ?_))))
 obtain rfl := kj h
 exact Xd1 (τ := ⟨[(4, .ptr 2000000 0), (5, .sv (.int .i64 3)), (6, .ptr 2000002 0)], [(16, some (.ints .i64 q1.Seq.Cols)), (17, some (.ints .i64 q1.Seq.Rows)), (2000000, some (.box [.sv (.bool q1.HasSeq), .sv (.bool q1.HasPar), .sv (.bool q1.HasRef), .sv (.int .i64 q1.Seq.Level), .sv (.int .i64 q1.Seq.Bits), .own 16, .own 17, .sv (.int .i64 q1.Par.Qp), .sv (.bool q1.Par.Large), .sv (.bool q1.Par.Exact), .sv (.bool q1.Par.Confined), .sv (.int .i64 q1.Frame), .sv (.int .i64 q1.Got), .sv (.int .i64 q1.Now.Wide), .sv (.int .i64 q1.Now.High), .sv (.str q1.Now.Dots), .sv (.int .i64 q1.Ref.Wide), .sv (.int .i64 q1.Ref.High), .sv (.str q1.Ref.Dots)])), (2000002, some (.box [.sv (.int .i64 0), .sv (.int .i64 0), .sv (.str ⟨#[]⟩)]))]⟩) (kW hC [(16, 272), (17, 273), (2000000, 64), (2000002, 96)]) rfl ⟨rfl, rfl, trivial⟩
 refine kf b8 (Xag (Xaf (Xa3 ?_)))
 refine kL [2,4,6,13] [32,64,96,208,272,273] [_,_,_,_] [_,_,_,_,_,_] ?_
 refine kA h (fun v9 => ([(83, .sv (.bool v9))], [])) (fun v9 h => ?_) fun v9 h => ?_
 refine Xac ?_
 iterate 4 refine kO hT hC ?_
 refine kS h ?_ ?_ <;> intro b9 h
 iterate 3 refine kI hT hC (kn b9) ?_
 refine kP hC false (kn b9) ?_
 exact Vc.nil kM
 iterate 3 refine kF hC (kn b9) ?_
 refine kP hC true (kn b9) ?_
 exact Vc.nil kM
 refine kS h ?_ ?_ <;> intro b10 h
 refine kt b10 (Xad ?_)
 iterate 5 refine kO hT hC ?_
 refine Vc.nil (Xah (Xa9 (Xik (Xa9 ?_))))
 obtain rfl := kj h
 exact Xd1 (τ := ⟨[(4, .ptr 2000000 0), (5, .sv (.int .i64 4)), (6, .ptr 2000002 0)], [(16, some (.ints .i64 q1.Seq.Cols)), (17, some (.ints .i64 q1.Seq.Rows)), (2000000, some (.box [.sv (.bool q1.HasSeq), .sv (.bool q1.HasPar), .sv (.bool q1.HasRef), .sv (.int .i64 q1.Seq.Level), .sv (.int .i64 q1.Seq.Bits), .own 16, .own 17, .sv (.int .i64 q1.Par.Qp), .sv (.bool q1.Par.Large), .sv (.bool q1.Par.Exact), .sv (.bool q1.Par.Confined), .sv (.int .i64 q1.Frame), .sv (.int .i64 q1.Got), .sv (.int .i64 q1.Now.Wide), .sv (.int .i64 q1.Now.High), .sv (.str q1.Now.Dots), .sv (.int .i64 q1.Ref.Wide), .sv (.int .i64 q1.Ref.High), .sv (.str q1.Ref.Dots)])), (2000002, some (.box [.sv (.int .i64 0), .sv (.int .i64 0), .sv (.str ⟨#[]⟩)]))]⟩) (kW hC [(16, 272), (17, 273), (2000000, 64), (2000002, 96)]) rfl ⟨rfl, rfl, trivial⟩
 refine kf b10 (Xag (Xaf (Xad ?_)))
 iterate 2 refine kO hT hC ?_
 refine kN ?_
 iterate 3 refine kO hT hC ?_
 refine kN ?_
 iterate 5 refine kO hT hC ?_
 refine Vc.nil (Xah (Xik (Xa9 ?_)))
 obtain rfl := kj h
 exact Xd1 (τ := ⟨[(4, .ptr 2000000 0), (5, .sv (.int .i64 0)), (6, .ptr 2000002 0)], [(16, some (.ints .i64 q1.Seq.Cols)), (17, some (.ints .i64 q1.Seq.Rows)), (2000000, some (.box [.sv (.bool q1.HasSeq), .sv (.bool true), .sv (.bool q1.HasRef), .sv (.int .i64 q1.Seq.Level), .sv (.int .i64 q1.Seq.Bits), .own 16, .own 17, .sv (.int .i64 q7.1.Qp), .sv (.bool q7.1.Large), .sv (.bool q7.1.Exact), .sv (.bool q7.1.Confined), .sv (.int .i64 q1.Frame), .sv (.int .i64 q1.Got), .sv (.int .i64 q1.Now.Wide), .sv (.int .i64 q1.Now.High), .sv (.str q1.Now.Dots), .sv (.int .i64 q1.Ref.Wide), .sv (.int .i64 q1.Ref.High), .sv (.str q1.Ref.Dots)])), (2000002, some (.box [.sv (.int .i64 0), .sv (.int .i64 0), .sv (.str ⟨#[]⟩)]))]⟩) (kW hC [(16, 272), (17, 273), (2000000, 64), (2000002, 96)]) rfl ⟨rfl, rfl, trivial⟩
 refine kf b6 (Xag (Xa2 (Xaf (Xad ?_))))
 iterate 4 refine kO hT hC ?_
 refine kC hC [(3, 272), (4, 273)] Tryz.call51 h (fun _ => Xpy) fun q11 h => ?_
 iterate 6 refine kO hT hC ?_
 refine Vc.nil (Xah ?_)
 obtain rfl := kj h
 exact Xd1 (τ := ⟨[(4, .ptr 2000000 0), (5, .sv (.int .i64 q11.2.1)), (6, .ptr 2000002 0)], [(16, some (.ints .i64 q11.2.2.2.Seq.Cols)), (17, some (.ints .i64 q11.2.2.2.Seq.Rows)), (2000000, some (.box [.sv (.bool q11.1.HasSeq), .sv (.bool q11.1.HasPar), .sv (.bool q11.1.HasRef), .sv (.int .i64 q11.1.Seq.Level), .sv (.int .i64 q11.1.Seq.Bits), .own 16, .own 17, .sv (.int .i64 q11.1.Par.Qp), .sv (.bool q11.1.Par.Large), .sv (.bool q11.1.Par.Exact), .sv (.bool q11.1.Par.Confined), .sv (.int .i64 q11.1.Frame), .sv (.int .i64 q11.1.Got), .sv (.int .i64 q11.1.Now.Wide), .sv (.int .i64 q11.1.Now.High), .sv (.str q11.1.Now.Dots), .sv (.int .i64 q11.1.Ref.Wide), .sv (.int .i64 q11.1.Ref.High), .sv (.str q11.1.Ref.Dots)])), (2000002, some (.box [.sv (.int .i64 q11.2.2.1.Wide), .sv (.int .i64 q11.2.2.1.High), .sv (.str q11.2.2.1.Dots)]))]⟩) (kW hC [(16, 272), (17, 273), (2000000, 64), (2000002, 96)]) rfl ⟨rfl, rfl, trivial⟩
def Ydt (r : (Xam × (List Pic) × (List Int))) : AV := .tup [.agg [.sv (.bool r.1.HasSeq), .sv (.bool r.1.HasPar), .sv (.bool r.1.HasRef), .sv (.int .i64 r.1.Seq.Level), .sv (.int .i64 r.1.Seq.Bits), .own 16, .own 17, .sv (.int .i64 r.1.Par.Qp), .sv (.bool r.1.Par.Large), .sv (.bool r.1.Par.Exact), .sv (.bool r.1.Par.Confined), .sv (.int .i64 r.1.Frame), .sv (.int .i64 r.1.Got), .sv (.int .i64 r.1.Now.Wide), .sv (.int .i64 r.1.Now.High), .sv (.str r.1.Now.Dots), .sv (.int .i64 r.1.Ref.Wide), .sv (.int .i64 r.1.Ref.High), .sv (.str r.1.Ref.Dots)], .own 18, .own 19]
def Yds (r : (Xam × (List Pic) × (List Int))) : Xbj := [(16, .ints .i64 r.1.Seq.Cols), (17, .ints .i64 r.1.Seq.Rows), (18, .row Yof r.2.1), (19, .ints .i64 r.2.2)]
theorem Xpd {p0 p1 r} (h : Xha p0 p1 = some r) : AC Tryz.prog 11 [.agg [.sv (.bool p0.HasSeq), .sv (.bool p0.HasPar), .sv (.bool p0.HasRef), .sv (.int .i64 p0.Seq.Level), .sv (.int .i64 p0.Seq.Bits), .sv (.ints .i64 p0.Seq.Cols), .sv (.ints .i64 p0.Seq.Rows), .sv (.int .i64 p0.Par.Qp), .sv (.bool p0.Par.Large), .sv (.bool p0.Par.Exact), .sv (.bool p0.Par.Confined), .sv (.int .i64 p0.Frame), .sv (.int .i64 p0.Got), .sv (.int .i64 p0.Now.Wide), .sv (.int .i64 p0.Now.High), .sv (.str p0.Now.Dots), .sv (.int .i64 p0.Ref.Wide), .sv (.int .i64 p0.Ref.High), .sv (.str p0.Ref.Dots)], .sv (Xb9.sv p1)] [] (Ydt r) (Yds r) := by
 refine Xae hT Tryz.func11 rfl fun C hC => ?_
 unfold Xha at h
 refine Xad ?_
 iterate 4 refine kO hT hC ?_
 refine kN ?_
 refine kO hT hC ?_
 refine kC hC [(16, 240), (17, 241)] Tryz.call41 h (fun _ => Xn7) fun q1 h => ?_
 refine kO hT hC ?_
 refine kN ?_
 iterate 4 refine kO hT hC ?_
 refine Vc.nil (Xa3 (Xad ?_))
 iterate 3 refine kO hT hC ?_
 refine Vc.nil ?_
 refine kS h ?_ ?_ <;> intro b1 h
 refine kt b1 (Xad ?_)
 iterate 6 refine kO hT hC ?_
 refine Vc.nil (Xah (Xa9 ?_))
 obtain rfl := kj h
 exact Xd1 (τ := ⟨[(4, .ptr 2000000 0), (5, .own 18), (6, .own 19)], [(16, some (.ints .i64 q1.Seq.Cols)), (17, some (.ints .i64 q1.Seq.Rows)), (18, some (.row Yof ([] : List Pic))), (19, some (.ints .i64 ([] : List Int))), (2000000, some (.box [.sv (.bool q1.HasSeq), .sv (.bool q1.HasPar), .sv (.bool q1.HasRef), .sv (.int .i64 q1.Seq.Level), .sv (.int .i64 q1.Seq.Bits), .own 16, .own 17, .sv (.int .i64 q1.Par.Qp), .sv (.bool q1.Par.Large), .sv (.bool q1.Par.Exact), .sv (.bool q1.Par.Confined), .sv (.int .i64 q1.Frame), .sv (.int .i64 q1.Got), .sv (.int .i64 q1.Now.Wide), .sv (.int .i64 q1.Now.High), .sv (.str q1.Now.Dots), .sv (.int .i64 q1.Ref.Wide), .sv (.int .i64 q1.Ref.High), .sv (.str q1.Ref.Dots)]))]⟩) (kW hC [(16, 240), (17, 241), (18, 256), (19, 272), (2000000, 64)]) rfl ⟨rfl, rfl, rfl, rfl, trivial⟩
 refine kf b1 (Xag (Xaf (Xa3 (Xad ?_))))
 iterate 3 refine kO hT hC ?_
 refine Vc.nil ?_
 refine kL [2,4,7,8,24,25,26] [32,64,240,241,256,272] [_,_,_,_,_,_,_] [_,_,_,_,_,_] ?_
 refine kX h (fun v6 => ([(26, .sv (.int .i64 v6.1))], [(32, some (.box [.sv (.bool v6.2.1), .sv (.bool v6.2.2.1), .sv (.bool v6.2.2.2.1), .sv (.int .i64 v6.2.2.2.2.1), .sv (.int .i64 v6.2.2.2.2.2.1), .own 240, .own 241, .sv (.int .i64 v6.2.2.2.2.2.2.1), .sv (.bool v6.2.2.2.2.2.2.2.1), .sv (.bool v6.2.2.2.2.2.2.2.2.1), .sv (.bool v6.2.2.2.2.2.2.2.2.2.1), .sv (.int .i64 v6.2.2.2.2.2.2.2.2.2.2.1), .sv (.int .i64 v6.2.2.2.2.2.2.2.2.2.2.2.1), .sv (.int .i64 v6.2.2.2.2.2.2.2.2.2.2.2.2.1), .sv (.int .i64 v6.2.2.2.2.2.2.2.2.2.2.2.2.2.1), .sv (.str v6.2.2.2.2.2.2.2.2.2.2.2.2.2.2.1), .sv (.int .i64 v6.2.2.2.2.2.2.2.2.2.2.2.2.2.2.2.1), .sv (.int .i64 v6.2.2.2.2.2.2.2.2.2.2.2.2.2.2.2.2.1), .sv (.str v6.2.2.2.2.2.2.2.2.2.2.2.2.2.2.2.2.2.1)])), (240, some (.ints .i64 v6.2.2.2.2.2.2.2.2.2.2.2.2.2.2.2.2.2.2.2.2.1)), (241, some (.ints .i64 v6.2.2.2.2.2.2.2.2.2.2.2.2.2.2.2.2.2.2.2.2.2)), (256, some (.row Yof v6.2.2.2.2.2.2.2.2.2.2.2.2.2.2.2.2.2.2.1)), (272, some (.ints .i64 v6.2.2.2.2.2.2.2.2.2.2.2.2.2.2.2.2.2.2.2.1))])) (fun v11 => ([(24, .any), (25, .any), (26, .any)], [(32, some (.box [.sv (.bool v11.1), .sv (.bool v11.2.1), .sv (.bool v11.2.2.1), .sv (.int .i64 v11.2.2.2.1), .sv (.int .i64 v11.2.2.2.2.1), .own 240, .own 241, .sv (.int .i64 v11.2.2.2.2.2.1), .sv (.bool v11.2.2.2.2.2.2.1), .sv (.bool v11.2.2.2.2.2.2.2.1), .sv (.bool v11.2.2.2.2.2.2.2.2.1), .sv (.int .i64 v11.2.2.2.2.2.2.2.2.2.1), .sv (.int .i64 v11.2.2.2.2.2.2.2.2.2.2.1), .sv (.int .i64 v11.2.2.2.2.2.2.2.2.2.2.2.1), .sv (.int .i64 v11.2.2.2.2.2.2.2.2.2.2.2.2.1), .sv (.str v11.2.2.2.2.2.2.2.2.2.2.2.2.2.1), .sv (.int .i64 v11.2.2.2.2.2.2.2.2.2.2.2.2.2.2.1), .sv (.int .i64 v11.2.2.2.2.2.2.2.2.2.2.2.2.2.2.2.1), .sv (.str v11.2.2.2.2.2.2.2.2.2.2.2.2.2.2.2.2.1)])), (240, some (.ints .i64 v11.2.2.2.2.2.2.2.2.2.2.2.2.2.2.2.2.2.2.2.1)), (241, some (.ints .i64 v11.2.2.2.2.2.2.2.2.2.2.2.2.2.2.2.2.2.2.2.2)), (256, some (.row Yof v11.2.2.2.2.2.2.2.2.2.2.2.2.2.2.2.2.2.1)), (272, some (.ints .i64 v11.2.2.2.2.2.2.2.2.2.2.2.2.2.2.2.2.2.2.1))])) (kW hC []) (fun v6 s h => ?_) fun v11 h => ?_
 unfold Xgr at h
 refine Xad ?_
 refine kO hT hC ?_
 refine Vc.nil (Xa3 ?_)
 refine kS h ?_ ?_ <;> intro b6 h
 refine kt b6 (Xag (Xaf ?_))
 refine kL [2,4,7,8,24,25,26] [32,64,240,241,256,272] [_,_,_,_,_,_,_] [_,_,_,_,_,_] ?_
 refine kA h (fun v12 => ([(8, .own 864)], [(32, some (.box [.sv (.bool v12.1), .sv (.bool v12.2.1), .sv (.bool v12.2.2.1), .sv (.int .i64 v12.2.2.2.1), .sv (.int .i64 v12.2.2.2.2.1), .own 865, .own 866, .sv (.int .i64 v12.2.2.2.2.2.1), .sv (.bool v12.2.2.2.2.2.2.1), .sv (.bool v12.2.2.2.2.2.2.2.1), .sv (.bool v12.2.2.2.2.2.2.2.2.1), .sv (.int .i64 v12.2.2.2.2.2.2.2.2.2.1), .sv (.int .i64 v12.2.2.2.2.2.2.2.2.2.2.1), .sv (.int .i64 v12.2.2.2.2.2.2.2.2.2.2.2.1), .sv (.int .i64 v12.2.2.2.2.2.2.2.2.2.2.2.2.1), .sv (.str v12.2.2.2.2.2.2.2.2.2.2.2.2.2.1), .sv (.int .i64 v12.2.2.2.2.2.2.2.2.2.2.2.2.2.2.1), .sv (.int .i64 v12.2.2.2.2.2.2.2.2.2.2.2.2.2.2.2.1), .sv (.str v12.2.2.2.2.2.2.2.2.2.2.2.2.2.2.2.2.1)])), (256, some (.row Yof v12.2.2.2.2.2.2.2.2.2.2.2.2.2.2.2.2.2.1)), (864, some (.ints .i64 v12.2.2.2.2.2.2.2.2.2.2.2.2.2.2.2.2.2.2.1)), (865, some (.ints .i64 v12.2.2.2.2.2.2.2.2.2.2.2.2.2.2.2.2.2.2.2.1)), (866, some (.ints .i64 v12.2.2.2.2.2.2.2.2.2.2.2.2.2.2.2.2.2.2.2.2)), (240, none), (241, none), (272, none)])) (fun v12 h => ?_) fun v12 h => ?_
 refine Xaw (Xad ?_)
 refine kQ hT hC h fun h => ?_
 iterate 2 refine kO hT hC ?_
 refine kN ?_
 iterate 2 refine kO hT hC ?_
 obtain ⟨q13, hq, h⟩ := Xb4 h
 refine Yji hC [(16, 528), (17, 529)] rfl rfl rfl rfl Tryz.call16 (Xn3 hq) rfl (by decide) trivial rfl (.inr ⟨rfl, ⟨trivial, trivial, trivial⟩⟩) rfl ?_
 iterate 9 refine kO hT hC ?_
 refine kN ?_
 iterate 2 refine kO hT hC ?_
 refine kN ?_
 iterate 3 refine kO hT hC ?_
 refine kT hT hC h fun h => ?_
 refine kO hT hC ?_
 refine kN ?_
 refine kO hT hC ?_
 refine kC hC [] Tryz.call42 h (fun _ => Xdu) fun q14 h => ?_
 refine Vc.nil ?_
 refine kS h ?_ ?_ <;> intro b7 h
 refine kt b7 (Xac ?_)
 iterate 3 refine kO hT hC ?_
 obtain ⟨hq, h⟩ := Xa7 h
 refine Ygp hT hC rfl rfl rfl rfl ⟨fun _ _ => rfl, by rw [Yj2]; exact hq⟩ ?_
 rw [Yj2]
 refine kO hT hC ?_
 refine Vc.nil (Xa2 ?_)
 obtain rfl := kj h
 exact Xjw (kW hC [(256, 752), (864, 656), (865, 528), (866, 529)])
 refine kf b7 (Xag (Xa2 ?_))
 obtain rfl := kj h
 exact Xjw (kW hC [(864, 656), (865, 528), (866, 529)])
 refine Xac ?_
 iterate 2 refine kO hT hC ?_
 refine Vc.nil ?_
 obtain rfl := kj h
 exact Yk5 (kW hC [(240, 865), (241, 866), (272, 864)])
 exact kf b6 (Xa0 (Xbd ku))
 refine Xaf (Xad ?_)
 iterate 6 refine kO hT hC ?_
 refine Vc.nil (Xah ?_)
 obtain rfl := kj h
 exact Xd1 (τ := ⟨[(4, .ptr 2000000 0), (5, .own 18), (6, .own 19)], [(16, some (.ints .i64 v11.2.2.2.2.2.2.2.2.2.2.2.2.2.2.2.2.2.2.2.1)), (17, some (.ints .i64 v11.2.2.2.2.2.2.2.2.2.2.2.2.2.2.2.2.2.2.2.2)), (18, some (.row Yof v11.2.2.2.2.2.2.2.2.2.2.2.2.2.2.2.2.2.1)), (19, some (.ints .i64 v11.2.2.2.2.2.2.2.2.2.2.2.2.2.2.2.2.2.2.1)), (2000000, some (.box [.sv (.bool v11.1), .sv (.bool v11.2.1), .sv (.bool v11.2.2.1), .sv (.int .i64 v11.2.2.2.1), .sv (.int .i64 v11.2.2.2.2.1), .own 16, .own 17, .sv (.int .i64 v11.2.2.2.2.2.1), .sv (.bool v11.2.2.2.2.2.2.1), .sv (.bool v11.2.2.2.2.2.2.2.1), .sv (.bool v11.2.2.2.2.2.2.2.2.1), .sv (.int .i64 v11.2.2.2.2.2.2.2.2.2.1), .sv (.int .i64 v11.2.2.2.2.2.2.2.2.2.2.1), .sv (.int .i64 v11.2.2.2.2.2.2.2.2.2.2.2.1), .sv (.int .i64 v11.2.2.2.2.2.2.2.2.2.2.2.2.1), .sv (.str v11.2.2.2.2.2.2.2.2.2.2.2.2.2.1), .sv (.int .i64 v11.2.2.2.2.2.2.2.2.2.2.2.2.2.2.1), .sv (.int .i64 v11.2.2.2.2.2.2.2.2.2.2.2.2.2.2.2.1), .sv (.str v11.2.2.2.2.2.2.2.2.2.2.2.2.2.2.2.2.1)]))]⟩) (kW hC [(16, 240), (17, 241), (18, 256), (19, 272), (2000000, 64)]) rfl ⟨rfl, rfl, rfl, rfl, trivial⟩
def Xzu (r : ((List Int) × Xav)) : AV := .own 16
def Xzt (r : ((List Int) × Xav)) : Xbj := [(16, .ints .i64 r.1), (0, .box [.sv (.ints .u8 r.2.b_), .sv (.int .i64 r.2.i_), .sv (.int .i64 r.2.h_)])]
theorem Xrx {p0 r} (h : Xie p0 = some r) : AC Tryz.prog 104 [.ptr 0 0] [(0, .box [.sv (.ints .u8 p0.b_), .sv (.int .i64 p0.i_), .sv (.int .i64 p0.h_)])] (Xzu r) (Xzt r) := by
 refine Xae hT Tryz.func104 rfl fun C hC => ?_
 unfold Xie at h
 refine Xad ?_
 refine kO hT hC ?_
 refine kN ?_
 iterate 2 refine kO hT hC ?_
 refine Vc.nil (Xa3 (Xad ?_))
 refine kO hT hC ?_
 refine Vc.nil ?_
 refine kL [0,3,4] [0,80] [_,_,_] [_,_] ?_
 refine kX h (fun v4 => ([(4, .sv (.int .i64 v4.1))], [(0, some (.box [.sv (.ints .u8 v4.2.1), .sv (.int .i64 v4.2.2.1), .sv (.int .i64 v4.2.2.2.1)])), (80, some (.ints .i64 v4.2.2.2.2))])) (fun v8 => ([(0, .any), (4, .any)], [(0, some (.box [.sv (.ints .u8 v8.2.1), .sv (.int .i64 v8.2.2.1), .sv (.int .i64 v8.2.2.2)])), (80, some (.ints .i64 v8.1))])) (kW hC []) (fun v4 s h => ?_) fun v8 h => ?_
 unfold Xje at h
 refine Xa3 (Xad ?_)
 iterate 2 refine kO hT hC ?_
 refine kC hC [(0, 0)] Tryz.call40 h (fun _ => Xat) fun q9 h => ?_
 refine kO hT hC ?_
 refine Vc.nil ?_
 refine kS h ?_ ?_ <;> intro b3 h
 refine kt b3 (Xag (Xaf (Xa3 (Xaw (Xac ?_)))))
 iterate 2 refine kO hT hC ?_
 refine kC hC [(0, 0)] Tryz.call40 h (fun _ => Xat) fun q10 h => ?_
 iterate 2 refine kO hT hC ?_
 refine kT hT hC h fun h => ?_
 refine kO hT hC ?_
 refine Vc.nil (Xa2 (Xaf (Xac ?_)))
 iterate 3 refine kO hT hC ?_
 refine Vc.nil ?_
 obtain rfl := kj h
 exact Yk5 (kW hC [(80, 272)])
 exact kf b3 (Xa0 (Xbd ku))
 refine Xaf (Xad ?_)
 iterate 2 refine kO hT hC ?_
 refine Vc.nil (Xah ?_)
 obtain rfl := kj h
 exact Xd1 (τ := ⟨[(2, .own 16)], [(16, some (.ints .i64 v8.1)), (0, some (.box [.sv (.ints .u8 v8.2.1), .sv (.int .i64 v8.2.2.1), .sv (.int .i64 v8.2.2.2)]))]⟩) (kW hC [(16, 80)]) rfl ⟨rfl, rfl, trivial⟩
def Xzs (r : (Seq × Xav)) : AV := .agg [.sv (.int .i64 r.1.Level), .sv (.int .i64 r.1.Bits), .own 16, .own 17]
def Xzr (r : (Seq × Xav)) : Xbj := [(16, .ints .i64 r.1.Cols), (17, .ints .i64 r.1.Rows), (0, .box [.sv (.ints .u8 r.2.b_), .sv (.int .i64 r.2.i_), .sv (.int .i64 r.2.h_)])]
theorem Ycl {p0 r} (h : Xk6 p0 = some r) : AC Tryz.prog 43 [.ptr 0 0] [(0, .box [.sv (.ints .u8 p0.b_), .sv (.int .i64 p0.i_), .sv (.int .i64 p0.h_)])] (Xzs r) (Xzr r) := by
 refine Xae hT Tryz.func43 rfl fun C hC => ?_
 unfold Xk6 at h
 refine Xad ?_
 refine kO hT hC ?_
 refine kN ?_
 refine kO hT hC ?_
 refine kC hC [(0, 0)] Tryz.call40 h (fun _ => Xat) fun q1 h => ?_
 iterate 2 refine kO hT hC ?_
 refine kC hC [(16, 128), (0, 0)] Tryz.call104 h (fun _ => Xrx) fun q2 h => ?_
 refine kO hT hC ?_
 refine kC hC [(16, 160), (0, 0)] Tryz.call104 h (fun _ => Xrx) fun q3 h => ?_
 iterate 3 refine kO hT hC ?_
 refine Vc.nil ?_
 refine kL [0,2,3] [0,32,48,128,160] [_,_,_] [_,_,_,_,_] ?_
 refine kA h (fun v4 => ([(0, .any)], [(0, some (.box [.sv (.ints .u8 v4.2.1), .sv (.int .i64 v4.2.2.1), .sv (.int .i64 v4.2.2.2)])), (48, some (.box [.sv (.int .i64 v4.1), .sv (.int .i64 (Xaa .i64 (3 + q1.1))), .own 128, .own 160]))])) (fun v4 h => ?_) fun v4 h => ?_
 refine kL [0,2,3] [0,32,48,128,160] [_,_,_] [_,_,_,_,_] ?_
 refine kA h (fun v5 => ([(18, .sv (.bool v5.1)), (0, .any)], [(0, some (.box [.sv (.ints .u8 v5.2.1), .sv (.int .i64 v5.2.2.1), .sv (.int .i64 v5.2.2.2)]))])) (fun v5 h => ?_) fun v5 h => ?_
 refine Xac ?_
 refine kO hT hC ?_
 refine kC hC [(0, 0)] Tryz.call56 h (fun _ => Xch) fun q6 h => ?_
 refine kO hT hC ?_
 refine kS h ?_ ?_ <;> intro b1 h
 refine kI hT hC b1 ?_
 refine kE hC b1 [] Tryz.call105 h (fun _ => Xql) fun q7 h => ?_
 refine kI hT hC b1 ?_
 refine kP hC true b1 ?_
 exact Vc.nil kM
 iterate 3 refine kF hC b1 ?_
 refine kP hC false b1 ?_
 exact Vc.nil kM
 refine kS h ?_ ?_ <;> intro b2 h
 refine kt b2 (Xac ?_)
 iterate 2 refine kO hT hC ?_
 exact Vc.nil kM
 exact kf b2 (Xag kM)
 refine Xad ?_
 iterate 2 refine kO hT hC ?_
 refine Vc.nil (Xah ?_)
 obtain rfl := kj h
 exact Xd1 (τ := ⟨[(2, .ptr 2000000 0)], [(16, some (.ints .i64 q2.1)), (17, some (.ints .i64 q3.1)), (0, some (.box [.sv (.ints .u8 v4.2.1), .sv (.int .i64 v4.2.2.1), .sv (.int .i64 v4.2.2.2)])), (2000000, some (.box [.sv (.int .i64 v4.1), .sv (.int .i64 (Xaa .i64 (3 + q1.1))), .own 16, .own 17]))]⟩) (kW hC [(16, 128), (17, 160), (2000000, 32)]) rfl ⟨rfl, rfl, rfl, trivial⟩
def Xv7 (r : (Xow × Xav × Seq)) : AV := .agg [.sv (.int .i64 r.1.Tile), .sv (.int .i64 r.1.Frame), .sv (.int .i64 r.1.Qp)]
def Xv6 (r : (Xow × Xav × Seq)) : Xbj := [(0, .box [.sv (.ints .u8 r.2.1.b_), .sv (.int .i64 r.2.1.i_), .sv (.int .i64 r.2.1.h_)]), (2, .ints .i64 r.2.2.Cols), (3, .ints .i64 r.2.2.Rows)]
theorem Xx4 {p0 p1 r} (h : Xk7 p0 p1 = some r) : AC Tryz.prog 45 [.ptr 0 0, .agg [.sv (.int .i64 p1.Level), .sv (.int .i64 p1.Bits), .own 2, .own 3]] [(0, .box [.sv (.ints .u8 p0.b_), .sv (.int .i64 p0.i_), .sv (.int .i64 p0.h_)]), (2, .ints .i64 p1.Cols), (3, .ints .i64 p1.Rows)] (Xv7 r) (Xv6 r) := by
 refine Xae hT Tryz.func45 rfl fun C hC => ?_
 unfold Xk7 at h
 refine Xad ?_
 iterate 2 refine kO hT hC ?_
 refine kN ?_
 iterate 2 refine kO hT hC ?_
 refine kC hC [] Tryz.call106 h (fun _ => Xk3) fun q1 h => ?_
 refine kC hC [(0, 0)] Tryz.call40 h (fun _ => Xat) fun q2 h => ?_
 refine kO hT hC ?_
 refine kC hC [(0, 0)] Tryz.call40 h (fun _ => Xat) fun q3 h => ?_
 iterate 3 refine kO hT hC ?_
 refine Vc.nil ?_
 refine kL [0,3,4,5] [0,2,3,48,64,80] [_,_,_,_] [_,_,_,_,_,_] ?_
 refine kA h (fun v4 => ([(0, .any), (3, .any)], [(0, some (.box [.sv (.ints .u8 v4.2.1), .sv (.int .i64 v4.2.2.1), .sv (.int .i64 v4.2.2.2)])), (80, some (.box [.sv (.int .i64 q2.1), .sv (.int .i64 v4.1), .sv (.int .i64 q3.1)])), (48, none)])) (fun v4 h => ?_) fun v4 h => ?_
 refine Xad ?_
 iterate 2 refine kO hT hC ?_
 refine kC hC [] Tryz.call107 h (fun _ => Xgd) fun q5 h => ?_
 refine Vc.nil ?_
 refine kS h ?_ ?_ <;> intro b1 h
 refine kt b1 (Xac ?_)
 iterate 4 refine kO hT hC ?_
 refine kQ hT hC h fun h => ?_
 refine kC hC [(0, 0)] Tryz.call40 h (fun _ => Xat) fun q6 h => ?_
 iterate 2 refine kO hT hC ?_
 exact Vc.nil kM
 exact kf b1 (Xag kM)
 refine Xad ?_
 iterate 2 refine kO hT hC ?_
 refine Vc.nil (Xah ?_)
 obtain rfl := kj h
 exact Xd1 (Xi6.refl _) rfl ⟨rfl, rfl, rfl, trivial⟩
def Xzj (r : (Seq × Par × Xow)) : AV := .tup [.agg [.sv (.int .i64 r.1.Level), .sv (.int .i64 r.1.Bits), .own 16, .own 17], .agg [.sv (.int .i64 r.2.1.Qp), .sv (.bool r.2.1.Large), .sv (.bool r.2.1.Exact), .sv (.bool r.2.1.Confined)], .agg [.sv (.int .i64 r.2.2.Tile), .sv (.int .i64 r.2.2.Frame), .sv (.int .i64 r.2.2.Qp)]]
def Xzi (r : (Seq × Par × Xow)) : Xbj := [(16, .ints .i64 r.1.Cols), (17, .ints .i64 r.1.Rows)]
theorem Yb2 {p0 r} (h : Xkz p0 = some r) : AC Tryz.prog 13 [.sv (.ints .u8 p0)] [] (Xzj r) (Xzi r) := by
 refine Xae hT Tryz.func13 rfl fun C hC => ?_
 unfold Xkz at h
 refine Xad ?_
 iterate 3 refine kO hT hC ?_
 refine kN ?_
 refine kO hT hC ?_
 refine kC hC [(16, 144)] Tryz.call38 h (fun _ => Xpo) fun q1 h => ?_
 refine kO hT hC ?_
 refine kN ?_
 refine kO hT hC ?_
 refine kC hC [(16, 176), (17, 177), (0, 144)] Tryz.call43 h (fun _ => Ycl) fun q2 h => ?_
 iterate 2 refine kO hT hC ?_
 refine kN ?_
 refine kO hT hC ?_
 refine kC hC [(0, 144)] Tryz.call44 h (fun _ => Xoo) fun q3 h => ?_
 iterate 2 refine kO hT hC ?_
 refine Vc.nil ?_
 refine Xc6 hm ?_
 iterate 4 refine kO hT hC ?_
 refine kC hC [(0, 144), (2, 176), (3, 177)] Tryz.call45 h (fun _ => Xx4) fun q5 h => ?_
 iterate 3 refine kO hT hC ?_
 refine kD (Xah ?_)
 obtain rfl := kj h
 exact Xd1 (τ := ⟨[(2, .ptr 2000000 0), (3, .ptr 2000001 0), (4, .ptr 2000002 0)], [(16, some (.ints .i64 q5.2.2.Cols)), (17, some (.ints .i64 q5.2.2.Rows)), (2000000, some (.box [.sv (.int .i64 q2.1.Level), .sv (.int .i64 q2.1.Bits), .own 16, .own 17])), (2000001, some (.box [.sv (.int .i64 q3.1.Qp), .sv (.bool q3.1.Large), .sv (.bool q3.1.Exact), .sv (.bool q3.1.Confined)])), (2000002, some (.box [.sv (.int .i64 q5.1.Tile), .sv (.int .i64 q5.1.Frame), .sv (.int .i64 q5.1.Qp)]))]⟩) (kW hC [(16, 176), (17, 177), (2000000, 32), (2000001, 48), (2000002, 64)]) rfl ⟨rfl, rfl, trivial⟩
def Yf0 (r : (ByteArray × Bool)) : AV := .tup [.sv (.str r.1), .sv (.bool r.2)]
def Yfz (r : (ByteArray × Bool)) : Xbj := []
theorem Yh5 {p0 r} (h : Xoj p0 = some r) : AC Tryz.prog 14 [.agg [.sv (.int .i64 p0.Level), .sv (.int .i64 p0.Bits), .sv (.ints .i64 p0.Cols), .sv (.ints .i64 p0.Rows)]] [] (Yf0 r) (Yfz r) := by
 refine Xae hT Tryz.func14 rfl fun C hC => ?_
 unfold Xoj at h
 refine Xad ?_
 iterate 3 refine kO hT hC ?_
 refine Vc.nil (Xa3 (Xad ?_))
 refine kO hT hC ?_
 refine kC hC [] Tryz.call46 h (fun _ => Xxz) fun q1 h => ?_
 refine kO hT hC ?_
 refine Vc.nil ?_
 refine kS h ?_ ?_ <;> intro b1 h
 refine kt b1 (Xad ?_)
 iterate 2 refine kO hT hC ?_
 exact Vc.nil (Xah (Xa9 kR))
 refine kf b1 (Xag (Xaf (Xad ?_)))
 refine kO hT hC ?_
 refine kC hC [] Tryz.call47 h (fun _ => Xu0) fun q2 h => ?_
 iterate 2 refine kO hT hC ?_
 exact Vc.nil (Xah kR)
def Xqb (r : Bool) : AV := .sv (.bool r)
def Xqa (r : Bool) : Xbj := []
theorem Xnf {p0 p1 r} (h : Xf9 p0 p1 = some r) : AC Tryz.prog 19 [.sv (.ints .i64 p0), .sv (.ints .i64 p1)] [] (Xqb r) (Xqa r) := by
 refine Xae hT Tryz.func19 rfl fun C hC => ?_
 unfold Xf9 at h
 refine Xad ?_
 refine kO hT hC ?_
 refine Vc.nil (Xa3 (Xad ?_))
 iterate 5 refine kO hT hC ?_
 refine Vc.nil ?_
 refine kS h ?_ ?_ <;> intro b1 h
 refine kt b1 (Xad ?_)
 refine kO hT hC ?_
 exact Vc.nil (Xah (Xa9 kR))
 refine kf b1 (Xag (Xaf (Xa3 (Xad ?_))))
 refine kO hT hC ?_
 refine Vc.nil ?_
 refine kL [0,1,5] [] [_,_,_] [] ?_
 obtain ⟨o5, hl, h⟩ := Xb4 h
 refine Xoe (fun v2 => ([(5, .sv (.int .i64 v2))], [])) (fun v4 => ([(0, .any), (1, .any), (5, .any)], [])) (fun r => Xye C T Tryz.f19.results.toList (Xqb r) (Xqa r)) hl ?_ ?_ ?_ ?_
 apply Xle hC []
 exact co
 rfl
 decide
 rfl
 intro v2 s hs
 have h := hs
 unfold Xgj at h
 refine Xa3 (Xad ?_)
 iterate 4 refine kO hT hC ?_
 refine Vc.nil ?_
 refine kS h ?_ ?_ <;> intro b6 h
 refine kt b6 (Xag (Xaf (Xa3 (Xaw ?_))))
 refine Xc6 hm ?_
 iterate 2 refine kO hT hC ?_
 refine kQ hT hC h fun h => ?_
 iterate 3 refine kO hT hC ?_
 refine kQ hT hC h fun h => ?_
 iterate 2 refine kO hT hC ?_
 refine kD ?_
 refine kS h ?_ ?_ <;> intro b7 h
 refine kt b7 (Xad ?_)
 refine kO hT hC ?_
 refine Vc.nil (Xah (Xik (Xa9 ?_)))
 obtain rfl := kj h
 refine Yb0 (Yby ?_)
 exact Xd1 (Xi6.refl _) rfl trivial
 refine kf b7 (Xag (Xa2 (Xaf (Xac ?_))))
 iterate 3 refine kO hT hC ?_
 exact Vc.nil kG
 exact kf b6 (Xa0 (Xbd kb))
 intro v4 e
 subst e
 refine Xaf (Xad ?_)
 refine kO hT hC ?_
 exact Vc.nil (Xah kR)
 intro r' σ' e hE
 subst e
 obtain rfl := kj h
 refine Xa9 ?_
 exact hE
def Ybw (r : Bool) : AV := .sv (.bool r)
def Ybv (r : Bool) : Xbj := []
theorem Ye5 {p0 p1 r} (h : Xmy p0 p1 = some r) : AC Tryz.prog 36 [.agg [.sv (.int .i64 p0.Level), .sv (.int .i64 p0.Bits), .sv (.ints .i64 p0.Cols), .sv (.ints .i64 p0.Rows)], .agg [.sv (.int .i64 p1.Level), .sv (.int .i64 p1.Bits), .sv (.ints .i64 p1.Cols), .sv (.ints .i64 p1.Rows)]] [] (Ybw r) (Ybv r) := by
 refine Xae hT Tryz.func36 rfl fun C hC => ?_
 unfold Xmy at h
 refine Xad ?_
 iterate 3 refine kO hT hC ?_
 refine Vc.nil ?_
 refine kL [2,3,4] [32,48] [_,_,_] [_,_] ?_
 refine kA h (fun v1 => ([(4, .sv (.bool v1)), (2, .any), (3, .any)], [(32, none), (48, none)])) (fun v1 h => ?_) fun v1 h => ?_
 refine Xac ?_
 iterate 6 refine kO hT hC ?_
 refine kS h ?_ ?_ <;> intro b1 h
 iterate 5 refine kI hT hC b1 ?_
 refine kP hC true b1 ?_
 refine kO hT hC ?_
 refine kS h ?_ ?_ <;> intro b2 h
 iterate 4 refine kI hT hC b2 ?_
 refine kE hC b2 [] Tryz.call19 h (fun _ => Xnf) fun q2 h => ?_
 refine kP hC true b2 ?_
 refine kO hT hC ?_
 refine kS h ?_ ?_ <;> intro b3 h
 iterate 4 refine kI hT hC b3 ?_
 refine kE hC b3 [] Tryz.call19 h (fun _ => Xnf) fun q3 h => ?_
 refine kP hC true b3 ?_
 refine kO hT hC ?_
 exact Vc.nil kM
 iterate 5 refine kF hC b3 ?_
 refine kP hC false b3 ?_
 refine kO hT hC ?_
 exact Vc.nil kM
 iterate 5 refine kF hC b2 ?_
 refine kP hC false b2 ?_
 refine kO hT hC ?_
 iterate 5 refine kF hC rfl ?_
 iterate 2 refine kO hT hC ?_
 exact Vc.nil kM
 iterate 5 refine kF hC b1 ?_
 refine kP hC false b1 ?_
 refine kO hT hC ?_
 iterate 5 refine kF hC rfl ?_
 iterate 2 refine kO hT hC ?_
 iterate 5 refine kF hC rfl ?_
 iterate 2 refine kO hT hC ?_
 exact Vc.nil kM
 exact Xah kR
def Xt6 (r : Bool) : AV := .sv (.bool r)
def Xt5 (r : Bool) : Xbj := []
theorem Xob {p0 p1 r} (h : Xen p0 p1 = some r) : AC Tryz.prog 17 [.agg [.sv (.bool p0.HasSeq), .sv (.bool p0.HasPar), .sv (.bool p0.HasRef), .sv (.int .i64 p0.Seq.Level), .sv (.int .i64 p0.Seq.Bits), .sv (.ints .i64 p0.Seq.Cols), .sv (.ints .i64 p0.Seq.Rows), .sv (.int .i64 p0.Par.Qp), .sv (.bool p0.Par.Large), .sv (.bool p0.Par.Exact), .sv (.bool p0.Par.Confined), .sv (.int .i64 p0.Frame), .sv (.int .i64 p0.Got), .sv (.int .i64 p0.Now.Wide), .sv (.int .i64 p0.Now.High), .sv (.str p0.Now.Dots), .sv (.int .i64 p0.Ref.Wide), .sv (.int .i64 p0.Ref.High), .sv (.str p0.Ref.Dots)], .agg [.sv (.bool p1.HasSeq), .sv (.bool p1.HasPar), .sv (.bool p1.HasRef), .sv (.int .i64 p1.Seq.Level), .sv (.int .i64 p1.Seq.Bits), .sv (.ints .i64 p1.Seq.Cols), .sv (.ints .i64 p1.Seq.Rows), .sv (.int .i64 p1.Par.Qp), .sv (.bool p1.Par.Large), .sv (.bool p1.Par.Exact), .sv (.bool p1.Par.Confined), .sv (.int .i64 p1.Frame), .sv (.int .i64 p1.Got), .sv (.int .i64 p1.Now.Wide), .sv (.int .i64 p1.Now.High), .sv (.str p1.Now.Dots), .sv (.int .i64 p1.Ref.Wide), .sv (.int .i64 p1.Ref.High), .sv (.str p1.Ref.Dots)]] [] (Xt6 r) (Xt5 r) := by
 refine Xae hT Tryz.func17 rfl fun C hC => ?_
 unfold Xen at h
 refine Xad ?_
 iterate 3 refine kO hT hC ?_
 refine Vc.nil ?_
 refine kL [2,3,4] [32,48] [_,_,_] [_,_] ?_
 refine kA h (fun v1 => ([(4, .sv (.bool v1)), (2, .any), (3, .any)], [(32, none), (48, none)])) (fun v1 h => ?_) fun v1 h => ?_
 refine Xac ?_
 iterate 6 refine kO hT hC ?_
 refine kS h ?_ ?_ <;> intro b1 h
 iterate 5 refine kI hT hC b1 ?_
 refine kP hC true b1 ?_
 refine kO hT hC ?_
 refine kS h ?_ ?_ <;> intro b2 h
 iterate 5 refine kI hT hC b2 ?_
 refine kP hC true b2 ?_
 refine kO hT hC ?_
 refine kS h ?_ ?_ <;> intro b3 h
 iterate 4 refine kI hT hC b3 ?_
 refine kE hC b3 [] Tryz.call36 h (fun _ => Ye5) fun q2 h => ?_
 refine kP hC true b3 ?_
 refine kO hT hC ?_
 refine kS h ?_ ?_ <;> intro b4 h
 iterate 4 refine kI hT hC b4 ?_
 refine Xrm hC rfl rfl rfl rfl b4 rfl rfl rfl Ysp rfl rfl ?_
 refine kP hC true b4 ?_
 refine kO hT hC ?_
 refine kS h ?_ ?_ <;> intro b5 h
 iterate 5 refine kI hT hC b5 ?_
 refine kP hC true b5 ?_
 refine kO hT hC ?_
 refine kS h ?_ ?_ <;> intro b6 h
 iterate 5 refine kI hT hC b6 ?_
 refine kP hC true b6 ?_
 refine kO hT hC ?_
 refine kS h ?_ ?_ <;> intro b7 h
 iterate 4 refine kI hT hC b7 ?_
 refine Xrm hC rfl rfl rfl rfl b7 rfl rfl rfl Yad rfl rfl ?_
 refine kP hC true b7 ?_
 refine kO hT hC ?_
 refine kS h ?_ ?_ <;> intro b8 h
 iterate 4 refine kI hT hC b8 ?_
 refine Xrm hC rfl rfl rfl rfl b8 rfl rfl rfl Yad rfl rfl ?_
 refine kP hC true b8 ?_
 refine kO hT hC ?_
 exact Vc.nil kM
 iterate 5 refine kF hC b8 ?_
 refine kP hC false b8 ?_
 refine kO hT hC ?_
 exact Vc.nil kM
 iterate 5 refine kF hC b7 ?_
 refine kP hC false b7 ?_
 refine kO hT hC ?_
 iterate 5 refine kF hC rfl ?_
 iterate 2 refine kO hT hC ?_
 exact Vc.nil kM
 iterate 5 refine kF hC b6 ?_
 refine kP hC false b6 ?_
 refine kO hT hC ?_
 iterate 5 refine kF hC rfl ?_
 iterate 2 refine kO hT hC ?_
 iterate 5 refine kF hC rfl ?_
 iterate 2 refine kO hT hC ?_
 exact Vc.nil kM
 iterate 5 refine kF hC b5 ?_
 refine kP hC false b5 ?_
 refine kO hT hC ?_
 iterate 5 refine kF hC rfl ?_
 iterate 2 refine kO hT hC ?_
 iterate 5 refine kF hC rfl ?_
 iterate 2 refine kO hT hC ?_
 iterate 5 refine kF hC rfl ?_
 iterate 2 refine kO hT hC ?_
 exact Vc.nil kM
 iterate 5 refine kF hC b4 ?_
 refine kP hC false b4 ?_
 refine kO hT hC ?_
 iterate 5 refine kF hC rfl ?_
 iterate 2 refine kO hT hC ?_
 iterate 5 refine kF hC rfl ?_
 iterate 2 refine kO hT hC ?_
 iterate 5 refine kF hC rfl ?_
 iterate 2 refine kO hT hC ?_
 iterate 5 refine kF hC rfl ?_
 iterate 2 refine kO hT hC ?_
 exact Vc.nil kM
 iterate 5 refine kF hC b3 ?_
 refine kP hC false b3 ?_
 refine kO hT hC ?_
 iterate 5 refine kF hC rfl ?_
 iterate 2 refine kO hT hC ?_
 iterate 5 refine kF hC rfl ?_
 iterate 2 refine kO hT hC ?_
 iterate 5 refine kF hC rfl ?_
 iterate 2 refine kO hT hC ?_
 iterate 5 refine kF hC rfl ?_
 iterate 2 refine kO hT hC ?_
 iterate 5 refine kF hC rfl ?_
 iterate 2 refine kO hT hC ?_
 exact Vc.nil kM
 iterate 5 refine kF hC b2 ?_
 refine kP hC false b2 ?_
 refine kO hT hC ?_
 iterate 5 refine kF hC rfl ?_
 iterate 2 refine kO hT hC ?_
 iterate 5 refine kF hC rfl ?_
 iterate 2 refine kO hT hC ?_
 iterate 5 refine kF hC rfl ?_
 iterate 2 refine kO hT hC ?_
 iterate 5 refine kF hC rfl ?_
 iterate 2 refine kO hT hC ?_
 iterate 5 refine kF hC rfl ?_
 iterate 2 refine kO hT hC ?_
 iterate 5 refine kF hC rfl ?_
 iterate 2 refine kO hT hC ?_
 exact Vc.nil kM
 iterate 5 refine kF hC b1 ?_
 refine kP hC false b1 ?_
 refine kO hT hC ?_
 iterate 5 refine kF hC rfl ?_
 iterate 2 refine kO hT hC ?_
 iterate 5 refine kF hC rfl ?_
 iterate 2 refine kO hT hC ?_
 iterate 5 refine kF hC rfl ?_
 iterate 2 refine kO hT hC ?_
 iterate 5 refine kF hC rfl ?_
 iterate 2 refine kO hT hC ?_
 iterate 5 refine kF hC rfl ?_
 iterate 2 refine kO hT hC ?_
 iterate 5 refine kF hC rfl ?_
 iterate 2 refine kO hT hC ?_
 iterate 5 refine kF hC rfl ?_
 iterate 2 refine kO hT hC ?_
 exact Vc.nil kM
 exact Xah kR
def Xqd (r : Bool) : AV := .sv (.bool r)
def Xqc (r : Bool) : Xbj := []
theorem Ybu {p0 p1 r} (h : Xkr p0 p1 = some r) : AC Tryz.prog 18 [.sv (Yof.sv p0), .sv (Yof.sv p1)] [] (Xqd r) (Xqc r) := by
 refine Xae hT Tryz.func18 rfl fun C hC => ?_
 unfold Xkr at h
 refine Xad ?_
 refine kO hT hC ?_
 refine Vc.nil (Xa3 (Xad ?_))
 iterate 5 refine kO hT hC ?_
 refine Vc.nil ?_
 refine kS h ?_ ?_ <;> intro b1 h
 refine kt b1 (Xad ?_)
 refine kO hT hC ?_
 exact Vc.nil (Xah (Xa9 kR))
 refine kf b1 (Xag (Xaf (Xa3 (Xad ?_))))
 refine kO hT hC ?_
 refine Vc.nil ?_
 refine kL [0,1,5] [] [_,_,_] [] ?_
 obtain ⟨o5, hl, h⟩ := Xb4 h
 refine Xoe (fun v2 => ([(5, .sv (.int .i64 v2))], [])) (fun v4 => ([(0, .any), (1, .any), (5, .any)], [])) (fun r => Xye C T Tryz.f18.results.toList (Xqd r) (Xqc r)) hl ?_ ?_ ?_ ?_
 apply Xle hC []
 exact co
 rfl
 decide
 rfl
 intro v2 s hs
 have h := hs
 unfold Xgk at h
 refine Xa3 (Xad ?_)
 iterate 4 refine kO hT hC ?_
 refine Vc.nil ?_
 refine kS h ?_ ?_ <;> intro b6 h
 refine kt b6 (Xag (Xaf (Xa3 (Xaw ?_))))
 refine Xc6 hm ?_
 iterate 2 refine kO hT hC ?_
 refine kQ hT hC h fun h => ?_
 iterate 3 refine kO hT hC ?_
 refine kQ hT hC h fun h => ?_
 refine kO hT hC ?_
 refine Yz0 hC rfl rfl rfl rfl Yad rfl rfl ?_
 refine kD ?_
 refine kS h ?_ ?_ <;> intro b7 h
 refine kt b7 (Xad ?_)
 refine kO hT hC ?_
 refine Vc.nil (Xah (Xik (Xa9 ?_)))
 obtain rfl := kj h
 refine Yb0 (Yby ?_)
 exact Xd1 (Xi6.refl _) rfl trivial
 refine kf b7 (Xag (Xa2 (Xaf (Xac ?_))))
 iterate 3 refine kO hT hC ?_
 exact Vc.nil kG
 exact kf b6 (Xa0 (Xbd kb))
 intro v4 e
 subst e
 refine Xaf (Xad ?_)
 refine kO hT hC ?_
 exact Vc.nil (Xah kR)
 intro r' σ' e hE
 subst e
 obtain rfl := kj h
 refine Xa9 ?_
 exact hE
def Ybt (r : Bool) : AV := .sv (.bool r)
def Ybs (r : Bool) : Xbj := []
theorem Ye4 {p0 r} (h : Xo2 p0 = some r) : AC Tryz.prog 3 [.sv (.ints .u8 p0)] [] (Ybt r) (Ybs r) := by
 refine Xae hT Tryz.func3 rfl fun C hC => ?_
 unfold Xo2 at h
 refine Xad ?_
 refine kO hT hC ?_
 refine Vc.nil (Xa3 (Xad ?_))
 refine kO hT hC ?_
 refine kC hC [] Tryz.call8 h (fun _ => Yo2) fun q1 h => ?_
 refine Vc.nil ?_
 refine kS h ?_ ?_ <;> intro b1 h
 refine kt b1 (Xad ?_)
 refine kO hT hC ?_
 exact Vc.nil (Xah (Xa9 kR))
 refine kf b1 (Xag (Xaf (Xad ?_)))
 refine kO hT hC ?_
 refine kC hC [(16, 496)] Tryz.call9 h (fun _ => Xxw) fun q2 h => ?_
 refine kO hT hC ?_
 refine kN ?_
 refine kO hT hC ?_
 refine kC hC [(16, 528)] Tryz.call10 h (fun _ => Xxu) fun q3 h => ?_
 refine kO hT hC ?_
 refine kN ?_
 refine kO hT hC ?_
 iterate 2 refine kQ hT hC h fun h => ?_
 iterate 3 refine kO hT hC ?_
 refine kQ hT hC h fun h => ?_
 refine kO hT hC ?_
 refine kN ?_
 refine kC hC [] Tryz.call12 h (fun _ => Xl9) fun q4 h => ?_
 iterate 2 refine kO hT hC ?_
 obtain ⟨hq, h⟩ := Xa7 h
 refine Ygp hT hC rfl rfl rfl rfl ⟨fun _ _ => rfl, by rw [Xc7]; exact hq⟩ ?_
 rw [Xc7]
 obtain ⟨q5, hq, h⟩ := Xb4 h
 refine Yji hC [(16, 736), (17, 737), (18, 738), (19, 739)] rfl rfl rfl rfl Tryz.call11 (Xpd hq) rfl (by decide) trivial rfl (.inr ⟨rfl, ⟨trivial, trivial, fun _ => rfl, trivial, trivial⟩⟩) rfl ?_
 iterate 8 refine kO hT hC ?_
 refine Vc.nil ?_
 refine Xc6 hm ?_
 refine kC hC [] Tryz.call12 h (fun _ => Xl9) fun q6 h => ?_
 iterate 3 refine kO hT hC ?_
 refine kQ hT hC h fun h => ?_
 obtain ⟨hq, h⟩ := Xa7 h
 refine Ygp hT hC rfl rfl rfl rfl ⟨⟨hq.1, fun _ _ => rfl⟩, by rw [Xc7]; exact hq.2⟩ ?_
 rw [Xc7]
 obtain ⟨q7, hq, h⟩ := Xb4 h
 refine Yji hC [(16, 912), (17, 913), (18, 914), (19, 915)] rfl rfl rfl rfl Tryz.call11 (Xpd hq) rfl (by decide) trivial rfl (.inr ⟨rfl, ⟨trivial, trivial, fun _ => rfl, trivial, trivial⟩⟩) rfl ?_
 iterate 8 refine kO hT hC ?_
 refine kD ?_
 refine Xc6 hm ?_
 iterate 4 refine kO hT hC ?_
 refine kQ hT hC h fun h => ?_
 obtain ⟨hq, h⟩ := Xa7 h
 refine Ygp hT hC rfl rfl rfl rfl ⟨⟨hq.1, fun _ _ => rfl⟩, by rw [Xc7]; exact hq.2⟩ ?_
 rw [Xc7]
 obtain ⟨q8, hq, h⟩ := Xb4 h
 refine Yji hC [(16, 1088), (17, 1089), (18, 1090), (19, 1091)] rfl rfl rfl rfl Tryz.call11 (Xpd hq) rfl (by decide) trivial rfl (.inr ⟨rfl, ⟨trivial, trivial, fun _ => rfl, trivial, trivial⟩⟩) rfl ?_
 iterate 8 refine kO hT hC ?_
 refine kD (Xad ?_)
 refine kO hT hC ?_
 refine kC hC [(16, 1184), (17, 1185)] Tryz.call13 h (fun _ => Yb2) fun q9 h => ?_
 iterate 10 refine kO hT hC ?_
 refine kN ?_
 refine kO hT hC ?_
 refine kC hC [] Tryz.call14 h (fun _ => Yh5) fun q10 h => ?_
 iterate 5 refine kO hT hC ?_
 refine kN ?_
 refine kO hT hC ?_
 refine kC hC [] Tryz.call15 h (fun _ => Xmh) fun q11 h => ?_
 iterate 5 refine kO hT hC ?_
 refine kN ?_
 iterate 2 refine kO hT hC ?_
 obtain ⟨q12, hq, h⟩ := Xb4 h
 refine Yji hC [(16, 1456), (17, 1457)] rfl rfl rfl rfl Tryz.call16 (Xn3 hq) rfl (by decide) trivial rfl (.inr ⟨rfl, ⟨trivial, trivial, trivial⟩⟩) rfl ?_
 iterate 9 refine kO hT hC ?_
 refine kN ?_
 refine kC hC [] Tryz.call12 h (fun _ => Xl9) fun q13 h => ?_
 refine kO hT hC ?_
 refine kC hC [(16, 1568), (17, 1569)] Tryz.call16 h (fun _ => Xn3) fun q14 h => ?_
 iterate 9 refine kO hT hC ?_
 refine Vc.nil ?_
 refine kL [2,3,6,7,8,10,11,12,13,14,22,23,25,26] [96,192,352,400,496,736,737,738,739,914,915,1088,1089,1090,1091,1456,1457,1568,1569] [_,_,_,_,_,_,_,_,_,_,_,_,_,_] [_,_,_,_,_,_,_,_,_,_,_,_,_,_,_,_,_,_,_] ?_
 refine kA h (fun v15 => ([(2, .sv (.bool v15)), (3, .any), (6, .any), (7, .any), (8, .any), (10, .any), (11, .any), (12, .any), (13, .any), (14, .any), (22, .any), (23, .any), (25, .any), (26, .any)], [(96, none), (192, none), (352, none), (400, none), (496, none), (736, none), (737, none), (738, none), (739, none), (914, none), (915, none), (1088, none), (1089, none), (1090, none), (1091, none), (1456, none), (1457, none), (1568, none), (1569, none)])) (fun v15 h => ?_) fun v15 h => ?_
 refine Xac ?_
 iterate 2 refine kO hT hC ?_
 refine kC hC [] Tryz.call17 h (fun _ => Xob) fun q16 h => ?_
 refine kO hT hC ?_
 refine kS h ?_ ?_ <;> intro b2 h
 iterate 3 refine kI hT hC b2 ?_
 obtain ⟨hq, h⟩ := Xa7 h
 refine Yy7 hT hC rfl rfl rfl rfl b2 rfl rfl rfl ⟨fun _ _ => rfl, by rw [Yj2]; exact hq⟩ ?_
 rw [Yj2]
 refine kE hC b2 [] Tryz.call18 h (fun _ => Ybu) fun q17 h => ?_
 refine kP hC true b2 ?_
 refine kO hT hC ?_
 refine kS h ?_ ?_ <;> intro b3 h
 iterate 3 refine kI hT hC b3 ?_
 obtain ⟨hq, h⟩ := Xa7 h
 refine Yy7 hT hC rfl rfl rfl rfl b3 rfl rfl rfl ⟨trivial, hq⟩ ?_
 refine kE hC b3 [] Tryz.call19 h (fun _ => Xnf) fun q18 h => ?_
 refine kP hC true b3 ?_
 refine kO hT hC ?_
 refine kS h ?_ ?_ <;> intro b4 h
 iterate 5 refine kI hT hC b4 ?_
 refine kP hC true b4 ?_
 refine kO hT hC ?_
 refine kS h ?_ ?_ <;> intro b5 h
 iterate 3 refine kI hT hC b5 ?_
 refine kP hC true b5 ?_
 refine kO hT hC ?_
 refine kS h ?_ ?_ <;> intro b6 h
 iterate 2 refine kI hT hC b6 ?_
 refine kP hC true b6 ?_
 refine kO hT hC ?_
 refine kS h ?_ ?_ <;> intro b7 h
 iterate 2 refine kI hT hC b7 ?_
 refine kP hC true b7 ?_
 refine kO hT hC ?_
 refine kS h ?_ ?_ <;> intro b8 h
 iterate 2 refine kI hT hC b8 ?_
 refine kE hC b8 [] Tryz.call17 h (fun _ => Xob) fun q19 h => ?_
 refine kP hC true b8 ?_
 refine kO hT hC ?_
 refine kS h ?_ ?_ <;> intro b9 h
 iterate 2 refine kI hT hC b9 ?_
 refine kP hC true b9 ?_
 refine kO hT hC ?_
 exact Vc.nil kM
 iterate 2 refine kF hC b9 ?_
 refine kP hC false b9 ?_
 refine kO hT hC ?_
 exact Vc.nil kM
 iterate 3 refine kF hC b8 ?_
 refine kP hC false b8 ?_
 refine kO hT hC ?_
 iterate 2 refine kF hC rfl ?_
 iterate 2 refine kO hT hC ?_
 exact Vc.nil kM
 iterate 2 refine kF hC b7 ?_
 refine kP hC false b7 ?_
 refine kO hT hC ?_
 iterate 3 refine kF hC rfl ?_
 iterate 2 refine kO hT hC ?_
 iterate 2 refine kF hC rfl ?_
 iterate 2 refine kO hT hC ?_
 exact Vc.nil kM
 iterate 2 refine kF hC b6 ?_
 refine kP hC false b6 ?_
 refine kO hT hC ?_
 iterate 2 refine kF hC rfl ?_
 iterate 2 refine kO hT hC ?_
 iterate 3 refine kF hC rfl ?_
 iterate 2 refine kO hT hC ?_
 iterate 2 refine kF hC rfl ?_
 iterate 2 refine kO hT hC ?_
 exact Vc.nil kM
 iterate 3 refine kF hC b5 ?_
 refine kP hC false b5 ?_
 refine kO hT hC ?_
 iterate 2 refine kF hC rfl ?_
 iterate 2 refine kO hT hC ?_
 iterate 2 refine kF hC rfl ?_
 iterate 2 refine kO hT hC ?_
 iterate 3 refine kF hC rfl ?_
 iterate 2 refine kO hT hC ?_
 iterate 2 refine kF hC rfl ?_
 iterate 2 refine kO hT hC ?_
 exact Vc.nil kM
 iterate 5 refine kF hC b4 ?_
 refine kP hC false b4 ?_
 refine kO hT hC ?_
 iterate 3 refine kF hC rfl ?_
 iterate 2 refine kO hT hC ?_
 iterate 2 refine kF hC rfl ?_
 iterate 2 refine kO hT hC ?_
 iterate 2 refine kF hC rfl ?_
 iterate 2 refine kO hT hC ?_
 iterate 3 refine kF hC rfl ?_
 iterate 2 refine kO hT hC ?_
 iterate 2 refine kF hC rfl ?_
 iterate 2 refine kO hT hC ?_
 exact Vc.nil kM
 iterate 5 refine kF hC b3 ?_
 refine kP hC false b3 ?_
 refine kO hT hC ?_
 iterate 5 refine kF hC rfl ?_
 iterate 2 refine kO hT hC ?_
 iterate 3 refine kF hC rfl ?_
 iterate 2 refine kO hT hC ?_
 iterate 2 refine kF hC rfl ?_
 iterate 2 refine kO hT hC ?_
 iterate 2 refine kF hC rfl ?_
 iterate 2 refine kO hT hC ?_
 iterate 3 refine kF hC rfl ?_
 iterate 2 refine kO hT hC ?_
 iterate 2 refine kF hC rfl ?_
 iterate 2 refine kO hT hC ?_
 exact Vc.nil kM
 iterate 5 refine kF hC b2 ?_
 refine kP hC false b2 ?_
 refine kO hT hC ?_
 iterate 5 refine kF hC rfl ?_
 iterate 2 refine kO hT hC ?_
 iterate 5 refine kF hC rfl ?_
 iterate 2 refine kO hT hC ?_
 iterate 3 refine kF hC rfl ?_
 iterate 2 refine kO hT hC ?_
 iterate 2 refine kF hC rfl ?_
 iterate 2 refine kO hT hC ?_
 iterate 2 refine kF hC rfl ?_
 iterate 2 refine kO hT hC ?_
 iterate 3 refine kF hC rfl ?_
 iterate 2 refine kO hT hC ?_
 iterate 2 refine kF hC rfl ?_
 iterate 2 refine kO hT hC ?_
 exact Vc.nil kM
 exact Xah kR
end
end Go.Proofs.YtnhflbeahbcklaaGreat.A
