/- Contracts of the functions that the law FnSource reaches, part 2: each comes to what its pure function tells. Written by a program of this session. Conditions: as each statement tells. -/
import Derived.Test.YtnhflbeahbcklaaGreatFFnSourcex1
namespace Go.Proofs.YtnhflbeahbcklaaGreat.A
open Go Go.Proofs Go.Proofs.YtnhflbeahbcklaaGreatAL Go.RowKit
set_option linter.unusedVariables false
set_option linter.unusedSimpArgs false
set_option maxRecDepth 100000
set_option maxHeartbeats 8000000
noncomputable section
def Yc6 (r : (Int × Int)) : AV := .tup [.sv (.int .i64 r.1), .sv (.int .i64 r.2)]
def Yc5 (r : (Int × Int)) : Xa1 := []
theorem Yfl {p0 p1 r} (h : Xfz p0 p1 = some r) : AC Tryz.prog 213 [.sv (.ints .i64 p0), .agg [.sv (.ints .i64 p1.Above), .sv (.ints .i64 p1.Left), .sv (.int .i64 p1.Corner)]] [] (Yc6 r) (Yc5 r) := by
 refine Xae hT Tryz.func213 rfl fun C hC => ?_
 unfold Xfz at h
 refine Xab ?_
 iterate 3 refine kO hT hC ?_
 refine Vc.nil (Xap ?_)
 refine kL [0,3] [48] [_,_] [_] ?_
 refine kA h (fun v1 => ([(17, .sv (.bool v1))], [])) (fun v1 h => ?_) fun v1 h => ?_
 refine Xac ?_
 refine kO hT hC ?_
 refine kC hC [] Tryz.call234 h (fun _ => Xwn) fun q2 h => ?_
 iterate 2 refine kO hT hC ?_
 refine kS h ?_ ?_ <;> intro b1 h
 refine kI hT hC (kn b1) ?_
 refine kE hC (kn b1) [] Tryz.call182 h (fun _ => Xng) fun q3 h => ?_
 refine kI hT hC (kn b1) ?_
 refine kP hC false (kn b1) ?_
 exact Vc.nil kM
 iterate 3 refine kF hC (kn b1) ?_
 refine kP hC true (kn b1) ?_
 exact Vc.nil kM
 refine kS h ?_ ?_ <;> intro b2 h
 refine kt b2 (Xab ?_)
 iterate 2 refine kO hT hC ?_
 exact Vc.nil (Xah (Xar kR))
 refine kf b2 (Xag (Xaf (Xab ?_)))
 refine kO hT hC ?_
 refine kN ?_
 refine kO hT hC ?_
 refine Vc.nil (Xap (Xab ?_))
 refine kO hT hC ?_
 refine Vc.nil ?_
 refine kL [0,3,6,7,8] [48] [_,_,_,_,_] [_] ?_
 refine kX h (fun v16 => ([(6, .sv (.int .i64 v16.1)), (7, .sv (.int .i64 v16.2.1)), (8, .sv (.int .i64 v16.2.2))], [])) (fun v23 => ([(6, .sv (.int .i64 v23.1)), (7, .sv (.int .i64 v23.2)), (0, .any), (3, .any), (8, .any)], [(48, none)])) (kW hC []) (fun v16 s h => ?_) fun v23 h => ?_
 unfold Xdi at h
 refine Xap (Xab ?_)
 iterate 2 refine kO hT hC ?_
 refine Vc.nil ?_
 refine kS h ?_ ?_ <;> intro b12 h
 refine kt b12 (Xag (Xaf ?_))
 refine kL [0,3,6,7,8] [48] [_,_,_,_,_] [_] ?_
 refine kA h (fun v24 => ([(6, .sv (.int .i64 v24.1)), (7, .sv (.int .i64 v24.2))], [])) (fun v24 h => ?_) fun v24 h => ?_
 refine Xak (Xab ?_)
 iterate 3 refine kO hT hC ?_
 refine kC hC [(16, 400)] Tryz.call216 h (fun _ => Xq0) fun q25 h => ?_
 refine kC hC [] Tryz.call235 h (fun _ => Ydc) fun q26 h => ?_
 refine kO hT hC ?_
 refine kC hC [] Tryz.call236 h (fun _ => Yrl) fun q27 h => ?_
 iterate 2 refine kO hT hC ?_
 refine Vc.nil ?_
 refine kL [0,3,6,7,8,9] [48] [_,_,_,_,_,_] [_] ?_
 refine kA h (fun v28 => ([(36, .sv (.bool v28))], [])) (fun v28 h => ?_) fun v28 h => ?_
 refine Xac ?_
 iterate 3 refine kO hT hC ?_
 refine kS h ?_ ?_ <;> intro b13 h
 iterate 3 refine kF hC b13 ?_
 refine kP hC true b13 ?_
 exact Vc.nil kM
 iterate 3 refine kI hT hC b13 ?_
 refine kP hC false b13 ?_
 exact Vc.nil kM
 refine kS h ?_ ?_ <;> intro b14 h
 refine kt b14 (Xab ?_)
 iterate 2 refine kO hT hC ?_
 refine Vc.nil (Xac ?_)
 iterate 2 refine kO hT hC ?_
 exact Vc.nil (Xam kM)
 exact kf b14 (Xag (Xam kM))
 refine Xac ?_
 iterate 3 refine kO hT hC ?_
 exact Vc.nil kG
 exact kf b12 (Xan (Xat ku))
 refine Xaf (Xab ?_)
 iterate 4 refine kO hT hC ?_
 exact Vc.nil (Xah kR)
def Yrf (r : (ByteArray × Bool)) : AV := .tup [.sv (.str r.1), .sv (.bool r.2)]
def Yre (r : (ByteArray × Bool)) : Xa1 := []
theorem Yu4 {p0 r} (h : Xx1 p0 = some r) : AC Tryz.prog 257 [.sv (.int .i64 p0)] [] (Yrf r) (Yre r) := by
 refine Xae hT Tryz.func257 rfl fun C hC => ?_
 unfold Xx1 at h
 refine Xab ?_
 iterate 2 refine kO hT hC ?_
 refine Vc.nil (Xap (Xab ?_))
 refine kO hT hC ?_
 refine kC hC [] Tryz.call107 h (fun _ => Xal) fun q1 h => ?_
 refine kO hT hC ?_
 refine Vc.nil ?_
 refine kS h ?_ ?_ <;> intro b1 h
 refine kt b1 (Xab ?_)
 iterate 2 refine kO hT hC ?_
 exact Vc.nil (Xah (Xar kR))
 refine kf b1 (Xag (Xaf (Xab ?_)))
 refine kO hT hC ?_
 refine kC hC [] Tryz.call152 h (fun _ => Xm8) fun q2 h => ?_
 iterate 2 refine kO hT hC ?_
 exact Vc.nil (Xah kR)
def Yob (r : Int) : AV := .sv (.int .i64 r)
def Yoa (r : Int) : Xa1 := []
theorem Xy9 {p0 r} (h : Xoh p0 = some r) : AC Tryz.prog 237 [.sv (.int .i64 p0)] [] (Yob r) (Yoa r) := by
 refine Xae hT Tryz.func237 rfl fun C hC => ?_
 unfold Xoh at h
 refine Xab ?_
 refine kO hT hC ?_
 refine kN ?_
 refine kO hT hC ?_
 refine kC hC [] Tryz.call257 h (fun _ => Yu4) fun q1 h => ?_
 iterate 5 refine kO hT hC ?_
 refine kN ?_
 iterate 3 refine kO hT hC ?_
 exact Vc.nil (Xah kR)
def Yfo (r : (Int × Int × Int)) : AV := .tup [.sv (.int .i64 r.1), .sv (.int .i64 r.2.1), .sv (.int .i64 r.2.2)]
def Yfn (r : (Int × Int × Int)) : Xa1 := []
theorem Yil {p0 p1 p2 p3 p4 r} (h : Xjt p0 p1 p2 p3 p4 = some r) : AC Tryz.prog 214 [.agg [.sv (.int .i64 p0.Wide), .sv (.int .i64 p0.High), .sv (.str p0.Dots)], .sv (.ints .i64 p1), .sv (.int .i64 p2), .sv (.int .i64 p3), .sv (.int .i64 p4)] [] (Yfo r) (Yfn r) := by
 refine Xae hT Tryz.func214 rfl fun C hC => ?_
 unfold Xjt at h
 refine Xab ?_
 iterate 4 refine kO hT hC ?_
 refine kN ?_
 refine kO hT hC ?_
 refine kN ?_
 refine kO hT hC ?_
 refine kN ?_
 refine kO hT hC ?_
 refine Vc.nil (Xap ?_)
 refine kL [1,2,3,4,5,13,14,15] [80] [_,_,_,_,_,_,_,_] [_] ?_
 refine kA h (fun v1 => ([(33, .sv (.bool v1))], [])) (fun v1 h => ?_) fun v1 h => ?_
 refine Xac ?_
 refine kO hT hC ?_
 refine kC hC [] Tryz.call182 h (fun _ => Xng) fun q2 h => ?_
 iterate 2 refine kO hT hC ?_
 refine kS h ?_ ?_ <;> intro b1 h
 refine kI hT hC (kn b1) ?_
 refine kE hC (kn b1) [] Tryz.call107 h (fun _ => Xal) fun q3 h => ?_
 refine kI hT hC (kn b1) ?_
 refine kP hC false (kn b1) ?_
 refine kO hT hC ?_
 refine kS h ?_ ?_ <;> intro b2 h
 iterate 3 refine kI hT hC (kn b2) ?_
 refine kE hC (kn b2) [] Tryz.call181 h (fun _ => Xnh) fun q4 h => ?_
 refine kI hT hC (kn b2) ?_
 refine kP hC false (kn b2) ?_
 exact Vc.nil kM
 iterate 5 refine kF hC (kn b2) ?_
 refine kP hC true (kn b2) ?_
 exact Vc.nil kM
 iterate 3 refine kF hC (kn b1) ?_
 refine kP hC true (kn b1) ?_
 refine kO hT hC ?_
 iterate 5 refine kF hC rfl ?_
 refine kO hT hC ?_
 exact Vc.nil kM
 refine kS h ?_ ?_ <;> intro b3 h
 refine kt b3 (Xab ?_)
 iterate 3 refine kO hT hC ?_
 exact Vc.nil (Xah (Xar kR))
 refine kf b3 (Xag (Xaf (Xap (Xab ?_))))
 iterate 3 refine kO hT hC ?_
 refine Vc.nil ?_
 refine kL [1,2,3,4,5,13,14,15,16] [80] [_,_,_,_,_,_,_,_,_] [_] ?_
 refine kX h (fun v32 => ([(13, .sv (.int .i64 v32.1)), (14, .sv (.int .i64 v32.2.1)), (15, .sv (.int .i64 v32.2.2.1)), (16, .sv (.int .i64 v32.2.2.2))], [])) (fun v60 => ([(13, .sv (.int .i64 v60.1)), (14, .sv (.int .i64 v60.2.1)), (15, .sv (.int .i64 v60.2.2)), (1, .any), (2, .any), (3, .any), (4, .any), (5, .any), (16, .any)], [(80, none)])) (kW hC []) (fun v32 s h => ?_) fun v60 h => ?_
 unfold Xju at h
 refine Xap (Xab ?_)
 iterate 3 refine kO hT hC ?_
 refine Vc.nil ?_
 refine kS h ?_ ?_ <;> intro b30 h
 refine kt b30 (Xag (Xaf (Xap (Xak (Xab ?_)))))
 iterate 3 refine kO hT hC ?_
 refine Vc.nil ?_
 refine kL [1,2,3,4,5,13,14,15,16,17] [80] [_,_,_,_,_,_,_,_,_,_] [_] ?_
 refine kX h (fun v69 => ([(13, .sv (.int .i64 v69.1)), (14, .sv (.int .i64 v69.2.1)), (15, .sv (.int .i64 v69.2.2.1)), (17, .sv (.int .i64 v69.2.2.2))], [])) (fun v78 => ([(13, .sv (.int .i64 v78.1)), (14, .sv (.int .i64 v78.2.1)), (15, .sv (.int .i64 v78.2.2)), (17, .any)], [])) (kW hC []) (fun v69 s h => ?_) fun v78 h => ?_
 unfold Xjv at h
 refine Xap (Xab ?_)
 iterate 3 refine kO hT hC ?_
 refine Vc.nil ?_
 refine kS h ?_ ?_ <;> intro b39 h
 refine kt b39 (Xag (Xaf ?_))
 refine kL [1,2,3,4,5,13,14,15,16,17] [80] [_,_,_,_,_,_,_,_,_,_] [_] ?_
 refine kA h (fun v79 => ([(13, .sv (.int .i64 v79.1)), (14, .sv (.int .i64 v79.2.1)), (15, .sv (.int .i64 v79.2.2))], [])) (fun v79 h => ?_) fun v79 h => ?_
 refine Xak (Xap (Xab ?_))
 iterate 7 refine kO hT hC ?_
 refine kC hC [] Tryz.call209 h (fun _ => Xtw) fun q80 h => ?_
 refine kO hT hC ?_
 refine Vc.nil ?_
 refine kS h ?_ ?_ <;> intro b40 h
 exact kt b40 (Xan (Xat (Yla kM)))
 refine kf b40 (Xag (Xaf (Xab ?_)))
 iterate 8 refine kO hT hC ?_
 refine kC hC [(16, 1040)] Tryz.call149 h (fun _ => Xiu) fun q81 h => ?_
 refine kC hC [] Tryz.call235 h (fun _ => Ydc) fun q82 h => ?_
 refine kO hT hC ?_
 refine kC hC [] Tryz.call237 h (fun _ => Xy9) fun q83 h => ?_
 iterate 2 refine kO hT hC ?_
 refine kC hC [] Tryz.call237 h (fun _ => Xy9) fun q84 h => ?_
 iterate 2 refine kO hT hC ?_
 refine Vc.nil ?_
 refine kL [1,2,3,4,5,13,14,15,16,17,18] [80] [_,_,_,_,_,_,_,_,_,_,_] [_] ?_
 refine kA h (fun v85 => ([(79, .sv (.bool v85))], [])) (fun v85 h => ?_) fun v85 h => ?_
 refine Xac ?_
 iterate 3 refine kO hT hC ?_
 refine kS h ?_ ?_ <;> intro b41 h
 iterate 3 refine kF hC b41 ?_
 refine kP hC true b41 ?_
 exact Vc.nil kM
 iterate 3 refine kI hT hC b41 ?_
 refine kP hC false b41 ?_
 exact Vc.nil kM
 refine kS h ?_ ?_ <;> intro b42 h
 refine kt b42 (Xab ?_)
 iterate 2 refine kO hT hC ?_
 refine kN ?_
 iterate 2 refine kO hT hC ?_
 refine Vc.nil (Xac ?_)
 iterate 2 refine kO hT hC ?_
 exact Vc.nil (Xam kM)
 exact kf b42 (Xag (Xam kM))
 refine Xac ?_
 iterate 3 refine kO hT hC ?_
 exact Vc.nil kG
 exact kf b39 (Xan (Xat ku))
 refine Xam (Xaf (Xac ?_))
 iterate 3 refine kO hT hC ?_
 exact Vc.nil kG
 exact kf b30 (Xan (Xat ku))
 refine Xaf (Xab ?_)
 iterate 6 refine kO hT hC ?_
 exact Vc.nil (Xah kR)
def Xq5 (r : Int) : AV := .sv (.int .i64 r)
def Xq4 (r : Int) : Xa1 := []
theorem Xy8 {p0 p1 r} (h : Xog p0 p1 = some r) : AC Tryz.prog 258 [.sv (.int .i64 p0), .sv (.int .i64 p1)] [] (Xq5 r) (Xq4 r) := by
 refine Xae hT Tryz.func258 rfl fun C hC => ?_
 unfold Xog at h
 refine Xab ?_
 refine kO hT hC ?_
 refine Vc.nil (Xap ?_)
 refine kL [0,1] [] [_,_] [] ?_
 refine kA h (fun v1 => ([(25, .sv (.bool v1))], [])) (fun v1 h => ?_) fun v1 h => ?_
 refine Xac ?_
 iterate 3 refine kO hT hC ?_
 refine kS h ?_ ?_ <;> intro b1 h
 iterate 2 refine kI hT hC b1 ?_
 refine kP hC true b1 ?_
 refine kO hT hC ?_
 refine kS h ?_ ?_ <;> intro b2 h
 iterate 2 refine kF hC b2 ?_
 refine kP hC true b2 ?_
 refine kO hT hC ?_
 iterate 5 refine kF hC rfl ?_
 refine kO hT hC ?_
 exact Vc.nil kM
 iterate 2 refine kI hT hC b2 ?_
 refine kP hC false b2 ?_
 refine kO hT hC ?_
 refine kS h ?_ ?_ <;> intro b3 h
 iterate 5 refine kF hC b3 ?_
 refine kP hC true b3 ?_
 exact Vc.nil kM
 iterate 5 refine kI hT hC b3 ?_
 refine kP hC false b3 ?_
 exact Vc.nil kM
 iterate 2 refine kF hC b1 ?_
 refine kP hC false b1 ?_
 refine kO hT hC ?_
 iterate 2 refine kI hT hC rfl ?_
 iterate 2 refine kO hT hC ?_
 refine kS h ?_ ?_ <;> intro b4 h
 iterate 5 refine kF hC b4 ?_
 refine kP hC true b4 ?_
 exact Vc.nil kM
 iterate 5 refine kI hT hC b4 ?_
 refine kP hC false b4 ?_
 exact Vc.nil kM
 refine kS h ?_ ?_ <;> intro b5 h
 refine kt b5 (Xab ?_)
 refine kO hT hC ?_
 exact Vc.nil (Xah (Xar kR))
 refine kf b5 (Xag (Xaf (Xab ?_)))
 refine kO hT hC ?_
 refine Vc.nil (Xap (Xab ?_))
 refine kO hT hC ?_
 refine Vc.nil ?_
 refine kL [0,1,5,6] [] [_,_,_,_] [] ?_
 obtain ⟨o48, hl, h⟩ := Xa8 h
 refine Xgn (fun v17 => ([(5, .sv (.int .i64 v17.1)), (6, .sv (.int .i64 v17.2))], [])) (fun v33 => ([(0, .any), (1, .any), (5, .any), (6, .any)], [])) (fun r => Xrj C T Tryz.f258.results.toList (Xq5 r) (Xq4 r)) hl ?_ ?_ ?_ ?_
 try dsimp only
 apply Xdk hC []
 exact co
 rfl
 decide
 rfl
 intro v17 s hs
 have h := hs
 unfold Xm2 at h
 refine Xap (Xab ?_)
 iterate 5 refine kO hT hC ?_
 refine Vc.nil ?_
 refine kS h ?_ ?_ <;> intro b32 h
 refine kt b32 (Xag (Xaf (Xap (Xak (Xab ?_)))))
 refine kO hT hC ?_
 refine Vc.nil ?_
 refine kL [0,1,5,6,7] [] [_,_,_,_,_] [] ?_
 obtain ⟨o47, hl, h⟩ := Xa8 h
 refine Xgn (fun v38 => ([(5, .sv (.int .i64 v38.1)), (7, .sv (.int .i64 v38.2))], [])) (fun v43 => ([(5, .sv (.int .i64 v43)), (7, .any)], [])) (fun r => Xrj C T Tryz.f258.results.toList (Xq5 r) (Xq4 r)) hl ?_ ?_ ?_ ?_
 try dsimp only
 apply Xdk hC []
 exact co
 rfl
 decide
 rfl
 intro v38 s hs
 have h := hs
 unfold Xq3 at h
 refine Xap (Xab ?_)
 iterate 3 refine kO hT hC ?_
 refine Vc.nil ?_
 refine kS h ?_ ?_ <;> intro b41 h
 refine kt b41 (Xag (Xaf ?_))
 refine kL [0,1,5,6,7] [] [_,_,_,_,_] [] ?_
 refine Yy9 h (fun (v44 : Int) => ([(5, .sv (.int .i64 v44))], [])) (fun v44 h => ?_) (fun h => ?_)
 refine Xac ?_
 iterate 3 refine kO hT hC ?_
 exact Vc.nil kG
 refine Xak (Xab ?_)
 iterate 2 refine kO hT hC ?_
 refine Vc.nil ?_
 refine kL [0,1,5,6,7,8] [] [_,_,_,_,_,_] [] ?_
 refine kA h (fun v45 => ([(8, .sv (.int .i64 v45))], [])) (fun v45 h => ?_) fun v45 h => ?_
 refine Xab ?_
 refine kO hT hC ?_
 refine kQ hT hC h fun h => ?_
 refine kO hT hC ?_
 refine Vc.nil ?_
 refine kS h ?_ ?_ <;> intro b42 h
 refine kt b42 (Xac ?_)
 iterate 5 refine kO hT hC ?_
 exact Vc.nil kM
 exact kf b42 (Xag kM)
 refine Xap (Xab ?_)
 iterate 5 refine kO hT hC ?_
 refine kC hC [] Tryz.call107 h (fun _ => Xal) fun q46 h => ?_
 refine kO hT hC ?_
 refine Vc.nil ?_
 refine kS h ?_ ?_ <;> intro b43 h
 refine kt b43 (Xan (Xat (Yla ?_)))
 exact Yzm v38.1 h (kW hC [])
 refine kf b43 (Xag (Xaf (Xap (Xab ?_))))
 iterate 3 refine kO hT hC ?_
 refine Vc.nil ?_
 refine kS h ?_ ?_ <;> intro b44 h
 refine kt b44 (Xab ?_)
 iterate 8 refine kO hT hC ?_
 refine Vc.nil (Xah (Xar (Xfa (Zg0 ?_))))
 obtain rfl := kj h
 refine Xsj (Xsi ?_)
 exact Xbw (Xj2.refl _) rfl trivial
 refine kf b44 (Xag (Xaf (Xac ?_)))
 iterate 3 refine kO hT hC ?_
 refine Vc.nil (Xam ?_)
 exact Yzm (Xaa .i64 (v38.1 + 1)) h (kW hC [])
 exact kf b41 (Xan (Xat kb))
 intro v43 e
 subst e
 refine Xam (Xaf (Xac ?_))
 iterate 3 refine kO hT hC ?_
 exact Vc.nil kG
 intro r' σ' e hE
 subst e
 obtain rfl := kj h
 refine Xfa (Xar (Xsj (Xsi ?_)))
 exact hE
 exact kf b32 (Xan (Xat kb))
 intro v33 e
 subst e
 refine Xaf (Xab ?_)
 refine kO hT hC ?_
 exact Vc.nil (Xah kR)
 intro r' σ' e hE
 subst e
 obtain rfl := kj h
 refine Xar ?_
 exact hE
def Yi6 (r : ((List Int) × Bool)) : AV := .tup [.own 16, .sv (.bool r.2)]
def Yi5 (r : ((List Int) × Bool)) : Xa1 := [(16, .ints .i64 r.1)]
theorem Xq6 {p0 p1 r} (h : Xfp p0 p1 = some r) : AC Tryz.prog 239 [.sv (.int .i64 p0), .sv (.ints .i64 p1)] [] (Yi6 r) (Yi5 r) := by
 refine Xae hT Tryz.func239 rfl fun C hC => ?_
 unfold Xfp at h
 refine Xab ?_
 iterate 2 refine kO hT hC ?_
 refine kN ?_
 iterate 2 refine kO hT hC ?_
 refine Vc.nil (Xap ?_)
 refine kL [0,1,6] [128] [_,_,_] [_] ?_
 refine kA h (fun v1 => ([(22, .sv (.bool v1))], [])) (fun v1 h => ?_) fun v1 h => ?_
 refine Xac ?_
 iterate 3 refine kO hT hC ?_
 refine kS h ?_ ?_ <;> intro b1 h
 iterate 2 refine kI hT hC b1 ?_
 refine kP hC true b1 ?_
 refine kO hT hC ?_
 refine kS h ?_ ?_ <;> intro b2 h
 iterate 6 refine kF hC b2 ?_
 refine kP hC true b2 ?_
 exact Vc.nil kM
 iterate 6 refine kI hT hC b2 ?_
 refine kP hC false b2 ?_
 exact Vc.nil kM
 iterate 2 refine kF hC b1 ?_
 refine kP hC false b1 ?_
 refine kO hT hC ?_
 iterate 6 refine kI hT hC rfl ?_
 refine kO hT hC ?_
 exact Vc.nil kM
 refine kS h ?_ ?_ <;> intro b3 h
 refine kt b3 (Xab ?_)
 iterate 3 refine kO hT hC ?_
 refine Vc.nil (Xah (Xar ?_))
 obtain rfl := kj h
 exact Xbw (τ := ⟨[(4, .own 16), (5, .sv (.bool false))], [(16, some (.ints .i64 ([] : List Int)))]⟩) (kW hC [(16, 128)]) rfl ⟨rfl, trivial⟩
 refine kf b3 (Xag (Xaf (Xap (Xab ?_))))
 refine kO hT hC ?_
 refine Vc.nil ?_
 refine kL [0,1,6,7] [128] [_,_,_,_] [_] ?_
 refine kX h (fun v4 => ([(7, .sv (.int .i64 v4.1))], [(128, some (.ints .i64 v4.2))])) (fun v7 => ([(0, .any), (1, .any), (7, .any)], [(128, some (.ints .i64 v7))])) (kW hC []) (fun v4 s h => ?_) fun v7 h => ?_
 unfold Xdz at h
 refine Xap (Xab ?_)
 iterate 5 refine kO hT hC ?_
 refine Vc.nil ?_
 refine kS h ?_ ?_ <;> intro b6 h
 refine kt b6 (Xag (Xaf (Xap (Xak (Xac ?_)))))
 iterate 4 refine kO hT hC ?_
 refine kC hC [] Tryz.call258 h (fun _ => Xy8) fun q8 h => ?_
 refine kQ hT hC h fun h => ?_
 iterate 2 refine kO hT hC ?_
 refine kT hT hC h fun h => ?_
 refine kO hT hC ?_
 refine Vc.nil (Xam (Xaf (Xac ?_)))
 iterate 3 refine kO hT hC ?_
 refine Vc.nil ?_
 obtain rfl := kj h
 exact Xx7 (kW hC [(128, 624)])
 exact kf b6 (Xan (Xat ku))
 refine Xaf (Xab ?_)
 iterate 3 refine kO hT hC ?_
 refine Vc.nil (Xah ?_)
 obtain rfl := kj h
 exact Xbw (τ := ⟨[(4, .own 16), (5, .sv (.bool true))], [(16, some (.ints .i64 v7))]⟩) (kW hC [(16, 128)]) rfl ⟨rfl, trivial⟩
def Yof (r : Int) : AV := .sv (.int .i64 r)
def Yoe (r : Int) : Xa1 := []
theorem Xzb {p0 p1 r} (h : Xi0 p0 p1 = some r) : AC Tryz.prog 269 [.sv (.int .i64 p0), .sv (.int .i64 p1)] [] (Yof r) (Yoe r) := by
 refine Xae hT Tryz.func269 rfl fun C hC => ?_
 unfold Xi0 at h
 refine Xab ?_
 refine kO hT hC ?_
 refine Vc.nil (Xap ?_)
 refine kL [0,1] [] [_,_] [] ?_
 refine kA h (fun v1 => ([(14, .sv (.bool v1))], [])) (fun v1 h => ?_) fun v1 h => ?_
 refine Xac ?_
 refine kO hT hC ?_
 refine kC hC [] Tryz.call107 h (fun _ => Xal) fun q2 h => ?_
 iterate 2 refine kO hT hC ?_
 refine kS h ?_ ?_ <;> intro b1 h
 refine kI hT hC (kn b1) ?_
 refine kE hC (kn b1) [] Tryz.call107 h (fun _ => Xal) fun q3 h => ?_
 refine kI hT hC (kn b1) ?_
 refine kP hC false (kn b1) ?_
 exact Vc.nil kM
 iterate 3 refine kF hC (kn b1) ?_
 refine kP hC true (kn b1) ?_
 exact Vc.nil kM
 refine kS h ?_ ?_ <;> intro b2 h
 refine kt b2 (Xab ?_)
 refine kO hT hC ?_
 exact Vc.nil (Xah (Xar kR))
 refine kf b2 (Xag (Xaf (Xab ?_)))
 refine kO hT hC ?_
 refine Vc.nil (Xap (Xab ?_))
 iterate 4 refine kO hT hC ?_
 refine Vc.nil ?_
 refine kL [5,6] [] [_,_] [] ?_
 refine kX h (fun v6 => ([(5, .sv (.int .i64 v6.1)), (6, .sv (.int .i64 v6.2))], [])) (fun v9 => ([(5, .sv (.int .i64 v9)), (6, .any)], [])) (kW hC []) (fun v6 s h => ?_) fun v9 h => ?_
 unfold Xkm at h
 refine Xap (Xab ?_)
 iterate 2 refine kO hT hC ?_
 refine Vc.nil ?_
 refine kS h ?_ ?_ <;> intro b7 h
 refine kt b7 (Xag (Xaf ?_))
 refine kL [5,6] [] [_,_] [] ?_
 refine kA h (fun v10 => ([(5, .sv (.int .i64 v10))], [])) (fun v10 h => ?_) fun v10 h => ?_
 refine Xak (Xab ?_)
 refine kO hT hC ?_
 refine kQ hT hC h fun h => ?_
 refine kO hT hC ?_
 refine Vc.nil ?_
 refine kS h ?_ ?_ <;> intro b8 h
 refine kt b8 (Xac ?_)
 iterate 3 refine kO hT hC ?_
 exact Vc.nil (Xam kM)
 exact kf b8 (Xag (Xam kM))
 refine Xac ?_
 refine kO hT hC ?_
 refine kQ hT hC h fun h => ?_
 refine kO hT hC ?_
 exact Vc.nil kG
 exact kf b7 (Xan (Xat ku))
 refine Xaf (Xab ?_)
 iterate 2 refine kO hT hC ?_
 exact Vc.nil (Xah kR)
def Yoz (r : Int) : AV := .sv (.int .i64 r)
def Yoy (r : Int) : Xa1 := []
theorem Yr2 {p0 p1 p2 r} (h : Xli p0 p1 p2 = some r) : AC Tryz.prog 268 [.sv (.ints .i64 p0), .sv (.int .i64 p1), .sv (.int .i64 p2)] [] (Yoz r) (Yoy r) := by
 refine Xae hT Tryz.func268 rfl fun C hC => ?_
 unfold Xli at h
 refine Xab ?_
 refine kO hT hC ?_
 refine kN ?_
 refine kO hT hC ?_
 refine Vc.nil (Xap (Xab ?_))
 refine kO hT hC ?_
 refine Vc.nil ?_
 refine kL [0,1,2,7,8] [] [_,_,_,_,_] [] ?_
 refine kX h (fun v3 => ([(7, .sv (.int .i64 v3.1)), (8, .sv (.int .i64 v3.2))], [])) (fun v6 => ([(7, .sv (.int .i64 v6)), (0, .any), (1, .any), (2, .any), (8, .any)], [])) (kW hC []) (fun v3 s h => ?_) fun v6 h => ?_
 unfold Xen at h
 refine Xap (Xab ?_)
 iterate 2 refine kO hT hC ?_
 refine Vc.nil ?_
 refine kS h ?_ ?_ <;> intro b3 h
 refine kt b3 (Xag (Xaf (Xap (Xak ?_))))
 refine Xb3 hm ?_
 iterate 6 refine kO hT hC ?_
 refine kQ hT hC h fun h => ?_
 iterate 3 refine kO hT hC ?_
 refine kC hC [] Tryz.call269 h (fun _ => Xzb) fun q7 h => ?_
 iterate 3 refine kO hT hC ?_
 refine kD (Xam (Xaf (Xac ?_)))
 iterate 3 refine kO hT hC ?_
 exact Vc.nil kG
 exact kf b3 (Xan (Xat ku))
 refine Xaf (Xab ?_)
 iterate 2 refine kO hT hC ?_
 exact Vc.nil (Xah kR)
def Yj4 (r : (List Int)) : AV := .own 16
def Yj3 (r : (List Int)) : Xa1 := [(16, .ints .i64 r)]
theorem Xw7 {p0 r} (h : Xg0 p0 = some r) : AC Tryz.prog 259 [.sv (.ints .i64 p0)] [] (Yj4 r) (Yj3 r) := by
 refine Xae hT Tryz.func259 rfl fun C hC => ?_
 unfold Xg0 at h
 refine Xab ?_
 refine kO hT hC ?_
 refine kN ?_
 iterate 2 refine kO hT hC ?_
 refine Vc.nil (Xap (Xab ?_))
 refine kO hT hC ?_
 refine Vc.nil ?_
 refine kL [0,3,4] [176] [_,_,_] [_] ?_
 refine kX h (fun v10 => ([(4, .sv (.int .i64 v10.1))], [(176, some (.ints .i64 v10.2))])) (fun v20 => ([(0, .any), (4, .any)], [(176, some (.ints .i64 v20))])) (kW hC []) (fun v10 s h => ?_) fun v20 h => ?_
 unfold Xc4 at h
 refine Xap (Xab ?_)
 iterate 2 refine kO hT hC ?_
 refine Vc.nil ?_
 refine kS h ?_ ?_ <;> intro b9 h
 refine kt b9 (Xag (Xaf (Xap (Xak (Xab ?_)))))
 refine kO hT hC ?_
 refine Vc.nil ?_
 refine kL [0,3,4,5] [176] [_,_,_,_] [_] ?_
 refine kX h (fun v23 => ([(5, .sv (.int .i64 v23.1))], [(176, some (.ints .i64 v23.2))])) (fun v26 => ([(5, .any)], [(176, some (.ints .i64 v26))])) (kW hC []) (fun v23 s h => ?_) fun v26 h => ?_
 unfold Xc5 at h
 refine Xap (Xab ?_)
 iterate 2 refine kO hT hC ?_
 refine Vc.nil ?_
 refine kS h ?_ ?_ <;> intro b12 h
 refine kt b12 (Xag (Xaf (Xap (Xak (Xac ?_)))))
 iterate 4 refine kO hT hC ?_
 refine kC hC [] Tryz.call268 h (fun _ => Yr2) fun q27 h => ?_
 refine kO hT hC ?_
 refine kT hT hC h fun h => ?_
 refine kO hT hC ?_
 refine Vc.nil (Xam (Xaf (Xac ?_)))
 iterate 3 refine kO hT hC ?_
 refine Vc.nil ?_
 obtain rfl := kj h
 exact Xx7 (kW hC [(176, 416)])
 exact kf b12 (Xan (Xat ku))
 refine Xam (Xaf (Xac ?_))
 iterate 3 refine kO hT hC ?_
 exact Vc.nil kG
 exact kf b9 (Xan (Xat ku))
 refine Xaf (Xab ?_)
 iterate 2 refine kO hT hC ?_
 refine Vc.nil (Xap (Xab ?_))
 refine kO hT hC ?_
 refine Vc.nil ?_
 refine kL [3,6,7] [176,432] [_,_,_] [_,_] ?_
 refine kX h (fun v60 => ([(7, .sv (.int .i64 v60.1))], [(432, some (.ints .i64 v60.2))])) (fun v91 => ([(3, .any), (7, .any)], [(432, some (.ints .i64 v91)), (176, none)])) (kW hC []) (fun v60 s h => ?_) fun v91 h => ?_
 unfold Xcp at h
 refine Xap (Xab ?_)
 iterate 2 refine kO hT hC ?_
 refine Vc.nil ?_
 refine kS h ?_ ?_ <;> intro b39 h
 refine kt b39 (Xag (Xaf (Xap (Xak (Xab ?_)))))
 refine kO hT hC ?_
 refine Vc.nil ?_
 refine kL [3,6,7,8] [176,432] [_,_,_,_] [_,_] ?_
 refine kX h (fun v101 => ([(8, .sv (.int .i64 v101.1))], [(432, some (.ints .i64 v101.2))])) (fun v111 => ([(8, .any)], [(432, some (.ints .i64 v111))])) (kW hC []) (fun v101 s h => ?_) fun v111 h => ?_
 unfold Xcq at h
 refine Xap (Xab ?_)
 iterate 2 refine kO hT hC ?_
 refine Vc.nil ?_
 refine kS h ?_ ?_ <;> intro b48 h
 refine kt b48 (Xag (Xaf (Xap (Xak (Xab ?_)))))
 refine kO hT hC ?_
 refine Vc.nil (Xap (Xab ?_))
 refine kO hT hC ?_
 refine Vc.nil ?_
 refine kL [3,6,7,8,9,10] [176,432] [_,_,_,_,_,_] [_,_] ?_
 refine kX h (fun v114 => ([(9, .sv (.int .i64 v114.1)), (10, .sv (.int .i64 v114.2))], [])) (fun v117 => ([(9, .sv (.int .i64 v117)), (10, .any)], [])) (kW hC []) (fun v114 s h => ?_) fun v117 h => ?_
 unfold Xcr at h
 refine Xap (Xab ?_)
 iterate 2 refine kO hT hC ?_
 refine Vc.nil ?_
 refine kS h ?_ ?_ <;> intro b51 h
 refine kt b51 (Xag (Xaf (Xap (Xak ?_))))
 refine Xb3 hm ?_
 iterate 3 refine kO hT hC ?_
 refine kC hC [] Tryz.call269 h (fun _ => Xzb) fun q118 h => ?_
 iterate 5 refine kO hT hC ?_
 iterate 2 refine kQ hT hC h fun h => ?_
 iterate 3 refine kO hT hC ?_
 refine kD (Xam (Xaf (Xac ?_)))
 iterate 3 refine kO hT hC ?_
 exact Vc.nil kG
 exact kf b51 (Xan (Xat ku))
 refine Xaf (Xac ?_)
 iterate 3 refine kO hT hC ?_
 refine kT hT hC h fun h => ?_
 refine kO hT hC ?_
 refine Vc.nil (Xam (Xaf (Xac ?_)))
 iterate 3 refine kO hT hC ?_
 refine Vc.nil ?_
 obtain rfl := kj h
 exact Xx7 (kW hC [(432, 896)])
 exact kf b48 (Xan (Xat ku))
 refine Xam (Xaf (Xac ?_))
 iterate 3 refine kO hT hC ?_
 exact Vc.nil kG
 exact kf b39 (Xan (Xat ku))
 refine Xaf (Xab ?_)
 iterate 2 refine kO hT hC ?_
 refine Vc.nil (Xah ?_)
 obtain rfl := kj h
 exact Xbw (τ := ⟨[(2, .own 16)], [(16, some (.ints .i64 v91))]⟩) (kW hC [(16, 432)]) rfl ⟨rfl, trivial⟩
def Yqx (r : (List Int)) : AV := .own 16
def Yqw (r : (List Int)) : Xa1 := [(16, .ints .i64 r)]
theorem Yuv {p0 r} (h : Xoe p0 = some r) : AC Tryz.prog 240 [.sv (.ints .i64 p0)] [] (Yqx r) (Yqw r) := by
 refine Xae hT Tryz.func240 rfl fun C hC => ?_
 unfold Xoe at h
 refine Xab ?_
 refine kO hT hC ?_
 refine Vc.nil (Xap (Xab ?_))
 refine kO hT hC ?_
 refine kC hC [] Tryz.call238 h (fun _ => Xcj) fun q1 h => ?_
 refine kO hT hC ?_
 refine Vc.nil ?_
 refine kS h ?_ ?_ <;> intro b1 h
 refine kt b1 (Xab ?_)
 iterate 2 refine kO hT hC ?_
 refine Vc.nil (Xah (Xar ?_))
 obtain rfl := kj h
 exact Xbw (τ := ⟨[(2, .own 16)], [(16, some (.ints .i64 ([] : List Int)))]⟩) (kW hC [(16, 96)]) rfl ⟨rfl, trivial⟩
 refine kf b1 (Xag (Xaf (Xab ?_)))
 refine kO hT hC ?_
 refine kC hC [(16, 128)] Tryz.call259 h (fun _ => Xw7) fun q2 h => ?_
 refine kO hT hC ?_
 refine Vc.nil (Xah ?_)
 obtain rfl := kj h
 exact Xbw (τ := ⟨[(2, .own 16)], [(16, some (.ints .i64 q2))]⟩) (kW hC [(16, 128)]) rfl ⟨rfl, trivial⟩
def Yoj (r : Int) : AV := .sv (.int .i64 r)
def Yoi (r : Int) : Xa1 := []
theorem Xze {p0 r} (h : Xhc p0 = some r) : AC Tryz.prog 260 [.sv (.int .i64 p0)] [] (Yoj r) (Yoi r) := by
 refine Xae hT Tryz.func260 rfl fun C hC => ?_
 unfold Xhc at h
 refine Xab ?_
 refine kO hT hC ?_
 refine Vc.nil (Xap (Xab ?_))
 refine kO hT hC ?_
 refine kC hC [] Tryz.call107 h (fun _ => Xal) fun q1 h => ?_
 refine kO hT hC ?_
 refine Vc.nil ?_
 refine kS h ?_ ?_ <;> intro b1 h
 refine kt b1 (Xab ?_)
 refine kO hT hC ?_
 exact Vc.nil (Xah (Xar kR))
 refine kf b1 (Xag (Xaf (Xab ?_)))
 refine kO hT hC ?_
 refine Vc.nil ?_
 refine kL [0,3] [] [_,_] [] ?_
 refine kA h (fun v2 => ([(3, .sv (.int .i64 v2))], [])) (fun v2 h => ?_) fun v2 h => ?_
 refine Xab ?_
 refine kO hT hC ?_
 refine kQ hT hC h fun h => ?_
 refine Vc.nil (Xak (Xab ?_))
 iterate 2 refine kO hT hC ?_
 refine Vc.nil ?_
 refine kS h ?_ ?_ <;> intro b2 h
 refine kt b2 (Xac ?_)
 refine kO hT hC ?_
 exact Vc.nil (Xam kM)
 refine kf b2 (Xab ?_)
 iterate 2 refine kO hT hC ?_
 refine Vc.nil ?_
 refine kS h ?_ ?_ <;> intro b3 h
 refine kt b3 (Xac ?_)
 refine kO hT hC ?_
 exact Vc.nil (Xam kM)
 refine kf b3 (Xab ?_)
 iterate 2 refine kO hT hC ?_
 refine Vc.nil ?_
 refine kS h ?_ ?_ <;> intro b4 h
 refine kt b4 (Xac ?_)
 refine kO hT hC ?_
 exact Vc.nil (Xam kM)
 refine kf b4 (Xab ?_)
 iterate 2 refine kO hT hC ?_
 refine Vc.nil ?_
 refine kS h ?_ ?_ <;> intro b5 h
 refine kt b5 (Xac ?_)
 refine kO hT hC ?_
 exact Vc.nil (Xam kM)
 refine kf b5 (Xab ?_)
 iterate 2 refine kO hT hC ?_
 refine Vc.nil ?_
 refine kS h ?_ ?_ <;> intro b6 h
 refine kt b6 (Xac ?_)
 refine kO hT hC ?_
 exact Vc.nil (Xam kM)
 exact kf b6 (Xag (Xam kM))
 refine Xap (Xab ?_)
 refine kO hT hC ?_
 refine Vc.nil ?_
 refine kL [0,3,4] [] [_,_,_] [] ?_
 refine kX h (fun v4 => ([(3, .sv (.int .i64 v4.1)), (4, .sv (.int .i64 v4.2))], [])) (fun v6 => ([(3, .sv (.int .i64 v6)), (0, .any), (4, .any)], [])) (kW hC []) (fun v4 s h => ?_) fun v6 h => ?_
 unfold Xkp at h
 refine Xap (Xab ?_)
 iterate 2 refine kO hT hC ?_
 refine kQ hT hC h fun h => ?_
 refine kO hT hC ?_
 refine Vc.nil ?_
 refine kS h ?_ ?_ <;> intro b9 h
 refine kt b9 (Xag (Xaf (Xap (Xak (Xac ?_)))))
 iterate 3 refine kO hT hC ?_
 refine Vc.nil (Xam (Xaf (Xac ?_)))
 iterate 3 refine kO hT hC ?_
 exact Vc.nil kG
 exact kf b9 (Xan (Xat ku))
 refine Xaf (Xab ?_)
 iterate 2 refine kO hT hC ?_
 exact Vc.nil (Xah kR)
def Ydx (r : Int) : AV := .sv (.int .i64 r)
def Ydw (r : Int) : Xa1 := []
theorem Xtu {p0 p1 r} (h : Xf6 p0 p1 = some r) : AC Tryz.prog 261 [.sv (.int .i64 p0), .sv (.int .i64 p1)] [] (Ydx r) (Ydw r) := by
 refine Xae hT Tryz.func261 rfl fun C hC => ?_
 unfold Xf6 at h
 refine Xab ?_
 refine kO hT hC ?_
 refine Vc.nil (Xap (Xab ?_))
 iterate 2 refine kO hT hC ?_
 refine Vc.nil ?_
 refine kS h ?_ ?_ <;> intro b1 h
 refine kt b1 (Xab ?_)
 iterate 3 refine kO hT hC ?_
 exact Vc.nil (Xah (Xar kR))
 refine kf b1 (Xag (Xaf (Xab ?_)))
 iterate 2 refine kO hT hC ?_
 exact Vc.nil (Xah kR)
def Yam (r : Int) : AV := .sv (.int .i64 r)
def Yal (r : Int) : Xa1 := []
theorem Ydf {p0 p1 r} (h : Xe3 p0 p1 = some r) : AC Tryz.prog 241 [.sv (.int .i64 p0), .sv (.int .i64 p1)] [] (Yam r) (Yal r) := by
 refine Xae hT Tryz.func241 rfl fun C hC => ?_
 unfold Xe3 at h
 refine Xab ?_
 refine kO hT hC ?_
 refine Vc.nil (Xap ?_)
 refine kL [0,1] [] [_,_] [] ?_
 refine kA h (fun v1 => ([(13, .sv (.bool v1))], [])) (fun v1 h => ?_) fun v1 h => ?_
 refine Xac ?_
 refine kO hT hC ?_
 refine kC hC [] Tryz.call107 h (fun _ => Xal) fun q2 h => ?_
 iterate 2 refine kO hT hC ?_
 refine kS h ?_ ?_ <;> intro b1 h
 refine kI hT hC (kn b1) ?_
 refine kE hC (kn b1) [] Tryz.call107 h (fun _ => Xal) fun q3 h => ?_
 refine kI hT hC (kn b1) ?_
 refine kP hC false (kn b1) ?_
 exact Vc.nil kM
 iterate 3 refine kF hC (kn b1) ?_
 refine kP hC true (kn b1) ?_
 exact Vc.nil kM
 refine kS h ?_ ?_ <;> intro b2 h
 refine kt b2 (Xab ?_)
 refine kO hT hC ?_
 exact Vc.nil (Xah (Xar kR))
 refine kf b2 (Xag (Xaf (Xab ?_)))
 refine kO hT hC ?_
 refine kC hC [] Tryz.call260 h (fun _ => Xze) fun q4 h => ?_
 refine kO hT hC ?_
 refine kN ?_
 iterate 2 refine kO hT hC ?_
 refine kC hC [] Tryz.call255 h (fun _ => Xpq) fun q5 h => ?_
 refine kO hT hC ?_
 refine kQ hT hC h fun h => ?_
 iterate 2 refine kO hT hC ?_
 refine kQ hT hC h fun h => ?_
 refine kC hC [] Tryz.call261 h (fun _ => Xtu) fun q6 h => ?_
 refine kO hT hC ?_
 exact Vc.nil (Xah kR)
def Ya1 (r : (List Int)) : AV := .own 16
def Ya0 (r : (List Int)) : Xa1 := [(16, .ints .i64 r)]
theorem Yd2 {p0 p1 r} (h : Xe7 p0 p1 = some r) : AC Tryz.prog 243 [.sv (.ints .i64 p0), .sv (.int .i64 p1)] [] (Ya1 r) (Ya0 r) := by
 refine Xae hT Tryz.func243 rfl fun C hC => ?_
 unfold Xe7 at h
 refine Xab ?_
 refine kO hT hC ?_
 refine kN ?_
 iterate 2 refine kO hT hC ?_
 refine Vc.nil (Xap (Xab ?_))
 refine kO hT hC ?_
 refine Vc.nil ?_
 refine kL [0,1,5,6] [112] [_,_,_,_] [_] ?_
 refine kX h (fun v2 => ([(6, .sv (.int .i64 v2.1))], [(112, some (.ints .i64 v2.2))])) (fun v4 => ([(0, .any), (1, .any), (6, .any)], [(112, some (.ints .i64 v4))])) (kW hC []) (fun v2 s h => ?_) fun v4 h => ?_
 unfold Xb0 at h
 refine Xap (Xab ?_)
 iterate 2 refine kO hT hC ?_
 refine Vc.nil ?_
 refine kS h ?_ ?_ <;> intro b3 h
 refine kt b3 (Xag (Xaf (Xap (Xak (Xac ?_)))))
 iterate 3 refine kO hT hC ?_
 refine kQ hT hC h fun h => ?_
 iterate 2 refine kO hT hC ?_
 refine kQ hT hC h fun h => ?_
 iterate 3 refine kO hT hC ?_
 refine kQ hT hC h fun h => ?_
 iterate 3 refine kO hT hC ?_
 refine kQ hT hC h fun h => ?_
 refine kO hT hC ?_
 refine kQ hT hC h fun h => ?_
 iterate 2 refine kO hT hC ?_
 refine kT hT hC h fun h => ?_
 refine kO hT hC ?_
 refine Vc.nil (Xam (Xaf (Xac ?_)))
 iterate 3 refine kO hT hC ?_
 refine Vc.nil ?_
 obtain rfl := kj h
 exact Xx7 (kW hC [(112, 496)])
 exact kf b3 (Xan (Xat ku))
 refine Xaf (Xab ?_)
 iterate 2 refine kO hT hC ?_
 refine Vc.nil (Xah ?_)
 obtain rfl := kj h
 exact Xbw (τ := ⟨[(4, .own 16)], [(16, some (.ints .i64 v4))]⟩) (kW hC [(16, 112)]) rfl ⟨rfl, trivial⟩
def Yj2 (r : (List Int)) : AV := .own 16
def Yj1 (r : (List Int)) : Xa1 := [(16, .ints .i64 r)]
theorem Xw4 {p0 r} (h : Xgz p0 = some r) : AC Tryz.prog 263 [.sv (.ints .i64 p0)] [] (Yj2 r) (Yj1 r) := by
 refine Xae hT Tryz.func263 rfl fun C hC => ?_
 unfold Xgz at h
 refine Xab ?_
 refine kO hT hC ?_
 refine kN ?_
 iterate 2 refine kO hT hC ?_
 refine Vc.nil (Xap (Xab ?_))
 refine kO hT hC ?_
 refine Vc.nil ?_
 refine kL [0,3,4] [144] [_,_,_] [_] ?_
 refine kX h (fun v2 => ([(4, .sv (.int .i64 v2.1))], [(144, some (.ints .i64 v2.2))])) (fun v4 => ([(0, .any), (4, .any)], [(144, some (.ints .i64 v4))])) (kW hC []) (fun v2 s h => ?_) fun v4 h => ?_
 unfold Xd4 at h
 refine Xap (Xab ?_)
 iterate 2 refine kO hT hC ?_
 refine Vc.nil ?_
 refine kS h ?_ ?_ <;> intro b3 h
 refine kt b3 (Xag (Xaf (Xap (Xak (Xab ?_)))))
 iterate 3 refine kO hT hC ?_
 refine kQ hT hC h fun h => ?_
 iterate 2 refine kO hT hC ?_
 refine kN ?_
 iterate 4 refine kO hT hC ?_
 refine kQ hT hC h fun h => ?_
 iterate 2 refine kO hT hC ?_
 refine kN ?_
 iterate 4 refine kO hT hC ?_
 refine kQ hT hC h fun h => ?_
 iterate 2 refine kO hT hC ?_
 refine kN ?_
 iterate 4 refine kO hT hC ?_
 refine kQ hT hC h fun h => ?_
 iterate 2 refine kO hT hC ?_
 refine Vc.nil (Xac ?_)
 iterate 34 refine kO hT hC ?_
 refine kT hT hC h fun h => ?_
 refine kO hT hC ?_
 refine Vc.nil (Xam (Xaf (Xac ?_)))
 iterate 3 refine kO hT hC ?_
 refine Vc.nil ?_
 obtain rfl := kj h
 exact Xx7 (kW hC [(144, 1136)])
 exact kf b3 (Xan (Xat ku))
 refine Xaf (Xab ?_)
 iterate 2 refine kO hT hC ?_
 refine Vc.nil (Xah ?_)
 obtain rfl := kj h
 exact Xbw (τ := ⟨[(2, .own 16)], [(16, some (.ints .i64 v4))]⟩) (kW hC [(16, 144)]) rfl ⟨rfl, trivial⟩
def Yj0 (r : (List Int)) : AV := .own 16
def Yjz (r : (List Int)) : Xa1 := [(16, .ints .i64 r)]
theorem Xnc {p0 r} (h : Xem p0 = some r) : AC Tryz.prog 262 [.sv (.ints .i64 p0)] [] (Yj0 r) (Yjz r) := by
 refine Xae hT Tryz.func262 rfl fun C hC => ?_
 unfold Xem at h
 refine Xab ?_
 refine kO hT hC ?_
 refine kN ?_
 obtain ⟨hq, h⟩ := Xa0 h
 refine Ypi hT hC rfl rfl rfl rfl ⟨hq.1, hq.2.1, hq.2.2, by decide⟩ ?_
 refine kO hT hC ?_
 refine Vc.nil (Xap (Xab ?_))
 refine kO hT hC ?_
 refine Vc.nil ?_
 refine kL [0,3,4] [80] [_,_,_] [_] ?_
 refine kX h (fun v2 => ([(4, .sv (.int .i64 v2.1))], [(80, some (.ints .i64 v2.2))])) (fun v4 => ([(0, .any), (4, .any)], [(80, some (.ints .i64 v4))])) (kW hC []) (fun v2 s h => ?_) fun v4 h => ?_
 unfold Xd3 at h
 refine Xap (Xab ?_)
 iterate 2 refine kO hT hC ?_
 refine Vc.nil ?_
 refine kS h ?_ ?_ <;> intro b3 h
 refine kt b3 (Xag (Xaf (Xap (Xak (Xac ?_)))))
 iterate 2 refine kO hT hC ?_
 refine kQ hT hC h fun h => ?_
 iterate 2 refine kO hT hC ?_
 refine kQ hT hC h fun h => ?_
 iterate 3 refine kO hT hC ?_
 refine kQ hT hC h fun h => ?_
 refine kO hT hC ?_
 iterate 2 refine kQ hT hC h fun h => ?_
 refine Vc.nil (Xam (Xaf (Xac ?_)))
 iterate 3 refine kO hT hC ?_
 exact Vc.nil kG
 exact kf b3 (Xan (Xat ku))
 refine Xaf (Xab ?_)
 iterate 2 refine kO hT hC ?_
 refine Vc.nil (Xah ?_)
 obtain rfl := kj h
 exact Xbw (τ := ⟨[(2, .own 16)], [(16, some (.ints .i64 v4))]⟩) (kW hC [(16, 80)]) rfl ⟨rfl, trivial⟩
def Yux (r : (List Int)) : AV := .own 16
def Yuw (r : (List Int)) : Xa1 := [(16, .ints .i64 r)]
theorem Yxk {p0 r} (h : Xqz p0 = some r) : AC Tryz.prog 242 [.sv (.ints .i64 p0)] [] (Yux r) (Yuw r) := by
 refine Xae hT Tryz.func242 rfl fun C hC => ?_
 unfold Xqz at h
 refine Xab ?_
 refine kO hT hC ?_
 refine Vc.nil (Xap (Xab ?_))
 refine kO hT hC ?_
 refine kC hC [] Tryz.call238 h (fun _ => Xcj) fun q1 h => ?_
 refine kO hT hC ?_
 refine Vc.nil ?_
 refine kS h ?_ ?_ <;> intro b1 h
 refine kt b1 (Xab ?_)
 iterate 2 refine kO hT hC ?_
 refine Vc.nil (Xah (Xar ?_))
 obtain rfl := kj h
 exact Xbw (τ := ⟨[(2, .own 16)], [(16, some (.ints .i64 ([] : List Int)))]⟩) (kW hC [(16, 96)]) rfl ⟨rfl, trivial⟩
 refine kf b1 (Xag (Xaf (Xab ?_)))
 refine kO hT hC ?_
 refine kC hC [(16, 128)] Tryz.call263 h (fun _ => Xw4) fun q2 h => ?_
 refine kC hC [(16, 144)] Tryz.call262 h (fun _ => Xnc) fun q3 h => ?_
 refine kC hC [(16, 160)] Tryz.call263 h (fun _ => Xw4) fun q4 h => ?_
 refine kC hC [(16, 176)] Tryz.call262 h (fun _ => Xnc) fun q5 h => ?_
 refine kO hT hC ?_
 refine Vc.nil (Xah ?_)
 obtain rfl := kj h
 exact Xbw (τ := ⟨[(2, .own 16)], [(16, some (.ints .i64 q5))]⟩) (kW hC [(16, 176)]) rfl ⟨rfl, trivial⟩
def Yn5 (r : Int) : AV := .sv (.int .i64 r)
def Yn4 (r : Int) : Xa1 := []
theorem Xy7 {p0 r} (h : Xle p0 = some r) : AC Tryz.prog 270 [.sv (.int .i64 p0)] [] (Yn5 r) (Yn4 r) := by
 refine Xae hT Tryz.func270 rfl fun C hC => ?_
 unfold Xle at h
 refine Xab ?_
 refine kO hT hC ?_
 refine Vc.nil (Xap (Xab ?_))
 refine kO hT hC ?_
 refine kC hC [] Tryz.call107 h (fun _ => Xal) fun q1 h => ?_
 refine kO hT hC ?_
 refine Vc.nil ?_
 refine kS h ?_ ?_ <;> intro b1 h
 refine kt b1 (Xab ?_)
 refine kO hT hC ?_
 exact Vc.nil (Xah (Xar kR))
 refine kf b1 (Xag (Xaf (Xab ?_)))
 refine kO hT hC ?_
 iterate 2 refine kQ hT hC h fun h => ?_
 refine kO hT hC ?_
 refine kN ?_
 refine kO hT hC ?_
 iterate 2 refine kQ hT hC h fun h => ?_
 refine kO hT hC ?_
 refine Vc.nil (Xap ?_)
 refine kL [3,4] [] [_,_] [] ?_
 refine kA h (fun v2 => ([(19, .sv (.bool v2))], [])) (fun v2 h => ?_) fun v2 h => ?_
 refine Xac ?_
 iterate 3 refine kO hT hC ?_
 refine kS h ?_ ?_ <;> intro b2 h
 iterate 2 refine kI hT hC b2 ?_
 refine kP hC true b2 ?_
 exact Vc.nil kM
 iterate 2 refine kF hC b2 ?_
 refine kP hC false b2 ?_
 exact Vc.nil kM
 refine kS h ?_ ?_ <;> intro b3 h
 refine kt b3 (Xab ?_)
 refine kO hT hC ?_
 exact Vc.nil (Xah (Xar kR))
 refine kf b3 (Xag (Xaf (Xap ?_)))
 refine kL [3,4] [] [_,_] [] ?_
 refine kA h (fun v3 => ([(25, .sv (.bool v3)), (3, .any), (4, .any)], [])) (fun v3 h => ?_) fun v3 h => ?_
 refine Xac ?_
 iterate 3 refine kO hT hC ?_
 refine kS h ?_ ?_ <;> intro b4 h
 iterate 2 refine kI hT hC b4 ?_
 refine kP hC true b4 ?_
 exact Vc.nil kM
 iterate 2 refine kF hC b4 ?_
 refine kP hC false b4 ?_
 exact Vc.nil kM
 refine kS h ?_ ?_ <;> intro b5 h
 refine kt b5 (Xab ?_)
 refine kO hT hC ?_
 exact Vc.nil (Xah (Xar kR))
 refine kf b5 (Xag (Xaf (Xab ?_)))
 refine kO hT hC ?_
 exact Vc.nil (Xah kR)
def Yjw (r : Int) : AV := .sv (.int .i64 r)
def Yjv (r : Int) : Xa1 := []
theorem Xbu {p0 p1 p2 p3 r} (h : Xbe p0 p1 p2 p3 = some r) : AC Tryz.prog 271 [.sv (.int .i64 p0), .sv (.int .i64 p1), .sv (.int .i64 p2), .sv (.int .i64 p3)] [] (Yjw r) (Yjv r) := by
 refine Xae hT Tryz.func271 rfl fun C hC => ?_
 unfold Xbe at h
 refine Xab ?_
 refine kO hT hC ?_
 refine Vc.nil (Xap (Xab ?_))
 refine kO hT hC ?_
 refine Vc.nil (Xak (Xab ?_))
 iterate 2 refine kO hT hC ?_
 refine Vc.nil ?_
 refine kS h ?_ ?_ <;> intro b1 h
 refine kt b1 (Xab ?_)
 iterate 2 refine kO hT hC ?_
 exact Vc.nil (Xah (Xfa (Xar kR)))
 refine kf b1 (Xab ?_)
 iterate 2 refine kO hT hC ?_
 refine Vc.nil ?_
 refine kS h ?_ ?_ <;> intro b2 h
 refine kt b2 (Xab ?_)
 iterate 2 refine kO hT hC ?_
 exact Vc.nil (Xah (Xfa (Xar kR)))
 refine kf b2 (Xag (Xam (Xaf (Xab ?_))))
 iterate 2 refine kO hT hC ?_
 exact Vc.nil (Xah kR)
def Yi8 (r : Int) : AV := .sv (.int .i64 r)
def Yi7 (r : Int) : Xa1 := []
theorem Yoc {p0 p1 r} (h : Xiz p0 p1 = some r) : AC Tryz.prog 264 [.sv (.int .i64 p0), .sv (.int .i64 p1)] [] (Yi8 r) (Yi7 r) := by
 refine Xae hT Tryz.func264 rfl fun C hC => ?_
 unfold Xiz at h
 refine Xab ?_
 refine kO hT hC ?_
 refine kN ?_
 refine kO hT hC ?_
 refine kC hC [] Tryz.call270 h (fun _ => Xy7) fun q1 h => ?_
 refine kO hT hC ?_
 refine Vc.nil (Xap ?_)
 refine kL [0,5] [] [_,_] [] ?_
 refine kA h (fun v2 => ([(14, .sv (.bool v2))], [])) (fun v2 h => ?_) fun v2 h => ?_
 refine Xac ?_
 refine kO hT hC ?_
 refine kC hC [] Tryz.call107 h (fun _ => Xal) fun q3 h => ?_
 iterate 2 refine kO hT hC ?_
 refine kS h ?_ ?_ <;> intro b1 h
 iterate 2 refine kI hT hC (kn b1) ?_
 refine kP hC false (kn b1) ?_
 exact Vc.nil kM
 iterate 2 refine kF hC (kn b1) ?_
 refine kP hC true (kn b1) ?_
 exact Vc.nil kM
 refine kS h ?_ ?_ <;> intro b2 h
 refine kt b2 (Xab ?_)
 refine kO hT hC ?_
 exact Vc.nil (Xah (Xar kR))
 refine kf b2 (Xag (Xaf (Xap (Xab ?_))))
 refine kO hT hC ?_
 refine kQ hT hC h fun h => ?_
 refine Vc.nil (Xak (Xab ?_))
 iterate 2 refine kO hT hC ?_
 refine Vc.nil ?_
 refine kS h ?_ ?_ <;> intro b3 h
 refine kt b3 (Xab ?_)
 refine kO hT hC ?_
 refine kC hC [] Tryz.call271 h (fun _ => Xbu) fun q4 h => ?_
 refine kO hT hC ?_
 exact Vc.nil (Xah (Xfa (Xar kR)))
 refine kf b3 (Xab ?_)
 iterate 2 refine kO hT hC ?_
 refine Vc.nil ?_
 refine kS h ?_ ?_ <;> intro b4 h
 refine kt b4 (Xab ?_)
 refine kO hT hC ?_
 refine kC hC [] Tryz.call271 h (fun _ => Xbu) fun q5 h => ?_
 refine kO hT hC ?_
 exact Vc.nil (Xah (Xfa (Xar kR)))
 refine kf b4 (Xab ?_)
 iterate 2 refine kO hT hC ?_
 refine Vc.nil ?_
 refine kS h ?_ ?_ <;> intro b5 h
 refine kt b5 (Xab ?_)
 refine kO hT hC ?_
 refine kC hC [] Tryz.call271 h (fun _ => Xbu) fun q6 h => ?_
 refine kO hT hC ?_
 exact Vc.nil (Xah (Xfa (Xar kR)))
 refine kf b5 (Xab ?_)
 iterate 2 refine kO hT hC ?_
 refine Vc.nil ?_
 refine kS h ?_ ?_ <;> intro b6 h
 refine kt b6 (Xab ?_)
 refine kO hT hC ?_
 refine kC hC [] Tryz.call271 h (fun _ => Xbu) fun q7 h => ?_
 refine kO hT hC ?_
 exact Vc.nil (Xah (Xfa (Xar kR)))
 refine kf b6 (Xab ?_)
 iterate 2 refine kO hT hC ?_
 refine Vc.nil ?_
 refine kS h ?_ ?_ <;> intro b7 h
 refine kt b7 (Xab ?_)
 refine kO hT hC ?_
 refine kC hC [] Tryz.call271 h (fun _ => Xbu) fun q8 h => ?_
 refine kO hT hC ?_
 exact Vc.nil (Xah (Xfa (Xar kR)))
 refine kf b7 (Xag (Xam (Xaf (Xab ?_))))
 refine kO hT hC ?_
 refine kC hC [] Tryz.call271 h (fun _ => Xbu) fun q9 h => ?_
 refine kO hT hC ?_
 exact Vc.nil (Xah kR)
def Yaq (r : Int) : AV := .sv (.int .i64 r)
def Yap (r : Int) : Xa1 := []
theorem Ydj {p0 p1 p2 r} (h : Xe5 p0 p1 p2 = some r) : AC Tryz.prog 244 [.sv (.int .i64 p0), .sv (.int .i64 p1), .sv (.int .i64 p2)] [] (Yaq r) (Yap r) := by
 refine Xae hT Tryz.func244 rfl fun C hC => ?_
 unfold Xe5 at h
 refine Xab ?_
 refine kO hT hC ?_
 refine Vc.nil (Xap ?_)
 refine kL [0,1,2] [] [_,_,_] [] ?_
 refine kA h (fun v1 => ([(20, .sv (.bool v1))], [])) (fun v1 h => ?_) fun v1 h => ?_
 refine Xac ?_
 refine kO hT hC ?_
 refine kC hC [] Tryz.call107 h (fun _ => Xal) fun q2 h => ?_
 iterate 2 refine kO hT hC ?_
 refine kS h ?_ ?_ <;> intro b1 h
 refine kI hT hC (kn b1) ?_
 refine kE hC (kn b1) [] Tryz.call107 h (fun _ => Xal) fun q3 h => ?_
 refine kI hT hC (kn b1) ?_
 refine kP hC false (kn b1) ?_
 refine kO hT hC ?_
 refine kS h ?_ ?_ <;> intro b2 h
 refine kI hT hC (kn b2) ?_
 refine kE hC (kn b2) [] Tryz.call107 h (fun _ => Xal) fun q4 h => ?_
 refine kI hT hC (kn b2) ?_
 refine kP hC false (kn b2) ?_
 exact Vc.nil kM
 iterate 3 refine kF hC (kn b2) ?_
 refine kP hC true (kn b2) ?_
 exact Vc.nil kM
 iterate 3 refine kF hC (kn b1) ?_
 refine kP hC true (kn b1) ?_
 refine kO hT hC ?_
 iterate 3 refine kF hC rfl ?_
 refine kO hT hC ?_
 exact Vc.nil kM
 refine kS h ?_ ?_ <;> intro b3 h
 refine kt b3 (Xab ?_)
 refine kO hT hC ?_
 exact Vc.nil (Xah (Xar kR))
 refine kf b3 (Xag (Xaf (Xab ?_)))
 refine kO hT hC ?_
 refine kQ hT hC h fun h => ?_
 iterate 2 refine kO hT hC ?_
 refine kQ hT hC h fun h => ?_
 refine kO hT hC ?_
 refine kN ?_
 iterate 2 refine kO hT hC ?_
 refine kC hC [] Tryz.call255 h (fun _ => Xpq) fun q5 h => ?_
 iterate 2 refine kO hT hC ?_
 refine kC hC [] Tryz.call264 h (fun _ => Yoc) fun q6 h => ?_
 iterate 2 refine kO hT hC ?_
 refine kQ hT hC h fun h => ?_
 iterate 2 refine kO hT hC ?_
 refine kQ hT hC h fun h => ?_
 refine kC hC [] Tryz.call261 h (fun _ => Xtu) fun q7 h => ?_
 refine kO hT hC ?_
 exact Vc.nil (Xah kR)
def Yfw (r : ((List Int) × Bool)) : AV := .tup [.own 16, .sv (.bool r.2)]
def Yfv (r : ((List Int) × Bool)) : Xa1 := [(16, .ints .i64 r.1)]
theorem Xva {p0 p1 r} (h : Xcw p0 p1 = some r) : AC Tryz.prog 215 [.sv (.ints .i64 p0), .agg [.sv (.bool p1.Key), .sv (.int .i64 p1.Qp), .sv (.bool p1.Large), .sv (.bool p1.Exact)]] [] (Yfw r) (Yfv r) := by
 refine Xae hT Tryz.func215 rfl fun C hC => ?_
 unfold Xcw at h
 refine Xab ?_
 iterate 3 refine kO hT hC ?_
 refine Vc.nil (Xap ?_)
 refine kL [0,3] [48] [_,_] [_] ?_
 refine kA h (fun v1 => ([(21, .sv (.bool v1))], [])) (fun v1 h => ?_) fun v1 h => ?_
 refine Xac ?_
 refine kO hT hC ?_
 refine kC hC [] Tryz.call145 h (fun _ => Xkl) fun q2 h => ?_
 iterate 2 refine kO hT hC ?_
 refine kS h ?_ ?_ <;> intro b1 h
 refine kI hT hC (kn b1) ?_
 refine kE hC (kn b1) [] Tryz.call238 h (fun _ => Xcj) fun q3 h => ?_
 refine kI hT hC (kn b1) ?_
 refine kP hC false (kn b1) ?_
 exact Vc.nil kM
 iterate 3 refine kF hC (kn b1) ?_
 refine kP hC true (kn b1) ?_
 exact Vc.nil kM
 refine kS h ?_ ?_ <;> intro b2 h
 refine kt b2 (Xab ?_)
 iterate 3 refine kO hT hC ?_
 refine Vc.nil (Xah (Xar ?_))
 obtain rfl := kj h
 exact Xbw (τ := ⟨[(4, .own 16), (5, .sv (.bool false))], [(16, some (.ints .i64 ([] : List Int)))]⟩) (kW hC [(16, 352)]) rfl ⟨rfl, trivial⟩
 refine kf b2 (Xag (Xaf (Xap (Xab ?_))))
 iterate 2 refine kO hT hC ?_
 refine Vc.nil ?_
 refine kS h ?_ ?_ <;> intro b3 h
 refine kt b3 (Xab ?_)
 refine kO hT hC ?_
 refine kC hC [(16, 416)] Tryz.call239 h (fun _ => Xq6) fun q4 h => ?_
 iterate 4 refine kO hT hC ?_
 refine Vc.nil (Xah (Xar ?_))
 obtain rfl := kj h
 exact Xbw (τ := ⟨[(4, .own 16), (5, .sv (.bool q4.2))], [(16, some (.ints .i64 q4.1))]⟩) (kW hC [(16, 416)]) rfl ⟨rfl, trivial⟩
 refine kf b3 (Xag (Xaf (Xap (Xab ?_))))
 iterate 2 refine kO hT hC ?_
 refine Vc.nil ?_
 refine kS h ?_ ?_ <;> intro b4 h
 refine kt b4 (Xab ?_)
 refine kO hT hC ?_
 refine kC hC [(16, 512)] Tryz.call240 h (fun _ => Yuv) fun q5 h => ?_
 refine kO hT hC ?_
 refine Vc.nil (Xap (Xab ?_))
 refine kO hT hC ?_
 refine Vc.nil ?_
 refine kL [3,6,7] [48,512] [_,_,_] [_,_] ?_
 refine kX h (fun v8 => ([(7, .sv (.int .i64 v8.1))], [(512, some (.ints .i64 v8.2))])) (fun v11 => ([(3, .any), (7, .any)], [(512, some (.ints .i64 v11)), (48, none)])) (kW hC []) (fun v8 s h => ?_) fun v11 h => ?_
 unfold Xb9 at h
 refine Xap (Xab ?_)
 iterate 2 refine kO hT hC ?_
 refine Vc.nil ?_
 refine kS h ?_ ?_ <;> intro b7 h
 refine kt b7 (Xag (Xaf (Xap (Xak ?_))))
 refine Xb3 hm ?_
 iterate 4 refine kO hT hC ?_
 iterate 2 refine kQ hT hC h fun h => ?_
 iterate 2 refine kO hT hC ?_
 refine kC hC [] Tryz.call241 h (fun _ => Ydf) fun q12 h => ?_
 iterate 2 refine kQ hT hC h fun h => ?_
 refine kD (Xam (Xaf (Xac ?_)))
 iterate 3 refine kO hT hC ?_
 exact Vc.nil kG
 exact kf b7 (Xan (Xat ku))
 refine Xaf (Xab ?_)
 refine kO hT hC ?_
 refine kC hC [(16, 768)] Tryz.call239 h (fun _ => Xq6) fun q14 h => ?_
 iterate 4 refine kO hT hC ?_
 refine Vc.nil (Xah (Xar ?_))
 obtain rfl := kj h
 exact Xbw (τ := ⟨[(4, .own 16), (5, .sv (.bool q14.2))], [(16, some (.ints .i64 q14.1))]⟩) (kW hC [(16, 768)]) rfl ⟨rfl, trivial⟩
 refine kf b4 (Xag (Xaf (Xab ?_)))
 iterate 2 refine kO hT hC ?_
 refine Vc.nil (Xap (Xab ?_))
 refine kO hT hC ?_
 refine Vc.nil ?_
 refine kL [0,3,8,9] [48,816] [_,_,_,_] [_,_] ?_
 refine kX h (fun v27 => ([(9, .sv (.int .i64 v27.1))], [(816, some (.ints .i64 v27.2))])) (fun v40 => ([(0, .any), (3, .any), (9, .any)], [(816, some (.ints .i64 v40)), (48, none)])) (kW hC []) (fun v27 s h => ?_) fun v40 h => ?_
 unfold Xdj at h
 refine Xap (Xab ?_)
 iterate 2 refine kO hT hC ?_
 refine Vc.nil ?_
 refine kS h ?_ ?_ <;> intro b16 h
 refine kt b16 (Xag (Xaf (Xap (Xak (Xab ?_)))))
 iterate 2 refine kO hT hC ?_
 refine kC hC [(16, 928)] Tryz.call243 h (fun _ => Yd2) fun q41 h => ?_
 refine kC hC [(16, 944)] Tryz.call242 h (fun _ => Yxk) fun q42 h => ?_
 refine kO hT hC ?_
 refine Vc.nil (Xap (Xab ?_))
 refine kO hT hC ?_
 refine Vc.nil ?_
 refine kL [0,3,8,9,10,11] [48,816,944] [_,_,_,_,_,_] [_,_,_] ?_
 refine kX h (fun v45 => ([(11, .sv (.int .i64 v45.1))], [(944, some (.ints .i64 v45.2))])) (fun v48 => ([(11, .any)], [(944, some (.ints .i64 v48))])) (kW hC []) (fun v45 s h => ?_) fun v48 h => ?_
 unfold Xbv at h
 refine Xap (Xab ?_)
 iterate 2 refine kO hT hC ?_
 refine Vc.nil ?_
 refine kS h ?_ ?_ <;> intro b19 h
 refine kt b19 (Xag (Xaf (Xap (Xak ?_))))
 refine Xb3 hm ?_
 iterate 4 refine kO hT hC ?_
 iterate 2 refine kQ hT hC h fun h => ?_
 iterate 3 refine kO hT hC ?_
 refine kC hC [] Tryz.call244 h (fun _ => Ydj) fun q49 h => ?_
 iterate 2 refine kQ hT hC h fun h => ?_
 refine kD (Xam (Xaf (Xac ?_)))
 iterate 3 refine kO hT hC ?_
 exact Vc.nil kG
 exact kf b19 (Xan (Xat ku))
 refine Xaf (Xab ?_)
 refine kO hT hC ?_
 refine kC hC [(16, 1232)] Tryz.call239 h (fun _ => Xq6) fun q51 h => ?_
 iterate 5 refine kO hT hC ?_
 refine Vc.nil (Xac ?_)
 iterate 2 refine kO hT hC ?_
 refine kT hT hC h fun h => ?_
 refine kO hT hC ?_
 refine Vc.nil (Xam (Xaf (Xac ?_)))
 iterate 3 refine kO hT hC ?_
 refine Vc.nil ?_
 obtain rfl := kj h
 exact Xx7 (kW hC [(816, 1312)])
 exact kf b16 (Xan (Xat ku))
 refine Xaf (Xab ?_)
 iterate 3 refine kO hT hC ?_
 refine Vc.nil (Xah ?_)
 obtain rfl := kj h
 exact Xbw (τ := ⟨[(4, .own 16), (5, .sv (.bool true))], [(16, some (.ints .i64 v40))]⟩) (kW hC [(16, 816)]) rfl ⟨rfl, trivial⟩
def Yd4 (r : Xau) : AV := .agg [.sv (.int .i64 r.Kind), .sv (.int .i64 r.Mode), .sv (.int .i64 r.Dx), .sv (.int .i64 r.Dy), .own 16]
def Yd3 (r : Xau) : Xa1 := [(16, .ints .i64 r.Levels)]
theorem Ygj {p0 p1 p2 p3 p4 p5 p6 r} (h : Xkt p0 p1 p2 p3 p4 p5 p6 = some r) : AC Tryz.prog 183 [.agg [.sv (.int .i64 p0.Wide), .sv (.int .i64 p0.High), .sv (.str p0.Dots)], .agg [.sv (.int .i64 p1.Wide), .sv (.int .i64 p1.High), .sv (.str p1.Dots)], .sv (.ints .i64 p2), .sv (.int .i64 p3), .sv (.int .i64 p4), .agg [.sv (.bool p5.Key), .sv (.int .i64 p5.Qp), .sv (.bool p5.Large), .sv (.bool p5.Exact)], .sv (.int .i64 p6)] [] (Yd4 r) (Yd3 r) := by
 refine Xae hT Tryz.func183 rfl fun C hC => ?_
 unfold Xkt at h
 refine Xab ?_
 iterate 4 refine kO hT hC ?_
 refine Vc.nil (Xap ?_)
 refine kL [2,3,4,6,7,8,12,14] [112,128,192,224] [_,_,_,_,_,_,_,_] [_,_,_,_] ?_
 refine kA h (fun v1 => ([(37, .sv (.bool v1))], [])) (fun v1 h => ?_) fun v1 h => ?_
 refine Xac ?_
 iterate 4 refine kO hT hC ?_
 refine kS h ?_ ?_ <;> intro b1 h
 iterate 7 refine kF hC (kn b1) ?_
 refine kP hC false (kn b1) ?_
 exact Vc.nil kM
 iterate 4 refine kI hT hC (kn b1) ?_
 refine kE hC (kn b1) [(16, 544)] Tryz.call149 h (fun _ => Xiu) fun q2 h => ?_
 refine kE hC (kn b1) [(16, 560)] Tryz.call211 h (fun _ => Xrg) fun q3 h => ?_
 refine kE hC (kn b1) [] Tryz.call210 h (fun _ => Xxf) fun q4 h => ?_
 refine kP hC true (kn b1) ?_
 exact Vc.nil kM
 refine kS h ?_ ?_ <;> intro b2 h
 refine kt b2 (Xab ?_)
 iterate 2 refine kO hT hC ?_
 refine Vc.nil (Xah (Xar ?_))
 obtain rfl := kj h
 refine Xbw (τ := ⟨[(14, .ptr 2000000 0)], [(16, some (.ints .i64 [])), (2000000, some (.box [.sv (.int .i64 0), .sv (.int .i64 0), .sv (.int .i64 0), .sv (.int .i64 0), .own 16]))]⟩) ?_ rfl ⟨rfl, trivial⟩
 refine Xma hC 224 4 1793 (.ints .i64 []) rfl rfl rfl rfl rfl trivial ?_
 apply Xdk hC [(16, 1793), (2000000, 224)]
 exact co
 rfl
 decide
 rfl
 refine kf b2 (Xag (Xaf (Xab ?_)))
 iterate 3 refine kO hT hC ?_
 refine kC hC [(16, 688), (17, 689)] Tryz.call212 h (fun _ => Xwl) fun q5 h => ?_
 iterate 6 refine kO hT hC ?_
 refine kN ?_
 iterate 2 refine kO hT hC ?_
 refine kC hC [] Tryz.call213 h (fun _ => Yfl) fun q6 h => ?_
 iterate 5 refine kO hT hC ?_
 refine Vc.nil ?_
 refine kL [2,3,4,6,8,12,14,15,17,18] [128,192,224,240,688,689] [_,_,_,_,_,_,_,_,_,_] [_,_,_,_,_,_] ?_
 refine Yy9 h (fun (v7 : Unit) => ([(3, .any), (4, .any), (6, .any), (8, .any), (18, .any)], [(128, none)])) (fun v7 h => ?_) (fun h => ?_)
 refine Xby hm ?_
 iterate 3 refine kO hT hC ?_
 refine kC hC [(16, 1632)] Tryz.call216 h (fun _ => Xq0) fun q14 h => ?_
 refine kC hC [(16, 1648)] Tryz.call211 h (fun _ => Xrg) fun q15 h => ?_
 refine kO hT hC ?_
 refine kC hC [(16, 1680)] Tryz.call215 h (fun _ => Xva) fun q16 h => ?_
 iterate 5 refine kO hT hC ?_
 refine kD (Xab ?_)
 iterate 4 refine kO hT hC ?_
 refine Vc.nil (Xah ?_)
 obtain rfl := kj h
 exact Xbw (τ := ⟨[(14, .ptr 2000000 0)], [(16, some (.ints .i64 q16.1)), (2000000, some (.box [.sv (.int .i64 2), .sv (.int .i64 q6.1), .sv (.int .i64 0), .sv (.int .i64 0), .own 16]))]⟩) (kW hC [(16, 1680), (2000000, 224)]) rfl ⟨rfl, trivial⟩
 refine Xab ?_
 iterate 3 refine kO hT hC ?_
 refine Vc.nil ?_
 refine kS h ?_ ?_ <;> intro b3 h
 refine kt b3 (Xab ?_)
 iterate 5 refine kO hT hC ?_
 refine kC hC [] Tryz.call214 h (fun _ => Yil) fun q8 h => ?_
 iterate 7 refine kO hT hC ?_
 refine kN ?_
 iterate 3 refine kO hT hC ?_
 refine Vc.nil ?_
 refine kS h ?_ ?_ <;> intro b4 h
 refine kt b4 ?_
 refine Xby hm ?_
 iterate 8 refine kO hT hC ?_
 refine kC hC [(16, 1232)] Tryz.call149 h (fun _ => Xiu) fun q9 h => ?_
 refine kC hC [(16, 1248)] Tryz.call211 h (fun _ => Xrg) fun q10 h => ?_
 refine kO hT hC ?_
 refine kC hC [(16, 1280)] Tryz.call215 h (fun _ => Xva) fun q11 h => ?_
 iterate 5 refine kO hT hC ?_
 refine kD (Xap ?_)
 refine kL [14,19,20,22] [224,1280] [_,_,_,_] [_,_] ?_
 refine kA h (fun v12 => ([(92, .sv (.bool v12))], [])) (fun v12 h => ?_) fun v12 h => ?_
 refine Xac ?_
 iterate 3 refine kO hT hC ?_
 refine kS h ?_ ?_ <;> intro b5 h
 iterate 2 refine kI hT hC b5 ?_
 refine kP hC true b5 ?_
 refine kO hT hC ?_
 refine kS h ?_ ?_ <;> intro b6 h
 refine kI hT hC b6 ?_
 refine kE hC b6 [] Tryz.call210 h (fun _ => Xxf) fun q13 h => ?_
 refine kP hC true b6 ?_
 exact Vc.nil kM
 iterate 2 refine kF hC b6 ?_
 refine kP hC false b6 ?_
 exact Vc.nil kM
 iterate 2 refine kF hC b5 ?_
 refine kP hC false b5 ?_
 refine kO hT hC ?_
 iterate 2 refine kF hC rfl ?_
 refine kO hT hC ?_
 exact Vc.nil kM
 refine kS h ?_ ?_ <;> intro b7 h
 refine kt b7 (Xab ?_)
 iterate 2 refine kO hT hC ?_
 refine Vc.nil (Xah (Xar (Zg0 ?_)))
 obtain rfl := kj h
 refine Xbw (τ := ⟨[(14, .ptr 2000000 0)], [(16, some (.ints .i64 [])), (2000000, some (.box [.sv (.int .i64 0), .sv (.int .i64 0), .sv (.int .i64 0), .sv (.int .i64 0), .own 16]))]⟩) ?_ rfl ⟨rfl, trivial⟩
 refine Xma hC 224 4 1794 (.ints .i64 []) rfl rfl rfl rfl rfl trivial ?_
 apply Xdk hC [(16, 1794), (2000000, 224)]
 exact co
 rfl
 decide
 rfl
 refine kf b7 (Xag (Xaf (Xab ?_)))
 iterate 5 refine kO hT hC ?_
 refine Vc.nil (Xah (Zg0 ?_))
 obtain rfl := kj h
 exact Xbw (τ := ⟨[(14, .ptr 2000000 0)], [(16, some (.ints .i64 q11.1)), (2000000, some (.box [.sv (.int .i64 1), .sv (.int .i64 0), .sv (.int .i64 q8.1), .sv (.int .i64 q8.2.1), .own 16]))]⟩) (kW hC [(16, 1280), (2000000, 224)]) rfl ⟨rfl, trivial⟩
 refine kf b4 (Xag ?_)
 exact Yzm () h (kW hC [])
 refine kf b3 (Xag ?_)
 exact Yzm () h (kW hC [])
def Yf6 (r : Bool) : AV := .sv (.bool r)
def Yf5 (r : Bool) : Xa1 := []
theorem Yi9 {p0 r} (h : Xm3 p0 = some r) : AC Tryz.prog 217 [.agg [.sv (.int .i64 p0.Kind), .sv (.int .i64 p0.Mode), .sv (.int .i64 p0.Dx), .sv (.int .i64 p0.Dy), .sv (.ints .i64 p0.Levels)]] [] (Yf6 r) (Yf5 r) := by
 refine Xae hT Tryz.func217 rfl fun C hC => ?_
 unfold Xm3 at h
 refine Xab ?_
 iterate 2 refine kO hT hC ?_
 refine Vc.nil (Xap (Xab ?_))
 iterate 2 refine kO hT hC ?_
 refine Vc.nil (Xak (Xab ?_))
 iterate 2 refine kO hT hC ?_
 refine Vc.nil ?_
 refine kS h ?_ ?_ <;> intro b1 h
 refine kt b1 ?_
 refine kL [1,2] [16] [_,_] [_] ?_
 refine kA h (fun v1 => ([(2, .sv (.bool v1)), (1, .any)], [(16, none)])) (fun v1 h => ?_) fun v1 h => ?_
 refine Xac ?_
 iterate 4 refine kO hT hC ?_
 refine kS h ?_ ?_ <;> intro b2 h
 iterate 3 refine kI hT hC b2 ?_
 refine kP hC true b2 ?_
 refine kO hT hC ?_
 refine kS h ?_ ?_ <;> intro b3 h
 iterate 3 refine kI hT hC b3 ?_
 refine kP hC true b3 ?_
 refine kO hT hC ?_
 refine kS h ?_ ?_ <;> intro b4 h
 iterate 4 refine kI hT hC b4 ?_
 refine kP hC true b4 ?_
 refine kO hT hC ?_
 exact Vc.nil kM
 iterate 4 refine kF hC b4 ?_
 refine kP hC false b4 ?_
 refine kO hT hC ?_
 exact Vc.nil kM
 iterate 3 refine kF hC b3 ?_
 refine kP hC false b3 ?_
 refine kO hT hC ?_
 iterate 4 refine kF hC rfl ?_
 iterate 2 refine kO hT hC ?_
 exact Vc.nil kM
 iterate 3 refine kF hC b2 ?_
 refine kP hC false b2 ?_
 refine kO hT hC ?_
 iterate 3 refine kF hC rfl ?_
 iterate 2 refine kO hT hC ?_
 iterate 4 refine kF hC rfl ?_
 iterate 2 refine kO hT hC ?_
 exact Vc.nil kM
 exact Xah (Xfa (Xar kR))
 refine kf b1 (Xab ?_)
 iterate 2 refine kO hT hC ?_
 refine Vc.nil ?_
 refine kS h ?_ ?_ <;> intro b5 h
 refine kt b5 ?_
 refine kL [1,2] [16] [_,_] [_] ?_
 refine kA h (fun v2 => ([(2, .sv (.bool v2)), (1, .any)], [(16, none)])) (fun v2 h => ?_) fun v2 h => ?_
 refine Xac ?_
 iterate 4 refine kO hT hC ?_
 refine kS h ?_ ?_ <;> intro b6 h
 iterate 2 refine kI hT hC b6 ?_
 refine kE hC b6 [] Tryz.call107 h (fun _ => Xal) fun q3 h => ?_
 refine kP hC true b6 ?_
 refine kO hT hC ?_
 refine kS h ?_ ?_ <;> intro b7 h
 iterate 2 refine kI hT hC b7 ?_
 refine kE hC b7 [] Tryz.call107 h (fun _ => Xal) fun q4 h => ?_
 refine kP hC true b7 ?_
 refine kO hT hC ?_
 refine kS h ?_ ?_ <;> intro b8 h
 iterate 2 refine kI hT hC b8 ?_
 refine kE hC b8 [] Tryz.call238 h (fun _ => Xcj) fun q5 h => ?_
 refine kP hC true b8 ?_
 refine kO hT hC ?_
 exact Vc.nil kM
 iterate 3 refine kF hC b8 ?_
 refine kP hC false b8 ?_
 refine kO hT hC ?_
 exact Vc.nil kM
 iterate 3 refine kF hC b7 ?_
 refine kP hC false b7 ?_
 refine kO hT hC ?_
 iterate 3 refine kF hC rfl ?_
 iterate 2 refine kO hT hC ?_
 exact Vc.nil kM
 iterate 3 refine kF hC b6 ?_
 refine kP hC false b6 ?_
 refine kO hT hC ?_
 iterate 3 refine kF hC rfl ?_
 iterate 2 refine kO hT hC ?_
 iterate 3 refine kF hC rfl ?_
 iterate 2 refine kO hT hC ?_
 exact Vc.nil kM
 exact Xah (Xfa (Xar kR))
 refine kf b5 (Xab ?_)
 iterate 2 refine kO hT hC ?_
 refine Vc.nil ?_
 refine kS h ?_ ?_ <;> intro b9 h
 refine kt b9 ?_
 refine kL [1,2] [16] [_,_] [_] ?_
 refine kA h (fun v6 => ([(2, .sv (.bool v6)), (1, .any)], [(16, none)])) (fun v6 h => ?_) fun v6 h => ?_
 refine Xac ?_
 iterate 2 refine kO hT hC ?_
 refine kC hC [] Tryz.call107 h (fun _ => Xal) fun q7 h => ?_
 refine kO hT hC ?_
 refine kS h ?_ ?_ <;> intro b10 h
 iterate 3 refine kI hT hC b10 ?_
 refine kP hC true b10 ?_
 refine kO hT hC ?_
 refine kS h ?_ ?_ <;> intro b11 h
 iterate 3 refine kI hT hC b11 ?_
 refine kP hC true b11 ?_
 refine kO hT hC ?_
 refine kS h ?_ ?_ <;> intro b12 h
 iterate 2 refine kI hT hC b12 ?_
 refine kE hC b12 [] Tryz.call238 h (fun _ => Xcj) fun q8 h => ?_
 refine kP hC true b12 ?_
 refine kO hT hC ?_
 exact Vc.nil kM
 iterate 3 refine kF hC b12 ?_
 refine kP hC false b12 ?_
 refine kO hT hC ?_
 exact Vc.nil kM
 iterate 3 refine kF hC b11 ?_
 refine kP hC false b11 ?_
 refine kO hT hC ?_
 iterate 3 refine kF hC rfl ?_
 iterate 2 refine kO hT hC ?_
 exact Vc.nil kM
 iterate 3 refine kF hC b10 ?_
 refine kP hC false b10 ?_
 refine kO hT hC ?_
 iterate 3 refine kF hC rfl ?_
 iterate 2 refine kO hT hC ?_
 iterate 3 refine kF hC rfl ?_
 iterate 2 refine kO hT hC ?_
 exact Vc.nil kM
 exact Xah (Xfa (Xar kR))
 refine kf b9 (Xag (Xam (Xaf (Xab ?_))))
 refine kO hT hC ?_
 exact Vc.nil (Xah kR)
def Ydv (r : ((List Int) × Bool)) : AV := .tup [.own 16, .sv (.bool r.2)]
def Ydu (r : ((List Int) × Bool)) : Xa1 := [(16, .ints .i64 r.1)]
theorem Xoi {p0 p1 r} (h : Xdn p0 p1 = some r) : AC Tryz.prog 247 [.sv (.int .i64 p0), .sv (.ints .i64 p1)] [] (Ydv r) (Ydu r) := by
 refine Xae hT Tryz.func247 rfl fun C hC => ?_
 unfold Xdn at h
 refine Xab ?_
 iterate 2 refine kO hT hC ?_
 refine Vc.nil (Xap ?_)
 refine kL [0,1] [] [_,_] [] ?_
 refine kA h (fun v1 => ([(21, .sv (.bool v1))], [])) (fun v1 h => ?_) fun v1 h => ?_
 refine Xac ?_
 iterate 3 refine kO hT hC ?_
 refine kS h ?_ ?_ <;> intro b1 h
 iterate 2 refine kI hT hC b1 ?_
 refine kP hC true b1 ?_
 refine kO hT hC ?_
 refine kS h ?_ ?_ <;> intro b2 h
 iterate 6 refine kF hC b2 ?_
 refine kP hC true b2 ?_
 exact Vc.nil kM
 iterate 6 refine kI hT hC b2 ?_
 refine kP hC false b2 ?_
 exact Vc.nil kM
 iterate 2 refine kF hC b1 ?_
 refine kP hC false b1 ?_
 refine kO hT hC ?_
 iterate 6 refine kI hT hC rfl ?_
 refine kO hT hC ?_
 exact Vc.nil kM
 refine kS h ?_ ?_ <;> intro b3 h
 refine kt b3 (Xab ?_)
 iterate 3 refine kO hT hC ?_
 refine Vc.nil (Xah (Xar ?_))
 obtain rfl := kj h
 exact Xbw (τ := ⟨[(4, .own 16), (5, .sv (.bool false))], [(16, some (.ints .i64 ([] : List Int)))]⟩) (kW hC [(16, 352)]) rfl ⟨rfl, trivial⟩
 refine kf b3 (Xag (Xaf (Xab ?_)))
 iterate 2 refine kO hT hC ?_
 obtain ⟨hq, h⟩ := Xa0 h
 refine Ypi hT hC rfl rfl rfl rfl ⟨hq.1, hq.2.1, hq.2.2, by decide⟩ ?_
 refine kO hT hC ?_
 refine Vc.nil (Xap (Xab ?_))
 refine kO hT hC ?_
 refine Vc.nil ?_
 refine kL [0,1,6,7] [400] [_,_,_,_] [_] ?_
 refine kX h (fun v4 => ([(7, .sv (.int .i64 v4.1))], [(400, some (.ints .i64 v4.2))])) (fun v7 => ([(0, .any), (1, .any), (7, .any)], [(400, some (.ints .i64 v7))])) (kW hC []) (fun v4 s h => ?_) fun v7 h => ?_
 unfold Xcn at h
 refine Xap (Xab ?_)
 iterate 5 refine kO hT hC ?_
 refine Vc.nil ?_
 refine kS h ?_ ?_ <;> intro b6 h
 refine kt b6 (Xag (Xaf (Xap (Xak ?_))))
 refine Xb3 hm ?_
 iterate 3 refine kO hT hC ?_
 refine kC hC [] Tryz.call258 h (fun _ => Xy8) fun q8 h => ?_
 iterate 2 refine kO hT hC ?_
 refine kQ hT hC h fun h => ?_
 refine kO hT hC ?_
 iterate 2 refine kQ hT hC h fun h => ?_
 refine kD (Xam (Xaf (Xac ?_)))
 iterate 3 refine kO hT hC ?_
 exact Vc.nil kG
 exact kf b6 (Xan (Xat ku))
 refine Xaf (Xab ?_)
 iterate 3 refine kO hT hC ?_
 refine Vc.nil (Xah ?_)
 obtain rfl := kj h
 exact Xbw (τ := ⟨[(4, .own 16), (5, .sv (.bool true))], [(16, some (.ints .i64 v7))]⟩) (kW hC [(16, 400)]) rfl ⟨rfl, trivial⟩
def Yde (r : Int) : AV := .sv (.int .i64 r)
def Ydd (r : Int) : Xa1 := []
theorem Yfu {p0 p1 r} (h : Xf3 p0 p1 = some r) : AC Tryz.prog 248 [.sv (.int .i64 p0), .sv (.int .i64 p1)] [] (Yde r) (Ydd r) := by
 refine Xae hT Tryz.func248 rfl fun C hC => ?_
 unfold Xf3 at h
 refine Xab ?_
 refine kO hT hC ?_
 refine Vc.nil (Xap (Xab ?_))
 refine kO hT hC ?_
 refine kC hC [] Tryz.call107 h (fun _ => Xal) fun q1 h => ?_
 refine kO hT hC ?_
 refine Vc.nil ?_
 refine kS h ?_ ?_ <;> intro b1 h
 refine kt b1 (Xab ?_)
 refine kO hT hC ?_
 exact Vc.nil (Xah (Xar kR))
 refine kf b1 (Xag (Xaf (Xab ?_)))
 iterate 2 refine kO hT hC ?_
 refine kC hC [] Tryz.call260 h (fun _ => Xze) fun q2 h => ?_
 iterate 2 refine kO hT hC ?_
 exact Vc.nil (Xah kR)
def Yjy (r : Int) : AV := .sv (.int .i64 r)
def Yjx (r : Int) : Xa1 := []
theorem Xna {p0 p1 r} (h : Xc3 p0 p1 = some r) : AC Tryz.prog 265 [.sv (.int .i64 p0), .sv (.int .i64 p1)] [] (Yjy r) (Yjx r) := by
 refine Xae hT Tryz.func265 rfl fun C hC => ?_
 unfold Xc3 at h
 refine Xab ?_
 refine kO hT hC ?_
 refine kN ?_
 iterate 2 refine kO hT hC ?_
 refine kQ hT hC h fun h => ?_
 refine kO hT hC ?_
 refine Vc.nil ?_
 refine kL [0,1,5] [] [_,_,_] [] ?_
 refine kA h (fun v1 => ([(5, .sv (.int .i64 v1)), (0, .any), (1, .any)], [])) (fun v1 h => ?_) fun v1 h => ?_
 refine Xab ?_
 iterate 2 refine kO hT hC ?_
 refine kQ hT hC h fun h => ?_
 refine kO hT hC ?_
 refine Vc.nil ?_
 refine kS h ?_ ?_ <;> intro b1 h
 refine kt b1 (Xac ?_)
 iterate 3 refine kO hT hC ?_
 exact Vc.nil kM
 exact kf b1 (Xag kM)
 refine Xab ?_
 iterate 2 refine kO hT hC ?_
 exact Vc.nil (Xah kR)
def Yda (r : (List Int)) : AV := .own 16
def Yc9 (r : (List Int)) : Xa1 := [(16, .ints .i64 r)]
theorem Yfq {p0 r} (h : Xf1 p0 = some r) : AC Tryz.prog 249 [.sv (.ints .i64 p0)] [] (Yda r) (Yc9 r) := by
 refine Xae hT Tryz.func249 rfl fun C hC => ?_
 unfold Xf1 at h
 refine Xab ?_
 refine kO hT hC ?_
 refine Vc.nil (Xap (Xab ?_))
 refine kO hT hC ?_
 refine kC hC [] Tryz.call238 h (fun _ => Xcj) fun q1 h => ?_
 refine kO hT hC ?_
 refine Vc.nil ?_
 refine kS h ?_ ?_ <;> intro b1 h
 refine kt b1 (Xab ?_)
 iterate 2 refine kO hT hC ?_
 refine Vc.nil (Xah (Xar ?_))
 obtain rfl := kj h
 exact Xbw (τ := ⟨[(2, .own 16)], [(16, some (.ints .i64 ([] : List Int)))]⟩) (kW hC [(16, 128)]) rfl ⟨rfl, trivial⟩
 refine kf b1 (Xag (Xaf (Xab ?_)))
 refine kO hT hC ?_
 refine kC hC [(16, 160)] Tryz.call259 h (fun _ => Xw7) fun q2 h => ?_
 refine kO hT hC ?_
 refine Vc.nil (Xap (Xab ?_))
 refine kO hT hC ?_
 refine Vc.nil ?_
 refine kL [3,4] [160] [_,_] [_] ?_
 refine kX h (fun v5 => ([(4, .sv (.int .i64 v5.1))], [(160, some (.ints .i64 v5.2))])) (fun v8 => ([(4, .any)], [(160, some (.ints .i64 v8))])) (kW hC []) (fun v5 s h => ?_) fun v8 h => ?_
 unfold Xgp at h
 refine Xap (Xab ?_)
 iterate 2 refine kO hT hC ?_
 refine Vc.nil ?_
 refine kS h ?_ ?_ <;> intro b4 h
 refine kt b4 (Xag (Xaf (Xap (Xak (Xac ?_)))))
 iterate 4 refine kO hT hC ?_
 iterate 2 refine kQ hT hC h fun h => ?_
 refine kO hT hC ?_
 refine kC hC [] Tryz.call265 h (fun _ => Xna) fun q9 h => ?_
 iterate 2 refine kQ hT hC h fun h => ?_
 refine Vc.nil (Xam (Xaf (Xac ?_)))
 iterate 3 refine kO hT hC ?_
 exact Vc.nil kG
 exact kf b4 (Xan (Xat ku))
 refine Xaf (Xab ?_)
 iterate 2 refine kO hT hC ?_
 refine Vc.nil (Xah ?_)
 obtain rfl := kj h
 exact Xbw (τ := ⟨[(2, .own 16)], [(16, some (.ints .i64 v8))]⟩) (kW hC [(16, 160)]) rfl ⟨rfl, trivial⟩
def Yi4 (r : Int) : AV := .sv (.int .i64 r)
def Yi3 (r : Int) : Xa1 := []
theorem Yn8 {p0 p1 r} (h : Xiy p0 p1 = some r) : AC Tryz.prog 266 [.sv (.int .i64 p0), .sv (.int .i64 p1)] [] (Yi4 r) (Yi3 r) := by
 refine Xae hT Tryz.func266 rfl fun C hC => ?_
 unfold Xiy at h
 refine Xab ?_
 refine kO hT hC ?_
 refine kN ?_
 refine kO hT hC ?_
 refine kC hC [] Tryz.call270 h (fun _ => Xy7) fun q1 h => ?_
 refine kO hT hC ?_
 refine Vc.nil (Xap ?_)
 refine kL [0,5] [] [_,_] [] ?_
 refine kA h (fun v2 => ([(16, .sv (.bool v2))], [])) (fun v2 h => ?_) fun v2 h => ?_
 refine Xac ?_
 refine kO hT hC ?_
 refine kC hC [] Tryz.call107 h (fun _ => Xal) fun q3 h => ?_
 iterate 2 refine kO hT hC ?_
 refine kS h ?_ ?_ <;> intro b1 h
 iterate 2 refine kI hT hC (kn b1) ?_
 refine kP hC false (kn b1) ?_
 exact Vc.nil kM
 iterate 2 refine kF hC (kn b1) ?_
 refine kP hC true (kn b1) ?_
 exact Vc.nil kM
 refine kS h ?_ ?_ <;> intro b2 h
 refine kt b2 (Xab ?_)
 refine kO hT hC ?_
 exact Vc.nil (Xah (Xar kR))
 refine kf b2 (Xag (Xaf (Xab ?_)))
 refine kO hT hC ?_
 refine Vc.nil ?_
 refine kL [0,5,6] [] [_,_,_] [] ?_
 refine kA h (fun v4 => ([(6, .sv (.int .i64 v4)), (5, .any)], [])) (fun v4 h => ?_) fun v4 h => ?_
 refine Xab ?_
 refine kO hT hC ?_
 refine kQ hT hC h fun h => ?_
 refine Vc.nil (Xak (Xab ?_))
 iterate 2 refine kO hT hC ?_
 refine Vc.nil ?_
 refine kS h ?_ ?_ <;> intro b3 h
 refine kt b3 (Xac ?_)
 refine kO hT hC ?_
 refine kC hC [] Tryz.call271 h (fun _ => Xbu) fun q5 h => ?_
 refine kO hT hC ?_
 exact Vc.nil (Xam kM)
 refine kf b3 (Xab ?_)
 iterate 2 refine kO hT hC ?_
 refine Vc.nil ?_
 refine kS h ?_ ?_ <;> intro b4 h
 refine kt b4 (Xac ?_)
 refine kO hT hC ?_
 refine kC hC [] Tryz.call271 h (fun _ => Xbu) fun q6 h => ?_
 refine kO hT hC ?_
 exact Vc.nil (Xam kM)
 refine kf b4 (Xab ?_)
 iterate 2 refine kO hT hC ?_
 refine Vc.nil ?_
 refine kS h ?_ ?_ <;> intro b5 h
 refine kt b5 (Xac ?_)
 refine kO hT hC ?_
 refine kC hC [] Tryz.call271 h (fun _ => Xbu) fun q7 h => ?_
 refine kO hT hC ?_
 exact Vc.nil (Xam kM)
 refine kf b5 (Xab ?_)
 iterate 2 refine kO hT hC ?_
 refine Vc.nil ?_
 refine kS h ?_ ?_ <;> intro b6 h
 refine kt b6 (Xac ?_)
 refine kO hT hC ?_
 refine kC hC [] Tryz.call271 h (fun _ => Xbu) fun q8 h => ?_
 refine kO hT hC ?_
 exact Vc.nil (Xam kM)
 refine kf b6 (Xab ?_)
 iterate 2 refine kO hT hC ?_
 refine Vc.nil ?_
 refine kS h ?_ ?_ <;> intro b7 h
 refine kt b7 (Xac ?_)
 refine kO hT hC ?_
 refine kC hC [] Tryz.call271 h (fun _ => Xbu) fun q9 h => ?_
 refine kO hT hC ?_
 exact Vc.nil (Xam kM)
 refine kf b7 (Xab ?_)
 iterate 2 refine kO hT hC ?_
 refine Vc.nil ?_
 refine kS h ?_ ?_ <;> intro b8 h
 refine kt b8 (Xac ?_)
 refine kO hT hC ?_
 refine kC hC [] Tryz.call271 h (fun _ => Xbu) fun q10 h => ?_
 refine kO hT hC ?_
 exact Vc.nil (Xam kM)
 exact kf b8 (Xag (Xam kM))
 refine Xap (Xab ?_)
 refine kO hT hC ?_
 refine Vc.nil ?_
 refine kL [0,6,7] [] [_,_,_] [] ?_
 refine kX h (fun v12 => ([(6, .sv (.int .i64 v12.1)), (7, .sv (.int .i64 v12.2))], [])) (fun v14 => ([(6, .sv (.int .i64 v14)), (0, .any), (7, .any)], [])) (kW hC []) (fun v12 s h => ?_) fun v14 h => ?_
 unfold Xe4 at h
 refine Xap (Xab ?_)
 iterate 2 refine kO hT hC ?_
 refine kQ hT hC h fun h => ?_
 refine kO hT hC ?_
 refine Vc.nil ?_
 refine kS h ?_ ?_ <;> intro b11 h
 refine kt b11 (Xag (Xaf (Xap (Xak (Xac ?_)))))
 iterate 3 refine kO hT hC ?_
 refine Vc.nil (Xam (Xaf (Xac ?_)))
 iterate 3 refine kO hT hC ?_
 exact Vc.nil kG
 exact kf b11 (Xan (Xat ku))
 refine Xaf (Xab ?_)
 iterate 2 refine kO hT hC ?_
 exact Vc.nil (Xah kR)
def Ydi (r : Int) : AV := .sv (.int .i64 r)
def Ydh (r : Int) : Xa1 := []
theorem Yfz {p0 p1 p2 r} (h : Xf4 p0 p1 p2 = some r) : AC Tryz.prog 250 [.sv (.int .i64 p0), .sv (.int .i64 p1), .sv (.int .i64 p2)] [] (Ydi r) (Ydh r) := by
 refine Xae hT Tryz.func250 rfl fun C hC => ?_
 unfold Xf4 at h
 refine Xab ?_
 refine kO hT hC ?_
 refine Vc.nil (Xap (Xab ?_))
 refine kO hT hC ?_
 refine kC hC [] Tryz.call107 h (fun _ => Xal) fun q1 h => ?_
 refine kO hT hC ?_
 refine Vc.nil ?_
 refine kS h ?_ ?_ <;> intro b1 h
 refine kt b1 (Xab ?_)
 refine kO hT hC ?_
 exact Vc.nil (Xah (Xar kR))
 refine kf b1 (Xag (Xaf (Xab ?_)))
 iterate 3 refine kO hT hC ?_
 refine kC hC [] Tryz.call266 h (fun _ => Yn8) fun q2 h => ?_
 iterate 2 refine kO hT hC ?_
 exact Vc.nil (Xah kR)
def Ygg (r : (List Int)) : AV := .own 16
def Ygf (r : (List Int)) : Xa1 := [(16, .ints .i64 r)]
theorem Xvc {p0 r} (h : Xfr p0 = some r) : AC Tryz.prog 267 [.sv (.ints .i64 p0)] [] (Ygg r) (Ygf r) := by
 refine Xae hT Tryz.func267 rfl fun C hC => ?_
 unfold Xfr at h
 refine Xab ?_
 refine kO hT hC ?_
 refine kN ?_
 iterate 2 refine kO hT hC ?_
 refine Vc.nil (Xap (Xab ?_))
 refine kO hT hC ?_
 refine Vc.nil ?_
 refine kL [0,3,4] [208] [_,_,_] [_] ?_
 refine kX h (fun v4 => ([(4, .sv (.int .i64 v4.1))], [(208, some (.ints .i64 v4.2))])) (fun v8 => ([(0, .any), (4, .any)], [(208, some (.ints .i64 v8))])) (kW hC []) (fun v4 s h => ?_) fun v8 h => ?_
 unfold Xc2 at h
 refine Xap (Xab ?_)
 iterate 2 refine kO hT hC ?_
 refine Vc.nil ?_
 refine kS h ?_ ?_ <;> intro b3 h
 refine kt b3 (Xag (Xaf (Xap (Xak (Xab ?_)))))
 iterate 3 refine kO hT hC ?_
 refine kQ hT hC h fun h => ?_
 iterate 2 refine kO hT hC ?_
 refine kN ?_
 iterate 4 refine kO hT hC ?_
 refine kQ hT hC h fun h => ?_
 iterate 2 refine kO hT hC ?_
 refine kN ?_
 iterate 4 refine kO hT hC ?_
 refine kQ hT hC h fun h => ?_
 iterate 2 refine kO hT hC ?_
 refine kN ?_
 iterate 4 refine kO hT hC ?_
 refine kQ hT hC h fun h => ?_
 iterate 2 refine kO hT hC ?_
 refine kN ?_
 iterate 4 refine kO hT hC ?_
 refine kN ?_
 iterate 4 refine kO hT hC ?_
 refine kN ?_
 refine kO hT hC ?_
 refine kC hC [] Tryz.call265 h (fun _ => Xna) fun q9 h => ?_
 iterate 3 refine kO hT hC ?_
 refine kN ?_
 iterate 2 refine kO hT hC ?_
 refine kC hC [] Tryz.call265 h (fun _ => Xna) fun q10 h => ?_
 iterate 2 refine kO hT hC ?_
 refine Vc.nil (Xac ?_)
 iterate 14 refine kO hT hC ?_
 refine kT hT hC h fun h => ?_
 refine kO hT hC ?_
 refine Vc.nil (Xam (Xaf (Xac ?_)))
 iterate 3 refine kO hT hC ?_
 refine Vc.nil ?_
 obtain rfl := kj h
 exact Xx7 (kW hC [(208, 1104)])
 exact kf b3 (Xan (Xat ku))
 refine Xaf (Xab ?_)
 iterate 2 refine kO hT hC ?_
 refine Vc.nil (Xah ?_)
 obtain rfl := kj h
 exact Xbw (τ := ⟨[(2, .own 16)], [(16, some (.ints .i64 v8))]⟩) (kW hC [(16, 208)]) rfl ⟨rfl, trivial⟩
def Yft (r : (List Int)) : AV := .own 16
def Yfs (r : (List Int)) : Xa1 := [(16, .ints .i64 r)]
theorem Yiu {p0 r} (h : Xhb p0 = some r) : AC Tryz.prog 251 [.sv (.ints .i64 p0)] [] (Yft r) (Yfs r) := by
 refine Xae hT Tryz.func251 rfl fun C hC => ?_
 unfold Xhb at h
 refine Xab ?_
 refine kO hT hC ?_
 refine Vc.nil (Xap (Xab ?_))
 refine kO hT hC ?_
 refine kC hC [] Tryz.call238 h (fun _ => Xcj) fun q1 h => ?_
 refine kO hT hC ?_
 refine Vc.nil ?_
 refine kS h ?_ ?_ <;> intro b1 h
 refine kt b1 (Xab ?_)
 iterate 2 refine kO hT hC ?_
 refine Vc.nil (Xah (Xar ?_))
 obtain rfl := kj h
 exact Xbw (τ := ⟨[(2, .own 16)], [(16, some (.ints .i64 ([] : List Int)))]⟩) (kW hC [(16, 128)]) rfl ⟨rfl, trivial⟩
 refine kf b1 (Xag (Xaf (Xab ?_)))
 refine kO hT hC ?_
 refine kC hC [(16, 160)] Tryz.call267 h (fun _ => Xvc) fun q2 h => ?_
 refine kC hC [(16, 176)] Tryz.call262 h (fun _ => Xnc) fun q3 h => ?_
 refine kC hC [(16, 192)] Tryz.call267 h (fun _ => Xvc) fun q4 h => ?_
 refine kC hC [(16, 208)] Tryz.call262 h (fun _ => Xnc) fun q5 h => ?_
 refine kO hT hC ?_
 refine Vc.nil (Xap (Xab ?_))
 refine kO hT hC ?_
 refine Vc.nil ?_
 refine kL [3,4] [208] [_,_] [_] ?_
 refine kX h (fun v8 => ([(4, .sv (.int .i64 v8.1))], [(208, some (.ints .i64 v8.2))])) (fun v11 => ([(4, .any)], [(208, some (.ints .i64 v11))])) (kW hC []) (fun v8 s h => ?_) fun v11 h => ?_
 unfold Xho at h
 refine Xap (Xab ?_)
 iterate 2 refine kO hT hC ?_
 refine Vc.nil ?_
 refine kS h ?_ ?_ <;> intro b4 h
 refine kt b4 (Xag (Xaf (Xap (Xak (Xac ?_)))))
 iterate 4 refine kO hT hC ?_
 iterate 2 refine kQ hT hC h fun h => ?_
 refine kO hT hC ?_
 refine kC hC [] Tryz.call265 h (fun _ => Xna) fun q12 h => ?_
 iterate 2 refine kQ hT hC h fun h => ?_
 refine Vc.nil (Xam (Xaf (Xac ?_)))
 iterate 3 refine kO hT hC ?_
 exact Vc.nil kG
 exact kf b4 (Xan (Xat ku))
 refine Xaf (Xab ?_)
 iterate 2 refine kO hT hC ?_
 refine Vc.nil (Xah ?_)
 obtain rfl := kj h
 exact Xbw (τ := ⟨[(2, .own 16)], [(16, some (.ints .i64 v11))]⟩) (kW hC [(16, 208)]) rfl ⟨rfl, trivial⟩
def Yao (r : ((List Int) × Bool)) : AV := .tup [.own 16, .sv (.bool r.2)]
def Yan (r : ((List Int) × Bool)) : Xa1 := [(16, .ints .i64 r.1)]
theorem Xr3 {p0 p1 r} (h : Xdy p0 p1 = some r) : AC Tryz.prog 218 [.sv (.ints .i64 p0), .agg [.sv (.bool p1.Key), .sv (.int .i64 p1.Qp), .sv (.bool p1.Large), .sv (.bool p1.Exact)]] [] (Yao r) (Yan r) := by
 refine Xae hT Tryz.func218 rfl fun C hC => ?_
 unfold Xdy at h
 refine Xab ?_
 iterate 3 refine kO hT hC ?_
 refine Vc.nil (Xap ?_)
 refine kL [0,3] [48] [_,_] [_] ?_
 refine kA h (fun v1 => ([(23, .sv (.bool v1))], [])) (fun v1 h => ?_) fun v1 h => ?_
 refine Xac ?_
 refine kO hT hC ?_
 refine kC hC [] Tryz.call145 h (fun _ => Xkl) fun q2 h => ?_
 iterate 2 refine kO hT hC ?_
 refine kS h ?_ ?_ <;> intro b1 h
 refine kI hT hC (kn b1) ?_
 refine kE hC (kn b1) [] Tryz.call238 h (fun _ => Xcj) fun q3 h => ?_
 refine kI hT hC (kn b1) ?_
 refine kP hC false (kn b1) ?_
 exact Vc.nil kM
 iterate 3 refine kF hC (kn b1) ?_
 refine kP hC true (kn b1) ?_
 exact Vc.nil kM
 refine kS h ?_ ?_ <;> intro b2 h
 refine kt b2 (Xab ?_)
 iterate 3 refine kO hT hC ?_
 refine Vc.nil (Xah (Xar ?_))
 obtain rfl := kj h
 exact Xbw (τ := ⟨[(4, .own 16), (5, .sv (.bool false))], [(16, some (.ints .i64 ([] : List Int)))]⟩) (kW hC [(16, 384)]) rfl ⟨rfl, trivial⟩
 refine kf b2 (Xag (Xaf (Xap (Xab ?_))))
 iterate 2 refine kO hT hC ?_
 refine Vc.nil ?_
 refine kS h ?_ ?_ <;> intro b3 h
 refine kt b3 (Xab ?_)
 refine kO hT hC ?_
 refine kC hC [(16, 448)] Tryz.call247 h (fun _ => Xoi) fun q4 h => ?_
 iterate 4 refine kO hT hC ?_
 refine Vc.nil (Xah (Xar ?_))
 obtain rfl := kj h
 exact Xbw (τ := ⟨[(4, .own 16), (5, .sv (.bool q4.2))], [(16, some (.ints .i64 q4.1))]⟩) (kW hC [(16, 448)]) rfl ⟨rfl, trivial⟩
 refine kf b3 (Xag (Xaf (Xap (Xab ?_))))
 iterate 2 refine kO hT hC ?_
 refine Vc.nil ?_
 refine kS h ?_ ?_ <;> intro b4 h
 refine kt b4 (Xab ?_)
 refine kO hT hC ?_
 refine kC hC [(16, 560)] Tryz.call247 h (fun _ => Xoi) fun q5 h => ?_
 iterate 5 refine kO hT hC ?_
 refine Vc.nil (Xap (Xab ?_))
 refine kO hT hC ?_
 refine Vc.nil ?_
 refine kL [3,6,8] [48,560] [_,_,_] [_,_] ?_
 refine kX h (fun v8 => ([(8, .sv (.int .i64 v8.1))], [(560, some (.ints .i64 v8.2))])) (fun v11 => ([(3, .any), (8, .any)], [(560, some (.ints .i64 v11)), (48, none)])) (kW hC []) (fun v8 s h => ?_) fun v11 h => ?_
 unfold Xbk at h
 refine Xap (Xab ?_)
 iterate 2 refine kO hT hC ?_
 refine Vc.nil ?_
 refine kS h ?_ ?_ <;> intro b7 h
 refine kt b7 (Xag (Xaf (Xap (Xak ?_))))
 refine Xb3 hm ?_
 iterate 4 refine kO hT hC ?_
 iterate 2 refine kQ hT hC h fun h => ?_
 iterate 2 refine kO hT hC ?_
 refine kC hC [] Tryz.call248 h (fun _ => Yfu) fun q12 h => ?_
 iterate 2 refine kQ hT hC h fun h => ?_
 refine kD (Xam (Xaf (Xac ?_)))
 iterate 3 refine kO hT hC ?_
 exact Vc.nil kG
 exact kf b7 (Xan (Xat ku))
 refine Xaf (Xab ?_)
 refine kO hT hC ?_
 refine kC hC [(16, 848)] Tryz.call249 h (fun _ => Yfq) fun q14 h => ?_
 iterate 2 refine kO hT hC ?_
 refine Vc.nil (Xah (Xar ?_))
 obtain rfl := kj h
 exact Xbw (τ := ⟨[(4, .own 16), (5, .sv (.bool true))], [(16, some (.ints .i64 q14))]⟩) (kW hC [(16, 848)]) rfl ⟨rfl, trivial⟩
 refine kf b4 (Xag (Xaf (Xab ?_)))
 obtain ⟨hq, h⟩ := Xa0 h
 refine Ypi hT hC rfl rfl rfl rfl ⟨hq.1, hq.2.1, hq.2.2, by decide⟩ ?_
 refine kO hT hC ?_
 refine Vc.nil (Xap (Xab ?_))
 refine kO hT hC ?_
 refine Vc.nil ?_
 refine kL [0,3,9,10] [48,864] [_,_,_,_] [_,_] ?_
 refine kX h (fun v31 => ([(10, .sv (.int .i64 v31.1))], [(864, some (.ints .i64 v31.2))])) (fun v48 => ([(0, .any), (3, .any), (10, .any)], [(864, some (.ints .i64 v48)), (48, none)])) (kW hC []) (fun v31 s h => ?_) fun v48 h => ?_
 unfold Xck at h
 refine Xap (Xab ?_)
 iterate 2 refine kO hT hC ?_
 refine Vc.nil ?_
 refine kS h ?_ ?_ <;> intro b22 h
 refine kt b22 (Xag (Xaf (Xap (Xak (Xab ?_)))))
 iterate 6 refine kO hT hC ?_
 refine kQ hT hC h fun h => ?_
 refine kC hC [(16, 1072)] Tryz.call247 h (fun _ => Xoi) fun q49 h => ?_
 iterate 5 refine kO hT hC ?_
 refine Vc.nil (Xap (Xab ?_))
 refine kO hT hC ?_
 refine Vc.nil ?_
 refine kL [0,3,9,10,11,13] [48,864,1072] [_,_,_,_,_,_] [_,_,_] ?_
 refine kX h (fun v52 => ([(13, .sv (.int .i64 v52.1))], [(1072, some (.ints .i64 v52.2))])) (fun v55 => ([(13, .any)], [(1072, some (.ints .i64 v55))])) (kW hC []) (fun v52 s h => ?_) fun v55 h => ?_
 unfold Xbg at h
 refine Xap (Xab ?_)
 iterate 2 refine kO hT hC ?_
 refine Vc.nil ?_
 refine kS h ?_ ?_ <;> intro b25 h
 refine kt b25 (Xag (Xaf (Xap (Xak ?_))))
 refine Xb3 hm ?_
 iterate 4 refine kO hT hC ?_
 iterate 2 refine kQ hT hC h fun h => ?_
 iterate 3 refine kO hT hC ?_
 refine kC hC [] Tryz.call250 h (fun _ => Yfz) fun q56 h => ?_
 iterate 2 refine kQ hT hC h fun h => ?_
 refine kD (Xam (Xaf (Xac ?_)))
 iterate 3 refine kO hT hC ?_
 exact Vc.nil kG
 exact kf b25 (Xan (Xat ku))
 refine Xaf (Xab ?_)
 refine kO hT hC ?_
 refine kC hC [(16, 1376)] Tryz.call251 h (fun _ => Yiu) fun q58 h => ?_
 refine kO hT hC ?_
 refine kN ?_
 refine kO hT hC ?_
 refine Vc.nil ?_
 refine kL [0,3,9,10,14,15] [48,864,1376] [_,_,_,_,_,_] [_,_,_] ?_
 refine kX h (fun v60 => ([(15, .sv (.int .i64 v60.1))], [(864, some (.ints .i64 v60.2))])) (fun v62 => ([(14, .any), (15, .any)], [(864, some (.ints .i64 v62)), (1376, none)])) (kW hC []) (fun v60 s h => ?_) fun v62 h => ?_
 unfold Xbm at h
 refine Xap (Xab ?_)
 iterate 2 refine kO hT hC ?_
 refine Vc.nil ?_
 refine kS h ?_ ?_ <;> intro b28 h
 refine kt b28 (Xag (Xaf (Xap (Xak (Xac ?_)))))
 iterate 2 refine kO hT hC ?_
 refine kQ hT hC h fun h => ?_
 iterate 2 refine kO hT hC ?_
 refine kQ hT hC h fun h => ?_
 iterate 3 refine kO hT hC ?_
 refine kQ hT hC h fun h => ?_
 iterate 3 refine kO hT hC ?_
 refine kQ hT hC h fun h => ?_
 iterate 3 refine kO hT hC ?_
 iterate 4 refine kQ hT hC h fun h => ?_
 refine Vc.nil (Xam (Xaf (Xac ?_)))
 iterate 3 refine kO hT hC ?_
 exact Vc.nil kG
 exact kf b28 (Xan (Xat ku))
 refine Xam (Xaf (Xac ?_))
 iterate 3 refine kO hT hC ?_
 exact Vc.nil kG
 exact kf b22 (Xan (Xat ku))
 refine Xaf (Xab ?_)
 iterate 3 refine kO hT hC ?_
 refine Vc.nil (Xah ?_)
 obtain rfl := kj h
 exact Xbw (τ := ⟨[(4, .own 16), (5, .sv (.bool true))], [(16, some (.ints .i64 v48))]⟩) (kW hC [(16, 864)]) rfl ⟨rfl, trivial⟩
def Yn1 (r : (List Int)) : AV := .own 16
def Yn0 (r : (List Int)) : Xa1 := [(16, .ints .i64 r)]
theorem Xy5 {p0 p1 r} (h : Xix p0 p1 = some r) : AC Tryz.prog 219 [.sv (.ints .i64 p0), .sv (.ints .i64 p1)] [] (Yn1 r) (Yn0 r) := by
 refine Xae hT Tryz.func219 rfl fun C hC => ?_
 unfold Xix at h
 refine Xab ?_
 refine kO hT hC ?_
 refine kN ?_
 iterate 2 refine kO hT hC ?_
 refine Vc.nil (Xap ?_)
 refine kL [0,1,5] [112] [_,_,_] [_] ?_
 refine kA h (fun v1 => ([(15, .sv (.bool v1))], [])) (fun v1 h => ?_) fun v1 h => ?_
 refine Xac ?_
 refine kO hT hC ?_
 refine kC hC [] Tryz.call182 h (fun _ => Xng) fun q2 h => ?_
 iterate 2 refine kO hT hC ?_
 refine kS h ?_ ?_ <;> intro b1 h
 refine kI hT hC (kn b1) ?_
 refine kE hC (kn b1) [] Tryz.call238 h (fun _ => Xcj) fun q3 h => ?_
 refine kI hT hC (kn b1) ?_
 refine kP hC false (kn b1) ?_
 exact Vc.nil kM
 iterate 3 refine kF hC (kn b1) ?_
 refine kP hC true (kn b1) ?_
 exact Vc.nil kM
 refine kS h ?_ ?_ <;> intro b2 h
 refine kt b2 (Xab ?_)
 iterate 2 refine kO hT hC ?_
 refine Vc.nil (Xah (Xar ?_))
 obtain rfl := kj h
 exact Xbw (τ := ⟨[(4, .own 16)], [(16, some (.ints .i64 ([] : List Int)))]⟩) (kW hC [(16, 112)]) rfl ⟨rfl, trivial⟩
 refine kf b2 (Xag (Xaf (Xap (Xab ?_))))
 refine kO hT hC ?_
 refine Vc.nil ?_
 refine kL [0,1,5,6] [112] [_,_,_,_] [_] ?_
 refine kX h (fun v6 => ([(6, .sv (.int .i64 v6.1))], [(112, some (.ints .i64 v6.2))])) (fun v9 => ([(0, .any), (1, .any), (6, .any)], [(112, some (.ints .i64 v9))])) (kW hC []) (fun v6 s h => ?_) fun v9 h => ?_
 unfold Xf2 at h
 refine Xap (Xab ?_)
 iterate 2 refine kO hT hC ?_
 refine Vc.nil ?_
 refine kS h ?_ ?_ <;> intro b5 h
 refine kt b5 (Xag (Xaf (Xap (Xak ?_))))
 refine Xb3 hm ?_
 iterate 3 refine kO hT hC ?_
 refine kQ hT hC h fun h => ?_
 iterate 3 refine kO hT hC ?_
 refine kQ hT hC h fun h => ?_
 iterate 2 refine kO hT hC ?_
 refine kC hC [] Tryz.call143 h (fun _ => Xdu) fun q10 h => ?_
 refine kO hT hC ?_
 refine kT hT hC h fun h => ?_
 refine kO hT hC ?_
 refine kD (Xam (Xaf (Xac ?_)))
 iterate 3 refine kO hT hC ?_
 refine Vc.nil ?_
 obtain rfl := kj h
 exact Xx7 (kW hC [(112, 528)])
 exact kf b5 (Xan (Xat ku))
 refine Xaf (Xab ?_)
 iterate 2 refine kO hT hC ?_
 refine Vc.nil (Xah ?_)
 obtain rfl := kj h
 exact Xbw (τ := ⟨[(4, .own 16)], [(16, some (.ints .i64 v9))]⟩) (kW hC [(16, 112)]) rfl ⟨rfl, trivial⟩
def Yaw (r : ((List Int) × Bool)) : AV := .tup [.own 16, .sv (.bool r.2)]
def Yav (r : ((List Int) × Bool)) : Xa1 := [(16, .ints .i64 r.1)]
theorem Ydp {p0 p1 p2 p3 p4 p5 p6 p7 r} (h : Xd0 p0 p1 p2 p3 p4 p5 p6 p7 = some r) : AC Tryz.prog 184 [.agg [.sv (.int .i64 p0.Wide), .sv (.int .i64 p0.High), .sv (.str p0.Dots)], .agg [.sv (.int .i64 p1.Wide), .sv (.int .i64 p1.High), .sv (.str p1.Dots)], .sv (.int .i64 p2), .sv (.int .i64 p3), .agg [.sv (.bool p4.Key), .sv (.int .i64 p4.Qp), .sv (.bool p4.Large), .sv (.bool p4.Exact)], .sv (.int .i64 p5), .sv (.int .i64 p6), .agg [.sv (.int .i64 p7.Kind), .sv (.int .i64 p7.Mode), .sv (.int .i64 p7.Dx), .sv (.int .i64 p7.Dy), .sv (.ints .i64 p7.Levels)]] [] (Yaw r) (Yav r) := by
 refine Xae hT Tryz.func184 rfl fun C hC => ?_
 unfold Xd0 at h
 refine Xab ?_
 iterate 6 refine kO hT hC ?_
 refine Vc.nil (Xap ?_)
 refine kL [2,3,5,6,8,9,12,15] [128,144,192,240] [_,_,_,_,_,_,_,_] [_,_,_,_] ?_
 refine kA h (fun v1 => ([(49, .sv (.bool v1))], [])) (fun v1 h => ?_) fun v1 h => ?_
 refine Xac ?_
 iterate 3 refine kO hT hC ?_
 refine kC hC [] Tryz.call181 h (fun _ => Xnh) fun q2 h => ?_
 iterate 2 refine kO hT hC ?_
 refine kS h ?_ ?_ <;> intro b1 h
 refine kI hT hC (kn b1) ?_
 refine kE hC (kn b1) [] Tryz.call107 h (fun _ => Xal) fun q3 h => ?_
 refine kI hT hC (kn b1) ?_
 refine kP hC false (kn b1) ?_
 refine kO hT hC ?_
 refine kS h ?_ ?_ <;> intro b2 h
 refine kI hT hC (kn b2) ?_
 refine kE hC (kn b2) [] Tryz.call107 h (fun _ => Xal) fun q4 h => ?_
 refine kI hT hC (kn b2) ?_
 refine kP hC false (kn b2) ?_
 refine kO hT hC ?_
 refine kS h ?_ ?_ <;> intro b3 h
 refine kI hT hC (kn b3) ?_
 refine kE hC (kn b3) [] Tryz.call217 h (fun _ => Yi9) fun q5 h => ?_
 refine kI hT hC (kn b3) ?_
 refine kP hC false (kn b3) ?_
 refine kO hT hC ?_
 refine kS h ?_ ?_ <;> intro b4 h
 refine kI hT hC (kn b4) ?_
 refine kE hC (kn b4) [] Tryz.call145 h (fun _ => Xkl) fun q6 h => ?_
 refine kI hT hC (kn b4) ?_
 refine kP hC false (kn b4) ?_
 exact Vc.nil kM
 iterate 3 refine kF hC (kn b4) ?_
 refine kP hC true (kn b4) ?_
 exact Vc.nil kM
 iterate 3 refine kF hC (kn b3) ?_
 refine kP hC true (kn b3) ?_
 refine kO hT hC ?_
 iterate 3 refine kF hC rfl ?_
 refine kO hT hC ?_
 exact Vc.nil kM
 iterate 3 refine kF hC (kn b2) ?_
 refine kP hC true (kn b2) ?_
 refine kO hT hC ?_
 iterate 3 refine kF hC rfl ?_
 iterate 2 refine kO hT hC ?_
 iterate 3 refine kF hC rfl ?_
 refine kO hT hC ?_
 exact Vc.nil kM
 iterate 3 refine kF hC (kn b1) ?_
 refine kP hC true (kn b1) ?_
 refine kO hT hC ?_
 iterate 3 refine kF hC rfl ?_
 iterate 2 refine kO hT hC ?_
 iterate 3 refine kF hC rfl ?_
 iterate 2 refine kO hT hC ?_
 iterate 3 refine kF hC rfl ?_
 refine kO hT hC ?_
 exact Vc.nil kM
 refine kS h ?_ ?_ <;> intro b5 h
 refine kt b5 (Xab ?_)
 iterate 3 refine kO hT hC ?_
 refine Vc.nil (Xah (Xar ?_))
 obtain rfl := kj h
 exact Xbw (τ := ⟨[(16, .own 16), (17, .sv (.bool false))], [(16, some (.ints .i64 ([] : List Int)))]⟩) (kW hC [(16, 800)]) rfl ⟨rfl, trivial⟩
 refine kf b5 (Xag (Xaf (Xap (Xab ?_))))
 iterate 3 refine kO hT hC ?_
 refine Vc.nil ?_
 refine kS h ?_ ?_ <;> intro b6 h
 refine kt b6 (Xab ?_)
 iterate 3 refine kO hT hC ?_
 refine kC hC [(16, 928), (17, 929)] Tryz.call212 h (fun _ => Xwl) fun q7 h => ?_
 iterate 6 refine kO hT hC ?_
 refine kN ?_
 iterate 3 refine kO hT hC ?_
 refine kC hC [(16, 1040)] Tryz.call218 h (fun _ => Xr3) fun q8 h => ?_
 iterate 5 refine kO hT hC ?_
 refine kN ?_
 iterate 3 refine kO hT hC ?_
 refine kC hC [(16, 1136)] Tryz.call216 h (fun _ => Xq0) fun q9 h => ?_
 refine kO hT hC ?_
 refine kC hC [(16, 1168)] Tryz.call219 h (fun _ => Xy5) fun q10 h => ?_
 iterate 2 refine kO hT hC ?_
 refine Vc.nil (Xah (Xar ?_))
 obtain rfl := kj h
 exact Xbw (τ := ⟨[(16, .own 16), (17, .sv (.bool true))], [(16, some (.ints .i64 q10))]⟩) (kW hC [(16, 1168)]) rfl ⟨rfl, trivial⟩
 refine kf b6 (Xag (Xaf (Xap ?_)))
 refine kL [2,3,5,6,9,12,15] [144,192,240] [_,_,_,_,_,_,_] [_,_,_] ?_
 refine kA h (fun v11 => ([(80, .sv (.bool v11))], [])) (fun v11 h => ?_) fun v11 h => ?_
 refine Xac ?_
 iterate 3 refine kO hT hC ?_
 refine kS h ?_ ?_ <;> intro b7 h
 iterate 3 refine kF hC b7 ?_
 refine kP hC true b7 ?_
 exact Vc.nil kM
 refine kI hT hC b7 ?_
 refine kE hC b7 [] Tryz.call86 h (fun _ => Xeh) fun q12 h => ?_
 refine kI hT hC b7 ?_
 refine kP hC false b7 ?_
 exact Vc.nil kM
 refine kS h ?_ ?_ <;> intro b8 h
 refine kt b8 (Xab ?_)
 iterate 3 refine kO hT hC ?_
 refine Vc.nil (Xah (Xar ?_))
 obtain rfl := kj h
 exact Xbw (τ := ⟨[(16, .own 16), (17, .sv (.bool false))], [(16, some (.ints .i64 ([] : List Int)))]⟩) (kW hC [(16, 1296)]) rfl ⟨rfl, trivial⟩
 refine kf b8 (Xag (Xaf (Xab ?_)))
 iterate 13 refine kO hT hC ?_
 refine kC hC [(16, 1520)] Tryz.call149 h (fun _ => Xiu) fun q13 h => ?_
 refine kO hT hC ?_
 refine Vc.nil (Xap (Xab ?_))
 iterate 3 refine kO hT hC ?_
 refine Vc.nil ?_
 refine kS h ?_ ?_ <;> intro b9 h
 refine kt b9 (Xab ?_)
 iterate 3 refine kO hT hC ?_
 refine Vc.nil (Xah (Xar ?_))
 obtain rfl := kj h
 exact Xbw (τ := ⟨[(16, .own 16), (17, .sv (.bool true))], [(16, some (.ints .i64 q13))]⟩) (kW hC [(16, 1520)]) rfl ⟨rfl, trivial⟩
 refine kf b9 (Xag (Xaf (Xab ?_)))
 iterate 3 refine kO hT hC ?_
 refine kC hC [(16, 1664)] Tryz.call218 h (fun _ => Xr3) fun q14 h => ?_
 iterate 5 refine kO hT hC ?_
 refine kN ?_
 iterate 2 refine kO hT hC ?_
 refine kC hC [(16, 1744)] Tryz.call219 h (fun _ => Xy5) fun q15 h => ?_
 iterate 2 refine kO hT hC ?_
 refine Vc.nil (Xah ?_)
 obtain rfl := kj h
 exact Xbw (τ := ⟨[(16, .own 16), (17, .sv (.bool true))], [(16, some (.ints .i64 q15))]⟩) (kW hC [(16, 1744)]) rfl ⟨rfl, trivial⟩
def Ydr (r : (Xau × (List Int) × Bool)) : AV := .tup [.agg [.sv (.int .i64 r.1.Kind), .sv (.int .i64 r.1.Mode), .sv (.int .i64 r.1.Dx), .sv (.int .i64 r.1.Dy), .own 16], .own 17, .sv (.bool r.2.2)]
def Ydq (r : (Xau × (List Int) × Bool)) : Xa1 := [(16, .ints .i64 r.1.Levels), (17, .ints .i64 r.2.1)]
theorem Yf4 {p0 p1 p2 p3 p4 p5 p6 r} (h : Xf5 p0 p1 p2 p3 p4 p5 p6 = some r) : AC Tryz.prog 148 [.agg [.sv (.int .i64 p0.Wide), .sv (.int .i64 p0.High), .sv (.str p0.Dots)], .agg [.sv (.int .i64 p1.Wide), .sv (.int .i64 p1.High), .sv (.str p1.Dots)], .sv (.ints .i64 p2), .sv (.int .i64 p3), .sv (.int .i64 p4), .agg [.sv (.bool p5.Key), .sv (.int .i64 p5.Qp), .sv (.bool p5.Large), .sv (.bool p5.Exact)], .sv (.int .i64 p6)] [] (Ydr r) (Ydq r) := by
 refine Xae hT Tryz.func148 rfl fun C hC => ?_
 unfold Xf5 at h
 refine Xab ?_
 iterate 6 refine kO hT hC ?_
 refine Vc.nil (Xap ?_)
 refine kL [2,3,4,6,7,8,12,14] [112,128,192,224] [_,_,_,_,_,_,_,_] [_,_,_,_] ?_
 refine kA h (fun v1 => ([(50, .sv (.bool v1))], [])) (fun v1 h => ?_) fun v1 h => ?_
 refine Xac ?_
 iterate 3 refine kO hT hC ?_
 refine kC hC [] Tryz.call181 h (fun _ => Xnh) fun q2 h => ?_
 iterate 2 refine kO hT hC ?_
 refine kS h ?_ ?_ <;> intro b1 h
 refine kI hT hC (kn b1) ?_
 refine kE hC (kn b1) [] Tryz.call182 h (fun _ => Xng) fun q3 h => ?_
 refine kI hT hC (kn b1) ?_
 refine kP hC false (kn b1) ?_
 refine kO hT hC ?_
 refine kS h ?_ ?_ <;> intro b2 h
 refine kI hT hC (kn b2) ?_
 refine kE hC (kn b2) [] Tryz.call145 h (fun _ => Xkl) fun q4 h => ?_
 refine kI hT hC (kn b2) ?_
 refine kP hC false (kn b2) ?_
 refine kO hT hC ?_
 refine kS h ?_ ?_ <;> intro b3 h
 refine kI hT hC (kn b3) ?_
 refine kE hC (kn b3) [] Tryz.call107 h (fun _ => Xal) fun q5 h => ?_
 refine kI hT hC (kn b3) ?_
 refine kP hC false (kn b3) ?_
 refine kO hT hC ?_
 refine kS h ?_ ?_ <;> intro b4 h
 iterate 4 refine kI hT hC (kn b4) ?_
 refine kS h ?_ ?_ <;> intro b5 h
 iterate 4 refine kF hC (kn b5) ?_
 refine Xbd hC rfl rfl rfl rfl (kn b4) rfl rfl (b := false) (kn b5) rfl rfl rfl trivial ?_
 refine kP hC false (kn b4) ?_
 exact Vc.nil kM
 iterate 2 refine kI hT hC (kn b5) ?_
 refine kE hC (kn b5) [] Tryz.call146 h (fun _ => Xxd) fun q6 h => ?_
 refine kI hT hC (kn b5) ?_
 refine Xbd hC rfl rfl rfl rfl (kn b4) rfl rfl (b := true) (kn b5) rfl rfl rfl trivial ?_
 refine kP hC false (kn b4) ?_
 exact Vc.nil kM
 iterate 4 refine kF hC (kn b4) ?_
 iterate 4 refine Xep hC rfl rfl rfl rfl rfl rfl ?_
 refine kF hC (kn b4) ?_
 refine kP hC true (kn b4) ?_
 exact Vc.nil kM
 iterate 3 refine kF hC (kn b3) ?_
 refine kP hC true (kn b3) ?_
 refine kO hT hC ?_
 iterate 4 refine kF hC rfl ?_
 iterate 4 refine Xep hC rfl rfl rfl rfl rfl rfl ?_
 refine kF hC rfl ?_
 refine kO hT hC ?_
 exact Vc.nil kM
 iterate 3 refine kF hC (kn b2) ?_
 refine kP hC true (kn b2) ?_
 refine kO hT hC ?_
 iterate 3 refine kF hC rfl ?_
 iterate 2 refine kO hT hC ?_
 iterate 4 refine kF hC rfl ?_
 iterate 4 refine Xep hC rfl rfl rfl rfl rfl rfl ?_
 refine kF hC rfl ?_
 refine kO hT hC ?_
 exact Vc.nil kM
 iterate 3 refine kF hC (kn b1) ?_
 refine kP hC true (kn b1) ?_
 refine kO hT hC ?_
 iterate 3 refine kF hC rfl ?_
 iterate 2 refine kO hT hC ?_
 iterate 3 refine kF hC rfl ?_
 iterate 2 refine kO hT hC ?_
 iterate 4 refine kF hC rfl ?_
 iterate 4 refine Xep hC rfl rfl rfl rfl rfl rfl ?_
 refine kF hC rfl ?_
 refine kO hT hC ?_
 exact Vc.nil kM
 refine kS h ?_ ?_ <;> intro b6 h
 refine kt b6 (Xab ?_)
 iterate 5 refine kO hT hC ?_
 refine Vc.nil (Xah (Xar ?_))
 obtain rfl := kj h
 refine Xbw (τ := ⟨[(14, .ptr 2000000 0), (15, .own 17), (16, .sv (.bool false))], [(16, some (.ints .i64 [])), (17, some (.ints .i64 ([] : List Int))), (2000000, some (.box [.sv (.int .i64 0), .sv (.int .i64 0), .sv (.int .i64 0), .sv (.int .i64 0), .own 16]))]⟩) ?_ rfl ⟨rfl, rfl, trivial⟩
 refine Xma hC 224 4 1185 (.ints .i64 []) rfl rfl rfl rfl rfl trivial ?_
 apply Xdk hC [(16, 1185), (17, 832), (2000000, 224)]
 exact co
 rfl
 decide
 rfl
 refine kf b6 (Xag (Xaf (Xab ?_)))
 iterate 7 refine kO hT hC ?_
 refine kC hC [(16, 960)] Tryz.call183 h (fun _ => Ygj) fun q7 h => ?_
 iterate 2 refine kO hT hC ?_
 refine kN ?_
 iterate 6 refine kO hT hC ?_
 refine kC hC [(16, 1088)] Tryz.call184 h (fun _ => Ydp) fun q8 h => ?_
 iterate 5 refine kO hT hC ?_
 refine kN ?_
 iterate 5 refine kO hT hC ?_
 refine Vc.nil (Xah ?_)
 obtain rfl := kj h
 exact Xbw (τ := ⟨[(14, .ptr 2000000 0), (15, .own 17), (16, .sv (.bool true))], [(16, some (.ints .i64 q7.Levels)), (17, some (.ints .i64 q8.1)), (2000000, some (.box [.sv (.int .i64 q7.Kind), .sv (.int .i64 q7.Mode), .sv (.int .i64 q7.Dx), .sv (.int .i64 q7.Dy), .own 16]))]⟩) (kW hC [(16, 960), (17, 1088), (2000000, 224)]) rfl ⟨rfl, rfl, trivial⟩
def Ypa (r : Pic) : AV := .agg [.sv (.int .i64 r.Wide), .sv (.int .i64 r.High), .sv (.str r.Dots)]
def Yo9 (r : Pic) : Xa1 := []
theorem Yr8 {p0 p1 p2 p3 r} (h : Xe8 p0 p1 p2 p3 = some r) : AC Tryz.prog 150 [.agg [.sv (.int .i64 p0.Wide), .sv (.int .i64 p0.High), .sv (.str p0.Dots)], .sv (.int .i64 p1), .sv (.int .i64 p2), .sv (.ints .i64 p3)] [] (Ypa r) (Yo9 r) := by
 refine Xae hT Tryz.func150 rfl fun C hC => ?_
 unfold Xe8 at h
 refine Xab ?_
 iterate 2 refine kO hT hC ?_
 refine kN ?_
 iterate 2 refine kO hT hC ?_
 refine kQ hT hC h fun h => ?_
 refine kO hT hC ?_
 refine Vc.nil (Xap (Xab ?_))
 refine kO hT hC ?_
 refine Vc.nil ?_
 refine kL [1,2,3,4,8,9,10] [64,128,208] [_,_,_,_,_,_,_] [_,_,_] ?_
 refine kX h (fun v2 => ([(10, .sv (.int .i64 v2.1))], [(208, some (.ints .u8 v2.2))])) (fun v4 => ([(1, .any), (2, .any), (3, .any), (10, .any)], [(208, some (.ints .u8 v4))])) (kW hC []) (fun v2 s h => ?_) fun v4 h => ?_
 unfold Xcs at h
 refine Xap (Xab ?_)
 iterate 2 refine kO hT hC ?_
 refine Vc.nil ?_
 refine kS h ?_ ?_ <;> intro b3 h
 refine kt b3 (Xag (Xaf (Xap (Xak ?_))))
 refine Xb3 hm ?_
 iterate 3 refine kO hT hC ?_
 refine kQ hT hC h fun h => ?_
 iterate 7 refine kO hT hC ?_
 refine kQ hT hC h fun h => ?_
 iterate 3 refine kO hT hC ?_
 refine kQ hT hC h fun h => ?_
 iterate 2 refine kO hT hC ?_
 iterate 2 refine kQ hT hC h fun h => ?_
 refine kD (Xam (Xaf (Xac ?_)))
 iterate 3 refine kO hT hC ?_
 exact Vc.nil kG
 exact kf b3 (Xan (Xat ku))
 refine Xaf (Xab ?_)
 iterate 8 refine kO hT hC ?_
 exact Vc.nil (Xah kR)
def Yjc (r : ((List Xau) × Pic × Bool)) : AV := .tup [.own 16, .agg [.sv (.int .i64 r.2.1.Wide), .sv (.int .i64 r.2.1.High), .sv (.str r.2.1.Dots)], .sv (.bool r.2.2)]
def Yjb (r : ((List Xau) × Pic × Bool)) : Xa1 := [(16, .row Xdr r.1)]
theorem Yok {p0 p1 p2 p3 r} (h : Xl1 p0 p1 p2 p3 = some r) : AC Tryz.prog 89 [.agg [.sv (.int .i64 p0.Wide), .sv (.int .i64 p0.High), .sv (.str p0.Dots)], .agg [.sv (.int .i64 p1.Wide), .sv (.int .i64 p1.High), .sv (.str p1.Dots)], .agg [.sv (.bool p2.Key), .sv (.int .i64 p2.Qp), .sv (.bool p2.Large), .sv (.bool p2.Exact)], .sv (.int .i64 p3)] [] (Yjc r) (Yjb r) := by
 refine Xae hT Tryz.func89 rfl fun C hC => ?_
 unfold Xl1 at h
 refine Xab ?_
 iterate 6 refine kO hT hC ?_
 refine kN ?_
 iterate 2 refine kO hT hC ?_
 refine Vc.nil (Xap ?_)
 refine kL [3,4,5,6,9,11] [64,80,96,144,288] [_,_,_,_,_,_] [_,_,_,_,_] ?_
 refine kA h (fun v1 => ([(54, .sv (.bool v1))], [])) (fun v1 h => ?_) fun v1 h => ?_
 refine Xac ?_
 refine kO hT hC ?_
 refine kC hC [] Tryz.call86 h (fun _ => Xeh) fun q2 h => ?_
 iterate 2 refine kO hT hC ?_
 refine kS h ?_ ?_ <;> intro b1 h
 iterate 2 refine kI hT hC (kn b1) ?_
 refine kE hC (kn b1) [] Tryz.call144 h (fun _ => Xxb) fun q3 h => ?_
 refine kI hT hC (kn b1) ?_
 refine kP hC false (kn b1) ?_
 refine kO hT hC ?_
 refine kS h ?_ ?_ <;> intro b2 h
 iterate 2 refine kI hT hC (kn b2) ?_
 refine kE hC (kn b2) [] Tryz.call144 h (fun _ => Xxb) fun q4 h => ?_
 refine kI hT hC (kn b2) ?_
 refine kP hC false (kn b2) ?_
 refine kO hT hC ?_
 refine kS h ?_ ?_ <;> intro b3 h
 refine kI hT hC (kn b3) ?_
 refine kE hC (kn b3) [] Tryz.call145 h (fun _ => Xkl) fun q5 h => ?_
 refine kI hT hC (kn b3) ?_
 refine kP hC false (kn b3) ?_
 refine kO hT hC ?_
 refine kS h ?_ ?_ <;> intro b4 h
 refine kI hT hC (kn b4) ?_
 refine kE hC (kn b4) [] Tryz.call107 h (fun _ => Xal) fun q6 h => ?_
 refine kI hT hC (kn b4) ?_
 refine kP hC false (kn b4) ?_
 refine kO hT hC ?_
 refine kS h ?_ ?_ <;> intro b5 h
 iterate 4 refine kI hT hC (kn b5) ?_
 refine kS h ?_ ?_ <;> intro b6 h
 iterate 4 refine kF hC (kn b6) ?_
 refine Xbd hC rfl rfl rfl rfl (kn b5) rfl rfl (b := false) (kn b6) rfl rfl rfl trivial ?_
 refine kP hC false (kn b5) ?_
 exact Vc.nil kM
 iterate 2 refine kI hT hC (kn b6) ?_
 refine kE hC (kn b6) [] Tryz.call146 h (fun _ => Xxd) fun q7 h => ?_
 refine kI hT hC (kn b6) ?_
 refine Xbd hC rfl rfl rfl rfl (kn b5) rfl rfl (b := true) (kn b6) rfl rfl rfl trivial ?_
 refine kP hC false (kn b5) ?_
 exact Vc.nil kM
 iterate 4 refine kF hC (kn b5) ?_
 iterate 4 refine Xep hC rfl rfl rfl rfl rfl rfl ?_
 refine kF hC (kn b5) ?_
 refine kP hC true (kn b5) ?_
 exact Vc.nil kM
 iterate 3 refine kF hC (kn b4) ?_
 refine kP hC true (kn b4) ?_
 refine kO hT hC ?_
 iterate 4 refine kF hC rfl ?_
 iterate 4 refine Xep hC rfl rfl rfl rfl rfl rfl ?_
 refine kF hC rfl ?_
 refine kO hT hC ?_
 exact Vc.nil kM
 iterate 3 refine kF hC (kn b3) ?_
 refine kP hC true (kn b3) ?_
 refine kO hT hC ?_
 iterate 3 refine kF hC rfl ?_
 iterate 2 refine kO hT hC ?_
 iterate 4 refine kF hC rfl ?_
 iterate 4 refine Xep hC rfl rfl rfl rfl rfl rfl ?_
 refine kF hC rfl ?_
 refine kO hT hC ?_
 exact Vc.nil kM
 iterate 4 refine kF hC (kn b2) ?_
 refine kP hC true (kn b2) ?_
 refine kO hT hC ?_
 iterate 3 refine kF hC rfl ?_
 iterate 2 refine kO hT hC ?_
 iterate 3 refine kF hC rfl ?_
 iterate 2 refine kO hT hC ?_
 iterate 4 refine kF hC rfl ?_
 iterate 4 refine Xep hC rfl rfl rfl rfl rfl rfl ?_
 refine kF hC rfl ?_
 refine kO hT hC ?_
 exact Vc.nil kM
 iterate 4 refine kF hC (kn b1) ?_
 refine kP hC true (kn b1) ?_
 refine kO hT hC ?_
 iterate 4 refine kF hC rfl ?_
 iterate 2 refine kO hT hC ?_
 iterate 3 refine kF hC rfl ?_
 iterate 2 refine kO hT hC ?_
 iterate 3 refine kF hC rfl ?_
 iterate 2 refine kO hT hC ?_
 iterate 4 refine kF hC rfl ?_
 iterate 4 refine Xep hC rfl rfl rfl rfl rfl rfl ?_
 refine kF hC rfl ?_
 refine kO hT hC ?_
 exact Vc.nil kM
 refine kS h ?_ ?_ <;> intro b7 h
 refine kt b7 (Xab ?_)
 iterate 5 refine kO hT hC ?_
 refine Vc.nil (Xah (Xar ?_))
 obtain rfl := kj h
 exact Xbw (τ := ⟨[(8, .own 16), (9, .ptr 2000001 0), (10, .sv (.bool false))], [(16, some (.row Xdr ([] : List Xau))), (2000001, some (.box [.sv (.int .i64 0), .sv (.int .i64 0), .sv (.str ⟨#[]⟩)]))]⟩) (kW hC [(16, 288), (2000001, 144)]) rfl ⟨rfl, trivial⟩
 refine kf b7 (Xag (Xaf (Xab ?_)))
 iterate 4 refine kO hT hC ?_
 refine kC hC [] Tryz.call147 h (fun _ => Yxl) fun q8 h => ?_
 iterate 2 refine kO hT hC ?_
 refine Vc.nil (Xap (Xab ?_))
 refine kO hT hC ?_
 refine Vc.nil ?_
 refine kL [3,4,5,6,9,11,12,13] [64,80,96,144,192,288] [_,_,_,_,_,_,_,_] [_,_,_,_,_,_] ?_
 refine kX h (fun v24 => ([(13, .sv (.int .i64 v24.1))], [(192, some (.box [.sv (.int .i64 v24.2.2.1), .sv (.int .i64 v24.2.2.2.1), .sv (.str v24.2.2.2.2)])), (288, some (.row Xdr v24.2.1))])) (fun v40 => ([(3, .any), (4, .any), (5, .any), (6, .any), (13, .any)], [(192, some (.box [.sv (.int .i64 v40.2.1), .sv (.int .i64 v40.2.2.1), .sv (.str v40.2.2.2)])), (288, some (.row Xdr v40.1)), (64, none), (80, none), (96, none)])) (kW hC []) (fun v24 s h => ?_) fun v40 h => ?_
 unfold Xfg at h
 refine Xap (Xab ?_)
 iterate 4 refine kO hT hC ?_
 refine Vc.nil ?_
 refine kS h ?_ ?_ <;> intro b16 h
 refine kt b16 (Xag (Xaf (Xap (Xak (Xab ?_)))))
 refine kO hT hC ?_
 refine Vc.nil ?_
 refine kL [3,4,5,6,9,11,12,13,14] [64,80,96,144,192,288] [_,_,_,_,_,_,_,_,_] [_,_,_,_,_,_] ?_
 refine kX h (fun v45 => ([(14, .sv (.int .i64 v45.1))], [(192, some (.box [.sv (.int .i64 v45.2.2.1), .sv (.int .i64 v45.2.2.2.1), .sv (.str v45.2.2.2.2)])), (288, some (.row Xdr v45.2.1))])) (fun v50 => ([(14, .any)], [(192, some (.box [.sv (.int .i64 v50.2.1), .sv (.int .i64 v50.2.2.1), .sv (.str v50.2.2.2)])), (288, some (.row Xdr v50.1))])) (kW hC []) (fun v45 s h => ?_) fun v50 h => ?_
 unfold Xfh at h
 refine Xap (Xab ?_)
 iterate 4 refine kO hT hC ?_
 refine Vc.nil ?_
 refine kS h ?_ ?_ <;> intro b19 h
 refine kt b19 (Xag (Xaf (Xap (Xak ?_))))
 refine Xby hm ?_
 iterate 5 refine kO hT hC ?_
 refine kC hC [(16, 1280)] Tryz.call149 h (fun _ => Xiu) fun q51 h => ?_
 iterate 4 refine kO hT hC ?_
 obtain ⟨q52, hq, h⟩ := Xa8 h
 refine Yxr hC [(16, 1360), (17, 1361)] rfl rfl rfl rfl Tryz.call148 (Yf4 hq) rfl (by decide) trivial rfl (.inr ⟨rfl, ⟨trivial, trivial, trivial⟩⟩) rfl ?_
 iterate 8 refine kO hT hC ?_
 refine kD (Xab ?_)
 iterate 3 refine kO hT hC ?_
 obtain ⟨hq, h⟩ := Xa0 h
 refine Ypi hT hC rfl rfl rfl rfl ⟨fun _ _ => rfl, by rw [Xxm]; exact hq⟩ ?_
 rw [Xxm]
 refine kO hT hC ?_
 refine Vc.nil (Xac ?_)
 iterate 4 refine kO hT hC ?_
 refine kC hC [] Tryz.call150 h (fun _ => Yr8) fun q53 h => ?_
 refine kO hT hC ?_
 refine Vc.nil (Xam (Xaf (Xac ?_)))
 iterate 3 refine kO hT hC ?_
 refine Vc.nil ?_
 obtain rfl := kj h
 exact Xx7 (kW hC [(288, 1472)])
 exact kf b19 (Xan (Xat ku))
 refine Xam (Xaf (Xac ?_))
 iterate 3 refine kO hT hC ?_
 exact Vc.nil kG
 exact kf b16 (Xan (Xat ku))
 refine Xaf ?_
 refine Xby hm ?_
 iterate 5 refine kO hT hC ?_
 refine kD (Xah ?_)
 obtain rfl := kj h
 exact Xbw (τ := ⟨[(8, .own 16), (9, .ptr 2000001 0), (10, .sv (.bool true))], [(16, some (.row Xdr v40.1)), (2000001, some (.box [.sv (.int .i64 v40.2.1), .sv (.int .i64 v40.2.2.1), .sv (.str v40.2.2.2)]))]⟩) (kW hC [(16, 288), (2000001, 144)]) rfl ⟨rfl, trivial⟩
def Yas (r : (List ByteArray)) : AV := .own 16
def Yar (r : (List ByteArray)) : Xa1 := [(16, .row Xbj r)]
theorem Ydm {p0 r} (h : Xi1 p0 = some r) : AC Tryz.prog 92 [.agg [.sv (.int .i64 p0.Seq.Level), .sv (.int .i64 p0.Seq.Bits), .sv (.ints .i64 p0.Seq.Cols), .sv (.ints .i64 p0.Seq.Rows), .sv (.int .i64 p0.Par.Qp), .sv (.bool p0.Par.Large), .sv (.bool p0.Par.Exact), .sv (.bool p0.Par.Confined), .sv (.int .i64 p0.Rate.Qp), .sv (.int .i64 p0.Rate.Target), .sv (.int .i64 p0.Rate.Debt), .sv (.int .i64 p0.Frame), .sv (.int .i64 p0.Since), .sv (.int .i64 p0.Every), .sv (.int .i64 p0.Reach), .sv (.bool p0.Has), .sv (.int .i64 p0.Ref.Wide), .sv (.int .i64 p0.Ref.High), .sv (.str p0.Ref.Dots)]] [] (Yas r) (Yar r) := by
 refine Xae hT Tryz.func92 rfl fun C hC => ?_
 unfold Xi1 at h
 refine Xab ?_
 iterate 2 refine kO hT hC ?_
 refine Vc.nil (Xap (Xab ?_))
 refine kO hT hC ?_
 refine kC hC [] Tryz.call85 h (fun _ => Xk2) fun q1 h => ?_
 refine kO hT hC ?_
 refine Vc.nil ?_
 refine kS h ?_ ?_ <;> intro b1 h
 refine kt b1 (Xab ?_)
 iterate 2 refine kO hT hC ?_
 refine Vc.nil (Xah (Xar ?_))
 obtain rfl := kj h
 exact Xbw (τ := ⟨[(2, .own 16)], [(16, some (.row Xbj ([] : List ByteArray)))]⟩) (kW hC [(16, 160)]) rfl ⟨rfl, trivial⟩
 refine kf b1 (Xag (Xaf (Xab ?_)))
 iterate 2 refine kO hT hC ?_
 refine kC hC [] Tryz.call47 h (fun _ => Yrz) fun q2 h => ?_
 refine kC hC [] Tryz.call15 h (fun _ => Xsq) fun q3 h => ?_
 iterate 5 refine kO hT hC ?_
 refine kN ?_
 iterate 2 refine kO hT hC ?_
 refine kC hC [] Tryz.call102 h (fun _ => Yrx) fun q4 h => ?_
 refine kC hC [] Tryz.call15 h (fun _ => Xsq) fun q5 h => ?_
 iterate 5 refine kO hT hC ?_
 refine kN ?_
 iterate 4 refine kO hT hC ?_
 refine Vc.nil (Xah ?_)
 obtain rfl := kj h
 exact Xbw (τ := ⟨[(2, .own 16)], [(16, some (.row Xbj ([q3.1, q5.1])))]⟩) (kW hC [(16, 432)]) rfl ⟨rfl, trivial⟩
def Yfy (r : Rate) : AV := .agg [.sv (.int .i64 r.Qp), .sv (.int .i64 r.Target), .sv (.int .i64 r.Debt)]
def Yfx (r : Rate) : Xa1 := []
theorem Yi1 {p0 p1 r} (h : Xm1 p0 p1 = some r) : AC Tryz.prog 93 [.agg [.sv (.int .i64 p0.Qp), .sv (.int .i64 p0.Target), .sv (.int .i64 p0.Debt)], .sv (.int .i64 p1)] [] (Yfy r) (Yfx r) := by
 refine Xae hT Tryz.func93 rfl fun C hC => ?_
 unfold Xm1 at h
 refine Xab ?_
 iterate 2 refine kO hT hC ?_
 refine Vc.nil (Xap (Xab ?_))
 refine kO hT hC ?_
 refine kC hC [] Tryz.call142 h (fun _ => Xsm) fun q1 h => ?_
 refine kO hT hC ?_
 refine Vc.nil ?_
 refine kS h ?_ ?_ <;> intro b1 h
 refine kt b1 (Xab ?_)
 iterate 2 refine kO hT hC ?_
 exact Vc.nil (Xah (Xar kR))
 refine kf b1 (Xag (Xaf ?_))
 refine Xby hm ?_
 iterate 3 refine kO hT hC ?_
 refine kC hC [] Tryz.call143 h (fun _ => Xdu) fun q2 h => ?_
 iterate 10 refine kO hT hC ?_
 refine kC hC [] Tryz.call143 h (fun _ => Xdu) fun q3 h => ?_
 refine kO hT hC ?_
 refine kD (Xab ?_)
 iterate 3 refine kO hT hC ?_
 refine Vc.nil ?_
 refine kL [2,4,5,6] [32,64] [_,_,_,_] [_,_] ?_
 refine kA h (fun v4 => ([(6, .sv (.int .i64 v4))], [])) (fun v4 h => ?_) fun v4 h => ?_
 refine Xab ?_
 iterate 4 refine kO hT hC ?_
 refine Vc.nil ?_
 refine kS h ?_ ?_ <;> intro b2 h
 refine kt b2 (Xac ?_)
 iterate 3 refine kO hT hC ?_
 exact Vc.nil kM
 exact kf b2 (Xag kM)
 refine kL [2,4,5,6] [32,64] [_,_,_,_] [_,_] ?_
 refine kA h (fun v5 => ([(6, .sv (.int .i64 v5))], [])) (fun v5 h => ?_) fun v5 h => ?_
 refine Xab ?_
 iterate 5 refine kO hT hC ?_
 refine Vc.nil ?_
 refine kS h ?_ ?_ <;> intro b3 h
 refine kt b3 (Xac ?_)
 iterate 3 refine kO hT hC ?_
 exact Vc.nil kM
 exact kf b3 (Xag kM)
 refine Xby hm ?_
 refine kO hT hC ?_
 refine kC hC [] Tryz.call143 h (fun _ => Xdu) fun q6 h => ?_
 iterate 5 refine kO hT hC ?_
 exact kD (Xah kR)
def Yau (r : (Xbc × (List ByteArray) × Bool)) : AV := .tup [.agg [.sv (.int .i64 r.1.Seq.Level), .sv (.int .i64 r.1.Seq.Bits), .own 16, .own 17, .sv (.int .i64 r.1.Par.Qp), .sv (.bool r.1.Par.Large), .sv (.bool r.1.Par.Exact), .sv (.bool r.1.Par.Confined), .sv (.int .i64 r.1.Rate.Qp), .sv (.int .i64 r.1.Rate.Target), .sv (.int .i64 r.1.Rate.Debt), .sv (.int .i64 r.1.Frame), .sv (.int .i64 r.1.Since), .sv (.int .i64 r.1.Every), .sv (.int .i64 r.1.Reach), .sv (.bool r.1.Has), .sv (.int .i64 r.1.Ref.Wide), .sv (.int .i64 r.1.Ref.High), .sv (.str r.1.Ref.Dots)], .own 18, .sv (.bool r.2.2)]
def Yat (r : (Xbc × (List ByteArray) × Bool)) : Xa1 := [(16, .ints .i64 r.1.Seq.Cols), (17, .ints .i64 r.1.Seq.Rows), (18, .row Xbj r.2.1)]
theorem Ydo {p0 p1 p2 r} (h : Xi2 p0 p1 p2 = some r) : AC Tryz.prog 29 [.agg [.sv (.int .i64 p0.Seq.Level), .sv (.int .i64 p0.Seq.Bits), .sv (.ints .i64 p0.Seq.Cols), .sv (.ints .i64 p0.Seq.Rows), .sv (.int .i64 p0.Par.Qp), .sv (.bool p0.Par.Large), .sv (.bool p0.Par.Exact), .sv (.bool p0.Par.Confined), .sv (.int .i64 p0.Rate.Qp), .sv (.int .i64 p0.Rate.Target), .sv (.int .i64 p0.Rate.Debt), .sv (.int .i64 p0.Frame), .sv (.int .i64 p0.Since), .sv (.int .i64 p0.Every), .sv (.int .i64 p0.Reach), .sv (.bool p0.Has), .sv (.int .i64 p0.Ref.Wide), .sv (.int .i64 p0.Ref.High), .sv (.str p0.Ref.Dots)], .agg [.sv (.int .i64 p1.Wide), .sv (.int .i64 p1.High), .sv (.str p1.Dots)], .sv (.bool p2)] [] (Yau r) (Yat r) := by
 refine Xae hT Tryz.func29 rfl fun C hC => ?_
 unfold Xi2 at h
 refine Xab ?_
 iterate 5 refine kO hT hC ?_
 refine kN ?_
 iterate 2 refine kO hT hC ?_
 refine kC hC [] Tryz.call54 h (fun _ => Xso) fun q1 h => ?_
 iterate 5 refine kO hT hC ?_
 refine kN ?_
 iterate 2 refine kO hT hC ?_
 refine kC hC [] Tryz.call84 h (fun _ => Yq4) fun q2 h => ?_
 refine kO hT hC ?_
 refine Vc.nil (Xap ?_)
 refine kL [3,4,6,9,10,11] [48,64,96] [_,_,_,_,_,_] [_,_,_] ?_
 refine kA h (fun v3 => ([(61, .sv (.bool v3)), (9, .any), (10, .any)], [])) (fun v3 h => ?_) fun v3 h => ?_
 refine Xac ?_
 refine kO hT hC ?_
 refine kC hC [] Tryz.call85 h (fun _ => Xk2) fun q4 h => ?_
 iterate 2 refine kO hT hC ?_
 refine kS h ?_ ?_ <;> intro b1 h
 refine kI hT hC (kn b1) ?_
 refine kE hC (kn b1) [] Tryz.call86 h (fun _ => Xeh) fun q5 h => ?_
 refine kI hT hC (kn b1) ?_
 refine kP hC false (kn b1) ?_
 refine kO hT hC ?_
 refine kS h ?_ ?_ <;> intro b2 h
 iterate 4 refine kI hT hC (kn b2) ?_
 refine kP hC false (kn b2) ?_
 refine kO hT hC ?_
 refine kS h ?_ ?_ <;> intro b3 h
 iterate 4 refine kF hC b3 ?_
 refine kP hC true b3 ?_
 refine kO hT hC ?_
 iterate 3 refine kF hC rfl ?_
 iterate 3 refine Xep hC rfl rfl rfl rfl rfl rfl ?_
 refine kF hC rfl ?_
 refine kO hT hC ?_
 exact Vc.nil kM
 iterate 4 refine kI hT hC b3 ?_
 refine kP hC false b3 ?_
 refine kO hT hC ?_
 refine kS h ?_ ?_ <;> intro b4 h
 iterate 3 refine kF hC b4 ?_
 iterate 3 refine Xep hC rfl rfl rfl rfl rfl rfl ?_
 refine kF hC b4 ?_
 refine kP hC true b4 ?_
 exact Vc.nil kM
 iterate 3 refine kI hT hC b4 ?_
 refine kS h ?_ ?_ <;> intro b5 h
 iterate 3 refine kF hC (kn b5) ?_
 refine Xbd hC rfl rfl rfl rfl b4 rfl rfl (b := false) (kn b5) rfl rfl rfl trivial ?_
 refine kP hC false b4 ?_
 exact Vc.nil kM
 iterate 3 refine kI hT hC (kn b5) ?_
 refine Xbd hC rfl rfl rfl rfl b4 rfl rfl (b := true) (kn b5) rfl rfl rfl trivial ?_
 refine kP hC false b4 ?_
 exact Vc.nil kM
 iterate 4 refine kF hC (kn b2) ?_
 refine kP hC true (kn b2) ?_
 refine kO hT hC ?_
 iterate 4 refine kF hC rfl ?_
 iterate 2 refine kO hT hC ?_
 iterate 3 refine kF hC rfl ?_
 iterate 3 refine Xep hC rfl rfl rfl rfl rfl rfl ?_
 refine kF hC rfl ?_
 refine kO hT hC ?_
 exact Vc.nil kM
 iterate 3 refine kF hC (kn b1) ?_
 refine kP hC true (kn b1) ?_
 refine kO hT hC ?_
 iterate 4 refine kF hC rfl ?_
 iterate 2 refine kO hT hC ?_
 iterate 4 refine kF hC rfl ?_
 iterate 2 refine kO hT hC ?_
 iterate 3 refine kF hC rfl ?_
 iterate 3 refine Xep hC rfl rfl rfl rfl rfl rfl ?_
 refine kF hC rfl ?_
 refine kO hT hC ?_
 exact Vc.nil kM
 refine kS h ?_ ?_ <;> intro b6 h
 refine kt b6 (Xab ?_)
 iterate 2 refine kO hT hC ?_
 refine kC hC [(16, 1024), (17, 1025)] Tryz.call87 h (fun _ => Xww) fun q6 h => ?_
 iterate 2 refine kO hT hC ?_
 refine kN ?_
 iterate 5 refine kO hT hC ?_
 refine Vc.nil (Xah (Xar ?_))
 obtain rfl := kj h
 exact Xbw (τ := ⟨[(6, .ptr 2000000 0), (7, .own 18), (8, .sv (.bool false))], [(16, some (.ints .i64 q6.Cols)), (17, some (.ints .i64 q6.Rows)), (18, some (.row Xbj ([] : List ByteArray))), (2000000, some (.box [.sv (.int .i64 q6.Level), .sv (.int .i64 q6.Bits), .own 16, .own 17, .sv (.int .i64 p0.Par.Qp), .sv (.bool p0.Par.Large), .sv (.bool p0.Par.Exact), .sv (.bool p0.Par.Confined), .sv (.int .i64 p0.Rate.Qp), .sv (.int .i64 p0.Rate.Target), .sv (.int .i64 p0.Rate.Debt), .sv (.int .i64 p0.Frame), .sv (.int .i64 p0.Since), .sv (.int .i64 p0.Every), .sv (.int .i64 p0.Reach), .sv (.bool p0.Has), .sv (.int .i64 p0.Ref.Wide), .sv (.int .i64 p0.Ref.High), .sv (.str p0.Ref.Dots)]))]⟩) (kW hC [(16, 1024), (17, 1025), (18, 1072), (2000000, 96)]) rfl ⟨rfl, rfl, rfl, trivial⟩
 refine kf b6 (Xag (Xaf ?_))
 refine Xby hm ?_
 iterate 4 refine kO hT hC ?_
 refine kC hC [] Tryz.call88 h (fun _ => Yu0) fun q7 h => ?_
 iterate 9 refine kO hT hC ?_
 refine kD (Xab ?_)
 iterate 6 refine kO hT hC ?_
 refine kC hC [(16, 1392)] Tryz.call89 h (fun _ => Yok) fun q8 h => ?_
 iterate 8 refine kO hT hC ?_
 refine kN ?_
 iterate 9 refine kO hT hC ?_
 refine kC hC [] Tryz.call90 h (fun _ => Yny) fun q9 h => ?_
 iterate 5 refine kO hT hC ?_
 refine kN ?_
 iterate 3 refine kO hT hC ?_
 refine kC hC [] Tryz.call91 h (fun _ => Yr9) fun q10 h => ?_
 refine kQ hT hC h fun h => ?_
 refine kO hT hC ?_
 refine kN ?_
 iterate 2 refine kO hT hC ?_
 refine kN ?_
 refine kO hT hC ?_
 refine Vc.nil ?_
 refine kL [3,6,11,14,18,19,20] [48,96,224,1744] [_,_,_,_,_,_,_] [_,_,_,_] ?_
 refine kA h (fun v11 => ([(20, .sv (.int .i64 v11.1))], [(1744, some (.row Xbj v11.2))])) (fun v11 h => ?_) fun v11 h => ?_
 refine Xab ?_
 refine kO hT hC ?_
 refine Vc.nil ?_
 refine kS h ?_ ?_ <;> intro b7 h
 refine kt b7 (Xab ?_)
 refine kO hT hC ?_
 refine Vc.nil (Xac ?_)
 refine kO hT hC ?_
 refine kC hC [(16, 1792)] Tryz.call92 h (fun _ => Ydm) fun q12 h => ?_
 refine kO hT hC ?_
 refine Vc.nil ?_
 obtain rfl := kj h
 exact Xgl (kW hC [(1744, 1792)])
 exact kf b7 (Xag kM)
 refine Xab ?_
 iterate 2 refine kO hT hC ?_
 refine kC hC [] Tryz.call15 h (fun _ => Xsq) fun q13 h => ?_
 iterate 5 refine kO hT hC ?_
 refine kN ?_
 iterate 3 refine kO hT hC ?_
 obtain ⟨hq, h⟩ := Xa0 h
 refine Ypi hT hC rfl rfl rfl rfl ⟨fun _ _ => rfl, by rw [Xpx]; exact hq⟩ ?_
 rw [Xpx]
 refine kO hT hC ?_
 refine kN ?_
 iterate 3 refine kO hT hC ?_
 refine kN ?_
 iterate 2 refine kO hT hC ?_
 refine kC hC [(16, 2016), (17, 2017)] Tryz.call87 h (fun _ => Xww) fun q14 h => ?_
 iterate 2 refine kO hT hC ?_
 refine kN ?_
 iterate 4 refine kO hT hC ?_
 refine kC hC [] Tryz.call93 h (fun _ => Yi1) fun q15 h => ?_
 iterate 2 refine kO hT hC ?_
 refine kN ?_
 iterate 7 refine kO hT hC ?_
 iterate 2 refine kQ hT hC h fun h => ?_
 iterate 2 refine kO hT hC ?_
 refine kN ?_
 iterate 5 refine kO hT hC ?_
 refine Vc.nil ?_
 refine kL [6,11,14,19,23] [96,224,368,1952,2016,2017] [_,_,_,_,_] [_,_,_,_,_,_] ?_
 refine kA h (fun v16 => ([(11, .any)], [(368, some (.box [.sv (.int .i64 q14.Level), .sv (.int .i64 q14.Bits), .own 2016, .own 2017, .sv (.int .i64 p0.Par.Qp), .sv (.bool p0.Par.Large), .sv (.bool p0.Par.Exact), .sv (.bool p0.Par.Confined), .sv (.int .i64 q15.Qp), .sv (.int .i64 q15.Target), .sv (.int .i64 q15.Debt), .sv (.int .i64 ((Xaa .i64 (p0.Frame + 1)).tmod (Xaa .i64 (1 * 2 ^ min (Xaa .u64 (p0.Seq.Bits)).toNat (IntKind.bits .i64))))), .sv (.int .i64 v16), .sv (.int .i64 p0.Every), .sv (.int .i64 p0.Reach), .sv (.bool p0.Has), .sv (.int .i64 p0.Ref.Wide), .sv (.int .i64 p0.Ref.High), .sv (.str p0.Ref.Dots)]))])) (fun v16 h => ?_) fun v16 h => ?_
 refine Xab ?_
 refine kO hT hC ?_
 refine Vc.nil ?_
 refine kS h ?_ ?_ <;> intro b8 h
 refine kt b8 (Xac ?_)
 iterate 2 refine kO hT hC ?_
 exact Vc.nil kM
 exact kf b8 (Xag kM)
 refine Xab ?_
 iterate 2 refine kO hT hC ?_
 refine kN ?_
 iterate 3 refine kO hT hC ?_
 refine kN ?_
 iterate 5 refine kO hT hC ?_
 refine Vc.nil (Xah ?_)
 obtain rfl := kj h
 exact Xbw (τ := ⟨[(6, .ptr 2000000 0), (7, .own 18), (8, .sv (.bool true))], [(16, some (.ints .i64 q14.Cols)), (17, some (.ints .i64 q14.Rows)), (18, some (.row Xbj (v11.2 ++ ([q13.1])))), (2000000, some (.box [.sv (.int .i64 q14.Level), .sv (.int .i64 q14.Bits), .own 16, .own 17, .sv (.int .i64 p0.Par.Qp), .sv (.bool p0.Par.Large), .sv (.bool p0.Par.Exact), .sv (.bool p0.Par.Confined), .sv (.int .i64 q15.Qp), .sv (.int .i64 q15.Target), .sv (.int .i64 q15.Debt), .sv (.int .i64 ((Xaa .i64 (p0.Frame + 1)).tmod (Xaa .i64 (1 * 2 ^ min (Xaa .u64 (p0.Seq.Bits)).toNat (IntKind.bits .i64))))), .sv (.int .i64 v16), .sv (.int .i64 p0.Every), .sv (.int .i64 p0.Reach), .sv (.bool true), .sv (.int .i64 q8.2.1.Wide), .sv (.int .i64 q8.2.1.High), .sv (.str q8.2.1.Dots)]))]⟩) (kW hC [(16, 2016), (17, 2017), (18, 1952), (2000000, 96)]) rfl ⟨rfl, rfl, rfl, trivial⟩
def Yad (r : Bool) : AV := .sv (.bool r)
def Yac (r : Bool) : Xa1 := []
theorem Ycm {p0 p1 r} (h : Xio p0 p1 = some r) : AC Tryz.prog 30 [.agg [.sv (.int .i64 p0.Seq.Level), .sv (.int .i64 p0.Seq.Bits), .sv (.ints .i64 p0.Seq.Cols), .sv (.ints .i64 p0.Seq.Rows), .sv (.int .i64 p0.Par.Qp), .sv (.bool p0.Par.Large), .sv (.bool p0.Par.Exact), .sv (.bool p0.Par.Confined), .sv (.int .i64 p0.Rate.Qp), .sv (.int .i64 p0.Rate.Target), .sv (.int .i64 p0.Rate.Debt), .sv (.int .i64 p0.Frame), .sv (.int .i64 p0.Since), .sv (.int .i64 p0.Every), .sv (.int .i64 p0.Reach), .sv (.bool p0.Has), .sv (.int .i64 p0.Ref.Wide), .sv (.int .i64 p0.Ref.High), .sv (.str p0.Ref.Dots)], .agg [.sv (.int .i64 p1.Seq.Level), .sv (.int .i64 p1.Seq.Bits), .sv (.ints .i64 p1.Seq.Cols), .sv (.ints .i64 p1.Seq.Rows), .sv (.int .i64 p1.Par.Qp), .sv (.bool p1.Par.Large), .sv (.bool p1.Par.Exact), .sv (.bool p1.Par.Confined), .sv (.int .i64 p1.Rate.Qp), .sv (.int .i64 p1.Rate.Target), .sv (.int .i64 p1.Rate.Debt), .sv (.int .i64 p1.Frame), .sv (.int .i64 p1.Since), .sv (.int .i64 p1.Every), .sv (.int .i64 p1.Reach), .sv (.bool p1.Has), .sv (.int .i64 p1.Ref.Wide), .sv (.int .i64 p1.Ref.High), .sv (.str p1.Ref.Dots)]] [] (Yad r) (Yac r) := by
 refine Xae hT Tryz.func30 rfl fun C hC => ?_
 unfold Xio at h
 refine Xab ?_
 iterate 3 refine kO hT hC ?_
 refine Vc.nil ?_
 refine kL [2,3,4] [32,48] [_,_,_] [_,_] ?_
 refine kA h (fun v1 => ([(4, .sv (.bool v1)), (2, .any), (3, .any)], [(32, none), (48, none)])) (fun v1 h => ?_) fun v1 h => ?_
 refine Xac ?_
 iterate 4 refine kO hT hC ?_
 refine kC hC [] Tryz.call36 h (fun _ => Xwh) fun q2 h => ?_
 refine kO hT hC ?_
 refine kS h ?_ ?_ <;> intro b1 h
 iterate 4 refine kI hT hC b1 ?_
 refine Yvb hC rfl rfl rfl rfl b1 rfl rfl rfl Zf9 rfl rfl ?_
 refine kP hC true b1 ?_
 refine kO hT hC ?_
 refine kS h ?_ ?_ <;> intro b2 h
 iterate 4 refine kI hT hC b2 ?_
 refine Yvb hC rfl rfl rfl rfl b2 rfl rfl rfl Zh9 rfl rfl ?_
 refine kP hC true b2 ?_
 refine kO hT hC ?_
 refine kS h ?_ ?_ <;> intro b3 h
 iterate 5 refine kI hT hC b3 ?_
 refine kP hC true b3 ?_
 refine kO hT hC ?_
 refine kS h ?_ ?_ <;> intro b4 h
 iterate 5 refine kI hT hC b4 ?_
 refine kP hC true b4 ?_
 refine kO hT hC ?_
 refine kS h ?_ ?_ <;> intro b5 h
 iterate 5 refine kI hT hC b5 ?_
 refine kP hC true b5 ?_
 refine kO hT hC ?_
 refine kS h ?_ ?_ <;> intro b6 h
 iterate 5 refine kI hT hC b6 ?_
 refine kP hC true b6 ?_
 refine kO hT hC ?_
 refine kS h ?_ ?_ <;> intro b7 h
 iterate 5 refine kI hT hC b7 ?_
 refine kP hC true b7 ?_
 refine kO hT hC ?_
 refine kS h ?_ ?_ <;> intro b8 h
 iterate 4 refine kI hT hC b8 ?_
 refine Yvb hC rfl rfl rfl rfl b8 rfl rfl rfl Zga rfl rfl ?_
 refine kP hC true b8 ?_
 refine kO hT hC ?_
 exact Vc.nil kM
 iterate 5 refine kF hC b8 ?_
 refine kP hC false b8 ?_
 refine kO hT hC ?_
 exact Vc.nil kM
 iterate 5 refine kF hC b7 ?_
 refine kP hC false b7 ?_
 refine kO hT hC ?_
 iterate 5 refine kF hC rfl ?_
 iterate 2 refine kO hT hC ?_
 exact Vc.nil kM
 iterate 5 refine kF hC b6 ?_
 refine kP hC false b6 ?_
 refine kO hT hC ?_
 iterate 5 refine kF hC rfl ?_
 iterate 2 refine kO hT hC ?_
 iterate 5 refine kF hC rfl ?_
 iterate 2 refine kO hT hC ?_
 exact Vc.nil kM
 iterate 5 refine kF hC b5 ?_
 refine kP hC false b5 ?_
 refine kO hT hC ?_
 iterate 5 refine kF hC rfl ?_
 iterate 2 refine kO hT hC ?_
 iterate 5 refine kF hC rfl ?_
 iterate 2 refine kO hT hC ?_
 iterate 5 refine kF hC rfl ?_
 iterate 2 refine kO hT hC ?_
 exact Vc.nil kM
 iterate 5 refine kF hC b4 ?_
 refine kP hC false b4 ?_
 refine kO hT hC ?_
 iterate 5 refine kF hC rfl ?_
 iterate 2 refine kO hT hC ?_
 iterate 5 refine kF hC rfl ?_
 iterate 2 refine kO hT hC ?_
 iterate 5 refine kF hC rfl ?_
 iterate 2 refine kO hT hC ?_
 iterate 5 refine kF hC rfl ?_
 iterate 2 refine kO hT hC ?_
 exact Vc.nil kM
 iterate 5 refine kF hC b3 ?_
 refine kP hC false b3 ?_
 refine kO hT hC ?_
 iterate 5 refine kF hC rfl ?_
 iterate 2 refine kO hT hC ?_
 iterate 5 refine kF hC rfl ?_
 iterate 2 refine kO hT hC ?_
 iterate 5 refine kF hC rfl ?_
 iterate 2 refine kO hT hC ?_
 iterate 5 refine kF hC rfl ?_
 iterate 2 refine kO hT hC ?_
 iterate 5 refine kF hC rfl ?_
 iterate 2 refine kO hT hC ?_
 exact Vc.nil kM
 iterate 5 refine kF hC b2 ?_
 refine kP hC false b2 ?_
 refine kO hT hC ?_
 iterate 5 refine kF hC rfl ?_
 iterate 2 refine kO hT hC ?_
 iterate 5 refine kF hC rfl ?_
 iterate 2 refine kO hT hC ?_
 iterate 5 refine kF hC rfl ?_
 iterate 2 refine kO hT hC ?_
 iterate 5 refine kF hC rfl ?_
 iterate 2 refine kO hT hC ?_
 iterate 5 refine kF hC rfl ?_
 iterate 2 refine kO hT hC ?_
 iterate 5 refine kF hC rfl ?_
 iterate 2 refine kO hT hC ?_
 exact Vc.nil kM
 iterate 5 refine kF hC b1 ?_
 refine kP hC false b1 ?_
 refine kO hT hC ?_
 iterate 5 refine kF hC rfl ?_
 iterate 2 refine kO hT hC ?_
 iterate 5 refine kF hC rfl ?_
 iterate 2 refine kO hT hC ?_
 iterate 5 refine kF hC rfl ?_
 iterate 2 refine kO hT hC ?_
 iterate 5 refine kF hC rfl ?_
 iterate 2 refine kO hT hC ?_
 iterate 5 refine kF hC rfl ?_
 iterate 2 refine kO hT hC ?_
 iterate 5 refine kF hC rfl ?_
 iterate 2 refine kO hT hC ?_
 iterate 5 refine kF hC rfl ?_
 iterate 2 refine kO hT hC ?_
 exact Vc.nil kM
 exact Xah kR
def Xr0 (r : Bool) : AV := .sv (.bool r)
def Xrz (r : Bool) : Xa1 := []
theorem Yfe {p0 p1 r} (h : Xkj p0 p1 = some r) : AC Tryz.prog 31 [.sv (Xbj.sv p0), .sv (Xbj.sv p1)] [] (Xr0 r) (Xrz r) := by
 refine Xae hT Tryz.func31 rfl fun C hC => ?_
 unfold Xkj at h
 refine Xab ?_
 refine kO hT hC ?_
 refine Vc.nil (Xap (Xab ?_))
 iterate 5 refine kO hT hC ?_
 refine Vc.nil ?_
 refine kS h ?_ ?_ <;> intro b1 h
 refine kt b1 (Xab ?_)
 refine kO hT hC ?_
 exact Vc.nil (Xah (Xar kR))
 refine kf b1 (Xag (Xaf (Xap (Xab ?_))))
 refine kO hT hC ?_
 refine Vc.nil ?_
 refine kL [0,1,5] [] [_,_,_] [] ?_
 obtain ⟨o5, hl, h⟩ := Xa8 h
 refine Xgn (fun v2 => ([(5, .sv (.int .i64 v2))], [])) (fun v4 => ([(0, .any), (1, .any), (5, .any)], [])) (fun r => Xrj C T Tryz.f31.results.toList (Xr0 r) (Xrz r)) hl ?_ ?_ ?_ ?_
 apply Xdk hC []
 exact co
 rfl
 decide
 rfl
 intro v2 s hs
 have h := hs
 unfold Xgk at h
 refine Xap (Xab ?_)
 iterate 4 refine kO hT hC ?_
 refine Vc.nil ?_
 refine kS h ?_ ?_ <;> intro b6 h
 refine kt b6 (Xag (Xaf (Xap (Xak ?_))))
 refine Xby hm ?_
 iterate 2 refine kO hT hC ?_
 refine kQ hT hC h fun h => ?_
 iterate 3 refine kO hT hC ?_
 refine kQ hT hC h fun h => ?_
 iterate 2 refine kO hT hC ?_
 refine kD ?_
 refine kS h ?_ ?_ <;> intro b7 h
 refine kt b7 (Xab ?_)
 refine kO hT hC ?_
 refine Vc.nil (Xah (Xfa (Xar ?_)))
 obtain rfl := kj h
 refine Xsj (Xsi ?_)
 exact Xbw (Xj2.refl _) rfl trivial
 refine kf b7 (Xag (Xam (Xaf (Xac ?_))))
 iterate 3 refine kO hT hC ?_
 exact Vc.nil kG
 exact kf b6 (Xan (Xat kb))
 intro v4 e
 subst e
 refine Xaf (Xab ?_)
 refine kO hT hC ?_
 exact Vc.nil (Xah kR)
 intro r' σ' e hE
 subst e
 obtain rfl := kj h
 refine Xar ?_
 exact hE
def Xte (r : Bool) : AV := .sv (.bool r)
def Xtd (r : Bool) : Xa1 := []
theorem Yig {p0 r} (h : Xp4 p0 = some r) : AC Tryz.prog 7 [.sv (.ints .u8 p0)] [] (Xte r) (Xtd r) := by
 refine Xae hT Tryz.func7 rfl fun C hC => ?_
 unfold Xp4 at h
 refine Xab ?_
 refine kO hT hC ?_
 refine Vc.nil (Xap (Xab ?_))
 refine kO hT hC ?_
 refine kC hC [] Tryz.call8 h (fun _ => Yyg) fun q1 h => ?_
 refine Vc.nil ?_
 refine kS h ?_ ?_ <;> intro b1 h
 refine kt b1 (Xab ?_)
 refine kO hT hC ?_
 exact Vc.nil (Xah (Xar kR))
 refine kf b1 (Xag (Xaf (Xab ?_)))
 refine kO hT hC ?_
 refine kC hC [(16, 528), (17, 529), (18, 530), (19, 531)] Tryz.call20 h (fun _ => Xtm) fun q2 h => ?_
 iterate 8 refine kO hT hC ?_
 refine kN ?_
 refine kO hT hC ?_
 refine kC hC [(16, 624), (17, 625), (18, 626), (19, 627)] Tryz.call20 h (fun _ => Xtm) fun q3 h => ?_
 iterate 8 refine kO hT hC ?_
 refine Vc.nil (Xap (Xab ?_))
 refine kO hT hC ?_
 refine Vc.nil ?_
 refine kL [3,4,5,6,9] [48,96,528,529,530,531,624,625] [_,_,_,_,_] [_,_,_,_,_,_,_,_] ?_
 obtain ⟨o23, hl, h⟩ := Xa8 h
 refine Xgn (fun v10 => ([(9, .sv (.int .i64 v10.1))], [(48, some (.box [.sv (.int .i64 v10.2.1), .sv (.int .i64 v10.2.2.1), .own 528, .own 529, .sv (.int .i64 v10.2.2.2.1), .sv (.bool v10.2.2.2.2.1), .sv (.bool v10.2.2.2.2.2.1), .sv (.bool v10.2.2.2.2.2.2.1), .sv (.int .i64 v10.2.2.2.2.2.2.2.1), .sv (.int .i64 v10.2.2.2.2.2.2.2.2.1), .sv (.int .i64 v10.2.2.2.2.2.2.2.2.2.1), .sv (.int .i64 v10.2.2.2.2.2.2.2.2.2.2.1), .sv (.int .i64 v10.2.2.2.2.2.2.2.2.2.2.2.1), .sv (.int .i64 v10.2.2.2.2.2.2.2.2.2.2.2.2.1), .sv (.int .i64 v10.2.2.2.2.2.2.2.2.2.2.2.2.2.1), .sv (.bool v10.2.2.2.2.2.2.2.2.2.2.2.2.2.2.1), .sv (.int .i64 v10.2.2.2.2.2.2.2.2.2.2.2.2.2.2.2.1), .sv (.int .i64 v10.2.2.2.2.2.2.2.2.2.2.2.2.2.2.2.2.1), .sv (.str v10.2.2.2.2.2.2.2.2.2.2.2.2.2.2.2.2.2.1)])), (96, some (.box [.sv (.int .i64 v10.2.2.2.2.2.2.2.2.2.2.2.2.2.2.2.2.2.2.1), .sv (.int .i64 v10.2.2.2.2.2.2.2.2.2.2.2.2.2.2.2.2.2.2.2.1), .own 624, .own 625, .sv (.int .i64 v10.2.2.2.2.2.2.2.2.2.2.2.2.2.2.2.2.2.2.2.2.1), .sv (.bool v10.2.2.2.2.2.2.2.2.2.2.2.2.2.2.2.2.2.2.2.2.2.1), .sv (.bool v10.2.2.2.2.2.2.2.2.2.2.2.2.2.2.2.2.2.2.2.2.2.2.1), .sv (.bool v10.2.2.2.2.2.2.2.2.2.2.2.2.2.2.2.2.2.2.2.2.2.2.2.1), .sv (.int .i64 v10.2.2.2.2.2.2.2.2.2.2.2.2.2.2.2.2.2.2.2.2.2.2.2.2.1), .sv (.int .i64 v10.2.2.2.2.2.2.2.2.2.2.2.2.2.2.2.2.2.2.2.2.2.2.2.2.2.1), .sv (.int .i64 v10.2.2.2.2.2.2.2.2.2.2.2.2.2.2.2.2.2.2.2.2.2.2.2.2.2.2.1), .sv (.int .i64 v10.2.2.2.2.2.2.2.2.2.2.2.2.2.2.2.2.2.2.2.2.2.2.2.2.2.2.2.1), .sv (.int .i64 v10.2.2.2.2.2.2.2.2.2.2.2.2.2.2.2.2.2.2.2.2.2.2.2.2.2.2.2.2.1), .sv (.int .i64 v10.2.2.2.2.2.2.2.2.2.2.2.2.2.2.2.2.2.2.2.2.2.2.2.2.2.2.2.2.2.1), .sv (.int .i64 v10.2.2.2.2.2.2.2.2.2.2.2.2.2.2.2.2.2.2.2.2.2.2.2.2.2.2.2.2.2.2.1), .sv (.bool v10.2.2.2.2.2.2.2.2.2.2.2.2.2.2.2.2.2.2.2.2.2.2.2.2.2.2.2.2.2.2.2.1), .sv (.int .i64 v10.2.2.2.2.2.2.2.2.2.2.2.2.2.2.2.2.2.2.2.2.2.2.2.2.2.2.2.2.2.2.2.2.1), .sv (.int .i64 v10.2.2.2.2.2.2.2.2.2.2.2.2.2.2.2.2.2.2.2.2.2.2.2.2.2.2.2.2.2.2.2.2.2.1), .sv (.str v10.2.2.2.2.2.2.2.2.2.2.2.2.2.2.2.2.2.2.2.2.2.2.2.2.2.2.2.2.2.2.2.2.2.2.1)])), (528, some (.ints .i64 v10.2.2.2.2.2.2.2.2.2.2.2.2.2.2.2.2.2.2.2.2.2.2.2.2.2.2.2.2.2.2.2.2.2.2.2.1)), (529, some (.ints .i64 v10.2.2.2.2.2.2.2.2.2.2.2.2.2.2.2.2.2.2.2.2.2.2.2.2.2.2.2.2.2.2.2.2.2.2.2.2.1)), (624, some (.ints .i64 v10.2.2.2.2.2.2.2.2.2.2.2.2.2.2.2.2.2.2.2.2.2.2.2.2.2.2.2.2.2.2.2.2.2.2.2.2.2.1)), (625, some (.ints .i64 v10.2.2.2.2.2.2.2.2.2.2.2.2.2.2.2.2.2.2.2.2.2.2.2.2.2.2.2.2.2.2.2.2.2.2.2.2.2.2))])) (fun v17 => ([(4, .any), (5, .any), (6, .any), (9, .any)], [(48, some (.box [.sv (.int .i64 v17.1), .sv (.int .i64 v17.2.1), .own 528, .own 529, .sv (.int .i64 v17.2.2.1), .sv (.bool v17.2.2.2.1), .sv (.bool v17.2.2.2.2.1), .sv (.bool v17.2.2.2.2.2.1), .sv (.int .i64 v17.2.2.2.2.2.2.1), .sv (.int .i64 v17.2.2.2.2.2.2.2.1), .sv (.int .i64 v17.2.2.2.2.2.2.2.2.1), .sv (.int .i64 v17.2.2.2.2.2.2.2.2.2.1), .sv (.int .i64 v17.2.2.2.2.2.2.2.2.2.2.1), .sv (.int .i64 v17.2.2.2.2.2.2.2.2.2.2.2.1), .sv (.int .i64 v17.2.2.2.2.2.2.2.2.2.2.2.2.1), .sv (.bool v17.2.2.2.2.2.2.2.2.2.2.2.2.2.1), .sv (.int .i64 v17.2.2.2.2.2.2.2.2.2.2.2.2.2.2.1), .sv (.int .i64 v17.2.2.2.2.2.2.2.2.2.2.2.2.2.2.2.1), .sv (.str v17.2.2.2.2.2.2.2.2.2.2.2.2.2.2.2.2.1)])), (528, some (.ints .i64 v17.2.2.2.2.2.2.2.2.2.2.2.2.2.2.2.2.2.1)), (529, some (.ints .i64 v17.2.2.2.2.2.2.2.2.2.2.2.2.2.2.2.2.2.2)), (96, none), (530, none), (531, none), (624, none), (625, none)])) (fun r => Xrj C T Tryz.f7.results.toList (Xte r) (Xtd r)) hl ?_ ?_ ?_ ?_
 try dsimp only
 apply Xdk hC []
 exact co
 rfl
 decide
 rfl
 intro v10 s hs
 have h := hs
 unfold Xhj at h
 refine Xap (Xab ?_)
 iterate 4 refine kO hT hC ?_
 refine Vc.nil ?_
 refine kS h ?_ ?_ <;> intro b10 h
 refine kt b10 (Xag (Xaf (Xap (Xak ?_))))
 refine Xby hm ?_
 iterate 3 refine kO hT hC ?_
 iterate 2 refine kQ hT hC h fun h => ?_
 iterate 2 refine kO hT hC ?_
 iterate 2 refine kQ hT hC h fun h => ?_
 obtain ⟨q18, hq, h⟩ := Xa8 h
 refine Yxr hC [(16, 944), (17, 945), (18, 946)] rfl rfl rfl rfl Tryz.call22 (Ybx hq) rfl (by decide) trivial rfl (.inr ⟨rfl, ⟨trivial, trivial, fun _ => rfl, trivial⟩⟩) rfl ?_
 iterate 8 refine kO hT hC ?_
 refine kD ?_
 refine Xby hm ?_
 iterate 3 refine kO hT hC ?_
 iterate 2 refine kQ hT hC h fun h => ?_
 iterate 2 refine kO hT hC ?_
 iterate 2 refine kQ hT hC h fun h => ?_
 obtain ⟨q19, hq, h⟩ := Xa8 h
 refine Yxr hC [(16, 1168), (17, 1169), (18, 1170)] rfl rfl rfl rfl Tryz.call29 (Ydo hq) rfl (by decide) trivial rfl (.inr ⟨rfl, ⟨trivial, trivial, fun _ => rfl, trivial⟩⟩) rfl ?_
 iterate 8 refine kO hT hC ?_
 refine kD (Xap ?_)
 refine kL [3,4,5,6,9,10,11,12,13,14] [48,96,160,208,528,529,530,531,624,625,944,945,946,1168,1169,1170] [_,_,_,_,_,_,_,_,_,_] [_,_,_,_,_,_,_,_,_,_,_,_,_,_,_,_] ?_
 refine kA h (fun v20 => ([(90, .sv (.bool v20)), (11, .any), (12, .any), (14, .any)], [(946, none), (1170, none)])) (fun v20 h => ?_) fun v20 h => ?_
 refine Xac ?_
 iterate 3 refine kO hT hC ?_
 refine kS h ?_ ?_ <;> intro b11 h
 iterate 2 refine kI hT hC (kn b11) ?_
 refine kE hC (kn b11) [] Tryz.call30 h (fun _ => Ycm) fun q21 h => ?_
 refine kI hT hC (kn b11) ?_
 refine kP hC false (kn b11) ?_
 refine kO hT hC ?_
 refine kS h ?_ ?_ <;> intro b12 h
 iterate 2 refine kI hT hC (kn b12) ?_
 refine kE hC (kn b12) [] Tryz.call31 h (fun _ => Yfe) fun q22 h => ?_
 refine kI hT hC (kn b12) ?_
 refine kP hC false (kn b12) ?_
 exact Vc.nil kM
 iterate 4 refine kF hC (kn b12) ?_
 refine kP hC true (kn b12) ?_
 exact Vc.nil kM
 iterate 4 refine kF hC (kn b11) ?_
 refine kP hC true (kn b11) ?_
 refine kO hT hC ?_
 iterate 4 refine kF hC rfl ?_
 refine kO hT hC ?_
 exact Vc.nil kM
 refine kS h ?_ ?_ <;> intro b13 h
 refine kt b13 (Xab ?_)
 refine kO hT hC ?_
 refine Vc.nil (Xah (Xar (Xfa (Xar ?_))))
 obtain rfl := kj h
 refine Xsj (Xsi ?_)
 exact Xbw (Xj2.refl _) rfl trivial
 refine kf b13 (Xag (Xaf (Xab ?_)))
 iterate 2 refine kO hT hC ?_
 refine Vc.nil (Xac ?_)
 iterate 2 refine kO hT hC ?_
 refine Vc.nil (Xam (Xaf (Xac ?_)))
 iterate 3 refine kO hT hC ?_
 refine Vc.nil ?_
 obtain rfl := kj h
 exact Xx7 (kW hC [(528, 944), (529, 945), (624, 1168), (625, 1169)])
 exact kf b10 (Xan (Xat kb))
 intro v17 e
 subst e
 refine Xaf (Xab ?_)
 refine kO hT hC ?_
 refine kC hC [(16, 1504)] Tryz.call32 h (fun _ => Xrr) fun q24 h => ?_
 refine kO hT hC ?_
 refine Vc.nil (Xap (Xab ?_))
 iterate 3 refine kO hT hC ?_
 refine Vc.nil ?_
 refine kS h ?_ ?_ <;> intro b14 h
 refine kt b14 (Xab ?_)
 refine kO hT hC ?_
 exact Vc.nil (Xah (Xar kR))
 refine kf b14 (Xag (Xaf (Xab ?_)))
 refine kO hT hC ?_
 iterate 2 refine kQ hT hC h fun h => ?_
 refine kC hC [] Tryz.call33 h (fun _ => Xyr) fun q25 h => ?_
 iterate 7 refine kO hT hC ?_
 refine kN ?_
 refine kO hT hC ?_
 refine kC hC [(16, 1728), (17, 1729)] Tryz.call34 h (fun _ => Yl5) fun q26 h => ?_
 iterate 8 refine kO hT hC ?_
 refine kN ?_
 refine kO hT hC ?_
 iterate 2 refine kQ hT hC h fun h => ?_
 refine kC hC [] Tryz.call33 h (fun _ => Xyr) fun q27 h => ?_
 iterate 7 refine kO hT hC ?_
 refine kN ?_
 refine kO hT hC ?_
 refine kC hC [] Tryz.call35 h (fun _ => Yl4) fun q28 h => ?_
 iterate 8 refine kO hT hC ?_
 refine Vc.nil ?_
 refine kL [3,19,20,22,25,26,28] [48,320,416,528,529,1728,1729] [_,_,_,_,_,_,_] [_,_,_,_,_,_,_] ?_
 refine kA h (fun v29 => ([(2, .sv (.bool v29)), (3, .any), (19, .any), (20, .any), (22, .any), (25, .any), (26, .any), (28, .any)], [(48, none), (320, none), (416, none), (528, none), (529, none), (1728, none), (1729, none)])) (fun v29 h => ?_) fun v29 h => ?_
 refine Xac ?_
 iterate 2 refine kO hT hC ?_
 refine kS h ?_ ?_ <;> intro b15 h
 refine kI hT hC b15 ?_
 refine kP hC true b15 ?_
 refine kO hT hC ?_
 refine kS h ?_ ?_ <;> intro b16 h
 refine kI hT hC b16 ?_
 refine kP hC true b16 ?_
 refine kO hT hC ?_
 refine kS h ?_ ?_ <;> intro b17 h
 refine kI hT hC b17 ?_
 refine kP hC true b17 ?_
 refine kO hT hC ?_
 refine kS h ?_ ?_ <;> intro b18 h
 iterate 3 refine kI hT hC b18 ?_
 refine kE hC b18 [] Tryz.call36 h (fun _ => Xwh) fun q30 h => ?_
 refine kP hC true b18 ?_
 refine kO hT hC ?_
 refine kS h ?_ ?_ <;> intro b19 h
 iterate 3 refine kI hT hC b19 ?_
 refine Yvb hC rfl rfl rfl rfl b19 rfl rfl rfl Zf9 rfl rfl ?_
 refine kP hC true b19 ?_
 refine kO hT hC ?_
 exact Vc.nil kM
 iterate 4 refine kF hC b19 ?_
 refine kP hC false b19 ?_
 refine kO hT hC ?_
 exact Vc.nil kM
 iterate 4 refine kF hC b18 ?_
 refine kP hC false b18 ?_
 refine kO hT hC ?_
 iterate 4 refine kF hC rfl ?_
 iterate 2 refine kO hT hC ?_
 exact Vc.nil kM
 refine kF hC b17 ?_
 refine kP hC false b17 ?_
 refine kO hT hC ?_
 iterate 4 refine kF hC rfl ?_
 iterate 2 refine kO hT hC ?_
 iterate 4 refine kF hC rfl ?_
 iterate 2 refine kO hT hC ?_
 exact Vc.nil kM
 refine kF hC b16 ?_
 refine kP hC false b16 ?_
 refine kO hT hC ?_
 refine kF hC rfl ?_
 iterate 2 refine kO hT hC ?_
 iterate 4 refine kF hC rfl ?_
 iterate 2 refine kO hT hC ?_
 iterate 4 refine kF hC rfl ?_
 iterate 2 refine kO hT hC ?_
 exact Vc.nil kM
 refine kF hC b15 ?_
 refine kP hC false b15 ?_
 refine kO hT hC ?_
 refine kF hC rfl ?_
 iterate 2 refine kO hT hC ?_
 refine kF hC rfl ?_
 iterate 2 refine kO hT hC ?_
 iterate 4 refine kF hC rfl ?_
 iterate 2 refine kO hT hC ?_
 iterate 4 refine kF hC rfl ?_
 iterate 2 refine kO hT hC ?_
 exact Vc.nil kM
 exact Xah kR
 intro r' σ' e hE
 subst e
 obtain rfl := kj h
 refine Xar ?_
 exact hE
end
end Go.Proofs.YtnhflbeahbcklaaGreat.A
