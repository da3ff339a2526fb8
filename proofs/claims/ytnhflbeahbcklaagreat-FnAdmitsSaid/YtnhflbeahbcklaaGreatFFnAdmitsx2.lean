/- Contracts of the functions that the law FnAdmits reaches, part 2: each comes to what its pure function tells. Written by a program of this session. Conditions: as each statement tells. -/
import Derived.Test.YtnhflbeahbcklaaGreatFFnAdmitsx1
namespace Go.Proofs.YtnhflbeahbcklaaGreat.A
open Go Go.Proofs Go.Proofs.YtnhflbeahbcklaaGreatAL Go.RowKit
set_option linter.unusedVariables false
set_option linter.unusedSimpArgs false
set_option maxRecDepth 100000
set_option maxHeartbeats 2000000
noncomputable section
def Xr4 (r : Bool) : AV := .sv (.bool r)
def Xr3 (r : Bool) : Xa9 := []
theorem Yfw {p0 r} (h : Xo5 p0 = some r) : AC Tryz.prog 5 [.sv (.ints .u8 p0)] [] (Xr4 r) (Xr3 r) := by
 refine Xae hT Tryz.func5 rfl fun C hC => ?_
 unfold Xo5 at h
 refine Xac ?_
 refine kO hT hC ?_
 refine Vc.nil (Xat (Xac ?_))
 refine kO hT hC ?_
 refine kC hC [] Tryz.call8 h (fun _ => Ysj) fun q1 h => ?_
 refine Vc.nil ?_
 refine kS h ?_ ?_ <;> intro b1 h
 refine kt b1 (Xac ?_)
 refine kO hT hC ?_
 exact Vc.nil (Xah (Xav kR))
 refine kf b1 (Xag (Xaf (Xac ?_)))
 refine kO hT hC ?_
 refine kC hC [(16, 352), (17, 353), (18, 354), (19, 355)] Tryz.call20 h (fun _ => Yc2) fun q2 h => ?_
 iterate 8 refine kO hT hC ?_
 refine kN ?_
 iterate 3 refine kO hT hC ?_
 refine kN ?_
 iterate 3 refine kO hT hC ?_
 refine kN ?_
 iterate 4 refine kO hT hC ?_
 refine kN ?_
 refine kO hT hC ?_
 refine kC hC [(16, 512)] Tryz.call10 h (fun _ => Ya8) fun q3 h => ?_
 iterate 3 refine kQ hT hC h fun h => ?_
 iterate 2 refine kO hT hC ?_
 refine kN ?_
 iterate 3 refine kO hT hC ?_
 refine Vc.nil (Xat (Xac ?_))
 refine kO hT hC ?_
 refine Vc.nil ?_
 refine kL [3,4,5,6,7,8,9] [48,96,112,128,352,353,354,355] [_,_,_,_,_,_,_] [_,_,_,_,_,_,_,_] ?_
 obtain ⟨o23, hl, h⟩ := Xbd h
 refine Xlr (fun v10 => ([(9, .sv (.int .i64 v10.1))], [(48, some (.box [.sv (.int .i64 v10.2.1), .sv (.int .i64 v10.2.2.1), .own 352, .own 353, .sv (.int .i64 v10.2.2.2.1), .sv (.bool v10.2.2.2.2.1), .sv (.bool v10.2.2.2.2.2.1), .sv (.bool v10.2.2.2.2.2.2.1), .sv (.int .i64 v10.2.2.2.2.2.2.2.1), .sv (.int .i64 v10.2.2.2.2.2.2.2.2.1), .sv (.int .i64 v10.2.2.2.2.2.2.2.2.2.1), .sv (.int .i64 v10.2.2.2.2.2.2.2.2.2.2.1), .sv (.int .i64 v10.2.2.2.2.2.2.2.2.2.2.2.1), .sv (.int .i64 v10.2.2.2.2.2.2.2.2.2.2.2.2.1), .sv (.int .i64 v10.2.2.2.2.2.2.2.2.2.2.2.2.2.1), .sv (.bool v10.2.2.2.2.2.2.2.2.2.2.2.2.2.2.1), .sv (.int .i64 v10.2.2.2.2.2.2.2.2.2.2.2.2.2.2.2.1), .sv (.int .i64 v10.2.2.2.2.2.2.2.2.2.2.2.2.2.2.2.2.1), .sv (.str v10.2.2.2.2.2.2.2.2.2.2.2.2.2.2.2.2.2.1)])), (96, some (.box [.sv (.bool v10.2.2.2.2.2.2.2.2.2.2.2.2.2.2.2.2.2.2.1), .sv (.bool v10.2.2.2.2.2.2.2.2.2.2.2.2.2.2.2.2.2.2.2.1), .sv (.int .i64 v10.2.2.2.2.2.2.2.2.2.2.2.2.2.2.2.2.2.2.2.2.1), .sv (.int .i64 v10.2.2.2.2.2.2.2.2.2.2.2.2.2.2.2.2.2.2.2.2.2.1), .own 2473, .own 2474, .sv (.int .i64 v10.2.2.2.2.2.2.2.2.2.2.2.2.2.2.2.2.2.2.2.2.2.2.1), .sv (.bool v10.2.2.2.2.2.2.2.2.2.2.2.2.2.2.2.2.2.2.2.2.2.2.2.1), .sv (.bool v10.2.2.2.2.2.2.2.2.2.2.2.2.2.2.2.2.2.2.2.2.2.2.2.2.1), .sv (.bool v10.2.2.2.2.2.2.2.2.2.2.2.2.2.2.2.2.2.2.2.2.2.2.2.2.2.1), .sv (.int .i64 v10.2.2.2.2.2.2.2.2.2.2.2.2.2.2.2.2.2.2.2.2.2.2.2.2.2.2.1), .sv (.int .i64 v10.2.2.2.2.2.2.2.2.2.2.2.2.2.2.2.2.2.2.2.2.2.2.2.2.2.2.2.1), .sv (.int .i64 v10.2.2.2.2.2.2.2.2.2.2.2.2.2.2.2.2.2.2.2.2.2.2.2.2.2.2.2.2.1)])), (128, some (.box [.sv (.int .i64 v10.2.2.2.2.2.2.2.2.2.2.2.2.2.2.2.2.2.2.2.2.2.2.2.2.2.2.2.2.2.1), .sv (.int .i64 v10.2.2.2.2.2.2.2.2.2.2.2.2.2.2.2.2.2.2.2.2.2.2.2.2.2.2.2.2.2.2.1), .sv (.str v10.2.2.2.2.2.2.2.2.2.2.2.2.2.2.2.2.2.2.2.2.2.2.2.2.2.2.2.2.2.2.2.1)])), (352, some (.ints .i64 v10.2.2.2.2.2.2.2.2.2.2.2.2.2.2.2.2.2.2.2.2.2.2.2.2.2.2.2.2.2.2.2.2.1)), (353, some (.ints .i64 v10.2.2.2.2.2.2.2.2.2.2.2.2.2.2.2.2.2.2.2.2.2.2.2.2.2.2.2.2.2.2.2.2.2.1)), (2473, some (.ints .i64 v10.2.2.2.2.2.2.2.2.2.2.2.2.2.2.2.2.2.2.2.2.2.2.2.2.2.2.2.2.2.2.2.2.2.2.1)), (2474, some (.ints .i64 v10.2.2.2.2.2.2.2.2.2.2.2.2.2.2.2.2.2.2.2.2.2.2.2.2.2.2.2.2.2.2.2.2.2.2.2))])) (fun v17 => ([(3, .any), (5, .any), (7, .any), (8, .any), (9, .any)], [(96, some (.box [.sv (.bool v17.1), .sv (.bool v17.2.1), .sv (.int .i64 v17.2.2.1), .sv (.int .i64 v17.2.2.2.1), .own 2477, .own 2478, .sv (.int .i64 v17.2.2.2.2.1), .sv (.bool v17.2.2.2.2.2.1), .sv (.bool v17.2.2.2.2.2.2.1), .sv (.bool v17.2.2.2.2.2.2.2.1), .sv (.int .i64 v17.2.2.2.2.2.2.2.2.1), .sv (.int .i64 v17.2.2.2.2.2.2.2.2.2.1), .sv (.int .i64 v17.2.2.2.2.2.2.2.2.2.2.1)])), (2477, some (.ints .i64 v17.2.2.2.2.2.2.2.2.2.2.2.1)), (2478, some (.ints .i64 v17.2.2.2.2.2.2.2.2.2.2.2.2)), (48, none), (112, none), (128, none), (352, none), (353, none), (355, none)])) (fun r => Xv6 C T Tryz.f5.results.toList (Xr4 r) (Xr3 r)) hl ?_ ?_ ?_ ?_
 refine Xof hC 96 4 2479 (.ints .i64 []) rfl rfl rfl rfl rfl trivial ?_
 refine Xof hC 96 5 2480 (.ints .i64 []) rfl rfl rfl rfl rfl trivial ?_
 try dsimp only
 apply Xe7 hC [(2473, 2479), (2474, 2480)]
 exact co
 rfl
 decide
 rfl
 intro v10 s hs
 have h := hs
 unfold Xex at h
 refine Xat (Xac ?_)
 iterate 4 refine kO hT hC ?_
 refine Vc.nil ?_
 refine kS h ?_ ?_ <;> intro b24 h
 refine kt b24 (Xag (Xaf (Xat (Xap ?_))))
 refine Xb9 hm ?_
 iterate 3 refine kO hT hC ?_
 iterate 2 refine kQ hT hC h fun h => ?_
 iterate 2 refine kO hT hC ?_
 iterate 2 refine kQ hT hC h fun h => ?_
 obtain ⟨q18, hq, h⟩ := Xbd h
 refine Yuo hC [(16, 864), (17, 865), (18, 866)] rfl rfl rfl rfl Tryz.call22 (Xz4 hq) rfl (by decide) trivial rfl (.inr ⟨rfl, ⟨trivial, trivial, fun _ => rfl, trivial⟩⟩) rfl ?_
 iterate 8 refine kO hT hC ?_
 refine kD ?_
 refine Xb9 hm ?_
 iterate 3 refine kO hT hC ?_
 obtain ⟨hq, h⟩ := Xaw h
 refine Ymi hT hC rfl rfl rfl rfl ⟨fun _ _ => rfl, by rw [Xim]; exact hq⟩ ?_
 rw [Xim]
 refine kO hT hC ?_
 obtain ⟨q19, hq, h⟩ := Xbd h
 refine Yuo hC [(16, 1024), (17, 1025)] rfl rfl rfl rfl Tryz.call25 (Ybw hq) rfl (by decide) trivial rfl (.inr ⟨rfl, ⟨trivial, trivial, trivial⟩⟩) rfl ?_
 iterate 9 refine kO hT hC ?_
 refine kD ?_
 refine Xb9 hm ?_
 iterate 3 refine kO hT hC ?_
 refine kQ hT hC h fun h => ?_
 refine kO hT hC ?_
 refine kQ hT hC h fun h => ?_
 iterate 2 refine kO hT hC ?_
 refine kQ hT hC h fun h => ?_
 refine kO hT hC ?_
 refine kQ hT hC h fun h => ?_
 iterate 3 refine kO hT hC ?_
 refine kC hC [] Tryz.call26 h (fun _ => Yb8) fun q20 h => ?_
 iterate 6 refine kO hT hC ?_
 refine kD (Xat ?_)
 refine kL [3,4,5,6,7,8,9,10,11,12,13,14,15,16,17] [48,96,112,128,160,208,240,256,352,353,354,355,864,865,866,1024,1025,2473,2474] [_,_,_,_,_,_,_,_,_,_,_,_,_,_,_] [_,_,_,_,_,_,_,_,_,_,_,_,_,_,_,_,_,_,_] ?_
 refine kA h (fun v21 => ([(140, .sv (.bool v21)), (11, .any), (12, .any), (14, .any), (15, .any), (17, .any)], [(240, none), (866, none)])) (fun v21 h => ?_) fun v21 h => ?_
 refine Xad ?_
 iterate 3 refine kO hT hC ?_
 refine kS h ?_ ?_ <;> intro b25 h
 iterate 2 refine kI hT hC (kn b25) ?_
 refine kP hC false (kn b25) ?_
 refine kO hT hC ?_
 refine kS h ?_ ?_ <;> intro b26 h
 iterate 2 refine kF hC b26 ?_
 refine kP hC true b26 ?_
 refine kO hT hC ?_
 iterate 4 refine kF hC rfl ?_
 iterate 2 refine kO hT hC ?_
 iterate 3 refine kF hC rfl ?_
 iterate 2 refine kO hT hC ?_
 iterate 5 refine kF hC rfl ?_
 iterate 2 refine kO hT hC ?_
 iterate 3 refine kF hC rfl ?_
 iterate 2 refine kO hT hC ?_
 iterate 5 refine kF hC rfl ?_
 iterate 2 refine kO hT hC ?_
 iterate 5 refine kF hC rfl ?_
 iterate 2 refine kO hT hC ?_
 iterate 6 refine kF hC rfl ?_
 refine kO hT hC ?_
 exact Vc.nil kM
 iterate 2 refine kI hT hC b26 ?_
 refine kP hC false b26 ?_
 refine kO hT hC ?_
 refine kS h ?_ ?_ <;> intro b27 h
 iterate 3 refine kI hT hC (kn b27) ?_
 refine Yx8 hC rfl rfl rfl rfl (kn b27) rfl rfl rfl Zaf rfl rfl ?_
 refine kP hC false (kn b27) ?_
 refine kO hT hC ?_
 refine kS h ?_ ?_ <;> intro b28 h
 iterate 3 refine kF hC b28 ?_
 refine kP hC true b28 ?_
 refine kO hT hC ?_
 iterate 5 refine kF hC rfl ?_
 iterate 2 refine kO hT hC ?_
 iterate 3 refine kF hC rfl ?_
 iterate 2 refine kO hT hC ?_
 iterate 5 refine kF hC rfl ?_
 iterate 2 refine kO hT hC ?_
 iterate 5 refine kF hC rfl ?_
 iterate 2 refine kO hT hC ?_
 iterate 6 refine kF hC rfl ?_
 refine kO hT hC ?_
 exact Vc.nil kM
 iterate 3 refine kI hT hC b28 ?_
 refine kP hC false b28 ?_
 refine kO hT hC ?_
 refine kS h ?_ ?_ <;> intro b29 h
 iterate 5 refine kI hT hC (kn b29) ?_
 refine kP hC false (kn b29) ?_
 refine kO hT hC ?_
 refine kS h ?_ ?_ <;> intro b30 h
 iterate 3 refine kF hC b30 ?_
 refine kP hC true b30 ?_
 refine kO hT hC ?_
 iterate 5 refine kF hC rfl ?_
 iterate 2 refine kO hT hC ?_
 iterate 5 refine kF hC rfl ?_
 iterate 2 refine kO hT hC ?_
 iterate 6 refine kF hC rfl ?_
 refine kO hT hC ?_
 exact Vc.nil kM
 iterate 3 refine kI hT hC b30 ?_
 refine kP hC false b30 ?_
 refine kO hT hC ?_
 refine kS h ?_ ?_ <;> intro b31 h
 iterate 5 refine kF hC b31 ?_
 refine kP hC true b31 ?_
 refine kO hT hC ?_
 iterate 5 refine kF hC rfl ?_
 iterate 2 refine kO hT hC ?_
 iterate 6 refine kF hC rfl ?_
 refine kO hT hC ?_
 exact Vc.nil kM
 iterate 5 refine kI hT hC b31 ?_
 refine kP hC false b31 ?_
 refine kO hT hC ?_
 refine kS h ?_ ?_ <;> intro b32 h
 iterate 5 refine kF hC b32 ?_
 refine kP hC true b32 ?_
 refine kO hT hC ?_
 iterate 6 refine kF hC rfl ?_
 refine kO hT hC ?_
 exact Vc.nil kM
 iterate 3 refine kI hT hC b32 ?_
 refine kE hC b32 [] Tryz.call27 h (fun _ => Ybt) fun q22 h => ?_
 refine kI hT hC b32 ?_
 refine kP hC false b32 ?_
 refine kO hT hC ?_
 refine kS h ?_ ?_ <;> intro b33 h
 iterate 6 refine kI hT hC (kn b33) ?_
 refine kP hC false (kn b33) ?_
 exact Vc.nil kM
 iterate 6 refine kF hC (kn b33) ?_
 refine kP hC true (kn b33) ?_
 exact Vc.nil kM
 iterate 5 refine kF hC (kn b29) ?_
 refine kP hC true (kn b29) ?_
 refine kO hT hC ?_
 iterate 3 refine kF hC rfl ?_
 iterate 2 refine kO hT hC ?_
 iterate 5 refine kF hC rfl ?_
 iterate 2 refine kO hT hC ?_
 iterate 5 refine kF hC rfl ?_
 iterate 2 refine kO hT hC ?_
 iterate 6 refine kF hC rfl ?_
 refine kO hT hC ?_
 exact Vc.nil kM
 iterate 4 refine kF hC (kn b27) ?_
 refine kP hC true (kn b27) ?_
 refine kO hT hC ?_
 iterate 3 refine kF hC rfl ?_
 iterate 2 refine kO hT hC ?_
 iterate 5 refine kF hC rfl ?_
 iterate 2 refine kO hT hC ?_
 iterate 3 refine kF hC rfl ?_
 iterate 2 refine kO hT hC ?_
 iterate 5 refine kF hC rfl ?_
 iterate 2 refine kO hT hC ?_
 iterate 5 refine kF hC rfl ?_
 iterate 2 refine kO hT hC ?_
 iterate 6 refine kF hC rfl ?_
 refine kO hT hC ?_
 exact Vc.nil kM
 iterate 2 refine kF hC (kn b25) ?_
 refine kP hC true (kn b25) ?_
 refine kO hT hC ?_
 iterate 2 refine kF hC rfl ?_
 iterate 2 refine kO hT hC ?_
 iterate 4 refine kF hC rfl ?_
 iterate 2 refine kO hT hC ?_
 iterate 3 refine kF hC rfl ?_
 iterate 2 refine kO hT hC ?_
 iterate 5 refine kF hC rfl ?_
 iterate 2 refine kO hT hC ?_
 iterate 3 refine kF hC rfl ?_
 iterate 2 refine kO hT hC ?_
 iterate 5 refine kF hC rfl ?_
 iterate 2 refine kO hT hC ?_
 iterate 5 refine kF hC rfl ?_
 iterate 2 refine kO hT hC ?_
 iterate 6 refine kF hC rfl ?_
 refine kO hT hC ?_
 exact Vc.nil kM
 refine kS h ?_ ?_ <;> intro b34 h
 refine kt b34 (Xac ?_)
 refine kO hT hC ?_
 refine Vc.nil (Xah (Xav (Xho (Xav ?_))))
 obtain rfl := kj h
 refine Xyl (Xyj ?_)
 exact Xc0 (Xkc.refl _) rfl trivial
 refine kf b34 (Xag (Xaf (Xac ?_)))
 iterate 2 refine kO hT hC ?_
 refine kN ?_
 iterate 2 refine kO hT hC ?_
 refine Vc.nil (Xad ?_)
 iterate 2 refine kO hT hC ?_
 refine Vc.nil (Xaq (Xaf (Xad ?_)))
 iterate 3 refine kO hT hC ?_
 refine Vc.nil ?_
 obtain rfl := kj h
 exact Yjg (kW hC [(352, 864), (353, 865), (2473, 1024), (2474, 1025)])
 refine kf b24 (Xas (Xa0 ?_))
 obtain rfl := kj h
 exact Yt5 (Zak (kW hC [(2477, 2473), (2478, 2474)]))
 intro v17 e
 subst e
 refine Xaf ?_
 refine kL [4,6] [96,354,2477,2478] [_,_] [_,_,_,_] ?_
 refine kA h (fun v24 => ([(2, .sv (.bool v24)), (4, .any), (6, .any)], [(96, none), (354, none), (2477, none), (2478, none)])) (fun v24 h => ?_) fun v24 h => ?_
 refine Xad ?_
 refine kO hT hC ?_
 refine kC hC [] Tryz.call28 h (fun _ => Xk4) fun q25 h => ?_
 refine kO hT hC ?_
 refine kS h ?_ ?_ <;> intro b35 h
 iterate 5 refine kI hT hC b35 ?_
 refine kP hC true b35 ?_
 refine kO hT hC ?_
 exact Vc.nil kM
 iterate 5 refine kF hC b35 ?_
 refine kP hC false b35 ?_
 refine kO hT hC ?_
 exact Vc.nil kM
 exact Xah kR
 intro r' σ' e hE
 subst e
 obtain rfl := kj h
 refine Xav ?_
 exact hE
end
end Go.Proofs.YtnhflbeahbcklaaGreat.A
