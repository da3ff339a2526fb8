/- Contracts of the functions that the law FnStreams reaches, part 0: each comes to what its pure function tells. Written by a program of this session. Conditions: as each statement tells. -/
import Derived.Test.YtnhflbeahbcklabGreatBFnStreams
namespace Go.Proofs.YtnhflbeahbcklabGreat.A
open Go Go.Proofs Go.Proofs.YtnhflbeahbcklabGreatAL Go.RowKit
set_option linter.unusedVariables false
set_option linter.unusedSimpArgs false
set_option maxRecDepth 100000
set_option maxHeartbeats 2000000
noncomputable section
def Yoa (r : Bool) : AV := .sv (.bool r)
def Yn9 (r : Bool) : Xbl := []
theorem Yp2 {p0 r} (h : Yda p0 = some r) : AC Tryz.prog 7 [.sv (.ints .u8 p0)] [] (Yoa r) (Yn9 r) := by
 refine Xae hT Tryz.func7 rfl fun C hC => ?_
 unfold Yda at h
 refine Xad ?_
 refine kO hT hC ?_
 refine kN ?_
 iterate 4 refine kO hT hC ?_
 exact Vc.nil (Xah kR)
def Ygu (r : Xa6) : AV := .ptr 16 0
def Ygt (r : Xa6) : Xbl := [(16, .box [.sv (.ints .u8 r.b_), .sv (.int .i64 r.i_), .sv (.int .i64 r.h_)])]
theorem Yi3 {p0 r} (h : Xoo p0 = some r) : AC Tryz.prog 42 [.sv (.ints .u8 p0)] [] (Ygu r) (Ygt r) := by
 refine Xae hT Tryz.func42 rfl fun C hC => ?_
 unfold Xoo at h
 refine Xad ?_
 refine kO hT hC ?_
 refine kN ?_
 iterate 4 refine kO hT hC ?_
 refine Vc.nil (Xa2 (Xad ?_))
 refine kO hT hC ?_
 refine Vc.nil ?_
 refine kL [0,3,4] [] [_,_,_] [] ?_
 refine kX h (fun v3 => ([(3, .sv (.int .i64 v3.1)), (4, .sv (.int .i64 v3.2))], [])) (fun v6 => ([(3, .sv (.int .i64 v6)), (4, .any)], [])) (kW hC []) (fun v3 s h => ?_) fun v6 h => ?_
 unfold Xmo at h
 refine Xa2 ?_
 refine kL [0,3,4] [] [_,_,_] [] ?_
 refine kA h (fun v7 => ([(15, .sv (.bool v7))], [])) (fun v7 h => ?_) fun v7 h => ?_
 refine Xac ?_
 iterate 5 refine kO hT hC ?_
 refine kS h ?_ ?_ <;> intro b5 h
 iterate 2 refine kI hT hC b5 ?_
 refine kP hC true b5 ?_
 exact Vc.nil kM
 iterate 2 refine kF hC b5 ?_
 refine kP hC false b5 ?_
 exact Vc.nil kM
 refine kS h ?_ ?_ <;> intro b6 h
 refine kt b6 (Xag (Xaf (Xa2 (Xau (Xac ?_)))))
 iterate 4 refine kO hT hC ?_
 refine kQ hT hC h fun h => ?_
 iterate 6 refine kO hT hC ?_
 refine Vc.nil (Xax (Xaf (Xac ?_)))
 iterate 3 refine kO hT hC ?_
 exact Vc.nil kG
 exact kf b6 (Xaw (Xbd ku))
 refine Xaf (Xad ?_)
 iterate 5 refine kO hT hC ?_
 refine Vc.nil (Xah ?_)
 obtain rfl := kj h
 exact Xdx (τ := ⟨[(2, .ptr 16 0)], [(16, some (.box [.sv (.ints .u8 p0), .sv (.int .i64 0), .sv (.int .i64 v6)]))]⟩) (kW hC [(16, 496)]) rfl ⟨rfl, trivial⟩
def Yco (r : (Int × Xa6)) : AV := .sv (.int .i64 r.1)
def Ycn (r : (Int × Xa6)) : Xbl := [(0, .box [.sv (.ints .u8 r.2.b_), .sv (.int .i64 r.2.i_), .sv (.int .i64 r.2.h_)])]
theorem Xhl {p0 r} (h : Xe2 p0 = some r) : AC Tryz.prog 118 [.ptr 0 0] [(0, .box [.sv (.ints .u8 p0.b_), .sv (.int .i64 p0.i_), .sv (.int .i64 p0.h_)])] (Yco r) (Ycn r) := by
 refine Xae hT Tryz.func118 rfl fun C hC => ?_
 unfold Xe2 at h
 refine Xad ?_
 refine kO hT hC ?_
 refine kN ?_
 iterate 10 refine kO hT hC ?_
 refine Vc.nil ?_
 refine Xdw hm ?_
 iterate 4 refine kO hT hC ?_
 refine kQ hT hC h fun h => ?_
 iterate 4 refine kO hT hC ?_
 refine kQ hT hC h fun h => ?_
 iterate 3 refine kO hT hC ?_
 refine kD ?_
 refine kL [0,3] [0] [_,_] [_] ?_
 refine kA h (fun v1 => ([(3, .sv (.int .i64 v1.1)), (0, .any)], [(0, some (.box [.sv (.ints .u8 p0.b_), .sv (.int .i64 v1.2), .sv (.int .i64 (Xaa .i64 ((Xaa .i64 (p0.h_ * 6364136223846793005)) + 1442695040888963407)))]))])) (fun v1 h => ?_) fun v1 h => ?_
 refine Xdw hm ?_
 iterate 10 refine kO hT hC ?_
 refine kD ?_
 refine kS h ?_ ?_ <;> intro b1 h
 refine kt b1 ?_
 refine Xdw hm ?_
 iterate 9 refine kO hT hC ?_
 refine kQ hT hC h fun h => ?_
 iterate 5 refine kO hT hC ?_
 refine kD (Xac ?_)
 iterate 9 refine kO hT hC ?_
 exact Vc.nil kM
 exact kf b1 (Xag kM)
 refine Xad ?_
 iterate 2 refine kO hT hC ?_
 refine Vc.nil (Xah ?_)
 obtain rfl := kj h
 exact Xdx (Xif.refl _) rfl ⟨rfl, trivial⟩
def Xz7 (r : (Int × Xa6)) : AV := .sv (.int .i64 r.1)
def Xz6 (r : (Int × Xa6)) : Xbl := [(0, .box [.sv (.ints .u8 r.2.b_), .sv (.int .i64 r.2.i_), .sv (.int .i64 r.2.h_)])]
theorem Xbf {p0 p1 r} (h : Xa1 p0 p1 = some r) : AC Tryz.prog 49 [.ptr 0 0, .sv (.int .i64 p1)] [(0, .box [.sv (.ints .u8 p0.b_), .sv (.int .i64 p0.i_), .sv (.int .i64 p0.h_)])] (Xz7 r) (Xz6 r) := by
 refine Xae hT Tryz.func49 rfl fun C hC => ?_
 unfold Xa1 at h
 refine Xad ?_
 refine kO hT hC ?_
 refine Vc.nil (Xa2 (Xad ?_))
 iterate 2 refine kO hT hC ?_
 refine Vc.nil ?_
 refine kS h ?_ ?_ <;> intro b1 h
 refine kt b1 (Xad ?_)
 refine kO hT hC ?_
 refine Vc.nil (Xah (Xa4 ?_))
 obtain rfl := kj h
 exact Xdx (Xif.refl _) rfl ⟨rfl, trivial⟩
 refine kf b1 (Xag (Xaf (Xa2 (Xad ?_))))
 iterate 2 refine kO hT hC ?_
 refine Vc.nil ?_
 refine kS h ?_ ?_ <;> intro b2 h
 refine kt b2 (Xad ?_)
 refine kO hT hC ?_
 refine kC hC [(0, 0)] Tryz.call118 h (fun _ => Xhl) fun q1 h => ?_
 refine kO hT hC ?_
 refine kQ hT hC h fun h => ?_
 refine kO hT hC ?_
 refine Vc.nil (Xah (Xa4 ?_))
 obtain rfl := kj h
 exact Xdx (Xif.refl _) rfl ⟨rfl, trivial⟩
 refine kf b2 (Xag (Xaf (Xad ?_)))
 refine kO hT hC ?_
 refine kC hC [(0, 0)] Tryz.call118 h (fun _ => Xhl) fun q2 h => ?_
 refine kO hT hC ?_
 refine kN ?_
 refine kO hT hC ?_
 refine kC hC [(0, 0)] Tryz.call118 h (fun _ => Xhl) fun q3 h => ?_
 refine kO hT hC ?_
 refine kN ?_
 refine kO hT hC ?_
 refine kC hC [(0, 0)] Tryz.call118 h (fun _ => Xhl) fun q4 h => ?_
 refine kO hT hC ?_
 refine kN ?_
 refine kO hT hC ?_
 refine kC hC [(0, 0)] Tryz.call118 h (fun _ => Xhl) fun q5 h => ?_
 refine kO hT hC ?_
 refine kN ?_
 iterate 11 refine kO hT hC ?_
 refine kQ hT hC h fun h => ?_
 refine kO hT hC ?_
 refine Vc.nil (Xah ?_)
 obtain rfl := kj h
 exact Xdx (Xif.refl _) rfl ⟨rfl, trivial⟩
def Ycs (r : (Bool × Xa6)) : AV := .sv (.bool r.1)
def Ycr (r : (Bool × Xa6)) : Xbl := [(0, .box [.sv (.ints .u8 r.2.b_), .sv (.int .i64 r.2.i_), .sv (.int .i64 r.2.h_)])]
theorem Xcv {p0 p1 r} (h : Xbn p0 p1 = some r) : AC Tryz.prog 54 [.ptr 0 0, .sv (.int .i64 p1)] [(0, .box [.sv (.ints .u8 p0.b_), .sv (.int .i64 p0.i_), .sv (.int .i64 p0.h_)])] (Ycs r) (Ycr r) := by
 refine Xae hT Tryz.func54 rfl fun C hC => ?_
 unfold Xbn at h
 refine Xad ?_
 refine kO hT hC ?_
 refine kN ?_
 iterate 2 refine kO hT hC ?_
 refine kC hC [(0, 0)] Tryz.call49 h (fun _ => Xbf) fun q1 h => ?_
 iterate 2 refine kO hT hC ?_
 refine Vc.nil (Xah ?_)
 obtain rfl := kj h
 exact Xdx (Xif.refl _) rfl ⟨rfl, trivial⟩
def Xuf (r : (Par × Xa6)) : AV := .agg [.sv (.int .i64 r.1.Qp), .sv (.bool r.1.Large), .sv (.bool r.1.Exact), .sv (.bool r.1.Confined)]
def Xue (r : (Par × Xa6)) : Xbl := [(0, .box [.sv (.ints .u8 r.2.b_), .sv (.int .i64 r.2.i_), .sv (.int .i64 r.2.h_)])]
theorem Xv7 {p0 r} (h : Xgn p0 = some r) : AC Tryz.prog 50 [.ptr 0 0] [(0, .box [.sv (.ints .u8 p0.b_), .sv (.int .i64 p0.i_), .sv (.int .i64 p0.h_)])] (Xuf r) (Xue r) := by
 refine Xae hT Tryz.func50 rfl fun C hC => ?_
 unfold Xgn at h
 refine Xad ?_
 refine kO hT hC ?_
 refine kN ?_
 refine kO hT hC ?_
 refine kC hC [(0, 0)] Tryz.call49 h (fun _ => Xbf) fun q1 h => ?_
 refine kO hT hC ?_
 refine kC hC [(0, 0)] Tryz.call54 h (fun _ => Xcv) fun q2 h => ?_
 iterate 4 refine kO hT hC ?_
 refine Vc.nil ?_
 refine kL [0,2,3] [0,32,48] [_,_,_] [_,_,_] ?_
 refine kA h (fun v3 => ([(0, .any)], [(0, some (.box [.sv (.ints .u8 v3.2.2.1), .sv (.int .i64 v3.2.2.2.1), .sv (.int .i64 v3.2.2.2.2)])), (48, some (.box [.sv (.int .i64 q1.1), .sv (.bool v3.1), .sv (.bool v3.2.1), .sv (.bool (!q2.1))]))])) (fun v3 h => ?_) fun v3 h => ?_
 refine Xad ?_
 refine kO hT hC ?_
 refine kC hC [(0, 0)] Tryz.call49 h (fun _ => Xbf) fun q4 h => ?_
 refine Vc.nil (Xau (Xad ?_))
 iterate 2 refine kO hT hC ?_
 refine Vc.nil ?_
 refine kS h ?_ ?_ <;> intro b1 h
 refine kt b1 (Xac ?_)
 iterate 2 refine kO hT hC ?_
 exact Vc.nil (Xax kM)
 refine kf b1 (Xad ?_)
 iterate 2 refine kO hT hC ?_
 refine Vc.nil ?_
 refine kS h ?_ ?_ <;> intro b2 h
 refine kt b2 (Xac ?_)
 iterate 2 refine kO hT hC ?_
 exact Vc.nil (Xax kM)
 exact kf b2 (Xag (Xax kM))
 refine Xad ?_
 iterate 2 refine kO hT hC ?_
 refine Vc.nil (Xah ?_)
 obtain rfl := kj h
 exact Xdx (Xif.refl _) rfl ⟨rfl, trivial⟩
def Ycq (r : ByteArray) : AV := .sv (.str r)
def Ycp (r : ByteArray) : Xbl := []
theorem Ygs {p0 p1 r} (h : Xj5 p0 p1 = some r) : AC Tryz.prog 218 [.sv (.int .i64 p0), .sv (.int .u8 p1)] [] (Ycq r) (Ycp r) := by
 refine Xae hT Tryz.func218 rfl fun C hC => ?_
 unfold Xj5 at h
 refine Xad ?_
 refine kO hT hC ?_
 refine kN ?_
 refine kO hT hC ?_
 obtain ⟨hq, h⟩ := Xa7 h
 refine Yc7 hT hC rfl rfl rfl rfl ⟨hq.1, hq.2.1, hq.2.2, by decide⟩ ?_
 refine kO hT hC ?_
 refine Vc.nil (Xa2 (Xad ?_))
 refine kO hT hC ?_
 refine Vc.nil ?_
 refine kL [0,1,5,6] [128] [_,_,_,_] [_] ?_
 refine kX h (fun v2 => ([(6, .sv (.int .i64 v2.1))], [(128, some (.ints .u8 v2.2))])) (fun v4 => ([(0, .any), (1, .any), (6, .any)], [(128, some (.ints .u8 v4))])) (kW hC []) (fun v2 s h => ?_) fun v4 h => ?_
 unfold Xhm at h
 refine Xa2 (Xad ?_)
 iterate 3 refine kO hT hC ?_
 refine Vc.nil ?_
 refine kS h ?_ ?_ <;> intro b3 h
 refine kt b3 (Xag (Xaf (Xa2 (Xau (Xac ?_)))))
 iterate 3 refine kO hT hC ?_
 iterate 2 refine kQ hT hC h fun h => ?_
 refine Vc.nil (Xax (Xaf (Xac ?_)))
 iterate 3 refine kO hT hC ?_
 exact Vc.nil kG
 exact kf b3 (Xaw (Xbd ku))
 refine Xaf (Xad ?_)
 iterate 3 refine kO hT hC ?_
 exact Vc.nil (Xah kR)
def Yja (r : ByteArray) : AV := .sv (.str r)
def Yi9 (r : ByteArray) : Xbl := []
theorem Xd2 {p0 r} (h : Xdq p0 = some r) : AC Tryz.prog 159 [.sv (.int .i64 p0)] [] (Yja r) (Yi9 r) := by
 refine Xae hT Tryz.func159 rfl fun C hC => ?_
 unfold Xdq at h
 refine Xad ?_
 refine kO hT hC ?_
 refine kN ?_
 iterate 3 refine kO hT hC ?_
 refine kN ?_
 refine kO hT hC ?_
 refine Vc.nil (Xa2 ?_)
 refine kL [3,4] [] [_,_] [] ?_
 refine kX h (fun v2 => ([(3, .sv (.int .i64 v2.1)), (4, .sv (.str v2.2))], [])) (fun v4 => ([(4, .sv (.str v4)), (3, .any)], [])) (kW hC []) (fun v2 s h => ?_) fun v4 h => ?_
 unfold Xia at h
 refine Xa2 (Xad ?_)
 iterate 2 refine kO hT hC ?_
 refine Vc.nil ?_
 refine kS h ?_ ?_ <;> intro b3 h
 refine kt b3 (Xag (Xaf (Xau (Xad ?_))))
 refine kO hT hC ?_
 refine kQ hT hC h fun h => ?_
 iterate 5 refine kO hT hC ?_
 refine kQ hT hC h fun h => ?_
 refine kO hT hC ?_
 refine Vc.nil (Xac ?_)
 refine kO hT hC ?_
 refine kQ hT hC h fun h => ?_
 refine kO hT hC ?_
 exact Vc.nil (Xax kG)
 exact kf b3 (Xaw (Xbd ku))
 refine Xaf (Xad ?_)
 iterate 3 refine kO hT hC ?_
 refine kC hC [] Tryz.call218 h (fun _ => Ygs) fun q6 h => ?_
 refine kO hT hC ?_
 refine kQ hT hC h fun h => ?_
 refine kO hT hC ?_
 exact Vc.nil (Xah kR)
def Ygw (r : ByteArray) : AV := .sv (.str r)
def Ygv (r : ByteArray) : Xbl := []
theorem Xpx {p0 p1 r} (h : Xhn p0 p1 = some r) : AC Tryz.prog 160 [.sv (.int .i64 p0), .sv (.int .i64 p1)] [] (Ygw r) (Ygv r) := by
 refine Xae hT Tryz.func160 rfl fun C hC => ?_
 unfold Xhn at h
 refine Xad ?_
 refine kO hT hC ?_
 refine kN ?_
 refine kO hT hC ?_
 obtain ⟨hq, h⟩ := Xa7 h
 refine Yc7 hT hC rfl rfl rfl rfl ⟨hq.1, hq.2.1, hq.2.2, by decide⟩ ?_
 refine kO hT hC ?_
 refine Vc.nil (Xa2 (Xad ?_))
 iterate 3 refine kO hT hC ?_
 refine Vc.nil ?_
 refine kL [0,5,6] [128] [_,_,_] [_] ?_
 refine kX h (fun v2 => ([(0, .sv (.int .i64 v2.1)), (6, .sv (.int .i64 v2.2.1))], [(128, some (.ints .u8 v2.2.2))])) (fun v4 => ([(0, .any), (6, .any)], [(128, some (.ints .u8 v4))])) (kW hC []) (fun v2 s h => ?_) fun v4 h => ?_
 unfold Xi2 at h
 refine Xa2 (Xad ?_)
 iterate 2 refine kO hT hC ?_
 refine Vc.nil ?_
 refine kS h ?_ ?_ <;> intro b3 h
 refine kt b3 (Xag (Xaf (Xa2 (Xau (Xad ?_)))))
 iterate 3 refine kO hT hC ?_
 refine kQ hT hC h fun h => ?_
 iterate 2 refine kO hT hC ?_
 iterate 2 refine kQ hT hC h fun h => ?_
 refine Vc.nil (Xac ?_)
 refine kO hT hC ?_
 refine kQ hT hC h fun h => ?_
 refine kO hT hC ?_
 refine Vc.nil (Xax (Xaf (Xac ?_)))
 iterate 3 refine kO hT hC ?_
 exact Vc.nil kG
 exact kf b3 (Xaw (Xbd ku))
 refine Xaf (Xad ?_)
 iterate 3 refine kO hT hC ?_
 exact Vc.nil (Xah kR)
def Ycy (r : ByteArray) : AV := .sv (.str r)
def Ycx (r : ByteArray) : Xbl := []
theorem Xsz {p0 r} (h : Xj8 p0 = some r) : AC Tryz.prog 179 [.sv (.ints .i64 p0)] [] (Ycy r) (Ycx r) := by
 refine Xae hT Tryz.func179 rfl fun C hC => ?_
 unfold Xj8 at h
 refine Xad ?_
 refine kO hT hC ?_
 refine kN ?_
 iterate 2 refine kO hT hC ?_
 refine kC hC [] Tryz.call159 h (fun _ => Xd2) fun q1 h => ?_
 refine kO hT hC ?_
 refine Vc.nil (Xa2 (Xad ?_))
 refine kO hT hC ?_
 refine Vc.nil ?_
 refine kL [0,3,4] [] [_,_,_] [] ?_
 refine kX h (fun v4 => ([(3, .sv (.str v4.1)), (4, .sv (.int .i64 v4.2))], [])) (fun v7 => ([(3, .sv (.str v7)), (0, .any), (4, .any)], [])) (kW hC []) (fun v4 s h => ?_) fun v7 h => ?_
 unfold Xho at h
 refine Xa2 (Xad ?_)
 iterate 4 refine kO hT hC ?_
 refine Vc.nil ?_
 refine kS h ?_ ?_ <;> intro b3 h
 refine kt b3 (Xag (Xaf (Xa2 (Xau (Xac ?_)))))
 iterate 3 refine kO hT hC ?_
 refine kQ hT hC h fun h => ?_
 refine kO hT hC ?_
 refine kC hC [] Tryz.call159 h (fun _ => Xd2) fun q8 h => ?_
 refine kQ hT hC h fun h => ?_
 refine kO hT hC ?_
 refine Vc.nil (Xax (Xaf (Xac ?_)))
 iterate 3 refine kO hT hC ?_
 exact Vc.nil kG
 exact kf b3 (Xaw (Xbd ku))
 refine Xaf (Xad ?_)
 iterate 2 refine kO hT hC ?_
 exact Vc.nil (Xah kR)
def Yg0 (r : ByteArray) : AV := .sv (.str r)
def Ygz (r : ByteArray) : Xbl := []
theorem Yjd {p0 r} (h : Xot p0 = some r) : AC Tryz.prog 106 [.agg [.sv (.int .i64 p0.Level), .sv (.int .i64 p0.Bits), .sv (.ints .i64 p0.Cols), .sv (.ints .i64 p0.Rows)]] [] (Yg0 r) (Ygz r) := by
 refine Xae hT Tryz.func106 rfl fun C hC => ?_
 unfold Xot at h
 refine Xad ?_
 iterate 2 refine kO hT hC ?_
 refine Vc.nil ?_
 refine Xdw hm ?_
 iterate 2 refine kO hT hC ?_
 refine kC hC [] Tryz.call159 h (fun _ => Xd2) fun q1 h => ?_
 iterate 2 refine kO hT hC ?_
 refine kC hC [] Tryz.call160 h (fun _ => Xpx) fun q2 h => ?_
 refine kQ hT hC h fun h => ?_
 iterate 2 refine kO hT hC ?_
 refine kC hC [] Tryz.call179 h (fun _ => Xsz) fun q3 h => ?_
 refine kQ hT hC h fun h => ?_
 iterate 2 refine kO hT hC ?_
 refine kC hC [] Tryz.call179 h (fun _ => Xsz) fun q4 h => ?_
 refine kQ hT hC h fun h => ?_
 refine kO hT hC ?_
 exact kD (Xah kR)
def Yc0 (r : Bool) : AV := .sv (.bool r)
def Ycz (r : Bool) : Xbl := []
theorem Yg1 {p0 r} (h : Xj9 p0 = some r) : AC Tryz.prog 163 [.sv (.int .i64 p0)] [] (Yc0 r) (Ycz r) := by
 refine Xae hT Tryz.func163 rfl fun C hC => ?_
 unfold Xj9 at h
 refine Xad ?_
 refine kO hT hC ?_
 refine Vc.nil ?_
 refine kL [0,2] [] [_,_] [] ?_
 refine kA h (fun v1 => ([(2, .sv (.bool v1)), (0, .any)], [])) (fun v1 h => ?_) fun v1 h => ?_
 refine Xac ?_
 iterate 3 refine kO hT hC ?_
 refine kS h ?_ ?_ <;> intro b1 h
 iterate 2 refine kF hC b1 ?_
 refine kP hC true b1 ?_
 refine kO hT hC ?_
 iterate 2 refine kF hC rfl ?_
 iterate 2 refine kO hT hC ?_
 iterate 2 refine kF hC rfl ?_
 iterate 2 refine kO hT hC ?_
 exact Vc.nil kM
 iterate 2 refine kI hT hC b1 ?_
 refine kP hC false b1 ?_
 refine kO hT hC ?_
 refine kS h ?_ ?_ <;> intro b2 h
 iterate 2 refine kF hC b2 ?_
 refine kP hC true b2 ?_
 refine kO hT hC ?_
 iterate 2 refine kF hC rfl ?_
 iterate 2 refine kO hT hC ?_
 exact Vc.nil kM
 iterate 2 refine kI hT hC b2 ?_
 refine kP hC false b2 ?_
 refine kO hT hC ?_
 refine kS h ?_ ?_ <;> intro b3 h
 iterate 2 refine kF hC b3 ?_
 refine kP hC true b3 ?_
 refine kO hT hC ?_
 exact Vc.nil kM
 iterate 2 refine kI hT hC b3 ?_
 refine kP hC false b3 ?_
 refine kO hT hC ?_
 exact Vc.nil kM
 exact Xah kR
def Xsy (r : Bool) : AV := .sv (.bool r)
def Xsx (r : Bool) : Xbl := []
theorem Yi5 {p0 r} (h : Xl5 p0 = some r) : AC Tryz.prog 225 [.sv (.str p0)] [] (Xsy r) (Xsx r) := by
 refine Xae hT Tryz.func225 rfl fun C hC => ?_
 unfold Xl5 at h
 refine Xad ?_
 refine kO hT hC ?_
 refine Vc.nil (Xa2 (Xad ?_))
 refine kO hT hC ?_
 refine Vc.nil ?_
 refine kL [0,3] [] [_,_] [] ?_
 obtain ⟨o8, hl, h⟩ := Xb6 h
 refine Xlx (fun v3 => ([(3, .sv (.int .i64 v3))], [])) (fun v6 => ([(0, .any), (3, .any)], [])) (fun r => Xvb C T Tryz.f225.results.toList (Xsy r) (Xsx r)) hl ?_ ?_ ?_ ?_
 apply Xi9 hC []
 exact co
 rfl
 decide
 rfl
 intro v3 s hs
 have h := hs
 unfold Xdf at h
 refine Xa2 (Xad ?_)
 iterate 4 refine kO hT hC ?_
 refine Vc.nil ?_
 refine kS h ?_ ?_ <;> intro b7 h
 refine kt b7 (Xag (Xaf (Xa2 (Xau ?_))))
 refine kL [0,3] [] [_,_] [] ?_
 refine kA h (fun v7 => ([(19, .sv (.bool v7))], [])) (fun v7 h => ?_) fun v7 h => ?_
 refine Xac ?_
 iterate 2 refine kO hT hC ?_
 refine kQ hT hC h fun h => ?_
 iterate 2 refine kO hT hC ?_
 refine kS h ?_ ?_ <;> intro b8 h
 iterate 2 refine kI hT hC b8 ?_
 refine kJ hT hC b8 h fun h => ?_
 refine kI hT hC b8 ?_
 refine kP hC true b8 ?_
 exact Vc.nil kM
 iterate 4 refine kF hC b8 ?_
 refine kP hC false b8 ?_
 exact Vc.nil kM
 refine kS h ?_ ?_ <;> intro b9 h
 refine kt b9 (Xad ?_)
 refine kO hT hC ?_
 refine Vc.nil (Xah (Xg6 (Xa4 ?_)))
 obtain rfl := kj h
 refine Xx5 (Xx1 ?_)
 exact Xdx (Xif.refl _) rfl trivial
 refine kf b9 (Xag (Xax (Xaf (Xac ?_))))
 iterate 3 refine kO hT hC ?_
 exact Vc.nil kG
 exact kf b7 (Xaw (Xbd kb))
 intro v6 e
 subst e
 refine Xaf (Xad ?_)
 refine kO hT hC ?_
 exact Vc.nil (Xah kR)
 intro r' σ' e hE
 subst e
 obtain rfl := kj h
 refine Xa4 ?_
 exact hE
def Yiw (r : Bool) : AV := .sv (.bool r)
def Yiv (r : Bool) : Xbl := []
theorem Ymg {p0 r} (h : Xgx p0 = some r) : AC Tryz.prog 164 [.sv (.str p0)] [] (Yiw r) (Yiv r) := by
 refine Xae hT Tryz.func164 rfl fun C hC => ?_
 unfold Xgx at h
 refine Xad ?_
 refine kO hT hC ?_
 refine Vc.nil ?_
 refine kL [0,2] [] [_,_] [] ?_
 refine kA h (fun v1 => ([(2, .sv (.bool v1)), (0, .any)], [])) (fun v1 h => ?_) fun v1 h => ?_
 refine Xac ?_
 iterate 4 refine kO hT hC ?_
 refine kS h ?_ ?_ <;> intro b1 h
 refine kI hT hC b1 ?_
 refine kE hC b1 [] Tryz.call225 h (fun _ => Yi5) fun q2 h => ?_
 refine kP hC true b1 ?_
 refine kO hT hC ?_
 exact Vc.nil kM
 iterate 2 refine kF hC b1 ?_
 refine kP hC false b1 ?_
 refine kO hT hC ?_
 exact Vc.nil kM
 exact Xah kR
def Xz9 (r : ByteArray) : AV := .sv (.str r)
def Xz8 (r : ByteArray) : Xbl := []
theorem Yct {p0 r} (h : Xk8 p0 = some r) : AC Tryz.prog 165 [.sv (.str p0)] [] (Xz9 r) (Xz8 r) := by
 refine Xae hT Tryz.func165 rfl fun C hC => ?_
 unfold Xk8 at h
 refine Xad ?_
 refine kO hT hC ?_
 refine kN ?_
 refine kO hT hC ?_
 refine kQ hT hC h fun h => ?_
 refine kO hT hC ?_
 refine kT hT hC h fun h => ?_
 refine kO hT hC ?_
 refine Vc.nil (Xa2 ?_)
 refine kL [3] [176] [_] [_] ?_
 refine kX h (fun v2 => ([], [(176, some (.ints .u8 v2))])) (fun v4 => ([], [(176, some (.ints .u8 v4))])) (kW hC []) (fun v2 s h => ?_) fun v4 h => ?_
 unfold Xgm at h
 refine Xa2 (Xad ?_)
 iterate 2 refine kO hT hC ?_
 refine kQ hT hC h fun h => ?_
 refine kO hT hC ?_
 refine Vc.nil ?_
 refine kS h ?_ ?_ <;> intro b3 h
 refine kt b3 (Xag (Xaf (Xau (Xac ?_))))
 iterate 2 refine kO hT hC ?_
 refine kT hT hC h fun h => ?_
 refine kO hT hC ?_
 refine Vc.nil (Xax ?_)
 obtain rfl := kj h
 exact Ylz (kW hC [(176, 288)])
 exact kf b3 (Xaw (Xbd ku))
 refine Xaf (Xad ?_)
 iterate 2 refine kO hT hC ?_
 refine Vc.nil (Xa2 (Xad ?_))
 refine kO hT hC ?_
 refine Vc.nil ?_
 refine kL [3,4,5] [176,304] [_,_,_] [_,_] ?_
 refine kX h (fun v12 => ([(5, .sv (.int .i64 v12.1))], [(304, some (.ints .u8 v12.2))])) (fun v19 => ([(3, .any), (5, .any)], [(304, some (.ints .u8 v19)), (176, none)])) (kW hC []) (fun v12 s h => ?_) fun v19 h => ?_
 unfold Xfu at h
 refine Xa2 (Xad ?_)
 iterate 4 refine kO hT hC ?_
 refine Vc.nil ?_
 refine kS h ?_ ?_ <;> intro b12 h
 refine kt b12 (Xag (Xaf (Xa2 (Xau (Xad ?_)))))
 refine kO hT hC ?_
 refine Vc.nil (Xa2 (Xad ?_))
 refine kO hT hC ?_
 refine Vc.nil ?_
 refine kL [3,4,5,6,7] [176,304] [_,_,_,_,_] [_,_] ?_
 refine kX h (fun v21 => ([(6, .sv (.int .i64 v21.1)), (7, .sv (.int .i64 v21.2))], [])) (fun v23 => ([(6, .sv (.int .i64 v23)), (7, .any)], [])) (kW hC []) (fun v21 s h => ?_) fun v23 h => ?_
 unfold Xeb at h
 refine Xa2 (Xad ?_)
 iterate 2 refine kO hT hC ?_
 refine Vc.nil ?_
 refine kS h ?_ ?_ <;> intro b15 h
 refine kt b15 (Xag (Xaf (Xa2 (Xau (Xac ?_)))))
 iterate 6 refine kO hT hC ?_
 iterate 2 refine kQ hT hC h fun h => ?_
 iterate 4 refine kO hT hC ?_
 refine Vc.nil (Xax (Xaf (Xac ?_)))
 iterate 3 refine kO hT hC ?_
 exact Vc.nil kG
 exact kf b15 (Xaw (Xbd ku))
 refine Xaf (Xac ?_)
 iterate 4 refine kO hT hC ?_
 refine kT hT hC h fun h => ?_
 refine kO hT hC ?_
 refine Vc.nil (Xax (Xaf (Xac ?_)))
 iterate 3 refine kO hT hC ?_
 refine Vc.nil ?_
 obtain rfl := kj h
 exact Ylz (kW hC [(304, 720)])
 exact kf b12 (Xaw (Xbd ku))
 refine Xaf (Xad ?_)
 iterate 3 refine kO hT hC ?_
 exact Vc.nil (Xah kR)
def Ygr (r : (ByteArray × Bool)) : AV := .tup [.sv (.str r.1), .sv (.bool r.2)]
def Ygq (r : (ByteArray × Bool)) : Xbl := []
theorem Xpv {p0 p1 r} (h : Xjp p0 p1 = some r) : AC Tryz.prog 84 [.sv (.int .i64 p0), .sv (.str p1)] [] (Ygr r) (Ygq r) := by
 refine Xae hT Tryz.func84 rfl fun C hC => ?_
 unfold Xjp at h
 refine Xad ?_
 iterate 2 refine kO hT hC ?_
 refine Vc.nil (Xa2 ?_)
 refine kL [0,1] [] [_,_] [] ?_
 refine kA h (fun v1 => ([(13, .sv (.bool v1))], [])) (fun v1 h => ?_) fun v1 h => ?_
 refine Xac ?_
 refine kO hT hC ?_
 refine kC hC [] Tryz.call163 h (fun _ => Yg1) fun q2 h => ?_
 iterate 2 refine kO hT hC ?_
 refine kS h ?_ ?_ <;> intro b1 h
 refine kI hT hC (kn b1) ?_
 refine kE hC (kn b1) [] Tryz.call164 h (fun _ => Ymg) fun q3 h => ?_
 refine kI hT hC (kn b1) ?_
 refine kP hC false (kn b1) ?_
 exact Vc.nil kM
 iterate 3 refine kF hC (kn b1) ?_
 refine kP hC true (kn b1) ?_
 exact Vc.nil kM
 refine kS h ?_ ?_ <;> intro b2 h
 refine kt b2 (Xad ?_)
 iterate 2 refine kO hT hC ?_
 exact Vc.nil (Xah (Xa4 kR))
 refine kf b2 (Xag (Xaf ?_))
 refine Xdw hm ?_
 iterate 5 refine kO hT hC ?_
 refine kC hC [] Tryz.call165 h (fun _ => Yct) fun q4 h => ?_
 refine kQ hT hC h fun h => ?_
 iterate 2 refine kO hT hC ?_
 exact kD (Xah kR)
def Ycw (r : ByteArray) : AV := .sv (.str r)
def Ycv (r : ByteArray) : Xbl := []
theorem Xoq {p0 r} (h : Xj7 p0 = some r) : AC Tryz.prog 180 [.sv (.bool p0)] [] (Ycw r) (Ycv r) := by
 refine Xae hT Tryz.func180 rfl fun C hC => ?_
 unfold Xj7 at h
 refine Xad ?_
 refine kO hT hC ?_
 refine Vc.nil (Xa2 (Xad ?_))
 refine kO hT hC ?_
 refine Vc.nil ?_
 refine kS h ?_ ?_ <;> intro b1 h
 refine kt b1 (Xad ?_)
 refine kO hT hC ?_
 exact Vc.nil (Xah (Xa4 kR))
 refine kf b1 (Xag (Xaf (Xad ?_)))
 refine kO hT hC ?_
 exact Vc.nil (Xah kR)
def Ygy (r : ByteArray) : AV := .sv (.str r)
def Ygx (r : ByteArray) : Xbl := []
theorem Yjb {p0 r} (h : Xos p0 = some r) : AC Tryz.prog 107 [.agg [.sv (.int .i64 p0.Qp), .sv (.bool p0.Large), .sv (.bool p0.Exact), .sv (.bool p0.Confined)]] [] (Ygy r) (Ygx r) := by
 refine Xae hT Tryz.func107 rfl fun C hC => ?_
 unfold Xos at h
 refine Xad ?_
 iterate 2 refine kO hT hC ?_
 refine Vc.nil ?_
 refine Xdw hm ?_
 iterate 2 refine kO hT hC ?_
 refine kC hC [] Tryz.call160 h (fun _ => Xpx) fun q1 h => ?_
 iterate 2 refine kO hT hC ?_
 refine kC hC [] Tryz.call180 h (fun _ => Xoq) fun q2 h => ?_
 refine kQ hT hC h fun h => ?_
 iterate 2 refine kO hT hC ?_
 refine kC hC [] Tryz.call180 h (fun _ => Xoq) fun q3 h => ?_
 refine kQ hT hC h fun h => ?_
 iterate 2 refine kO hT hC ?_
 refine kC hC [] Tryz.call180 h (fun _ => Xoq) fun q4 h => ?_
 refine kQ hT hC h fun h => ?_
 refine kO hT hC ?_
 exact kD (Xah kR)
def Yi2 (r : Bool) : AV := .sv (.bool r)
def Yi1 (r : Bool) : Xbl := []
theorem Xh9 {p0 p1 p2 r} (h : Xat p0 p1 p2 = some r) : AC Tryz.prog 149 [.sv (.int .i64 p0), .sv (.int .i64 p1), .sv (.int .i64 p2)] [] (Yi2 r) (Yi1 r) := by
 refine Xae hT Tryz.func149 rfl fun C hC => ?_
 unfold Xat at h
 refine Xad ?_
 refine kO hT hC ?_
 refine Vc.nil ?_
 refine kL [0,1,2,6] [] [_,_,_,_] [] ?_
 refine kA h (fun v1 => ([(6, .sv (.bool v1)), (0, .any), (1, .any), (2, .any)], [])) (fun v1 h => ?_) fun v1 h => ?_
 refine Xac ?_
 iterate 4 refine kO hT hC ?_
 refine kS h ?_ ?_ <;> intro b1 h
 iterate 3 refine kI hT hC b1 ?_
 refine kP hC true b1 ?_
 refine kO hT hC ?_
 exact Vc.nil kM
 iterate 3 refine kF hC b1 ?_
 refine kP hC false b1 ?_
 refine kO hT hC ?_
 exact Vc.nil kM
 exact Xah kR
def Xs2 (r : Int) : AV := .sv (.int .i64 r)
def Xs1 (r : Int) : Xbl := []
theorem Xu5 {p0 r} (h : Xhp p0 = some r) : AC Tryz.prog 120 [.sv (.ints .i64 p0)] [] (Xs2 r) (Xs1 r) := by
 refine Xae hT Tryz.func120 rfl fun C hC => ?_
 unfold Xhp at h
 refine Xad ?_
 refine kO hT hC ?_
 refine Vc.nil (Xa2 ?_)
 refine kL [0] [] [_] [] ?_
 refine kA h (fun v1 => ([(12, .sv (.bool v1))], [])) (fun v1 h => ?_) fun v1 h => ?_
 refine Xac ?_
 iterate 4 refine kO hT hC ?_
 refine kS h ?_ ?_ <;> intro b1 h
 iterate 3 refine kF hC b1 ?_
 refine kP hC true b1 ?_
 exact Vc.nil kM
 iterate 3 refine kI hT hC b1 ?_
 refine kP hC false b1 ?_
 exact Vc.nil kM
 refine kS h ?_ ?_ <;> intro b2 h
 refine kt b2 (Xad ?_)
 refine kO hT hC ?_
 exact Vc.nil (Xah (Xa4 kR))
 refine kf b2 (Xag (Xaf (Xad ?_)))
 refine kO hT hC ?_
 refine Vc.nil (Xa2 (Xad ?_))
 refine kO hT hC ?_
 refine Vc.nil ?_
 refine kL [0,3,4] [] [_,_,_] [] ?_
 obtain ⟨o9, hl, h⟩ := Xb6 h
 refine Xlx (fun v4 => ([(3, .sv (.int .i64 v4.1)), (4, .sv (.int .i64 v4.2))], [])) (fun v7 => ([(3, .sv (.int .i64 v7)), (0, .any), (4, .any)], [])) (fun r => Xvb C T Tryz.f120.results.toList (Xs2 r) (Xs1 r)) hl ?_ ?_ ?_ ?_
 try dsimp only
 apply Xi9 hC []
 exact co
 rfl
 decide
 rfl
 intro v4 s hs
 have h := hs
 unfold Xgy at h
 refine Xa2 (Xad ?_)
 iterate 4 refine kO hT hC ?_
 refine Vc.nil ?_
 refine kS h ?_ ?_ <;> intro b7 h
 refine kt b7 (Xag (Xaf (Xa2 (Xau (Xa2 (Xad ?_))))))
 iterate 2 refine kO hT hC ?_
 refine kQ hT hC h fun h => ?_
 refine kO hT hC ?_
 refine kC hC [] Tryz.call149 h (fun _ => Xh9) fun q8 h => ?_
 refine kO hT hC ?_
 refine Vc.nil ?_
 refine kS h ?_ ?_ <;> intro b8 h
 refine kt b8 (Xad ?_)
 refine kO hT hC ?_
 refine Vc.nil (Xah (Xa4 (Xg6 (Xa4 ?_))))
 obtain rfl := kj h
 refine Xx5 (Xx1 ?_)
 exact Xdx (Xif.refl _) rfl trivial
 refine kf b8 (Xag (Xaf (Xac ?_)))
 iterate 3 refine kO hT hC ?_
 refine kQ hT hC h fun h => ?_
 iterate 3 refine kO hT hC ?_
 refine Vc.nil (Xax (Xaf (Xac ?_)))
 iterate 3 refine kO hT hC ?_
 exact Vc.nil kG
 exact kf b7 (Xaw (Xbd kb))
 intro v7 e
 subst e
 refine Xaf (Xad ?_)
 iterate 2 refine kO hT hC ?_
 exact Vc.nil (Xah kR)
 intro r' σ' e hE
 subst e
 obtain rfl := kj h
 refine Xa4 ?_
 exact hE
def Xyh (r : Int) : AV := .sv (.int .i64 r)
def Xyg (r : Int) : Xbl := []
theorem Xz1 {p0 r} (h : Xi1 p0 = some r) : AC Tryz.prog 193 [.agg [.sv (.int .i64 p0.Level), .sv (.int .i64 p0.Bits), .sv (.ints .i64 p0.Cols), .sv (.ints .i64 p0.Rows)]] [] (Xyh r) (Xyg r) := by
 refine Xae hT Tryz.func193 rfl fun C hC => ?_
 unfold Xi1 at h
 refine Xad ?_
 iterate 2 refine kO hT hC ?_
 refine Vc.nil ?_
 refine Xdw hm ?_
 iterate 2 refine kO hT hC ?_
 refine kC hC [] Tryz.call120 h (fun _ => Xu5) fun q1 h => ?_
 iterate 2 refine kO hT hC ?_
 refine kC hC [] Tryz.call120 h (fun _ => Xu5) fun q2 h => ?_
 iterate 2 refine kO hT hC ?_
 exact kD (Xah kR)
def Xsu (r : Int) : AV := .sv (.int .i64 r)
def Xst (r : Int) : Xbl := []
theorem Xua {p0 r} (h : Xfp p0 = some r) : AC Tryz.prog 194 [.sv (.int .i64 p0)] [] (Xsu r) (Xst r) := by
 refine Xae hT Tryz.func194 rfl fun C hC => ?_
 unfold Xfp at h
 refine Xad ?_
 refine kO hT hC ?_
 refine Vc.nil (Xa2 (Xad ?_))
 refine kO hT hC ?_
 refine Vc.nil (Xau (Xad ?_))
 iterate 2 refine kO hT hC ?_
 refine Vc.nil ?_
 refine kS h ?_ ?_ <;> intro b1 h
 refine kt b1 (Xad ?_)
 refine kO hT hC ?_
 exact Vc.nil (Xah (Xg6 (Xa4 kR)))
 refine kf b1 (Xad ?_)
 iterate 2 refine kO hT hC ?_
 refine Vc.nil ?_
 refine kS h ?_ ?_ <;> intro b2 h
 refine kt b2 (Xad ?_)
 refine kO hT hC ?_
 exact Vc.nil (Xah (Xg6 (Xa4 kR)))
 refine kf b2 (Xad ?_)
 iterate 2 refine kO hT hC ?_
 refine Vc.nil ?_
 refine kS h ?_ ?_ <;> intro b3 h
 refine kt b3 (Xad ?_)
 refine kO hT hC ?_
 exact Vc.nil (Xah (Xg6 (Xa4 kR)))
 refine kf b3 (Xag (Xax (Xaf (Xad ?_))))
 refine kO hT hC ?_
 exact Vc.nil (Xah kR)
def Yiy (r : Bool) : AV := .sv (.bool r)
def Yix (r : Bool) : Xbl := []
theorem Ymh {p0 r} (h : Xh8 p0 = some r) : AC Tryz.prog 119 [.agg [.sv (.int .i64 p0.Level), .sv (.int .i64 p0.Bits), .sv (.ints .i64 p0.Cols), .sv (.ints .i64 p0.Rows)]] [] (Yiy r) (Yix r) := by
 refine Xae hT Tryz.func119 rfl fun C hC => ?_
 unfold Xh8 at h
 refine Xad ?_
 iterate 2 refine kO hT hC ?_
 refine Vc.nil ?_
 refine kL [1,2] [16] [_,_] [_] ?_
 refine kA h (fun v1 => ([(2, .sv (.bool v1)), (1, .any)], [(16, none)])) (fun v1 h => ?_) fun v1 h => ?_
 refine Xf6 hm ?_
 refine kO hT hC ?_
 refine kC hC [] Tryz.call193 h (fun _ => Xz1) fun q2 h => ?_
 iterate 2 refine kO hT hC ?_
 refine kC hC [] Tryz.call194 h (fun _ => Xua) fun q3 h => ?_
 refine kC hC [] Tryz.call149 h (fun _ => Xh9) fun q4 h => ?_
 refine kO hT hC ?_
 refine kS h ?_ ?_ <;> intro b1 h
 iterate 2 refine kI hT hC b1 ?_
 refine kE hC b1 [] Tryz.call149 h (fun _ => Xh9) fun q5 h => ?_
 refine kP hC true b1 ?_
 refine kO hT hC ?_
 exact kD kM
 iterate 3 refine kF hC b1 ?_
 refine kP hC false b1 ?_
 refine kO hT hC ?_
 exact kD kM
 exact Xah kR
def Ycm (r : Int) : AV := .sv (.int .i64 r)
def Ycl (r : Int) : Xbl := []
theorem Xom {p0 r} (h : Xe1 p0 = some r) : AC Tryz.prog 101 [.agg [.sv (.int .i64 p0.Level), .sv (.int .i64 p0.Bits), .sv (.ints .i64 p0.Cols), .sv (.ints .i64 p0.Rows)]] [] (Ycm r) (Ycl r) := by
 refine Xae hT Tryz.func101 rfl fun C hC => ?_
 unfold Xe1 at h
 refine Xad ?_
 iterate 2 refine kO hT hC ?_
 refine Vc.nil (Xa2 (Xad ?_))
 refine kO hT hC ?_
 refine kC hC [] Tryz.call119 h (fun _ => Ymh) fun q1 h => ?_
 refine kO hT hC ?_
 refine Vc.nil ?_
 refine kS h ?_ ?_ <;> intro b1 h
 refine kt b1 (Xad ?_)
 refine kO hT hC ?_
 exact Vc.nil (Xah (Xa4 kR))
 refine kf b1 (Xag (Xaf (Xad ?_)))
 iterate 8 refine kO hT hC ?_
 exact Vc.nil (Xah kR)
def Yiu (r : Bool) : AV := .sv (.bool r)
def Yit (r : Bool) : Xbl := []
theorem Ymf {p0 r} (h : Xj3 p0 = some r) : AC Tryz.prog 96 [.agg [.sv (.int .i64 p0.Qp), .sv (.bool p0.Large), .sv (.bool p0.Exact), .sv (.bool p0.Confined)]] [] (Yiu r) (Yit r) := by
 refine Xae hT Tryz.func96 rfl fun C hC => ?_
 unfold Xj3 at h
 refine Xad ?_
 iterate 2 refine kO hT hC ?_
 refine Vc.nil ?_
 refine kL [1,2] [16] [_,_] [_] ?_
 refine kA h (fun v1 => ([(2, .sv (.bool v1)), (1, .any)], [(16, none)])) (fun v1 h => ?_) fun v1 h => ?_
 refine Xac ?_
 iterate 2 refine kO hT hC ?_
 refine kC hC [] Tryz.call149 h (fun _ => Xh9) fun q2 h => ?_
 refine kO hT hC ?_
 refine kS h ?_ ?_ <;> intro b1 h
 iterate 3 refine kI hT hC b1 ?_
 refine kS h ?_ ?_ <;> intro b2 h
 iterate 2 refine kI hT hC b2 ?_
 refine Xby hC rfl rfl rfl rfl b1 rfl rfl (b := true) b2 rfl rfl rfl trivial ?_
 refine kI hT hC b1 ?_
 refine kP hC true b1 ?_
 refine kO hT hC ?_
 exact Vc.nil kM
 iterate 2 refine kF hC b2 ?_
 refine Xby hC rfl rfl rfl rfl b1 rfl rfl (b := false) b2 rfl rfl rfl trivial ?_
 refine kI hT hC b1 ?_
 refine kP hC true b1 ?_
 refine kO hT hC ?_
 exact Vc.nil kM
 iterate 3 refine kF hC b1 ?_
 iterate 2 refine Xlf hC rfl rfl rfl rfl rfl rfl ?_
 iterate 2 refine kF hC b1 ?_
 refine kP hC false b1 ?_
 refine kO hT hC ?_
 exact Vc.nil kM
 exact Xah kR
def Ygm (r : Bool) : AV := .sv (.bool r)
def Ygl (r : Bool) : Xbl := []
theorem Yis {p0 p1 p2 r} (h : Xl0 p0 p1 p2 = some r) : AC Tryz.prog 158 [.agg [.sv (.int .i64 p0.Level), .sv (.int .i64 p0.Bits), .sv (.ints .i64 p0.Cols), .sv (.ints .i64 p0.Rows)], .agg [.sv (.int .i64 p1.Qp), .sv (.bool p1.Large), .sv (.bool p1.Exact), .sv (.bool p1.Confined)], .agg [.sv (.int .i64 p2.Tile), .sv (.int .i64 p2.Frame), .sv (.int .i64 p2.Qp)]] [] (Ygm r) (Ygl r) := by
 refine Xae hT Tryz.func158 rfl fun C hC => ?_
 unfold Xl0 at h
 refine Xad ?_
 iterate 4 refine kO hT hC ?_
 refine Vc.nil ?_
 refine kL [3,4,5,6] [48,64,80] [_,_,_,_] [_,_,_] ?_
 refine kA h (fun v1 => ([(6, .sv (.bool v1)), (3, .any), (4, .any), (5, .any)], [(48, none), (64, none), (80, none)])) (fun v1 h => ?_) fun v1 h => ?_
 refine Xf6 hm ?_
 refine kO hT hC ?_
 refine kC hC [] Tryz.call96 h (fun _ => Ymf) fun q2 h => ?_
 refine kO hT hC ?_
 refine kS h ?_ ?_ <;> intro b1 h
 iterate 3 refine kI hT hC b1 ?_
 refine kP hC true b1 ?_
 refine kO hT hC ?_
 refine kS h ?_ ?_ <;> intro b2 h
 iterate 3 refine kI hT hC b2 ?_
 refine kE hC b2 [] Tryz.call101 h (fun _ => Xom) fun q3 h => ?_
 refine kI hT hC b2 ?_
 refine kP hC true b2 ?_
 refine kO hT hC ?_
 refine kS h ?_ ?_ <;> intro b3 h
 iterate 3 refine kI hT hC b3 ?_
 refine kP hC true b3 ?_
 refine kO hT hC ?_
 refine kS h ?_ ?_ <;> intro b4 h
 iterate 5 refine kI hT hC b4 ?_
 refine kJ hT hC b4 h fun h => ?_
 refine kI hT hC b4 ?_
 refine kP hC true b4 ?_
 refine kO hT hC ?_
 refine kS h ?_ ?_ <;> intro b5 h
 iterate 2 refine kI hT hC b5 ?_
 refine kE hC b5 [] Tryz.call149 h (fun _ => Xh9) fun q4 h => ?_
 refine kP hC true b5 ?_
 refine kO hT hC ?_
 exact kD kM
 iterate 3 refine kF hC b5 ?_
 refine kP hC false b5 ?_
 refine kO hT hC ?_
 exact kD kM
 iterate 7 refine kF hC b4 ?_
 refine kP hC false b4 ?_
 refine kO hT hC ?_
 iterate 3 refine kF hC rfl ?_
 iterate 2 refine kO hT hC ?_
 exact kD kM
 iterate 3 refine kF hC b3 ?_
 refine kP hC false b3 ?_
 refine kO hT hC ?_
 iterate 7 refine kF hC rfl ?_
 iterate 2 refine kO hT hC ?_
 iterate 3 refine kF hC rfl ?_
 iterate 2 refine kO hT hC ?_
 exact kD kM
 iterate 5 refine kF hC b2 ?_
 refine kP hC false b2 ?_
 refine kO hT hC ?_
 iterate 3 refine kF hC rfl ?_
 iterate 2 refine kO hT hC ?_
 iterate 7 refine kF hC rfl ?_
 iterate 2 refine kO hT hC ?_
 iterate 3 refine kF hC rfl ?_
 iterate 2 refine kO hT hC ?_
 exact kD kM
 iterate 3 refine kF hC b1 ?_
 refine kP hC false b1 ?_
 refine kO hT hC ?_
 iterate 5 refine kF hC rfl ?_
 iterate 2 refine kO hT hC ?_
 iterate 3 refine kF hC rfl ?_
 iterate 2 refine kO hT hC ?_
 iterate 7 refine kF hC rfl ?_
 iterate 2 refine kO hT hC ?_
 iterate 3 refine kF hC rfl ?_
 iterate 2 refine kO hT hC ?_
 exact kD kM
 exact Xah kR
def Ygj (r : (Int × Bool)) : AV := .tup [.sv (.int .i64 r.1), .sv (.bool r.2)]
def Ygi (r : (Int × Bool)) : Xbl := []
theorem Yiq {p0 r} (h : Xoj p0 = some r) : AC Tryz.prog 223 [.sv (.int .i64 p0)] [] (Ygj r) (Ygi r) := by
 refine Xae hT Tryz.func223 rfl fun C hC => ?_
 unfold Xoj at h
 refine Xad ?_
 iterate 2 refine kO hT hC ?_
 refine Vc.nil (Xa2 (Xad ?_))
 refine kO hT hC ?_
 refine kC hC [] Tryz.call149 h (fun _ => Xh9) fun q1 h => ?_
 refine kO hT hC ?_
 refine Vc.nil ?_
 refine kS h ?_ ?_ <;> intro b1 h
 refine kt b1 (Xad ?_)
 iterate 2 refine kO hT hC ?_
 exact Vc.nil (Xah (Xa4 kR))
 refine kf b1 (Xag (Xaf (Xa2 (Xad ?_))))
 iterate 2 refine kO hT hC ?_
 refine Vc.nil ?_
 refine kS h ?_ ?_ <;> intro b2 h
 refine kt b2 (Xad ?_)
 iterate 5 refine kO hT hC ?_
 exact Vc.nil (Xah (Xa4 kR))
 refine kf b2 (Xag (Xaf (Xad ?_)))
 iterate 4 refine kO hT hC ?_
 exact Vc.nil (Xah kR)
def Yi8 (r : ByteArray) : AV := .sv (.str r)
def Yi7 (r : ByteArray) : Xbl := []
theorem Xnz {p0 r} (h : Xj6 p0 = some r) : AC Tryz.prog 161 [.sv (.int .i64 p0)] [] (Yi8 r) (Yi7 r) := by
 refine Xae hT Tryz.func161 rfl fun C hC => ?_
 unfold Xj6 at h
 refine Xad ?_
 refine kO hT hC ?_
 refine kN ?_
 refine kO hT hC ?_
 refine kC hC [] Tryz.call223 h (fun _ => Yiq) fun q1 h => ?_
 iterate 5 refine kO hT hC ?_
 refine kN ?_
 refine kO hT hC ?_
 refine kC hC [] Tryz.call159 h (fun _ => Xd2) fun q2 h => ?_
 refine kO hT hC ?_
 exact Vc.nil (Xah kR)
def Ycj (r : (ByteArray × Bool)) : AV := .tup [.sv (.str r.1), .sv (.bool r.2)]
def Yci (r : (ByteArray × Bool)) : Xbl := []
theorem Ygn {p0 p1 p2 r} (h : Xm4 p0 p1 p2 = some r) : AC Tryz.prog 81 [.agg [.sv (.int .i64 p0.Level), .sv (.int .i64 p0.Bits), .sv (.ints .i64 p0.Cols), .sv (.ints .i64 p0.Rows)], .agg [.sv (.int .i64 p1.Qp), .sv (.bool p1.Large), .sv (.bool p1.Exact), .sv (.bool p1.Confined)], .agg [.sv (.int .i64 p2.Tile), .sv (.int .i64 p2.Frame), .sv (.int .i64 p2.Qp)]] [] (Ycj r) (Yci r) := by
 refine Xae hT Tryz.func81 rfl fun C hC => ?_
 unfold Xm4 at h
 refine Xad ?_
 iterate 5 refine kO hT hC ?_
 refine Vc.nil (Xa2 (Xad ?_))
 iterate 3 refine kO hT hC ?_
 refine kC hC [] Tryz.call158 h (fun _ => Yis) fun q1 h => ?_
 refine kO hT hC ?_
 refine Vc.nil ?_
 refine kS h ?_ ?_ <;> intro b1 h
 refine kt b1 (Xad ?_)
 iterate 2 refine kO hT hC ?_
 exact Vc.nil (Xah (Xa4 kR))
 refine kf b1 (Xag (Xaf ?_))
 refine Xdw hm ?_
 iterate 2 refine kO hT hC ?_
 refine kC hC [] Tryz.call159 h (fun _ => Xd2) fun q2 h => ?_
 iterate 4 refine kO hT hC ?_
 refine kC hC [] Tryz.call160 h (fun _ => Xpx) fun q3 h => ?_
 refine kQ hT hC h fun h => ?_
 iterate 5 refine kO hT hC ?_
 refine kC hC [] Tryz.call161 h (fun _ => Xnz) fun q4 h => ?_
 refine kQ hT hC h fun h => ?_
 iterate 2 refine kO hT hC ?_
 exact kD (Xah kR)
def Xyk (r : Int) : AV := .sv (.int .i64 r)
def Xyj (r : Int) : Xbl := []
theorem Xqq {p0 p1 r} (h : Xi3 p0 p1 = some r) : AC Tryz.prog 229 [.sv (.ints .i64 p0), .sv (.int .i64 p1)] [] (Xyk r) (Xyj r) := by
 refine Xae hT Tryz.func229 rfl fun C hC => ?_
 unfold Xi3 at h
 refine Xad ?_
 refine kO hT hC ?_
 refine kN ?_
 refine kO hT hC ?_
 refine Vc.nil (Xa2 (Xad ?_))
 refine kO hT hC ?_
 refine Vc.nil ?_
 refine kL [0,1,5,6] [] [_,_,_,_] [] ?_
 refine kX h (fun v2 => ([(5, .sv (.int .i64 v2.1)), (6, .sv (.int .i64 v2.2))], [])) (fun v4 => ([(5, .sv (.int .i64 v4)), (0, .any), (1, .any), (6, .any)], [])) (kW hC []) (fun v2 s h => ?_) fun v4 h => ?_
 unfold Xfy at h
 refine Xa2 (Xad ?_)
 iterate 3 refine kO hT hC ?_
 refine Vc.nil ?_
 refine kS h ?_ ?_ <;> intro b3 h
 refine kt b3 (Xag (Xaf (Xa2 (Xau (Xac ?_)))))
 iterate 3 refine kO hT hC ?_
 refine kQ hT hC h fun h => ?_
 iterate 3 refine kO hT hC ?_
 refine Vc.nil (Xax (Xaf (Xac ?_)))
 iterate 3 refine kO hT hC ?_
 exact Vc.nil kG
 exact kf b3 (Xaw (Xbd ku))
 refine Xaf (Xad ?_)
 iterate 2 refine kO hT hC ?_
 exact Vc.nil (Xah kR)
def Xz4 (r : (Xph × Bool)) : AV := .tup [.agg [.sv (.int .i64 r.1.Left), .sv (.int .i64 r.1.Top), .sv (.int .i64 r.1.Wide), .sv (.int .i64 r.1.High)], .sv (.bool r.2)]
def Xz3 (r : (Xph × Bool)) : Xbl := []
theorem Yck {p0 p1 r} (h : Xde p0 p1 = some r) : AC Tryz.prog 178 [.agg [.sv (.int .i64 p0.Level), .sv (.int .i64 p0.Bits), .sv (.ints .i64 p0.Cols), .sv (.ints .i64 p0.Rows)], .sv (.int .i64 p1)] [] (Xz4 r) (Xz3 r) := by
 refine Xae hT Tryz.func178 rfl fun C hC => ?_
 unfold Xde at h
 refine Xad ?_
 iterate 3 refine kO hT hC ?_
 refine Vc.nil (Xa2 ?_)
 refine kL [1,2,4] [32,64] [_,_,_] [_,_] ?_
 refine kA h (fun v1 => ([(15, .sv (.bool v1))], [])) (fun v1 h => ?_) fun v1 h => ?_
 refine Xac ?_
 iterate 3 refine kO hT hC ?_
 refine kS h ?_ ?_ <;> intro b1 h
 iterate 4 refine kF hC b1 ?_
 refine kP hC true b1 ?_
 exact Vc.nil kM
 iterate 2 refine kI hT hC b1 ?_
 refine kE hC b1 [] Tryz.call101 h (fun _ => Xom) fun q2 h => ?_
 refine kI hT hC b1 ?_
 refine kP hC false b1 ?_
 exact Vc.nil kM
 refine kS h ?_ ?_ <;> intro b2 h
 refine kt b2 (Xad ?_)
 iterate 3 refine kO hT hC ?_
 exact Vc.nil (Xah (Xa4 kR))
 refine kf b2 (Xag (Xaf (Xad ?_)))
 iterate 4 refine kO hT hC ?_
 refine kQ hT hC h fun h => ?_
 refine kO hT hC ?_
 refine kN ?_
 iterate 4 refine kO hT hC ?_
 refine kQ hT hC h fun h => ?_
 refine kO hT hC ?_
 refine Vc.nil ?_
 refine Xdw hm ?_
 iterate 3 refine kO hT hC ?_
 refine kC hC [] Tryz.call229 h (fun _ => Xqq) fun q3 h => ?_
 iterate 4 refine kO hT hC ?_
 refine kC hC [] Tryz.call229 h (fun _ => Xqq) fun q4 h => ?_
 iterate 4 refine kO hT hC ?_
 refine kQ hT hC h fun h => ?_
 iterate 5 refine kO hT hC ?_
 refine kQ hT hC h fun h => ?_
 iterate 5 refine kO hT hC ?_
 exact kD (Xah kR)
def Xud (r : Int) : AV := .sv (.int .i64 r)
def Xuc (r : Int) : Xbl := []
theorem Xv5 {p0 p1 r} (h : Xcb p0 p1 = some r) : AC Tryz.prog 104 [.agg [.sv (.int .i64 p0.Level), .sv (.int .i64 p0.Bits), .sv (.ints .i64 p0.Cols), .sv (.ints .i64 p0.Rows)], .sv (.int .i64 p1)] [] (Xud r) (Xuc r) := by
 refine Xae hT Tryz.func104 rfl fun C hC => ?_
 unfold Xcb at h
 refine Xad ?_
 iterate 2 refine kO hT hC ?_
 refine kN ?_
 iterate 2 refine kO hT hC ?_
 refine kC hC [] Tryz.call178 h (fun _ => Yck) fun q1 h => ?_
 iterate 6 refine kO hT hC ?_
 refine kN ?_
 iterate 2 refine kO hT hC ?_
 refine kQ hT hC h fun h => ?_
 iterate 2 refine kO hT hC ?_
 refine kQ hT hC h fun h => ?_
 iterate 2 refine kO hT hC ?_
 exact Vc.nil (Xah kR)
def Xym (r : ((List Int) × Xa6)) : AV := .own 16
def Xyl (r : ((List Int) × Xa6)) : Xbl := [(16, .ints .i64 r.1), (0, .box [.sv (.ints .u8 r.2.b_), .sv (.int .i64 r.2.i_), .sv (.int .i64 r.2.h_)])]
theorem Xqr {p0 p1 r} (h : Xgz p0 p1 = some r) : AC Tryz.prog 264 [.ptr 0 0, .sv (.int .i64 p1)] [(0, .box [.sv (.ints .u8 p0.b_), .sv (.int .i64 p0.i_), .sv (.int .i64 p0.h_)])] (Xym r) (Xyl r) := by
 refine Xae hT Tryz.func264 rfl fun C hC => ?_
 unfold Xgz at h
 refine Xad ?_
 refine kO hT hC ?_
 refine kN ?_
 refine kO hT hC ?_
 obtain ⟨hq, h⟩ := Xa7 h
 refine Yc7 hT hC rfl rfl rfl rfl ⟨hq.1, hq.2.1, hq.2.2, by decide⟩ ?_
 refine kO hT hC ?_
 refine Vc.nil (Xa2 (Xad ?_))
 refine kO hT hC ?_
 refine Vc.nil ?_
 refine kL [0,1,5,6] [0,144] [_,_,_,_] [_,_] ?_
 refine kX h (fun v11 => ([(6, .sv (.int .i64 v11.1))], [(0, some (.box [.sv (.ints .u8 v11.2.1), .sv (.int .i64 v11.2.2.1), .sv (.int .i64 v11.2.2.2.1)])), (144, some (.ints .i64 v11.2.2.2.2))])) (fun v22 => ([(0, .any), (1, .any), (6, .any)], [(0, some (.box [.sv (.ints .u8 v22.2.1), .sv (.int .i64 v22.2.2.1), .sv (.int .i64 v22.2.2.2)])), (144, some (.ints .i64 v22.1))])) (kW hC []) (fun v11 s h => ?_) fun v22 h => ?_
 unfold Xic at h
 refine Xa2 ?_
 refine kL [0,1,5,6] [0,144] [_,_,_,_] [_,_] ?_
 refine kA h (fun v23 => ([(17, .sv (.bool v23.1))], [(0, some (.box [.sv (.ints .u8 v23.2.1), .sv (.int .i64 v23.2.2.1), .sv (.int .i64 v23.2.2.2)]))])) (fun v23 h => ?_) fun v23 h => ?_
 refine Xac ?_
 iterate 2 refine kO hT hC ?_
 refine kC hC [(0, 0)] Tryz.call49 h (fun _ => Xbf) fun q24 h => ?_
 iterate 2 refine kO hT hC ?_
 refine kS h ?_ ?_ <;> intro b9 h
 iterate 2 refine kI hT hC b9 ?_
 refine kP hC true b9 ?_
 exact Vc.nil kM
 iterate 2 refine kF hC b9 ?_
 refine kP hC false b9 ?_
 exact Vc.nil kM
 refine kS h ?_ ?_ <;> intro b10 h
 refine kt b10 (Xag (Xaf ?_))
 refine kL [0,1,5,6] [0,144] [_,_,_,_] [_,_] ?_
 refine kA h (fun v25 => ([], [(0, some (.box [.sv (.ints .u8 v25.1), .sv (.int .i64 v25.2.1), .sv (.int .i64 v25.2.2.1)])), (144, some (.ints .i64 v25.2.2.2))])) (fun v25 h => ?_) fun v25 h => ?_
 refine Xau (Xad ?_)
 iterate 2 refine kO hT hC ?_
 refine kC hC [(0, 0)] Tryz.call49 h (fun _ => Xbf) fun q26 h => ?_
 refine kO hT hC ?_
 refine Vc.nil ?_
 refine kL [0,1,5,6,7] [0,144] [_,_,_,_,_] [_,_] ?_
 refine kA h (fun v27 => ([(7, .sv (.int .i64 v27.1))], [(0, some (.box [.sv (.ints .u8 v27.2.1), .sv (.int .i64 v27.2.2.1), .sv (.int .i64 v27.2.2.2)]))])) (fun v27 h => ?_) fun v27 h => ?_
 refine Xad ?_
 refine kO hT hC ?_
 refine kC hC [(0, 0)] Tryz.call54 h (fun _ => Xcv) fun q28 h => ?_
 refine Vc.nil ?_
 refine kS h ?_ ?_ <;> intro b11 h
 refine kt b11 (Xac ?_)
 refine kO hT hC ?_
 refine kQ hT hC h fun h => ?_
 refine kO hT hC ?_
 exact Vc.nil kM
 exact kf b11 (Xag kM)
 refine Xad ?_
 iterate 3 refine kO hT hC ?_
 refine kC hC [(0, 0)] Tryz.call49 h (fun _ => Xbf) fun q29 h => ?_
 refine kO hT hC ?_
 iterate 2 refine kQ hT hC h fun h => ?_
 refine kN ?_
 refine kO hT hC ?_
 refine kC hC [(0, 0)] Tryz.call54 h (fun _ => Xcv) fun q30 h => ?_
 refine Vc.nil ?_
 refine kS h ?_ ?_ <;> intro b12 h
 refine kt b12 (Xac ?_)
 iterate 3 refine kO hT hC ?_
 refine kC hC [(0, 0)] Tryz.call49 h (fun _ => Xbf) fun q31 h => ?_
 refine kO hT hC ?_
 iterate 2 refine kQ hT hC h fun h => ?_
 exact Vc.nil (Xax kM)
 exact kf b12 (Xag (Xax kM))
 refine Xac ?_
 iterate 3 refine kO hT hC ?_
 exact Vc.nil kG
 exact kf b10 (Xaw (Xbd ku))
 refine Xaf (Xad ?_)
 iterate 2 refine kO hT hC ?_
 refine Vc.nil (Xah ?_)
 obtain rfl := kj h
 exact Xdx (τ := ⟨[(4, .own 16)], [(16, some (.ints .i64 v22.1)), (0, some (.box [.sv (.ints .u8 v22.2.1), .sv (.int .i64 v22.2.2.1), .sv (.int .i64 v22.2.2.2)]))]⟩) (kW hC [(16, 144)]) rfl ⟨rfl, rfl, trivial⟩
def Xyo (r : (Xao × Xa6)) : AV := .agg [.sv (.int .i64 r.1.Kind), .sv (.int .i64 r.1.Mode), .sv (.int .i64 r.1.Dx), .sv (.int .i64 r.1.Dy), .own 16]
def Xyn (r : (Xao × Xa6)) : Xbl := [(16, .ints .i64 r.1.Levels), (0, .box [.sv (.ints .u8 r.2.b_), .sv (.int .i64 r.2.i_), .sv (.int .i64 r.2.h_)])]
theorem Yaa {p0 p1 r} (h : Xi6 p0 p1 = some r) : AC Tryz.prog 230 [.ptr 0 0, .agg [.sv (.bool p1.Key), .sv (.int .i64 p1.Qp), .sv (.bool p1.Large), .sv (.bool p1.Exact)]] [(0, .box [.sv (.ints .u8 p0.b_), .sv (.int .i64 p0.i_), .sv (.int .i64 p0.h_)])] (Xyo r) (Xyn r) := by
 refine Xae hT Tryz.func230 rfl fun C hC => ?_
 unfold Xi6 at h
 refine Xad ?_
 iterate 2 refine kO hT hC ?_
 refine Vc.nil (Xa2 ?_)
 refine kL [0,3,4] [0,48,64] [_,_,_] [_,_,_] ?_
 refine kA h (fun v1 => ([(12, .sv (.bool v1.1))], [(0, some (.box [.sv (.ints .u8 v1.2.1), .sv (.int .i64 v1.2.2.1), .sv (.int .i64 v1.2.2.2)]))])) (fun v1 h => ?_) fun v1 h => ?_
 refine Xac ?_
 iterate 4 refine kO hT hC ?_
 refine kS h ?_ ?_ <;> intro b1 h
 iterate 2 refine kF hC (kn b1) ?_
 refine kP hC false (kn b1) ?_
 exact Vc.nil kM
 refine kI hT hC (kn b1) ?_
 refine kE hC (kn b1) [(0, 0)] Tryz.call54 h (fun _ => Xcv) fun q2 h => ?_
 refine kP hC true (kn b1) ?_
 exact Vc.nil kM
 refine kS h ?_ ?_ <;> intro b2 h
 refine kt b2 (Xad ?_)
 iterate 2 refine kO hT hC ?_
 refine Vc.nil (Xah (Xa4 ?_))
 obtain rfl := kj h
 refine Xdx (τ := ⟨[(4, .ptr 2000000 0)], [(16, some (.ints .i64 [])), (0, some (.box [.sv (.ints .u8 v1.2.1), .sv (.int .i64 v1.2.2.1), .sv (.int .i64 v1.2.2.2)])), (2000000, some (.box [.sv (.int .i64 0), .sv (.int .i64 0), .sv (.int .i64 0), .sv (.int .i64 0), .own 16]))]⟩) ?_ rfl ⟨rfl, rfl, trivial⟩
 refine Xyr hC 64 4 689 (.ints .i64 []) rfl rfl rfl rfl rfl trivial ?_
 apply Xi9 hC [(16, 689), (2000000, 64)]
 exact co
 rfl
 decide
 rfl
 refine kf b2 (Xag (Xaf (Xa2 ?_)))
 refine kL [0,3,4] [0,48,64] [_,_,_] [_,_,_] ?_
 refine kA h (fun v3 => ([(20, .sv (.bool v3.1)), (3, .any)], [(0, some (.box [.sv (.ints .u8 v3.2.1), .sv (.int .i64 v3.2.2.1), .sv (.int .i64 v3.2.2.2)])), (48, none)])) (fun v3 h => ?_) fun v3 h => ?_
 refine Xac ?_
 iterate 4 refine kO hT hC ?_
 refine kS h ?_ ?_ <;> intro b3 h
 iterate 2 refine kF hC (kn b3) ?_
 refine kP hC false (kn b3) ?_
 exact Vc.nil kM
 refine kI hT hC (kn b3) ?_
 refine kE hC (kn b3) [(0, 0)] Tryz.call54 h (fun _ => Xcv) fun q4 h => ?_
 refine kP hC true (kn b3) ?_
 exact Vc.nil kM
 refine kS h ?_ ?_ <;> intro b4 h
 refine kt b4 (Xad ?_)
 refine kO hT hC ?_
 refine kC hC [(0, 0)] Tryz.call49 h (fun _ => Xbf) fun q5 h => ?_
 iterate 2 refine kO hT hC ?_
 refine kC hC [(0, 0)] Tryz.call49 h (fun _ => Xbf) fun q6 h => ?_
 iterate 2 refine kO hT hC ?_
 refine kC hC [(16, 448), (0, 0)] Tryz.call264 h (fun _ => Xqr) fun q7 h => ?_
 iterate 3 refine kO hT hC ?_
 refine Vc.nil ?_
 refine kL [0,4,5] [0,64,80,448] [_,_,_] [_,_,_,_] ?_
 refine kA h (fun v8 => ([(0, .any)], [(0, some (.box [.sv (.ints .u8 v8.2.1), .sv (.int .i64 v8.2.2.1), .sv (.int .i64 v8.2.2.2)])), (80, some (.box [.sv (.int .i64 1), .sv (.int .i64 0), .sv (.int .i64 v8.1), .sv (.int .i64 (Xaa .i64 (q6.1 - 3))), .own 448]))])) (fun v8 h => ?_) fun v8 h => ?_
 refine Xad ?_
 refine kO hT hC ?_
 refine kC hC [(0, 0)] Tryz.call54 h (fun _ => Xcv) fun q9 h => ?_
 refine Vc.nil ?_
 refine kS h ?_ ?_ <;> intro b5 h
 refine kt b5 (Xac ?_)
 refine kO hT hC ?_
 refine kC hC [(0, 0)] Tryz.call49 h (fun _ => Xbf) fun q10 h => ?_
 iterate 3 refine kO hT hC ?_
 exact Vc.nil kM
 exact kf b5 (Xag kM)
 refine Xad ?_
 iterate 2 refine kO hT hC ?_
 refine Vc.nil (Xah (Xa4 ?_))
 obtain rfl := kj h
 exact Xdx (τ := ⟨[(4, .ptr 2000000 0)], [(16, some (.ints .i64 q7.1)), (0, some (.box [.sv (.ints .u8 v8.2.1), .sv (.int .i64 v8.2.2.1), .sv (.int .i64 v8.2.2.2)])), (2000000, some (.box [.sv (.int .i64 1), .sv (.int .i64 0), .sv (.int .i64 v8.1), .sv (.int .i64 (Xaa .i64 (q6.1 - 3))), .own 16]))]⟩) (kW hC [(16, 448), (2000000, 64)]) rfl ⟨rfl, rfl, trivial⟩
 refine kf b4 (Xag (Xaf (Xad ?_)))
 refine kO hT hC ?_
 refine kC hC [(0, 0)] Tryz.call49 h (fun _ => Xbf) fun q11 h => ?_
 refine kO hT hC ?_
 refine kC hC [(16, 640), (0, 0)] Tryz.call264 h (fun _ => Xqr) fun q12 h => ?_
 iterate 2 refine kO hT hC ?_
 refine Vc.nil (Xah ?_)
 obtain rfl := kj h
 exact Xdx (τ := ⟨[(4, .ptr 2000000 0)], [(16, some (.ints .i64 q12.1)), (0, some (.box [.sv (.ints .u8 q12.2.b_), .sv (.int .i64 q12.2.i_), .sv (.int .i64 q12.2.h_)])), (2000000, some (.box [.sv (.int .i64 2), .sv (.int .i64 q11.1), .sv (.int .i64 0), .sv (.int .i64 0), .own 16]))]⟩) (kW hC [(16, 640), (2000000, 64)]) rfl ⟨rfl, rfl, trivial⟩
def Xwa (r : ((List Xao) × Xa6)) : AV := .own 16
def Xv9 (r : ((List Xao) × Xa6)) : Xbl := [(16, .row Xe4 r.1), (0, .box [.sv (.ints .u8 r.2.b_), .sv (.int .i64 r.2.i_), .sv (.int .i64 r.2.h_)])]
theorem Xyp {p0 p1 p2 r} (h : Xhs p0 p1 p2 = some r) : AC Tryz.prog 181 [.ptr 0 0, .sv (.int .i64 p1), .agg [.sv (.bool p2.Key), .sv (.int .i64 p2.Qp), .sv (.bool p2.Large), .sv (.bool p2.Exact)]] [(0, .box [.sv (.ints .u8 p0.b_), .sv (.int .i64 p0.i_), .sv (.int .i64 p0.h_)])] (Xwa r) (Xv9 r) := by
 refine Xae hT Tryz.func181 rfl fun C hC => ?_
 unfold Xhs at h
 refine Xad ?_
 iterate 2 refine kO hT hC ?_
 refine kN ?_
 iterate 2 refine kO hT hC ?_
 refine Vc.nil (Xa2 (Xad ?_))
 refine kO hT hC ?_
 refine Vc.nil ?_
 refine kL [0,1,5,7,8] [0,80,144] [_,_,_,_,_] [_,_,_] ?_
 refine kX h (fun v3 => ([(8, .sv (.int .i64 v3.1))], [(0, some (.box [.sv (.ints .u8 v3.2.1), .sv (.int .i64 v3.2.2.1), .sv (.int .i64 v3.2.2.2.1)])), (144, some (.row Xe4 v3.2.2.2.2))])) (fun v6 => ([(0, .any), (1, .any), (5, .any), (8, .any)], [(0, some (.box [.sv (.ints .u8 v6.2.1), .sv (.int .i64 v6.2.2.1), .sv (.int .i64 v6.2.2.2)])), (144, some (.row Xe4 v6.1)), (80, none)])) (kW hC []) (fun v3 s h => ?_) fun v6 h => ?_
 unfold Xg4 at h
 refine Xa2 (Xad ?_)
 iterate 3 refine kO hT hC ?_
 refine Vc.nil ?_
 refine kS h ?_ ?_ <;> intro b3 h
 refine kt b3 (Xag (Xaf (Xa2 (Xau (Xac ?_)))))
 iterate 3 refine kO hT hC ?_
 refine kC hC [(16, 288), (0, 0)] Tryz.call230 h (fun _ => Yaa) fun q7 h => ?_
 refine kO hT hC ?_
 obtain ⟨hq, h⟩ := Xa7 h
 refine Yc7 hT hC rfl rfl rfl rfl ⟨fun _ _ => rfl, by rw [Xtb]; exact hq⟩ ?_
 rw [Xtb]
 refine kO hT hC ?_
 refine Vc.nil (Xax (Xaf (Xac ?_)))
 iterate 3 refine kO hT hC ?_
 refine Vc.nil ?_
 obtain rfl := kj h
 exact Ylz (kW hC [(144, 320)])
 exact kf b3 (Xaw (Xbd ku))
 refine Xaf (Xad ?_)
 iterate 2 refine kO hT hC ?_
 refine Vc.nil (Xah ?_)
 obtain rfl := kj h
 exact Xdx (τ := ⟨[(6, .own 16)], [(16, some (.row Xe4 v6.1)), (0, some (.box [.sv (.ints .u8 v6.2.1), .sv (.int .i64 v6.2.2.1), .sv (.int .i64 v6.2.2.2)]))]⟩) (kW hC [(16, 144)]) rfl ⟨rfl, rfl, trivial⟩
def Yc2 (r : ByteArray) : AV := .sv (.str r)
def Yc1 (r : ByteArray) : Xbl := []
theorem Xhq {p0 r} (h : Xe3 p0 = some r) : AC Tryz.prog 262 [.sv (.ints .i64 p0)] [] (Yc2 r) (Yc1 r) := by
 refine Xae hT Tryz.func262 rfl fun C hC => ?_
 unfold Xe3 at h
 refine Xad ?_
 refine kO hT hC ?_
 refine kN ?_
 refine kO hT hC ?_
 refine kN ?_
 refine kO hT hC ?_
 refine kN ?_
 refine kO hT hC ?_
 refine Vc.nil (Xa2 (Xad ?_))
 refine kO hT hC ?_
 refine Vc.nil ?_
 refine kL [0,3,4,5,6] [] [_,_,_,_,_] [] ?_
 refine kX h (fun v5 => ([(3, .sv (.int .i64 v5.1)), (4, .sv (.int .i64 v5.2.1)), (5, .sv (.str v5.2.2.1)), (6, .sv (.int .i64 v5.2.2.2))], [])) (fun v10 => ([(3, .sv (.int .i64 v10.1)), (5, .sv (.str v10.2)), (0, .any), (4, .any), (6, .any)], [])) (kW hC []) (fun v5 s h => ?_) fun v10 h => ?_
 unfold Xfz at h
 refine Xa2 (Xad ?_)
 iterate 4 refine kO hT hC ?_
 refine Vc.nil ?_
 refine kS h ?_ ?_ <;> intro b5 h
 refine kt b5 (Xag (Xaf ?_))
 refine kL [0,3,4,5,6] [] [_,_,_,_,_] [] ?_
 refine kA h (fun v11 => ([(3, .sv (.int .i64 v11.1)), (4, .sv (.int .i64 v11.2.1)), (5, .sv (.str v11.2.2))], [])) (fun v11 h => ?_) fun v11 h => ?_
 refine Xau (Xa2 (Xad ?_))
 iterate 2 refine kO hT hC ?_
 refine kQ hT hC h fun h => ?_
 iterate 2 refine kO hT hC ?_
 refine Vc.nil ?_
 refine kS h ?_ ?_ <;> intro b6 h
 refine kt b6 (Xad ?_)
 iterate 3 refine kO hT hC ?_
 exact Vc.nil (Xaw (Xbd (Yqs kM)))
 refine kf b6 (Xag (Xaf (Xad ?_)))
 iterate 3 refine kO hT hC ?_
 refine Vc.nil ?_
 refine Xdw hm ?_
 iterate 2 refine kO hT hC ?_
 refine kC hC [] Tryz.call159 h (fun _ => Xd2) fun q12 h => ?_
 refine kQ hT hC h fun h => ?_
 iterate 2 refine kO hT hC ?_
 refine kQ hT hC h fun h => ?_
 refine kO hT hC ?_
 refine kC hC [] Tryz.call161 h (fun _ => Xnz) fun q13 h => ?_
 refine kQ hT hC h fun h => ?_
 refine kO hT hC ?_
 refine kD (Xac ?_)
 refine kO hT hC ?_
 exact Vc.nil (Xax kM)
 refine Xac ?_
 iterate 3 refine kO hT hC ?_
 exact Vc.nil kG
 exact kf b5 (Xaw (Xbd ku))
 refine Xaf (Xad ?_)
 refine kO hT hC ?_
 refine kC hC [] Tryz.call159 h (fun _ => Xd2) fun q15 h => ?_
 refine kO hT hC ?_
 refine kQ hT hC h fun h => ?_
 refine kO hT hC ?_
 exact Vc.nil (Xah kR)
def Yg5 (r : ByteArray) : AV := .sv (.str r)
def Yg4 (r : ByteArray) : Xbl := []
theorem Xu7 {p0 p1 r} (h : Xl7 p0 p1 = some r) : AC Tryz.prog 224 [.sv (.ints .i64 p0), .agg [.sv (.bool p1.Key), .sv (.int .i64 p1.Qp), .sv (.bool p1.Large), .sv (.bool p1.Exact)]] [] (Yg5 r) (Yg4 r) := by
 refine Xae hT Tryz.func224 rfl fun C hC => ?_
 unfold Xl7 at h
 refine Xad ?_
 iterate 2 refine kO hT hC ?_
 refine Vc.nil (Xa2 ?_)
 refine kL [0,3] [48] [_,_] [_] ?_
 refine kA h (fun v1 => ([(10, .sv (.bool v1)), (3, .any)], [(48, none)])) (fun v1 h => ?_) fun v1 h => ?_
 refine Xac ?_
 iterate 3 refine kO hT hC ?_
 refine kS h ?_ ?_ <;> intro b1 h
 iterate 2 refine kF hC b1 ?_
 refine kP hC true b1 ?_
 exact Vc.nil kM
 iterate 2 refine kI hT hC b1 ?_
 refine kP hC false b1 ?_
 exact Vc.nil kM
 refine kS h ?_ ?_ <;> intro b2 h
 refine kt b2 (Xad ?_)
 refine kO hT hC ?_
 refine kC hC [] Tryz.call262 h (fun _ => Xhq) fun q2 h => ?_
 refine kO hT hC ?_
 exact Vc.nil (Xah (Xa4 kR))
 refine kf b2 (Xag (Xaf ?_))
 refine Xdw hm ?_
 refine kO hT hC ?_
 refine kQ hT hC h fun h => ?_
 refine kC hC [] Tryz.call262 h (fun _ => Xhq) fun q3 h => ?_
 refine kO hT hC ?_
 refine kQ hT hC h fun h => ?_
 refine kC hC [] Tryz.call262 h (fun _ => Xhq) fun q4 h => ?_
 refine kQ hT hC h fun h => ?_
 refine kO hT hC ?_
 refine kQ hT hC h fun h => ?_
 refine kC hC [] Tryz.call262 h (fun _ => Xhq) fun q5 h => ?_
 refine kQ hT hC h fun h => ?_
 refine kO hT hC ?_
 refine kQ hT hC h fun h => ?_
 refine kC hC [] Tryz.call262 h (fun _ => Xhq) fun q6 h => ?_
 refine kQ hT hC h fun h => ?_
 refine kO hT hC ?_
 exact kD (Xah kR)
def Yg7 (r : ByteArray) : AV := .sv (.str r)
def Yg6 (r : ByteArray) : Xbl := []
theorem Yji {p0 p1 r} (h : Xow p0 p1 = some r) : AC Tryz.prog 162 [.agg [.sv (.int .i64 p0.Kind), .sv (.int .i64 p0.Mode), .sv (.int .i64 p0.Dx), .sv (.int .i64 p0.Dy), .sv (.ints .i64 p0.Levels)], .agg [.sv (.bool p1.Key), .sv (.int .i64 p1.Qp), .sv (.bool p1.Large), .sv (.bool p1.Exact)]] [] (Yg7 r) (Yg6 r) := by
 refine Xae hT Tryz.func162 rfl fun C hC => ?_
 unfold Xow at h
 refine Xad ?_
 iterate 3 refine kO hT hC ?_
 refine kN ?_
 refine kO hT hC ?_
 refine Vc.nil ?_
 refine kL [2,3,5] [32,48] [_,_,_] [_,_] ?_
 refine kA h (fun v1 => ([(5, .sv (.str v1))], [])) (fun v1 h => ?_) fun v1 h => ?_
 refine Xad ?_
 iterate 3 refine kO hT hC ?_
 refine Vc.nil ?_
 refine kS h ?_ ?_ <;> intro b1 h
 refine kt b1 (Xac ?_)
 iterate 2 refine kO hT hC ?_
 refine kC hC [] Tryz.call159 h (fun _ => Xd2) fun q2 h => ?_
 refine kO hT hC ?_
 exact Vc.nil kM
 exact kf b1 (Xag kM)
 refine Xa2 (Xad ?_)
 iterate 2 refine kO hT hC ?_
 refine Vc.nil (Xau (Xad ?_))
 iterate 2 refine kO hT hC ?_
 refine Vc.nil ?_
 refine kS h ?_ ?_ <;> intro b2 h
 refine kt b2 ?_
 refine Xdw hm ?_
 iterate 3 refine kO hT hC ?_
 refine kC hC [] Tryz.call161 h (fun _ => Xnz) fun q3 h => ?_
 refine kQ hT hC h fun h => ?_
 iterate 2 refine kO hT hC ?_
 refine kC hC [] Tryz.call161 h (fun _ => Xnz) fun q4 h => ?_
 refine kQ hT hC h fun h => ?_
 iterate 3 refine kO hT hC ?_
 refine kC hC [] Tryz.call224 h (fun _ => Xu7) fun q5 h => ?_
 refine kQ hT hC h fun h => ?_
 refine kO hT hC ?_
 exact kD (Xah (Xg6 (Xa4 kR)))
 refine kf b2 (Xad ?_)
 iterate 2 refine kO hT hC ?_
 refine Vc.nil ?_
 refine kS h ?_ ?_ <;> intro b3 h
 refine kt b3 ?_
 refine Xdw hm ?_
 iterate 3 refine kO hT hC ?_
 refine kC hC [] Tryz.call159 h (fun _ => Xd2) fun q6 h => ?_
 refine kQ hT hC h fun h => ?_
 iterate 3 refine kO hT hC ?_
 refine kC hC [] Tryz.call224 h (fun _ => Xu7) fun q7 h => ?_
 refine kQ hT hC h fun h => ?_
 refine kO hT hC ?_
 exact kD (Xah (Xg6 (Xa4 kR)))
 refine kf b3 (Xag (Xax (Xaf (Xad ?_))))
 iterate 2 refine kO hT hC ?_
 exact Vc.nil (Xah kR)
def Yg9 (r : ByteArray) : AV := .sv (.str r)
def Yg8 (r : ByteArray) : Xbl := []
theorem Yjl {p0 p1 r} (h : Xox p0 p1 = some r) : AC Tryz.prog 82 [.sv (Xe4.sv p0), .agg [.sv (.bool p1.Key), .sv (.int .i64 p1.Qp), .sv (.bool p1.Large), .sv (.bool p1.Exact)]] [] (Yg9 r) (Yg8 r) := by
 refine Xae hT Tryz.func82 rfl fun C hC => ?_
 unfold Xox at h
 refine Xad ?_
 iterate 2 refine kO hT hC ?_
 refine kN ?_
 iterate 2 refine kO hT hC ?_
 refine Vc.nil (Xa2 (Xad ?_))
 refine kO hT hC ?_
 refine Vc.nil ?_
 refine kL [0,3,5,6] [48,112] [_,_,_,_] [_,_] ?_
 refine kX h (fun v3 => ([(6, .sv (.int .i64 v3.1))], [(112, some (.ints .u8 v3.2))])) (fun v6 => ([(0, .any), (3, .any), (6, .any)], [(112, some (.ints .u8 v6)), (48, none)])) (kW hC []) (fun v3 s h => ?_) fun v6 h => ?_
 unfold Xi7 at h
 refine Xa2 (Xad ?_)
 iterate 4 refine kO hT hC ?_
 refine Vc.nil ?_
 refine kS h ?_ ?_ <;> intro b3 h
 refine kt b3 (Xag (Xaf (Xa2 (Xau ?_))))
 refine Xf6 hm ?_
 iterate 3 refine kO hT hC ?_
 refine kQ hT hC h fun h => ?_
 iterate 2 refine kO hT hC ?_
 refine kC hC [] Tryz.call162 h (fun _ => Yji) fun q7 h => ?_
 refine kT hT hC h fun h => ?_
 refine kO hT hC ?_
 refine kD (Xax (Xaf (Xac ?_)))
 iterate 3 refine kO hT hC ?_
 refine Vc.nil ?_
 obtain rfl := kj h
 exact Ylz (kW hC [(112, 336)])
 exact kf b3 (Xaw (Xbd ku))
 refine Xaf (Xad ?_)
 iterate 3 refine kO hT hC ?_
 exact Vc.nil (Xah kR)
def Xs9 (r : ((List ByteArray) × Xa6 × Seq)) : AV := .own 16
def Xs8 (r : ((List ByteArray) × Xa6 × Seq)) : Xbl := [(16, .row Xbm r.1), (0, .box [.sv (.ints .u8 r.2.1.b_), .sv (.int .i64 r.2.1.i_), .sv (.int .i64 r.2.1.h_)]), (6, .ints .i64 r.2.2.Cols), (7, .ints .i64 r.2.2.Rows)]
theorem Xug {p0 p1 p2 p3 p4 p5 r} (h : Xf0 p0 p1 p2 p3 p4 p5 = some r) : AC Tryz.prog 108 [.ptr 0 0, .agg [.sv (.int .i64 p1.Level), .sv (.int .i64 p1.Bits), .own 6, .own 7], .agg [.sv (.int .i64 p2.Qp), .sv (.bool p2.Large), .sv (.bool p2.Exact), .sv (.bool p2.Confined)], .sv (.int .i64 p3), .sv (.int .i64 p4), .sv (.bool p5)] [(0, .box [.sv (.ints .u8 p0.b_), .sv (.int .i64 p0.i_), .sv (.int .i64 p0.h_)]), (6, .ints .i64 p1.Cols), (7, .ints .i64 p1.Rows)] (Xs9 r) (Xs8 r) := by
 refine Xae hT Tryz.func108 rfl fun C hC => ?_
 unfold Xf0 at h
 refine Xad ?_
 iterate 3 refine kO hT hC ?_
 refine kN ?_
 iterate 2 refine kO hT hC ?_
 refine Vc.nil (Xa2 (Xad ?_))
 iterate 2 refine kO hT hC ?_
 refine Vc.nil ?_
 refine kL [0,3,5,7,8,13,14] [0,6,7,112,128,336] [_,_,_,_,_,_,_] [_,_,_,_,_,_] ?_
 refine kX h (fun v13 => ([(14, .sv (.int .i64 v13.1))], [(0, some (.box [.sv (.ints .u8 v13.2.1), .sv (.int .i64 v13.2.2.1), .sv (.int .i64 v13.2.2.2.1)])), (336, some (.row Xbm v13.2.2.2.2))])) (fun v26 => ([(0, .any), (3, .any), (5, .any), (7, .any), (8, .any), (14, .any)], [(0, some (.box [.sv (.ints .u8 v26.2.1), .sv (.int .i64 v26.2.2.1), .sv (.int .i64 v26.2.2.2)])), (336, some (.row Xbm v26.1)), (112, none), (128, none)])) (kW hC []) (fun v13 s h => ?_) fun v26 h => ?_
 unfold Xfh at h
 refine Xa2 (Xad ?_)
 iterate 2 refine kO hT hC ?_
 refine kC hC [] Tryz.call101 h (fun _ => Xom) fun q27 h => ?_
 refine kO hT hC ?_
 refine Vc.nil ?_
 refine kS h ?_ ?_ <;> intro b7 h
 refine kt b7 (Xag (Xaf (Xa2 (Xau ?_))))
 refine kL [0,3,5,7,8,13,14] [0,6,7,112,128,336] [_,_,_,_,_,_,_] [_,_,_,_,_,_] ?_
 refine kA h (fun v28 => ([(15, .ptr 1212 0)], [(0, some (.box [.sv (.ints .u8 v28.1), .sv (.int .i64 v28.2.1), .sv (.int .i64 v28.2.2.1)])), (1212, some (.box [.sv (.bool v28.2.2.2.1), .sv (.int .i64 v28.2.2.2.2), .sv (.bool p2.Large), .sv (.bool p2.Exact)]))])) (fun v28 h => ?_) fun v28 h => ?_
 refine Xf6 hm ?_
 iterate 2 refine kO hT hC ?_
 refine kS h ?_ ?_ <;> intro b8 h
 iterate 2 refine kF hC b8 ?_
 refine kP hC true b8 ?_
 refine kO hT hC ?_
 refine kC hC [(0, 0)] Tryz.call49 h (fun _ => Xbf) fun q29 h => ?_
 iterate 7 refine kO hT hC ?_
 refine kD ?_
 obtain rfl := kj h
 exact Xf5 (kW hC [(1212, 240)])
 refine kI hT hC b8 ?_
 refine kE hC b8 [(0, 0)] Tryz.call54 h (fun _ => Xcv) fun q30 h => ?_
 refine kP hC false b8 ?_
 refine kO hT hC ?_
 refine kC hC [(0, 0)] Tryz.call49 h (fun _ => Xbf) fun q31 h => ?_
 iterate 7 refine kO hT hC ?_
 refine kD ?_
 obtain rfl := kj h
 exact Xf5 (kW hC [(1212, 240)])
 refine Xad ?_
 iterate 7 refine kO hT hC ?_
 refine kC hC [] Tryz.call81 h (fun _ => Ygn) fun q32 h => ?_
 iterate 5 refine kO hT hC ?_
 refine kN ?_
 refine kO hT hC ?_
 refine Vc.nil ?_
 refine kL [0,3,5,7,8,13,14,15,16,18] [0,6,7,112,128,336,1212] [_,_,_,_,_,_,_,_,_,_] [_,_,_,_,_,_,_] ?_
 refine kA h (fun v33 => ([(18, .sv (.int .i64 v33))], [])) (fun v33 h => ?_) fun v33 h => ?_
 refine Xad ?_
 iterate 2 refine kO hT hC ?_
 refine Vc.nil ?_
 refine kS h ?_ ?_ <;> intro b9 h
 refine kt b9 (Xac ?_)
 refine kO hT hC ?_
 exact Vc.nil kM
 exact kf b9 (Xag kM)
 refine Xdw hm ?_
 iterate 5 refine kO hT hC ?_
 refine kC hC [] Tryz.call104 h (fun _ => Xv5) fun q34 h => ?_
 refine kO hT hC ?_
 refine kC hC [(16, 992), (0, 0)] Tryz.call181 h (fun _ => Xyp) fun q35 h => ?_
 refine kO hT hC ?_
 refine kC hC [] Tryz.call82 h (fun _ => Yjl) fun q36 h => ?_
 refine kQ hT hC h fun h => ?_
 refine kC hC [] Tryz.call84 h (fun _ => Xpv) fun q37 h => ?_
 iterate 5 refine kO hT hC ?_
 refine kD (Xac ?_)
 iterate 3 refine kO hT hC ?_
 obtain ⟨hq, h⟩ := Xa7 h
 refine Yc7 hT hC rfl rfl rfl rfl ⟨fun _ _ => rfl, by rw [Xdb]; exact hq⟩ ?_
 rw [Xdb]
 refine kO hT hC ?_
 refine Vc.nil (Xax (Xaf (Xac ?_)))
 iterate 3 refine kO hT hC ?_
 refine Vc.nil ?_
 obtain rfl := kj h
 exact Ylz (kW hC [(336, 1152)])
 exact kf b7 (Xaw (Xbd ku))
 refine Xaf (Xad ?_)
 iterate 2 refine kO hT hC ?_
 refine Vc.nil (Xah ?_)
 obtain rfl := kj h
 exact Xdx (τ := ⟨[(12, .own 16)], [(16, some (.row Xbm v26.1)), (0, some (.box [.sv (.ints .u8 v26.2.1), .sv (.int .i64 v26.2.2.1), .sv (.int .i64 v26.2.2.2)])), (6, some (.ints .i64 p1.Cols)), (7, some (.ints .i64 p1.Rows))]⟩) (kW hC [(16, 336)]) rfl ⟨rfl, rfl, rfl, rfl, trivial⟩
def Yaf (r : ((List ByteArray) × Xa6)) : AV := .own 16
def Yae (r : ((List ByteArray) × Xa6)) : Xbl := [(16, .row Xbm r.1), (0, .box [.sv (.ints .u8 r.2.b_), .sv (.int .i64 r.2.i_), .sv (.int .i64 r.2.h_)])]
theorem Yc5 {p0 r} (h : Xle p0 = some r) : AC Tryz.prog 41 [.ptr 0 0] [(0, .box [.sv (.ints .u8 p0.b_), .sv (.int .i64 p0.i_), .sv (.int .i64 p0.h_)])] (Yaf r) (Yae r) := by
 refine Xae hT Tryz.func41 rfl fun C hC => ?_
 unfold Xle at h
 refine Xad ?_
 refine kO hT hC ?_
 refine kN ?_
 iterate 5 refine kO hT hC ?_
 refine Vc.nil ?_
 refine kL [0,3] [0,48,192,208] [_,_] [_,_,_,_] ?_
 refine kA h (fun v1 => ([], [(0, some (.box [.sv (.ints .u8 v1.1), .sv (.int .i64 v1.2.1), .sv (.int .i64 v1.2.2.1)])), (192, some (.ints .i64 v1.2.2.2))])) (fun v1 h => ?_) fun v1 h => ?_
 refine Xad ?_
 refine kO hT hC ?_
 refine kC hC [(0, 0)] Tryz.call54 h (fun _ => Xcv) fun q2 h => ?_
 refine Vc.nil ?_
 refine kS h ?_ ?_ <;> intro b1 h
 refine kt b1 (Xac ?_)
 refine kO hT hC ?_
 refine kC hC [(0, 0)] Tryz.call49 h (fun _ => Xbf) fun q3 h => ?_
 iterate 4 refine kO hT hC ?_
 refine Vc.nil ?_
 obtain rfl := kj h
 exact Xf5 (kW hC [(192, 320)])
 exact kf b1 (Xag kM)
 refine kL [0,3] [0,48,192,208] [_,_] [_,_,_,_] ?_
 refine kA h (fun v4 => ([], [(0, some (.box [.sv (.ints .u8 v4.1), .sv (.int .i64 v4.2.1), .sv (.int .i64 v4.2.2.1)])), (208, some (.ints .i64 v4.2.2.2))])) (fun v4 h => ?_) fun v4 h => ?_
 refine Xad ?_
 refine kO hT hC ?_
 refine kC hC [(0, 0)] Tryz.call54 h (fun _ => Xcv) fun q5 h => ?_
 refine Vc.nil ?_
 refine kS h ?_ ?_ <;> intro b2 h
 refine kt b2 (Xac ?_)
 iterate 3 refine kO hT hC ?_
 refine Vc.nil ?_
 obtain rfl := kj h
 exact Xf5 (kW hC [(208, 384)])
 exact kf b2 (Xag kM)
 refine Xad ?_
 refine kO hT hC ?_
 refine kC hC [(0, 0)] Tryz.call50 h (fun _ => Xv7) fun q6 h => ?_
 iterate 2 refine kO hT hC ?_
 refine kN ?_
 refine kO hT hC ?_
 refine kC hC [] Tryz.call106 h (fun _ => Yjd) fun q7 h => ?_
 refine kC hC [] Tryz.call84 h (fun _ => Xpv) fun q8 h => ?_
 iterate 5 refine kO hT hC ?_
 refine kN ?_
 refine kO hT hC ?_
 refine kC hC [] Tryz.call107 h (fun _ => Yjb) fun q9 h => ?_
 refine kC hC [] Tryz.call84 h (fun _ => Xpv) fun q10 h => ?_
 iterate 5 refine kO hT hC ?_
 refine kN ?_
 iterate 4 refine kO hT hC ?_
 refine kN ?_
 refine kO hT hC ?_
 refine kC hC [(0, 0)] Tryz.call49 h (fun _ => Xbf) fun q11 h => ?_
 refine kO hT hC ?_
 refine Vc.nil (Xa2 (Xad ?_))
 refine kO hT hC ?_
 refine Vc.nil ?_
 refine kL [0,3,4,9,10,11] [0,48,64,192,208,672] [_,_,_,_,_,_] [_,_,_,_,_,_] ?_
 refine kX h (fun v16 => ([(10, .sv (.int .i64 v16.1)), (11, .sv (.int .i64 v16.2.1))], [(0, some (.box [.sv (.ints .u8 v16.2.2.1), .sv (.int .i64 v16.2.2.2.1), .sv (.int .i64 v16.2.2.2.2.1)])), (192, some (.ints .i64 v16.2.2.2.2.2.2.1)), (208, some (.ints .i64 v16.2.2.2.2.2.2.2)), (672, some (.row Xbm v16.2.2.2.2.2.1))])) (fun v21 => ([(0, .any), (3, .any), (4, .any), (10, .any), (11, .any)], [(0, some (.box [.sv (.ints .u8 v21.2.1), .sv (.int .i64 v21.2.2.1), .sv (.int .i64 v21.2.2.2)])), (672, some (.row Xbm v21.1)), (48, none), (64, none), (192, none), (208, none)])) (kW hC []) (fun v16 s h => ?_) fun v21 h => ?_
 unfold Xgp at h
 refine Xa2 (Xad ?_)
 iterate 2 refine kO hT hC ?_
 refine kC hC [(0, 0)] Tryz.call49 h (fun _ => Xbf) fun q22 h => ?_
 iterate 2 refine kO hT hC ?_
 refine Vc.nil ?_
 refine kS h ?_ ?_ <;> intro b5 h
 refine kt b5 (Xag (Xaf (Xa2 (Xau (Xad ?_)))))
 iterate 7 refine kO hT hC ?_
 refine kC hC [(16, 944), (0, 0), (6, 192), (7, 208)] Tryz.call108 h (fun _ => Xug) fun q24 h => ?_
 obtain ⟨hq, h⟩ := Xa7 h
 refine Yc7 hT hC rfl rfl rfl rfl ⟨fun _ _ => rfl, by rw [Xdb]; exact hq⟩ ?_
 rw [Xdb]
 refine kO hT hC ?_
 refine Vc.nil (Xac ?_)
 iterate 2 refine kO hT hC ?_
 refine kQ hT hC h fun h => ?_
 refine kO hT hC ?_
 refine Vc.nil (Xax (Xaf (Xac ?_)))
 iterate 3 refine kO hT hC ?_
 refine Vc.nil ?_
 obtain rfl := kj h
 exact Ylz (kW hC [(672, 960)])
 exact kf b5 (Xaw (Xbd ku))
 refine Xaf (Xad ?_)
 iterate 2 refine kO hT hC ?_
 refine Vc.nil (Xah ?_)
 obtain rfl := kj h
 exact Xdx (τ := ⟨[(2, .own 16)], [(16, some (.row Xbm v21.1)), (0, some (.box [.sv (.ints .u8 v21.2.1), .sv (.int .i64 v21.2.2.1), .sv (.int .i64 v21.2.2.2)]))]⟩) (kW hC [(16, 672)]) rfl ⟨rfl, rfl, trivial⟩
def Xv2 (r : (List ByteArray)) : AV := .own 16
def Xv1 (r : (List ByteArray)) : Xbl := [(16, .row Xbm r)]
theorem Xyd {p0 r} (h : Xhk p0 = some r) : AC Tryz.prog 8 [.sv (.ints .u8 p0)] [] (Xv2 r) (Xv1 r) := by
 refine Xae hT Tryz.func8 rfl fun C hC => ?_
 unfold Xhk at h
 refine Xad ?_
 refine kO hT hC ?_
 refine kN ?_
 refine kO hT hC ?_
 refine kC hC [(16, 64)] Tryz.call42 h (fun _ => Yi3) fun q1 h => ?_
 refine kC hC [(16, 80), (0, 64)] Tryz.call41 h (fun _ => Yc5) fun q2 h => ?_
 refine kO hT hC ?_
 refine Vc.nil (Xah ?_)
 obtain rfl := kj h
 exact Xdx (τ := ⟨[(2, .own 16)], [(16, some (.row Xbm q2.1))]⟩) (kW hC [(16, 80)]) rfl ⟨rfl, trivial⟩
def Ybg (r : (ByteArray × Bool)) : AV := .tup [.sv (.str r.1), .sv (.bool r.2)]
def Ybf (r : (ByteArray × Bool)) : Xbl := []
theorem Xr9 {p0 r} (h : Xjs p0 = some r) : AC Tryz.prog 43 [.sv (.str p0)] [] (Ybg r) (Ybf r) := by
 refine Xae hT Tryz.func43 rfl fun C hC => ?_
 unfold Xjs at h
 refine Xad ?_
 iterate 2 refine kO hT hC ?_
 refine Vc.nil (Xa2 ?_)
 refine kL [0] [] [_] [] ?_
 refine kA h (fun v1 => ([(21, .sv (.bool v1))], [])) (fun v1 h => ?_) fun v1 h => ?_
 refine Xac ?_
 iterate 3 refine kO hT hC ?_
 refine kS h ?_ ?_ <;> intro b1 h
 iterate 3 refine kF hC b1 ?_
 refine kP hC true b1 ?_
 refine kO hT hC ?_
 iterate 6 refine kF hC rfl ?_
 refine kO hT hC ?_
 exact Vc.nil kM
 iterate 3 refine kI hT hC b1 ?_
 refine kP hC false b1 ?_
 refine kO hT hC ?_
 refine kS h ?_ ?_ <;> intro b2 h
 iterate 6 refine kF hC b2 ?_
 refine kP hC true b2 ?_
 exact Vc.nil kM
 iterate 4 refine kI hT hC b2 ?_
 refine kJ hT hC b2 h fun h => ?_
 refine kI hT hC b2 ?_
 refine kP hC false b2 ?_
 exact Vc.nil kM
 refine kS h ?_ ?_ <;> intro b3 h
 refine kt b3 (Xad ?_)
 iterate 2 refine kO hT hC ?_
 exact Vc.nil (Xah (Xa4 kR))
 refine kf b3 (Xag (Xaf (Xad ?_)))
 iterate 4 refine kO hT hC ?_
 refine kQ hT hC h fun h => ?_
 refine kO hT hC ?_
 obtain ⟨hq, h⟩ := Xa7 h
 refine Yc7 hT hC rfl rfl rfl rfl ⟨hq.1, hq.2.1, hq.2.2, by decide⟩ ?_
 refine kO hT hC ?_
 refine kN ?_
 refine kO hT hC ?_
 refine Vc.nil (Xa2 (Xad ?_))
 refine kO hT hC ?_
 refine Vc.nil ?_
 refine kL [0,4,5,6] [448] [_,_,_,_] [_] ?_
 refine kX h (fun v6 => ([(5, .sv (.int .i64 v6.1)), (6, .sv (.int .i64 v6.2.1))], [(448, some (.ints .u8 v6.2.2))])) (fun v11 => ([(0, .any), (5, .any), (6, .any)], [(448, some (.ints .u8 v11))])) (kW hC []) (fun v6 s h => ?_) fun v11 h => ?_
 unfold Xfj at h
 refine Xa2 (Xad ?_)
 iterate 4 refine kO hT hC ?_
 refine Vc.nil ?_
 refine kS h ?_ ?_ <;> intro b12 h
 refine kt b12 (Xag (Xaf ?_))
 refine kL [0,4,5,6] [448] [_,_,_,_] [_] ?_
 refine kA h (fun v12 => ([(4, .own 982), (5, .sv (.int .i64 v12.1))], [(982, some (.ints .u8 v12.2)), (448, none)])) (fun v12 h => ?_) fun v12 h => ?_
 refine Xau ?_
 refine kL [0,4,5,6] [448] [_,_,_,_] [_] ?_
 refine kA h (fun v13 => ([(5, .sv (.int .i64 v13.1))], [(448, some (.ints .u8 v13.2))])) (fun v13 h => ?_) fun v13 h => ?_
 refine kL [0,4,5,6] [448] [_,_,_,_] [_] ?_
 refine kA h (fun v14 => ([(42, .sv (.bool v14))], [])) (fun v14 h => ?_) fun v14 h => ?_
 refine Xac ?_
 iterate 2 refine kO hT hC ?_
 refine kQ hT hC h fun h => ?_
 iterate 2 refine kO hT hC ?_
 refine kS h ?_ ?_ <;> intro b13 h
 iterate 2 refine kI hT hC b13 ?_
 refine kP hC true b13 ?_
 exact Vc.nil kM
 iterate 2 refine kF hC b13 ?_
 refine kP hC false b13 ?_
 exact Vc.nil kM
 refine kS h ?_ ?_ <;> intro b14 h
 refine kt b14 (Xad ?_)
 iterate 2 refine kO hT hC ?_
 refine kT hT hC h fun h => ?_
 refine kO hT hC ?_
 refine Vc.nil (Xac ?_)
 refine kO hT hC ?_
 refine Vc.nil ?_
 obtain rfl := kj h
 exact Xf5 (kW hC [(448, 720)])
 exact kf b14 (Xag kM)
 refine Xad ?_
 iterate 3 refine kO hT hC ?_
 refine kQ hT hC h fun h => ?_
 refine kO hT hC ?_
 refine kT hT hC h fun h => ?_
 refine kO hT hC ?_
 refine kN ?_
 iterate 2 refine kO hT hC ?_
 refine kQ hT hC h fun h => ?_
 refine kO hT hC ?_
 refine Vc.nil ?_
 refine kS h ?_ ?_ <;> intro b15 h
 refine kt b15 (Xac ?_)
 iterate 3 refine kO hT hC ?_
 refine Vc.nil (Xax ?_)
 obtain rfl := kj h
 exact Xf5 (kW hC [(982, 816)])
 refine kf b15 (Xac ?_)
 refine kO hT hC ?_
 refine Vc.nil (Xax ?_)
 obtain rfl := kj h
 exact Xf5 (kW hC [(982, 816)])
 refine Xac ?_
 iterate 3 refine kO hT hC ?_
 refine Vc.nil ?_
 obtain rfl := kj h
 exact Ylz (kW hC [(448, 982)])
 exact kf b12 (Xaw (Xbd ku))
 refine Xaf (Xad ?_)
 iterate 4 refine kO hT hC ?_
 exact Vc.nil (Xah kR)
def Xsc (r : (ByteArray × Bool)) : AV := .tup [.sv (.str r.1), .sv (.bool r.2)]
def Xsb (r : (ByteArray × Bool)) : Xbl := []
theorem Yhv {p0 r} (h : Xlk p0 = some r) : AC Tryz.prog 9 [.sv (Xbm.sv p0)] [] (Xsc r) (Xsb r) := by
 refine Xae hT Tryz.func9 rfl fun C hC => ?_
 unfold Xlk at h
 refine Xad ?_
 iterate 2 refine kO hT hC ?_
 refine Vc.nil (Xa2 (Xad ?_))
 iterate 3 refine kO hT hC ?_
 refine Vc.nil ?_
 refine kS h ?_ ?_ <;> intro b1 h
 refine kt b1 (Xad ?_)
 iterate 2 refine kO hT hC ?_
 exact Vc.nil (Xah (Xa4 kR))
 refine kf b1 (Xag (Xaf (Xad ?_)))
 iterate 2 refine kO hT hC ?_
 refine Vc.nil (Xa2 (Xad ?_))
 iterate 3 refine kO hT hC ?_
 refine Vc.nil ?_
 refine kL [4,13,14,15] [192] [_,_,_,_] [_] ?_
 obtain ⟨o11, hl, h⟩ := Xb6 h
 refine Xlx (fun v4 => ([(15, .sv (.int .i64 v4.1))], [(192, some (.ints .u8 v4.2))])) (fun v8 => ([(13, .any), (14, .any), (15, .any)], [(192, some (.ints .u8 v8))])) (fun r => Xvb C T Tryz.f9.results.toList (Xsc r) (Xsb r)) hl ?_ ?_ ?_ ?_
 try dsimp only
 apply Xi9 hC []
 exact co
 rfl
 decide
 rfl
 intro v4 s hs
 have h := hs
 unfold Xgt at h
 refine Xad ?_
 refine kO hT hC ?_
 refine Vc.nil (Xa2 ?_)
 refine kS h ?_ ?_ <;> intro b8 h
 refine kt b8 (Xag (Xaf (Xa2 (Xau (Xad ?_)))))
 refine kQ hT hC h fun h => ?_
 iterate 2 refine kO hT hC ?_
 refine kN ?_
 refine kO hT hC ?_
 refine kC hC [] Tryz.call43 h (fun _ => Xr9) fun q9 h => ?_
 iterate 5 refine kO hT hC ?_
 refine Vc.nil (Xa2 ?_)
 refine kL [4,7,8,13,14,15] [192] [_,_,_,_,_,_] [_] ?_
 refine kA h (fun v10 => ([(34, .sv (.bool v10)), (8, .any)], [])) (fun v10 h => ?_) fun v10 h => ?_
 refine Xac ?_
 iterate 3 refine kO hT hC ?_
 refine kS h ?_ ?_ <;> intro b9 h
 iterate 7 refine kI hT hC (kn b9) ?_
 refine kP hC false (kn b9) ?_
 exact Vc.nil kM
 iterate 7 refine kF hC (kn b9) ?_
 refine kP hC true (kn b9) ?_
 exact Vc.nil kM
 refine kS h ?_ ?_ <;> intro b10 h
 refine kt b10 (Xad ?_)
 iterate 2 refine kO hT hC ?_
 refine Vc.nil (Xah (Xa4 (Xg6 (Xa4 ?_))))
 obtain rfl := kj h
 refine Xx5 (Xx1 ?_)
 exact Xdx (Xif.refl _) rfl trivial
 refine kf b10 (Xag (Xaf (Xac ?_)))
 iterate 2 refine kO hT hC ?_
 refine kT hT hC h fun h => ?_
 refine kO hT hC ?_
 refine kT hT hC h fun h => ?_
 refine kO hT hC ?_
 refine Vc.nil (Xax (Xaf (Xac ?_)))
 iterate 2 refine kO hT hC ?_
 refine Vc.nil ?_
 obtain rfl := kj h
 exact Ylz (kW hC [(192, 624)])
 exact kf b8 (Xaw (Xbd kb))
 intro v8 e
 subst e
 refine Xaf (Xad ?_)
 iterate 4 refine kO hT hC ?_
 exact Vc.nil (Xah kR)
 intro r' σ' e hE
 subst e
 obtain rfl := kj h
 refine Xa4 ?_
 exact hE
def Yee (r : Xar) : AV := .agg [.sv (.bool r.HasSeq), .sv (.bool r.HasPar), .sv (.bool r.HasRef), .sv (.int .i64 r.Seq.Level), .sv (.int .i64 r.Seq.Bits), .sv (.ints .i64 r.Seq.Cols), .sv (.ints .i64 r.Seq.Rows), .sv (.int .i64 r.Par.Qp), .sv (.bool r.Par.Large), .sv (.bool r.Par.Exact), .sv (.bool r.Par.Confined), .sv (.int .i64 r.Frame), .sv (.int .i64 r.Got), .sv (.int .i64 r.Now.Wide), .sv (.int .i64 r.Now.High), .sv (.str r.Now.Dots), .sv (.int .i64 r.Ref.Wide), .sv (.int .i64 r.Ref.High), .sv (.str r.Ref.Dots)]
def Yed (r : Xar) : Xbl := []
theorem Xpj {r} (h : Xlj = some r) : AC Tryz.prog 12 [] [] (Yee r) (Yed r) := by
 refine Xae hT Tryz.func12 rfl fun C hC => ?_
 unfold Xlj at h
 refine Xad ?_
 refine kO hT hC ?_
 refine kN ?_
 iterate 2 refine kO hT hC ?_
 refine Vc.nil (Xah ?_)
 obtain rfl := kj h
 exact Xdx (τ := ⟨[(0, .ptr 2000000 0)], [(2000000, some (.box [.sv (.bool false), .sv (.bool false), .sv (.bool false), .sv (.int .i64 0), .sv (.int .i64 0), .sv (.ints .i64 []), .sv (.ints .i64 []), .sv (.int .i64 0), .sv (.bool false), .sv (.bool false), .sv (.bool false), .sv (.int .i64 (-1)), .sv (.int .i64 0), .sv (.int .i64 0), .sv (.int .i64 0), .sv (.str ⟨#[]⟩), .sv (.int .i64 0), .sv (.int .i64 0), .sv (.str ⟨#[]⟩)]))]⟩) (kW hC [(2000000, 0)]) rfl trivial
def Yfl (r : (List Int)) : AV := .own 16
def Yfk (r : (List Int)) : Xbl := [(16, .ints .i64 r)]
theorem Yif {p0 r} (h : Xod p0 = some r) : AC Tryz.prog 109 [.sv (.str p0)] [] (Yfl r) (Yfk r) := by
 refine Xae hT Tryz.func109 rfl fun C hC => ?_
 unfold Xod at h
 refine Xad ?_
 refine kO hT hC ?_
 refine kN ?_
 iterate 2 refine kO hT hC ?_
 refine Vc.nil (Xa2 (Xad ?_))
 refine kO hT hC ?_
 refine Vc.nil ?_
 refine kL [0,3,4] [80] [_,_,_] [_] ?_
 refine kX h (fun v3 => ([(4, .sv (.int .i64 v3.1))], [(80, some (.ints .i64 v3.2))])) (fun v6 => ([(0, .any), (4, .any)], [(80, some (.ints .i64 v6))])) (kW hC []) (fun v3 s h => ?_) fun v6 h => ?_
 unfold Xe8 at h
 refine Xa2 (Xad ?_)
 iterate 5 refine kO hT hC ?_
 refine Vc.nil ?_
 refine kS h ?_ ?_ <;> intro b5 h
 refine kt b5 (Xag (Xaf ?_))
 refine kL [0,3,4] [80] [_,_,_] [_] ?_
 refine kA h (fun v7 => ([], [(80, some (.ints .i64 v7))])) (fun v7 h => ?_) fun v7 h => ?_
 refine Xau (Xad ?_)
 iterate 4 refine kO hT hC ?_
 refine kQ hT hC h fun h => ?_
 refine kO hT hC ?_
 refine Vc.nil ?_
 refine kS h ?_ ?_ <;> intro b6 h
 refine kt b6 (Xac ?_)
 iterate 3 refine kO hT hC ?_
 refine kT hT hC h fun h => ?_
 refine kO hT hC ?_
 refine Vc.nil (Xax ?_)
 obtain rfl := kj h
 exact Xf5 (kW hC [(80, 352)])
 exact kf b6 (Xag (Xax kM))
 refine Xac ?_
 iterate 3 refine kO hT hC ?_
 exact Vc.nil kG
 exact kf b5 (Xaw (Xbd ku))
 refine Xaf (Xad ?_)
 iterate 2 refine kO hT hC ?_
 refine Vc.nil (Xah ?_)
 obtain rfl := kj h
 exact Xdx (τ := ⟨[(2, .own 16)], [(16, some (.ints .i64 v6))]⟩) (kW hC [(16, 80)]) rfl ⟨rfl, trivial⟩
def Xxi (r : (ByteArray × Bool)) : AV := .tup [.sv (.str r.1), .sv (.bool r.2)]
def Xxh (r : (ByteArray × Bool)) : Xbl := []
theorem Xzj {p0 r} (h : Xis p0 = some r) : AC Tryz.prog 110 [.sv (.str p0)] [] (Xxi r) (Xxh r) := by
 refine Xae hT Tryz.func110 rfl fun C hC => ?_
 unfold Xis at h
 refine Xad ?_
 iterate 2 refine kO hT hC ?_
 refine kN ?_
 iterate 2 refine kO hT hC ?_
 obtain ⟨hq, h⟩ := Xa7 h
 refine Yc7 hT hC rfl rfl rfl rfl ⟨hq.1, hq.2.1, hq.2.2, by decide⟩ ?_
 refine kO hT hC ?_
 refine kN ?_
 refine kO hT hC ?_
 refine Vc.nil (Xa2 (Xad ?_))
 refine kO hT hC ?_
 refine Vc.nil ?_
 refine kL [0,4,5,6] [176] [_,_,_,_] [_] ?_
 refine kX h (fun v5 => ([(5, .sv (.int .i64 v5.1)), (6, .sv (.int .i64 v5.2.1))], [(176, some (.ints .u8 v5.2.2))])) (fun v10 => ([(5, .any), (6, .any)], [(176, some (.ints .u8 v10))])) (kW hC []) (fun v5 s h => ?_) fun v10 h => ?_
 unfold Xd8 at h
 refine Xa2 (Xad ?_)
 iterate 4 refine kO hT hC ?_
 refine Vc.nil ?_
 refine kS h ?_ ?_ <;> intro b9 h
 refine kt b9 (Xag (Xaf ?_))
 refine kL [0,4,5,6] [176] [_,_,_,_] [_] ?_
 refine kA h (fun v11 => ([(5, .sv (.int .i64 v11.1))], [(176, some (.ints .u8 v11.2))])) (fun v11 h => ?_) fun v11 h => ?_
 refine Xau ?_
 refine kL [0,4,5,6] [176] [_,_,_,_] [_] ?_
 refine Ywp h (fun (v12 : Int) => ([(5, .sv (.int .i64 v12))], [])) (fun v12 h => ?_) (fun h => ?_)
 refine Xac ?_
 iterate 3 refine kO hT hC ?_
 refine kQ hT hC h fun h => ?_
 refine kO hT hC ?_
 refine kT hT hC h fun h => ?_
 refine kO hT hC ?_
 refine Vc.nil (Xax ?_)
 obtain rfl := kj h
 exact Xf5 (kW hC [(176, 624)])
 refine Xau ?_
 refine kL [0,4,5,6] [176] [_,_,_,_] [_] ?_
 refine kA h (fun v13 => ([(18, .sv (.bool v13))], [])) (fun v13 h => ?_) fun v13 h => ?_
 refine Xac ?_
 iterate 3 refine kO hT hC ?_
 refine kS h ?_ ?_ <;> intro b10 h
 iterate 2 refine kI hT hC b10 ?_
 refine kJ hT hC b10 h fun h => ?_
 refine kI hT hC b10 ?_
 refine kP hC true b10 ?_
 refine kO hT hC ?_
 exact Vc.nil kM
 iterate 4 refine kF hC b10 ?_
 refine kP hC false b10 ?_
 refine kO hT hC ?_
 exact Vc.nil kM
 refine kS h ?_ ?_ <;> intro b11 h
 refine kt b11 (Xad ?_)
 refine kO hT hC ?_
 refine Vc.nil (Xaw ?_)
 refine Ytx rfl ?_
 exact Zau (Yqs kM)
 refine kf b11 (Xad ?_)
 iterate 2 refine kO hT hC ?_
 refine kQ hT hC h fun h => ?_
 iterate 2 refine kO hT hC ?_
 refine Vc.nil ?_
 refine kS h ?_ ?_ <;> intro b12 h
 refine kt b12 (Xac ?_)
 iterate 3 refine kO hT hC ?_
 refine Vc.nil (Xax ?_)
 exact Yyn (Xaa .i64 (v5.1 + 1)) h (kW hC [])
 refine kf b12 (Xac ?_)
 refine kO hT hC ?_
 refine Vc.nil (Xax ?_)
 exact Yyn 0 h (kW hC [])
 refine Xac ?_
 iterate 3 refine kO hT hC ?_
 exact Vc.nil kG
 exact kf b9 (Xaw (Xbd ku))
 refine Xaf (Xa2 (Xad ?_))
 iterate 2 refine kO hT hC ?_
 refine kC hC [] Tryz.call43 h (fun _ => Xr9) fun q15 h => ?_
 iterate 5 refine kO hT hC ?_
 refine Vc.nil ?_
 refine kL [0,4,7,8] [176] [_,_,_,_] [_] ?_
 refine kA h (fun v16 => ([(52, .sv (.bool v16)), (0, .any), (7, .any), (8, .any)], [])) (fun v16 h => ?_) fun v16 h => ?_
 refine Xac ?_
 iterate 3 refine kO hT hC ?_
 refine kS h ?_ ?_ <;> intro b13 h
 iterate 3 refine kI hT hC (kn b13) ?_
 refine kP hC false (kn b13) ?_
 exact Vc.nil kM
 iterate 3 refine kF hC (kn b13) ?_
 refine kP hC true (kn b13) ?_
 exact Vc.nil kM
 refine kS h ?_ ?_ <;> intro b14 h
 refine kt b14 (Xad ?_)
 iterate 2 refine kO hT hC ?_
 exact Vc.nil (Xah (Xa4 kR))
 refine kf b14 (Xag (Xaf (Xad ?_)))
 iterate 4 refine kO hT hC ?_
 exact Vc.nil (Xah kR)
def Yby (r : (List ByteArray)) : AV := .own 16
def Ybx (r : (List ByteArray)) : Xbl := [(16, .row Xbm r)]
theorem Ye4 {p0 r} (h : Xjw p0 = some r) : AC Tryz.prog 44 [.sv (.str p0)] [] (Yby r) (Ybx r) := by
 refine Xae hT Tryz.func44 rfl fun C hC => ?_
 unfold Xjw at h
 refine Xad ?_
 refine kO hT hC ?_
 refine kN ?_
 iterate 2 refine kO hT hC ?_
 refine Vc.nil (Xa2 (Xad ?_))
 iterate 3 refine kO hT hC ?_
 refine Vc.nil ?_
 refine kS h ?_ ?_ <;> intro b1 h
 refine kt b1 (Xad ?_)
 iterate 2 refine kO hT hC ?_
 refine Vc.nil (Xah (Xa4 ?_))
 obtain rfl := kj h
 exact Xdx (τ := ⟨[(2, .own 16)], [(16, some (.row Xbm ([] : List ByteArray)))]⟩) (kW hC [(16, 144)]) rfl ⟨rfl, trivial⟩
 refine kf b1 (Xag (Xaf (Xad ?_)))
 refine kO hT hC ?_
 refine kC hC [(16, 240)] Tryz.call109 h (fun _ => Yif) fun q1 h => ?_
 iterate 3 refine kO hT hC ?_
 refine kT hT hC h fun h => ?_
 refine kO hT hC ?_
 refine Vc.nil (Xa2 (Xad ?_))
 refine kO hT hC ?_
 refine Vc.nil ?_
 refine kL [0,3,4,5] [144,304] [_,_,_,_] [_,_] ?_
 refine kX h (fun v14 => ([(5, .sv (.int .i64 v14.1))], [(144, some (.row Xbm v14.2))])) (fun v27 => ([(0, .any), (4, .any), (5, .any)], [(144, some (.row Xbm v27)), (304, none)])) (kW hC []) (fun v14 s h => ?_) fun v27 h => ?_
 unfold Xcy at h
 refine Xa2 ?_
 refine kL [0,3,4,5] [144,304] [_,_,_,_] [_,_] ?_
 refine kA h (fun v28 => ([(29, .sv (.bool v28))], [])) (fun v28 h => ?_) fun v28 h => ?_
 refine Xac ?_
 iterate 6 refine kO hT hC ?_
 refine kS h ?_ ?_ <;> intro b20 h
 iterate 3 refine kI hT hC b20 ?_
 refine kP hC true b20 ?_
 exact Vc.nil kM
 iterate 3 refine kF hC b20 ?_
 refine kP hC false b20 ?_
 exact Vc.nil kM
 refine kS h ?_ ?_ <;> intro b21 h
 refine kt b21 (Xag (Xaf ?_))
 refine kL [0,3,4,5] [144,304] [_,_,_,_] [_,_] ?_
 refine kA h (fun v29 => ([], [(144, some (.row Xbm v29))])) (fun v29 h => ?_) fun v29 h => ?_
 refine Xau (Xad ?_)
 iterate 3 refine kO hT hC ?_
 iterate 2 refine kQ hT hC h fun h => ?_
 refine kO hT hC ?_
 refine Vc.nil (Xa2 ?_)
 refine kL [0,3,4,5,6] [144,304] [_,_,_,_,_] [_,_] ?_
 refine kX h (fun v32 => ([(6, .sv (.int .i64 v32))], [])) (fun v35 => ([(6, .sv (.int .i64 v35))], [])) (kW hC []) (fun v32 s h => ?_) fun v35 h => ?_
 unfold Xjd at h
 refine Xa2 ?_
 refine kL [0,3,4,5,6] [144,304] [_,_,_,_,_] [_,_] ?_
 refine kA h (fun v36 => ([(50, .sv (.bool v36))], [])) (fun v36 h => ?_) fun v36 h => ?_
 refine Xac ?_
 iterate 3 refine kO hT hC ?_
 iterate 2 refine kQ hT hC h fun h => ?_
 iterate 3 refine kO hT hC ?_
 refine kS h ?_ ?_ <;> intro b26 h
 iterate 3 refine kI hT hC b26 ?_
 refine kJ hT hC b26 h fun h => ?_
 refine kI hT hC b26 ?_
 refine kP hC true b26 ?_
 exact Vc.nil kM
 iterate 5 refine kF hC b26 ?_
 refine kP hC false b26 ?_
 exact Vc.nil kM
 refine kS h ?_ ?_ <;> intro b27 h
 refine kt b27 (Xag (Xaf (Xau (Xac ?_))))
 iterate 3 refine kO hT hC ?_
 exact Vc.nil (Xax kG)
 exact kf b27 (Xaw (Xbd ku))
 refine Xaf (Xad ?_)
 iterate 3 refine kO hT hC ?_
 iterate 2 refine kQ hT hC h fun h => ?_
 iterate 2 refine kO hT hC ?_
 refine kQ hT hC h fun h => ?_
 refine kC hC [] Tryz.call110 h (fun _ => Xzj) fun q38 h => ?_
 iterate 5 refine kO hT hC ?_
 refine kN ?_
 refine kO hT hC ?_
 refine Vc.nil ?_
 refine kS h ?_ ?_ <;> intro b28 h
 refine kt b28 (Xac ?_)
 iterate 3 refine kO hT hC ?_
 obtain ⟨hq, h⟩ := Xa7 h
 refine Yc7 hT hC rfl rfl rfl rfl ⟨fun _ _ => rfl, by rw [Xdb]; exact hq⟩ ?_
 rw [Xdb]
 refine kO hT hC ?_
 refine Vc.nil (Xax ?_)
 obtain rfl := kj h
 exact Xf5 (kW hC [(144, 1104)])
 exact kf b28 (Xag (Xax kM))
 refine Xac ?_
 iterate 3 refine kO hT hC ?_
 exact Vc.nil kG
 exact kf b21 (Xaw (Xbd ku))
 refine Xaf (Xad ?_)
 iterate 2 refine kO hT hC ?_
 refine Vc.nil (Xah ?_)
 obtain rfl := kj h
 exact Xdx (τ := ⟨[(2, .own 16)], [(16, some (.row Xbm v27))]⟩) (kW hC [(16, 144)]) rfl ⟨rfl, trivial⟩
def Xzm (r : (List Int)) : AV := .own 16
def Xzl (r : (List Int)) : Xbl := [(16, .ints .i64 r)]
theorem Xng {p0 r} (h : Xey p0 = some r) : AC Tryz.prog 146 [.sv (.ints .i64 p0)] [] (Xzm r) (Xzl r) := by
 refine Xae hT Tryz.func146 rfl fun C hC => ?_
 unfold Xey at h
 refine Xad ?_
 refine kO hT hC ?_
 refine kN ?_
 iterate 2 refine kO hT hC ?_
 refine kT hT hC h fun h => ?_
 refine kO hT hC ?_
 refine Vc.nil (Xah ?_)
 obtain rfl := kj h
 exact Xdx (τ := ⟨[(2, .own 16)], [(16, some (.ints .i64 (([] : List Int) ++ p0)))]⟩) (kW hC [(16, 80)]) rfl ⟨rfl, trivial⟩
def Yb0 (r : Seq) : AV := .agg [.sv (.int .i64 r.Level), .sv (.int .i64 r.Bits), .own 16, .own 17]
def Ybz (r : Seq) : Xbl := [(16, .ints .i64 r.Cols), (17, .ints .i64 r.Rows)]
theorem Ye6 {p0 r} (h : Xmx p0 = some r) : AC Tryz.prog 71 [.agg [.sv (.int .i64 p0.Level), .sv (.int .i64 p0.Bits), .sv (.ints .i64 p0.Cols), .sv (.ints .i64 p0.Rows)]] [] (Yb0 r) (Ybz r) := by
 refine Xae hT Tryz.func71 rfl fun C hC => ?_
 unfold Xmx at h
 refine Xad ?_
 iterate 2 refine kO hT hC ?_
 refine kN ?_
 iterate 2 refine kO hT hC ?_
 refine kC hC [(16, 80)] Tryz.call146 h (fun _ => Xng) fun q1 h => ?_
 iterate 2 refine kO hT hC ?_
 refine kN ?_
 iterate 2 refine kO hT hC ?_
 refine kC hC [(16, 144)] Tryz.call146 h (fun _ => Xng) fun q2 h => ?_
 iterate 2 refine kO hT hC ?_
 refine kN ?_
 iterate 2 refine kO hT hC ?_
 refine Vc.nil (Xah ?_)
 obtain rfl := kj h
 exact Xdx (τ := ⟨[(2, .ptr 2000000 0)], [(16, some (.ints .i64 q1)), (17, some (.ints .i64 q2)), (2000000, some (.box [.sv (.int .i64 p0.Level), .sv (.int .i64 p0.Bits), .own 16, .own 17]))]⟩) (kW hC [(16, 80), (17, 144), (2000000, 32)]) rfl ⟨rfl, rfl, trivial⟩
def Xt5 (r : Xar) : AV := .agg [.sv (.bool r.HasSeq), .sv (.bool r.HasPar), .sv (.bool r.HasRef), .sv (.int .i64 r.Seq.Level), .sv (.int .i64 r.Seq.Bits), .own 16, .own 17, .sv (.int .i64 r.Par.Qp), .sv (.bool r.Par.Large), .sv (.bool r.Par.Exact), .sv (.bool r.Par.Confined), .sv (.int .i64 r.Frame), .sv (.int .i64 r.Got), .sv (.int .i64 r.Now.Wide), .sv (.int .i64 r.Now.High), .sv (.str r.Now.Dots), .sv (.int .i64 r.Ref.Wide), .sv (.int .i64 r.Ref.High), .sv (.str r.Ref.Dots)]
def Xt4 (r : Xar) : Xbl := [(16, .ints .i64 r.Seq.Cols), (17, .ints .i64 r.Seq.Rows)]
theorem Xob {p0 r} (h : Xcz p0 = some r) : AC Tryz.prog 45 [.agg [.sv (.bool p0.HasSeq), .sv (.bool p0.HasPar), .sv (.bool p0.HasRef), .sv (.int .i64 p0.Seq.Level), .sv (.int .i64 p0.Seq.Bits), .sv (.ints .i64 p0.Seq.Cols), .sv (.ints .i64 p0.Seq.Rows), .sv (.int .i64 p0.Par.Qp), .sv (.bool p0.Par.Large), .sv (.bool p0.Par.Exact), .sv (.bool p0.Par.Confined), .sv (.int .i64 p0.Frame), .sv (.int .i64 p0.Got), .sv (.int .i64 p0.Now.Wide), .sv (.int .i64 p0.Now.High), .sv (.str p0.Now.Dots), .sv (.int .i64 p0.Ref.Wide), .sv (.int .i64 p0.Ref.High), .sv (.str p0.Ref.Dots)]] [] (Xt5 r) (Xt4 r) := by
 refine Xae hT Tryz.func45 rfl fun C hC => ?_
 unfold Xcz at h
 refine Xad ?_
 iterate 2 refine kO hT hC ?_
 refine kN ?_
 iterate 2 refine kO hT hC ?_
 refine kC hC [(16, 80), (17, 81)] Tryz.call71 h (fun _ => Ye6) fun q1 h => ?_
 iterate 2 refine kO hT hC ?_
 refine kN ?_
 iterate 2 refine kO hT hC ?_
 refine Vc.nil (Xah ?_)
 obtain rfl := kj h
 exact Xdx (τ := ⟨[(2, .ptr 2000000 0)], [(16, some (.ints .i64 q1.Cols)), (17, some (.ints .i64 q1.Rows)), (2000000, some (.box [.sv (.bool p0.HasSeq), .sv (.bool p0.HasPar), .sv (.bool p0.HasRef), .sv (.int .i64 q1.Level), .sv (.int .i64 q1.Bits), .own 16, .own 17, .sv (.int .i64 p0.Par.Qp), .sv (.bool p0.Par.Large), .sv (.bool p0.Par.Exact), .sv (.bool p0.Par.Confined), .sv (.int .i64 p0.Frame), .sv (.int .i64 p0.Got), .sv (.int .i64 p0.Now.Wide), .sv (.int .i64 p0.Now.High), .sv (.str p0.Now.Dots), .sv (.int .i64 p0.Ref.Wide), .sv (.int .i64 p0.Ref.High), .sv (.str p0.Ref.Dots)]))]⟩) (kW hC [(16, 80), (17, 81), (2000000, 32)]) rfl ⟨rfl, rfl, trivial⟩
def Yb2 (r : Bool) : AV := .sv (.bool r)
def Yb1 (r : Bool) : Xbl := []
theorem Yfb {p0 r} (h : Xmy p0 = some r) : AC Tryz.prog 142 [.agg [.sv (.int .i64 p0.Level), .sv (.int .i64 p0.Bits), .sv (.ints .i64 p0.Cols), .sv (.ints .i64 p0.Rows)]] [] (Yb2 r) (Yb1 r) := by
 refine Xae hT Tryz.func142 rfl fun C hC => ?_
 unfold Xmy at h
 refine Xad ?_
 iterate 2 refine kO hT hC ?_
 refine Vc.nil ?_
 refine kL [1,2] [16] [_,_] [_] ?_
 refine kA h (fun v1 => ([(2, .sv (.bool v1)), (1, .any)], [(16, none)])) (fun v1 h => ?_) fun v1 h => ?_
 refine Xac ?_
 iterate 4 refine kO hT hC ?_
 refine kS h ?_ ?_ <;> intro b1 h
 iterate 3 refine kI hT hC b1 ?_
 refine kP hC true b1 ?_
 refine kO hT hC ?_
 refine kS h ?_ ?_ <;> intro b2 h
 iterate 4 refine kI hT hC b2 ?_
 refine kP hC true b2 ?_
 refine kO hT hC ?_
 refine kS h ?_ ?_ <;> intro b3 h
 iterate 4 refine kI hT hC b3 ?_
 refine kP hC true b3 ?_
 refine kO hT hC ?_
 exact Vc.nil kM
 iterate 4 refine kF hC b3 ?_
 refine kP hC false b3 ?_
 refine kO hT hC ?_
 exact Vc.nil kM
 iterate 4 refine kF hC b2 ?_
 refine kP hC false b2 ?_
 refine kO hT hC ?_
 iterate 4 refine kF hC rfl ?_
 iterate 2 refine kO hT hC ?_
 exact Vc.nil kM
 iterate 3 refine kF hC b1 ?_
 refine kP hC false b1 ?_
 refine kO hT hC ?_
 iterate 4 refine kF hC rfl ?_
 iterate 2 refine kO hT hC ?_
 iterate 4 refine kF hC rfl ?_
 iterate 2 refine kO hT hC ?_
 exact Vc.nil kM
 exact Xah kR
def Yfp (r : Bool) : AV := .sv (.bool r)
def Yfo (r : Bool) : Xbl := []
theorem Xak {p0 p1 p2 r} (h : Xan p0 p1 p2 = some r) : AC Tryz.prog 116 [.sv (.int .i64 p0), .sv (.int .i64 p1), .sv (.int .i64 p2)] [] (Yfp r) (Yfo r) := by
 refine Xae hT Tryz.func116 rfl fun C hC => ?_
 unfold Xan at h
 refine Xad ?_
 refine kO hT hC ?_
 refine Vc.nil ?_
 refine kL [0,1,2,6] [] [_,_,_,_] [] ?_
 refine kA h (fun v1 => ([(6, .sv (.bool v1)), (0, .any), (1, .any), (2, .any)], [])) (fun v1 h => ?_) fun v1 h => ?_
 refine Xac ?_
 iterate 4 refine kO hT hC ?_
 refine kS h ?_ ?_ <;> intro b1 h
 iterate 3 refine kI hT hC b1 ?_
 refine kP hC true b1 ?_
 refine kO hT hC ?_
 exact Vc.nil kM
 iterate 3 refine kF hC b1 ?_
 refine kP hC false b1 ?_
 refine kO hT hC ?_
 exact Vc.nil kM
 exact Xah kR
def Yii (r : Int) : AV := .sv (.int .i64 r)
def Yih (r : Int) : Xbl := []
theorem Xez {p0 r} (h : Xcn p0 = some r) : AC Tryz.prog 195 [.sv (.ints .i64 p0)] [] (Yii r) (Yih r) := by
 refine Xae hT Tryz.func195 rfl fun C hC => ?_
 unfold Xcn at h
 refine Xad ?_
 refine kO hT hC ?_
 refine kN ?_
 refine kO hT hC ?_
 refine Vc.nil (Xa2 (Xad ?_))
 iterate 3 refine kO hT hC ?_
 refine Vc.nil ?_
 refine kL [3,6,7,8] [] [_,_,_,_] [] ?_
 refine kX h (fun v2 => ([(3, .sv (.int .i64 v2.1)), (8, .sv (.int .i64 v2.2))], [])) (fun v4 => ([(3, .sv (.int .i64 v4)), (6, .any), (7, .any), (8, .any)], [])) (kW hC []) (fun v2 s h => ?_) fun v4 h => ?_
 unfold Xd1 at h
 refine Xad ?_
 refine kO hT hC ?_
 refine Vc.nil (Xa2 ?_)
 refine kS h ?_ ?_ <;> intro b3 h
 refine kt b3 (Xag (Xaf (Xa2 (Xau (Xad ?_)))))
 refine kQ hT hC h fun h => ?_
 iterate 2 refine kO hT hC ?_
 refine Vc.nil (Xac ?_)
 iterate 4 refine kO hT hC ?_
 refine Vc.nil (Xax (Xaf (Xac ?_)))
 iterate 2 refine kO hT hC ?_
 exact Vc.nil kG
 exact kf b3 (Xaw (Xbd ku))
 refine Xaf (Xad ?_)
 iterate 2 refine kO hT hC ?_
 exact Vc.nil (Xah kR)
def Xkn (r : Int) : AV := .sv (.int .i64 r)
def Xkm (r : Int) : Xbl := []
theorem Xzf {p0 r} (h : Xir p0 = some r) : AC Tryz.prog 145 [.agg [.sv (.int .i64 p0.Level), .sv (.int .i64 p0.Bits), .sv (.ints .i64 p0.Cols), .sv (.ints .i64 p0.Rows)]] [] (Xkn r) (Xkm r) := by
 refine Xae hT Tryz.func145 rfl fun C hC => ?_
 unfold Xir at h
 refine Xad ?_
 iterate 2 refine kO hT hC ?_
 refine Vc.nil (Xa2 (Xad ?_))
 iterate 7 refine kO hT hC ?_
 refine Vc.nil ?_
 refine kL [1,11,12,13] [16,176] [_,_,_,_] [_,_] ?_
 obtain ⟨o32, hl, h⟩ := Xb6 h
 refine Xlx (fun v11 => ([(13, .sv (.int .i64 v11))], [])) (fun v22 => ([(11, .any), (12, .any), (13, .any)], [(176, none)])) (fun r => Xvb C T Tryz.f145.results.toList (Xkn r) (Xkm r)) hl ?_ ?_ ?_ ?_
 apply Xi9 hC []
 exact co
 rfl
 decide
 rfl
 intro v11 s hs
 have h := hs
 unfold Xdp at h
 refine Xad ?_
 refine kO hT hC ?_
 refine Vc.nil (Xa2 ?_)
 refine kS h ?_ ?_ <;> intro b17 h
 refine kt b17 (Xag (Xaf (Xa2 (Xau (Xad ?_)))))
 iterate 2 refine kQ hT hC h fun h => ?_
 refine kO hT hC ?_
 refine Vc.nil (Xa2 (Xad ?_))
 iterate 2 refine kO hT hC ?_
 refine kC hC [] Tryz.call116 h (fun _ => Xak) fun q23 h => ?_
 refine kO hT hC ?_
 refine Vc.nil ?_
 refine kS h ?_ ?_ <;> intro b18 h
 refine kt b18 (Xad ?_)
 refine kO hT hC ?_
 refine Vc.nil (Xah (Xa4 (Xg6 (Xa4 ?_))))
 obtain rfl := kj h
 refine Xx5 (Xx1 ?_)
 exact Xdx (Xif.refl _) rfl trivial
 refine kf b18 (Xag (Xaf (Xad ?_)))
 iterate 3 refine kO hT hC ?_
 refine Vc.nil ?_
 refine kL [1,11,12,13,21,22,23] [16,176] [_,_,_,_,_,_,_] [_,_] ?_
 obtain ⟨o31, hl, h⟩ := Xb6 h
 refine Xlx (fun v26 => ([(23, .sv (.int .i64 v26))], [])) (fun v29 => ([(21, .any), (22, .any), (23, .any)], [])) (fun r => Xvb C T Tryz.f145.results.toList (Xkn r) (Xkm r)) hl ?_ ?_ ?_ ?_
 apply Xi9 hC []
 exact co
 rfl
 decide
 rfl
 intro v26 s hs
 have h := hs
 unfold Xcr at h
 refine Xad ?_
 refine kO hT hC ?_
 refine Vc.nil (Xa2 ?_)
 refine kS h ?_ ?_ <;> intro b23 h
 refine kt b23 (Xag (Xaf (Xa2 (Xau (Xad ?_)))))
 refine kQ hT hC h fun h => ?_
 iterate 2 refine kO hT hC ?_
 refine kN ?_
 refine kO hT hC ?_
 refine kC hC [] Tryz.call116 h (fun _ => Xak) fun q30 h => ?_
 refine kO hT hC ?_
 refine Vc.nil ?_
 refine kS h ?_ ?_ <;> intro b24 h
 refine kt b24 (Xad ?_)
 refine kO hT hC ?_
 refine Vc.nil (Xah (Xg6 (Xa4 ?_)))
 obtain rfl := kj h
 refine Xx5 (Xx1 ?_)
 exact Xdx (Xif.refl _) rfl trivial
 refine kf b24 (Xag (Xax (Xaf (Xac ?_))))
 iterate 2 refine kO hT hC ?_
 exact Vc.nil kG
 exact kf b23 (Xaw (Xbd kb))
 intro v29 e
 subst e
 refine Xax (Xaf (Xac ?_))
 iterate 2 refine kO hT hC ?_
 exact Vc.nil kG
 intro r' σ' e hE
 subst e
 obtain rfl := kj h
 refine Xg6 (Xa4 (Xx5 (Xx1 ?_)))
 exact hE
 exact kf b17 (Xaw (Xbd kb))
 intro v22 e
 subst e
 refine Xaf ?_
 refine Xdw hm ?_
 iterate 2 refine kO hT hC ?_
 refine kC hC [] Tryz.call195 h (fun _ => Xez) fun q33 h => ?_
 iterate 2 refine kO hT hC ?_
 refine kC hC [] Tryz.call195 h (fun _ => Xez) fun q34 h => ?_
 iterate 2 refine kO hT hC ?_
 exact kD (Xah kR)
 intro r' σ' e hE
 subst e
 obtain rfl := kj h
 refine Xa4 ?_
 exact hE
def Xse (r : Int) : AV := .sv (.int .i64 r)
def Xsd (r : Int) : Xbl := []
theorem Xt0 {p0 r} (h : Xfk p0 = some r) : AC Tryz.prog 231 [.sv (.int .i64 p0)] [] (Xse r) (Xsd r) := by
 refine Xae hT Tryz.func231 rfl fun C hC => ?_
 unfold Xfk at h
 refine Xad ?_
 refine kO hT hC ?_
 refine Vc.nil (Xa2 (Xad ?_))
 refine kO hT hC ?_
 refine kC hC [] Tryz.call116 h (fun _ => Xak) fun q1 h => ?_
 refine kO hT hC ?_
 refine Vc.nil ?_
 refine kS h ?_ ?_ <;> intro b1 h
 refine kt b1 (Xad ?_)
 refine kO hT hC ?_
 exact Vc.nil (Xah (Xa4 kR))
 refine kf b1 (Xag (Xaf (Xad ?_)))
 iterate 3 refine kO hT hC ?_
 iterate 2 refine kQ hT hC h fun h => ?_
 refine kO hT hC ?_
 exact Vc.nil (Xah kR)
def Yh6 (r : Bool) : AV := .sv (.bool r)
def Yh5 (r : Bool) : Xbl := []
theorem Xhz {p0 r} (h : Xgv p0 = some r) : AC Tryz.prog 182 [.agg [.sv (.int .i64 p0.Level), .sv (.int .i64 p0.Bits), .sv (.ints .i64 p0.Cols), .sv (.ints .i64 p0.Rows)]] [] (Yh6 r) (Yh5 r) := by
 refine Xae hT Tryz.func182 rfl fun C hC => ?_
 unfold Xgv at h
 refine Xad ?_
 iterate 2 refine kO hT hC ?_
 refine Vc.nil ?_
 refine kL [1,2] [16] [_,_] [_] ?_
 refine kA h (fun v1 => ([(2, .sv (.bool v1)), (1, .any)], [(16, none)])) (fun v1 h => ?_) fun v1 h => ?_
 refine Xf6 hm ?_
 refine kO hT hC ?_
 refine kC hC [] Tryz.call145 h (fun _ => Xzf) fun q2 h => ?_
 iterate 2 refine kO hT hC ?_
 refine kC hC [] Tryz.call231 h (fun _ => Xt0) fun q3 h => ?_
 refine kC hC [] Tryz.call116 h (fun _ => Xak) fun q4 h => ?_
 refine kO hT hC ?_
 refine kS h ?_ ?_ <;> intro b1 h
 iterate 2 refine kI hT hC b1 ?_
 refine kE hC b1 [] Tryz.call116 h (fun _ => Xak) fun q5 h => ?_
 refine kP hC true b1 ?_
 refine kO hT hC ?_
 exact kD kM
 iterate 3 refine kF hC b1 ?_
 refine kP hC false b1 ?_
 refine kO hT hC ?_
 exact kD kM
 exact Xah kR
def Yh1 (r : Bool) : AV := .sv (.bool r)
def Yh0 (r : Bool) : Xbl := []
theorem Xns {p0 r} (h : Xju p0 = some r) : AC Tryz.prog 69 [.agg [.sv (.int .i64 p0.Qp), .sv (.bool p0.Large), .sv (.bool p0.Exact), .sv (.bool p0.Confined)]] [] (Yh1 r) (Yh0 r) := by
 refine Xae hT Tryz.func69 rfl fun C hC => ?_
 unfold Xju at h
 refine Xad ?_
 iterate 2 refine kO hT hC ?_
 refine Vc.nil ?_
 refine kL [1,2] [16] [_,_] [_] ?_
 refine kA h (fun v1 => ([(2, .sv (.bool v1)), (1, .any)], [(16, none)])) (fun v1 h => ?_) fun v1 h => ?_
 refine Xac ?_
 iterate 2 refine kO hT hC ?_
 refine kC hC [] Tryz.call116 h (fun _ => Xak) fun q2 h => ?_
 refine kO hT hC ?_
 refine kS h ?_ ?_ <;> intro b1 h
 iterate 3 refine kI hT hC b1 ?_
 refine kS h ?_ ?_ <;> intro b2 h
 iterate 2 refine kI hT hC b2 ?_
 refine Xby hC rfl rfl rfl rfl b1 rfl rfl (b := true) b2 rfl rfl rfl trivial ?_
 refine kI hT hC b1 ?_
 refine kP hC true b1 ?_
 refine kO hT hC ?_
 exact Vc.nil kM
 iterate 2 refine kF hC b2 ?_
 refine Xby hC rfl rfl rfl rfl b1 rfl rfl (b := false) b2 rfl rfl rfl trivial ?_
 refine kI hT hC b1 ?_
 refine kP hC true b1 ?_
 refine kO hT hC ?_
 exact Vc.nil kM
 iterate 3 refine kF hC b1 ?_
 iterate 2 refine Xlf hC rfl rfl rfl rfl rfl rfl ?_
 iterate 2 refine kF hC b1 ?_
 refine kP hC false b1 ?_
 refine kO hT hC ?_
 exact Vc.nil kM
 exact Xah kR
def Ybw (r : Int) : AV := .sv (.int .i64 r)
def Ybv (r : Int) : Xbl := []
theorem Xkp {p0 r} (h : Xf3 p0 = some r) : AC Tryz.prog 123 [.agg [.sv (.int .i64 p0.Level), .sv (.int .i64 p0.Bits), .sv (.ints .i64 p0.Cols), .sv (.ints .i64 p0.Rows)]] [] (Ybw r) (Ybv r) := by
 refine Xae hT Tryz.func123 rfl fun C hC => ?_
 unfold Xf3 at h
 refine Xad ?_
 iterate 2 refine kO hT hC ?_
 refine Vc.nil (Xa2 (Xad ?_))
 refine kO hT hC ?_
 refine kC hC [] Tryz.call182 h (fun _ => Xhz) fun q1 h => ?_
 refine kO hT hC ?_
 refine Vc.nil ?_
 refine kS h ?_ ?_ <;> intro b1 h
 refine kt b1 (Xad ?_)
 refine kO hT hC ?_
 exact Vc.nil (Xah (Xa4 kR))
 refine kf b1 (Xag (Xaf (Xad ?_)))
 iterate 8 refine kO hT hC ?_
 exact Vc.nil (Xah kR)
def Yez (r : (Int × Int)) : AV := .tup [.sv (.int .i64 r.1), .sv (.int .i64 r.2)]
def Yey (r : (Int × Int)) : Xbl := []
theorem Xuo {p0 r} (h : Xjo p0 = some r) : AC Tryz.prog 125 [.agg [.sv (.int .i64 p0.Level), .sv (.int .i64 p0.Bits), .sv (.ints .i64 p0.Cols), .sv (.ints .i64 p0.Rows)]] [] (Yez r) (Yey r) := by
 refine Xae hT Tryz.func125 rfl fun C hC => ?_
 unfold Xjo at h
 refine Xad ?_
 iterate 3 refine kO hT hC ?_
 refine Vc.nil (Xa2 (Xad ?_))
 refine kO hT hC ?_
 refine kC hC [] Tryz.call182 h (fun _ => Xhz) fun q1 h => ?_
 refine kO hT hC ?_
 refine Vc.nil ?_
 refine kS h ?_ ?_ <;> intro b1 h
 refine kt b1 (Xad ?_)
 iterate 2 refine kO hT hC ?_
 exact Vc.nil (Xah (Xa4 kR))
 refine kf b1 (Xag (Xaf ?_))
 refine Xdw hm ?_
 iterate 2 refine kO hT hC ?_
 refine kC hC [] Tryz.call195 h (fun _ => Xez) fun q2 h => ?_
 iterate 3 refine kO hT hC ?_
 refine kC hC [] Tryz.call195 h (fun _ => Xez) fun q3 h => ?_
 iterate 3 refine kO hT hC ?_
 exact kD (Xah kR)
def Yh4 (r : Bool) : AV := .sv (.bool r)
def Yh3 (r : Bool) : Xbl := []
theorem Xdz {p0 r} (h : Xdo p0 = some r) : AC Tryz.prog 47 [.agg [.sv (.int .i64 p0.Wide), .sv (.int .i64 p0.High), .sv (.str p0.Dots)]] [] (Yh4 r) (Yh3 r) := by
 refine Xae hT Tryz.func47 rfl fun C hC => ?_
 unfold Xdo at h
 refine Xad ?_
 iterate 2 refine kO hT hC ?_
 refine Vc.nil ?_
 refine kL [1,2] [16] [_,_] [_] ?_
 refine kA h (fun v1 => ([(2, .sv (.bool v1)), (1, .any)], [(16, none)])) (fun v1 h => ?_) fun v1 h => ?_
 refine Xac ?_
 iterate 2 refine kO hT hC ?_
 refine kC hC [] Tryz.call116 h (fun _ => Xak) fun q2 h => ?_
 refine kO hT hC ?_
 refine kS h ?_ ?_ <;> intro b1 h
 iterate 2 refine kI hT hC b1 ?_
 refine kE hC b1 [] Tryz.call116 h (fun _ => Xak) fun q3 h => ?_
 refine kP hC true b1 ?_
 refine kO hT hC ?_
 refine kS h ?_ ?_ <;> intro b2 h
 iterate 9 refine kI hT hC b2 ?_
 refine kP hC true b2 ?_
 refine kO hT hC ?_
 exact Vc.nil kM
 iterate 9 refine kF hC b2 ?_
 refine kP hC false b2 ?_
 refine kO hT hC ?_
 exact Vc.nil kM
 iterate 3 refine kF hC b1 ?_
 refine kP hC false b1 ?_
 refine kO hT hC ?_
 iterate 9 refine kF hC rfl ?_
 iterate 2 refine kO hT hC ?_
 exact Vc.nil kM
 exact Xah kR
def Ylh (r : Bool) : AV := .sv (.bool r)
def Ylg (r : Bool) : Xbl := []
theorem Yax {p0 p1 r} (h : Xqc p0 p1 = some r) : AC Tryz.prog 57 [.agg [.sv (.int .i64 p0.Wide), .sv (.int .i64 p0.High), .sv (.str p0.Dots)], .agg [.sv (.int .i64 p1.Level), .sv (.int .i64 p1.Bits), .sv (.ints .i64 p1.Cols), .sv (.ints .i64 p1.Rows)]] [] (Ylh r) (Ylg r) := by
 refine Xae hT Tryz.func57 rfl fun C hC => ?_
 unfold Xqc at h
 refine Xad ?_
 iterate 3 refine kO hT hC ?_
 refine kN ?_
 refine kO hT hC ?_
 refine kC hC [] Tryz.call125 h (fun _ => Xuo) fun q1 h => ?_
 iterate 5 refine kO hT hC ?_
 refine Vc.nil ?_
 refine kL [2,4,5,6] [32] [_,_,_,_] [_] ?_
 refine kA h (fun v2 => ([(4, .sv (.bool v2)), (2, .any), (5, .any), (6, .any)], [(32, none)])) (fun v2 h => ?_) fun v2 h => ?_
 refine Xac ?_
 refine kO hT hC ?_
 refine kC hC [] Tryz.call47 h (fun _ => Xdz) fun q3 h => ?_
 refine kO hT hC ?_
 refine kS h ?_ ?_ <;> intro b1 h
 iterate 4 refine kI hT hC b1 ?_
 refine kP hC true b1 ?_
 refine kO hT hC ?_
 refine kS h ?_ ?_ <;> intro b2 h
 iterate 4 refine kI hT hC b2 ?_
 refine kP hC true b2 ?_
 refine kO hT hC ?_
 exact Vc.nil kM
 iterate 4 refine kF hC b2 ?_
 refine kP hC false b2 ?_
 refine kO hT hC ?_
 exact Vc.nil kM
 iterate 4 refine kF hC b1 ?_
 refine kP hC false b1 ?_
 refine kO hT hC ?_
 iterate 4 refine kF hC rfl ?_
 iterate 2 refine kO hT hC ?_
 exact Vc.nil kM
 exact Xah kR
def Yhu (r : Bool) : AV := .sv (.bool r)
def Yht (r : Bool) : Xbl := []
theorem Yk7 {p0 r} (h : Xp3 p0 = some r) : AC Tryz.prog 111 [.agg [.sv (.bool p0.HasSeq), .sv (.bool p0.HasPar), .sv (.bool p0.HasRef), .sv (.int .i64 p0.Seq.Level), .sv (.int .i64 p0.Seq.Bits), .sv (.ints .i64 p0.Seq.Cols), .sv (.ints .i64 p0.Seq.Rows), .sv (.int .i64 p0.Par.Qp), .sv (.bool p0.Par.Large), .sv (.bool p0.Par.Exact), .sv (.bool p0.Par.Confined), .sv (.int .i64 p0.Frame), .sv (.int .i64 p0.Got), .sv (.int .i64 p0.Now.Wide), .sv (.int .i64 p0.Now.High), .sv (.str p0.Now.Dots), .sv (.int .i64 p0.Ref.Wide), .sv (.int .i64 p0.Ref.High), .sv (.str p0.Ref.Dots)]] [] (Yhu r) (Yht r) := by
 refine Xae hT Tryz.func111 rfl fun C hC => ?_
 unfold Xp3 at h
 refine Xad ?_
 iterate 2 refine kO hT hC ?_
 refine Vc.nil (Xa2 (Xad ?_))
 iterate 3 refine kO hT hC ?_
 refine Vc.nil ?_
 refine kS h ?_ ?_ <;> intro b1 h
 refine kt b1 ?_
 refine kL [1,2] [16] [_,_] [_] ?_
 refine kA h (fun v1 => ([(2, .sv (.bool v1)), (1, .any)], [(16, none)])) (fun v1 h => ?_) fun v1 h => ?_
 refine Xac ?_
 iterate 4 refine kO hT hC ?_
 refine kS h ?_ ?_ <;> intro b2 h
 iterate 3 refine kF hC (kn b2) ?_
 refine kP hC false (kn b2) ?_
 refine kO hT hC ?_
 iterate 3 refine kF hC rfl ?_
 iterate 2 refine kO hT hC ?_
 iterate 4 refine kF hC rfl ?_
 iterate 2 refine kO hT hC ?_
 iterate 3 refine kF hC rfl ?_
 iterate 2 refine kO hT hC ?_
 iterate 3 refine kF hC rfl ?_
 iterate 2 refine kO hT hC ?_
 iterate 4 refine kF hC rfl ?_
 iterate 2 refine kO hT hC ?_
 iterate 4 refine kF hC rfl ?_
 iterate 2 refine kO hT hC ?_
 exact Vc.nil kM
 iterate 3 refine kI hT hC (kn b2) ?_
 refine kP hC true (kn b2) ?_
 refine kO hT hC ?_
 refine kS h ?_ ?_ <;> intro b3 h
 iterate 3 refine kF hC (kn b3) ?_
 refine kP hC false (kn b3) ?_
 refine kO hT hC ?_
 iterate 4 refine kF hC rfl ?_
 iterate 2 refine kO hT hC ?_
 iterate 3 refine kF hC rfl ?_
 iterate 2 refine kO hT hC ?_
 iterate 3 refine kF hC rfl ?_
 iterate 2 refine kO hT hC ?_
 iterate 4 refine kF hC rfl ?_
 iterate 2 refine kO hT hC ?_
 iterate 4 refine kF hC rfl ?_
 iterate 2 refine kO hT hC ?_
 exact Vc.nil kM
 iterate 2 refine kI hT hC (kn b3) ?_
 refine kE hC (kn b3) [] Tryz.call142 h (fun _ => Yfb) fun q2 h => ?_
 refine kP hC true (kn b3) ?_
 refine kO hT hC ?_
 refine kS h ?_ ?_ <;> intro b4 h
 iterate 3 refine kI hT hC b4 ?_
 refine Yak hC rfl rfl rfl rfl b4 rfl rfl rfl Yyl rfl rfl ?_
 refine kP hC true b4 ?_
 refine kO hT hC ?_
 refine kS h ?_ ?_ <;> intro b5 h
 iterate 3 refine kI hT hC b5 ?_
 refine kP hC true b5 ?_
 refine kO hT hC ?_
 refine kS h ?_ ?_ <;> intro b6 h
 iterate 3 refine kI hT hC b6 ?_
 refine kP hC true b6 ?_
 refine kO hT hC ?_
 refine kS h ?_ ?_ <;> intro b7 h
 iterate 3 refine kI hT hC b7 ?_
 refine Yak hC rfl rfl rfl rfl b7 rfl rfl rfl Yjv rfl rfl ?_
 refine kP hC true b7 ?_
 refine kO hT hC ?_
 refine kS h ?_ ?_ <;> intro b8 h
 iterate 3 refine kI hT hC b8 ?_
 refine Yak hC rfl rfl rfl rfl b8 rfl rfl rfl Yjv rfl rfl ?_
 refine kP hC true b8 ?_
 refine kO hT hC ?_
 exact Vc.nil kM
 iterate 4 refine kF hC b8 ?_
 refine kP hC false b8 ?_
 refine kO hT hC ?_
 exact Vc.nil kM
 iterate 4 refine kF hC b7 ?_
 refine kP hC false b7 ?_
 refine kO hT hC ?_
 iterate 4 refine kF hC rfl ?_
 iterate 2 refine kO hT hC ?_
 exact Vc.nil kM
 iterate 3 refine kF hC b6 ?_
 refine kP hC false b6 ?_
 refine kO hT hC ?_
 iterate 4 refine kF hC rfl ?_
 iterate 2 refine kO hT hC ?_
 iterate 4 refine kF hC rfl ?_
 iterate 2 refine kO hT hC ?_
 exact Vc.nil kM
 iterate 3 refine kF hC b5 ?_
 refine kP hC false b5 ?_
 refine kO hT hC ?_
 iterate 3 refine kF hC rfl ?_
 iterate 2 refine kO hT hC ?_
 iterate 4 refine kF hC rfl ?_
 iterate 2 refine kO hT hC ?_
 iterate 4 refine kF hC rfl ?_
 iterate 2 refine kO hT hC ?_
 exact Vc.nil kM
 iterate 4 refine kF hC b4 ?_
 refine kP hC false b4 ?_
 refine kO hT hC ?_
 iterate 3 refine kF hC rfl ?_
 iterate 2 refine kO hT hC ?_
 iterate 3 refine kF hC rfl ?_
 iterate 2 refine kO hT hC ?_
 iterate 4 refine kF hC rfl ?_
 iterate 2 refine kO hT hC ?_
 iterate 4 refine kF hC rfl ?_
 iterate 2 refine kO hT hC ?_
 exact Vc.nil kM
 exact Xah (Xa4 kR)
 refine kf b1 (Xag (Xaf (Xa2 ?_)))
 refine kL [1] [16] [_] [_] ?_
 refine kA h (fun v3 => ([(80, .sv (.bool v3))], [])) (fun v3 h => ?_) fun v3 h => ?_
 refine Xac ?_
 iterate 2 refine kO hT hC ?_
 refine kC hC [] Tryz.call182 h (fun _ => Xhz) fun q4 h => ?_
 iterate 2 refine kO hT hC ?_
 refine kS h ?_ ?_ <;> intro b9 h
 iterate 3 refine kI hT hC (kn b9) ?_
 refine kS h ?_ ?_ <;> intro b10 h
 iterate 2 refine kI hT hC b10 ?_
 refine kE hC b10 [] Tryz.call69 h (fun _ => Xns) fun q5 h => ?_
 refine kI hT hC b10 ?_
 refine Xby hC rfl rfl rfl rfl (kn b9) rfl rfl (b := true) b10 rfl rfl rfl trivial ?_
 refine kP hC false (kn b9) ?_
 refine kO hT hC ?_
 refine kS h ?_ ?_ <;> intro b11 h
 iterate 4 refine kI hT hC (kn b11) ?_
 iterate 5 refine kF hC (kn b10) ?_
 iterate 3 refine Xlf hC rfl rfl rfl rfl rfl rfl ?_
 iterate 2 refine kF hC (kn b10) ?_
 iterate 2 refine Xlf hC rfl rfl rfl rfl rfl rfl ?_
 refine kF hC (kn b10) ?_
 refine Xby hC rfl rfl rfl rfl (kn b11) rfl rfl (b := false) (kn b10) rfl rfl rfl trivial ?_
 refine kP hC false (kn b11) ?_
 exact Vc.nil kM
 iterate 4 refine kF hC (kn b11) ?_
 iterate 13 refine Xlf hC rfl rfl rfl rfl rfl rfl ?_
 refine kF hC (kn b11) ?_
 refine kP hC true (kn b11) ?_
 exact Vc.nil kM
 iterate 4 refine kF hC b10 ?_
 refine Xby hC rfl rfl rfl rfl (kn b9) rfl rfl (b := false) b10 rfl rfl rfl trivial ?_
 refine kP hC false (kn b9) ?_
 refine kO hT hC ?_
 iterate 4 refine kI hT hC rfl ?_
 iterate 3 refine kI hT hC (kn b10) ?_
 refine Yak hC rfl rfl rfl rfl (kn b10) rfl rfl rfl Yyl rfl rfl ?_
 refine kI hT hC (kn b10) ?_
 refine kS h ?_ ?_ <;> intro b12 h
 iterate 3 refine kF hC b12 ?_
 refine Xby hC rfl rfl rfl rfl (kn b10) rfl rfl (b := true) b12 rfl rfl rfl trivial ?_
 refine kI hT hC (kn b10) ?_
 iterate 2 refine kF hC rfl ?_
 refine Xby hC rfl rfl rfl rfl (kn b10) rfl rfl (b := true) rfl rfl rfl rfl trivial ?_
 refine Xby hC rfl rfl rfl rfl rfl rfl rfl (b := true) (kn b10) rfl rfl rfl trivial ?_
 refine kO hT hC ?_
 exact Vc.nil kM
 iterate 3 refine kI hT hC b12 ?_
 refine Xby hC rfl rfl rfl rfl (kn b10) rfl rfl (b := false) b12 rfl rfl rfl trivial ?_
 refine kI hT hC (kn b10) ?_
 refine kS h ?_ ?_ <;> intro b13 h
 iterate 2 refine kF hC b13 ?_
 refine Xby hC rfl rfl rfl rfl (kn b10) rfl rfl (b := true) b13 rfl rfl rfl trivial ?_
 refine Xby hC rfl rfl rfl rfl rfl rfl rfl (b := true) (kn b10) rfl rfl rfl trivial ?_
 refine kO hT hC ?_
 exact Vc.nil kM
 iterate 2 refine kI hT hC b13 ?_
 refine Xby hC rfl rfl rfl rfl (kn b10) rfl rfl (b := false) b13 rfl rfl rfl trivial ?_
 refine Xby hC rfl rfl rfl rfl rfl rfl rfl (b := true) (kn b10) rfl rfl rfl trivial ?_
 refine kO hT hC ?_
 exact Vc.nil kM
 iterate 3 refine kF hC (kn b9) ?_
 iterate 4 refine Xlf hC rfl rfl rfl rfl rfl rfl ?_
 refine kF hC (kn b9) ?_
 refine kP hC true (kn b9) ?_
 refine kO hT hC ?_
 iterate 4 refine kF hC rfl ?_
 iterate 13 refine Xlf hC rfl rfl rfl rfl rfl rfl ?_
 refine kF hC rfl ?_
 refine kO hT hC ?_
 exact Vc.nil kM
 refine kS h ?_ ?_ <;> intro b14 h
 refine kt b14 (Xad ?_)
 refine kO hT hC ?_
 exact Vc.nil (Xah (Xa4 kR))
 refine kf b14 (Xag (Xaf (Xa2 ?_)))
 refine kL [1] [16] [_] [_] ?_
 refine kA h (fun v6 => ([(99, .sv (.bool v6))], [])) (fun v6 h => ?_) fun v6 h => ?_
 refine Xf6 hm ?_
 iterate 5 refine kO hT hC ?_
 refine kQ hT hC h fun h => ?_
 refine kO hT hC ?_
 refine kC hC [] Tryz.call116 h (fun _ => Xak) fun q7 h => ?_
 iterate 2 refine kO hT hC ?_
 refine kS h ?_ ?_ <;> intro b15 h
 iterate 4 refine kI hT hC (kn b15) ?_
 refine kE hC (kn b15) [] Tryz.call123 h (fun _ => Xkp) fun q8 h => ?_
 refine kI hT hC (kn b15) ?_
 refine kE hC (kn b15) [] Tryz.call116 h (fun _ => Xak) fun q9 h => ?_
 refine kI hT hC (kn b15) ?_
 refine kP hC false (kn b15) ?_
 exact kD kM
 iterate 8 refine kF hC (kn b15) ?_
 refine kP hC true (kn b15) ?_
 exact kD kM
 refine kS h ?_ ?_ <;> intro b16 h
 refine kt b16 (Xad ?_)
 refine kO hT hC ?_
 exact Vc.nil (Xah (Xa4 kR))
 refine kf b16 (Xag (Xaf (Xa2 ?_)))
 refine kL [1] [16] [_] [_] ?_
 refine kA h (fun v10 => ([(126, .sv (.bool v10))], [])) (fun v10 h => ?_) fun v10 h => ?_
 refine Xac ?_
 iterate 4 refine kO hT hC ?_
 refine kS h ?_ ?_ <;> intro b17 h
 iterate 4 refine kI hT hC b17 ?_
 refine kS h ?_ ?_ <;> intro b18 h
 iterate 6 refine kF hC b18 ?_
 refine Xby hC rfl rfl rfl rfl b17 rfl rfl (b := true) b18 rfl rfl rfl trivial ?_
 refine kP hC true b17 ?_
 refine kO hT hC ?_
 iterate 4 refine kF hC rfl ?_
 iterate 4 refine Xlf hC rfl rfl rfl rfl rfl rfl ?_
 refine kF hC rfl ?_
 refine kO hT hC ?_
 exact Vc.nil kM
 iterate 4 refine kI hT hC b18 ?_
 refine kE hC b18 [] Tryz.call57 h (fun _ => Yax) fun q11 h => ?_
 refine kI hT hC b18 ?_
 refine Xby hC rfl rfl rfl rfl b17 rfl rfl (b := false) b18 rfl rfl rfl trivial ?_
 refine kP hC true b17 ?_
 refine kO hT hC ?_
 refine kS h ?_ ?_ <;> intro b19 h
 iterate 4 refine kI hT hC (kn b19) ?_
 refine kS h ?_ ?_ <;> intro b20 h
 iterate 3 refine kI hT hC b20 ?_
 refine Yak hC rfl rfl rfl rfl b20 rfl rfl rfl Yjv rfl rfl ?_
 refine Xby hC rfl rfl rfl rfl (kn b19) rfl rfl (b := true) b20 rfl rfl rfl trivial ?_
 refine kP hC false (kn b19) ?_
 exact Vc.nil kM
 iterate 4 refine kF hC b20 ?_
 refine Xby hC rfl rfl rfl rfl (kn b19) rfl rfl (b := false) b20 rfl rfl rfl trivial ?_
 refine kP hC false (kn b19) ?_
 exact Vc.nil kM
 iterate 4 refine kF hC (kn b19) ?_
 iterate 4 refine Xlf hC rfl rfl rfl rfl rfl rfl ?_
 refine kF hC (kn b19) ?_
 refine kP hC true (kn b19) ?_
 exact Vc.nil kM
 iterate 4 refine kF hC b17 ?_
 iterate 6 refine Xlf hC rfl rfl rfl rfl rfl rfl ?_
 refine kF hC b17 ?_
 refine kP hC false b17 ?_
 refine kO hT hC ?_
 iterate 4 refine kI hT hC rfl ?_
 refine kS h ?_ ?_ <;> intro b21 h
 iterate 3 refine kI hT hC b21 ?_
 refine Yak hC rfl rfl rfl rfl b21 rfl rfl rfl Yjv rfl rfl ?_
 refine Xby hC rfl rfl rfl rfl rfl rfl rfl (b := true) b21 rfl rfl rfl trivial ?_
 refine kO hT hC ?_
 exact Vc.nil kM
 iterate 4 refine kF hC b21 ?_
 refine Xby hC rfl rfl rfl rfl rfl rfl rfl (b := false) b21 rfl rfl rfl trivial ?_
 refine kO hT hC ?_
 exact Vc.nil kM
 refine kS h ?_ ?_ <;> intro b22 h
 refine kt b22 (Xad ?_)
 refine kO hT hC ?_
 exact Vc.nil (Xah (Xa4 kR))
 refine kf b22 (Xag (Xaf (Xa2 (Xad ?_))))
 iterate 2 refine kO hT hC ?_
 refine Vc.nil ?_
 refine kS h ?_ ?_ <;> intro b23 h
 refine kt b23 (Xad ?_)
 iterate 4 refine kO hT hC ?_
 refine kC hC [] Tryz.call57 h (fun _ => Yax) fun q12 h => ?_
 refine kO hT hC ?_
 exact Vc.nil (Xah (Xa4 kR))
 refine kf b23 (Xag (Xaf (Xad ?_)))
 iterate 3 refine kO hT hC ?_
 refine Zch hC rfl rfl rfl rfl Yjv rfl rfl ?_
 refine kO hT hC ?_
 exact Vc.nil (Xah kR)
def Yfa (r : Bool) : AV := .sv (.bool r)
def Ye9 (r : Bool) : Xbl := []
theorem Yie {p0 r} (h : Xoc p0 = some r) : AC Tryz.prog 140 [.sv (.int .i64 p0)] [] (Yfa r) (Ye9 r) := by
 refine Xae hT Tryz.func140 rfl fun C hC => ?_
 unfold Xoc at h
 refine Xad ?_
 refine kO hT hC ?_
 refine Vc.nil ?_
 refine kL [0,2] [] [_,_] [] ?_
 refine kA h (fun v1 => ([(2, .sv (.bool v1)), (0, .any)], [])) (fun v1 h => ?_) fun v1 h => ?_
 refine Xac ?_
 iterate 3 refine kO hT hC ?_
 refine kS h ?_ ?_ <;> intro b1 h
 iterate 2 refine kF hC b1 ?_
 refine kP hC true b1 ?_
 refine kO hT hC ?_
 iterate 2 refine kF hC rfl ?_
 iterate 2 refine kO hT hC ?_
 iterate 2 refine kF hC rfl ?_
 iterate 2 refine kO hT hC ?_
 exact Vc.nil kM
 iterate 2 refine kI hT hC b1 ?_
 refine kP hC false b1 ?_
 refine kO hT hC ?_
 refine kS h ?_ ?_ <;> intro b2 h
 iterate 2 refine kF hC b2 ?_
 refine kP hC true b2 ?_
 refine kO hT hC ?_
 iterate 2 refine kF hC rfl ?_
 iterate 2 refine kO hT hC ?_
 exact Vc.nil kM
 iterate 2 refine kI hT hC b2 ?_
 refine kP hC false b2 ?_
 refine kO hT hC ?_
 refine kS h ?_ ?_ <;> intro b3 h
 iterate 2 refine kF hC b3 ?_
 refine kP hC true b3 ?_
 refine kO hT hC ?_
 exact Vc.nil kM
 iterate 2 refine kI hT hC b3 ?_
 refine kP hC false b3 ?_
 refine kO hT hC ?_
 exact Vc.nil kM
 exact Xah kR
def Xy3 (r : (ByteArray × Bool)) : AV := .tup [.sv (.str r.1), .sv (.bool r.2)]
def Xy2 (r : (ByteArray × Bool)) : Xbl := []
theorem Yba {p0 r} (h : Xeq p0 = some r) : AC Tryz.prog 183 [.sv (.str p0)] [] (Xy3 r) (Xy2 r) := by
 refine Xae hT Tryz.func183 rfl fun C hC => ?_
 unfold Xeq at h
 refine Xad ?_
 iterate 2 refine kO hT hC ?_
 refine kN ?_
 iterate 4 refine kO hT hC ?_
 refine Vc.nil (Xa2 ?_)
 refine kL [0,4] [] [_,_] [] ?_
 refine kA h (fun v1 => ([(23, .sv (.bool v1))], [])) (fun v1 h => ?_) fun v1 h => ?_
 refine Xac ?_
 iterate 3 refine kO hT hC ?_
 refine kS h ?_ ?_ <;> intro b1 h
 iterate 6 refine kF hC b1 ?_
 refine kP hC true b1 ?_
 refine kO hT hC ?_
 iterate 2 refine kF hC rfl ?_
 refine kO hT hC ?_
 exact Vc.nil kM
 iterate 4 refine kI hT hC b1 ?_
 refine kJ hT hC b1 h fun h => ?_
 refine kI hT hC b1 ?_
 refine kP hC false b1 ?_
 refine kO hT hC ?_
 refine kS h ?_ ?_ <;> intro b2 h
 iterate 2 refine kF hC b2 ?_
 refine kP hC true b2 ?_
 exact Vc.nil kM
 iterate 2 refine kI hT hC b2 ?_
 refine kP hC false b2 ?_
 exact Vc.nil kM
 refine kS h ?_ ?_ <;> intro b3 h
 refine kt b3 (Xad ?_)
 iterate 2 refine kO hT hC ?_
 exact Vc.nil (Xah (Xa4 kR))
 refine kf b3 (Xag (Xaf (Xad ?_)))
 refine kO hT hC ?_
 obtain ⟨hq, h⟩ := Xa7 h
 refine Yc7 hT hC rfl rfl rfl rfl ⟨hq.1, hq.2.1, hq.2.2, by decide⟩ ?_
 refine kO hT hC ?_
 refine Vc.nil (Xa2 (Xad ?_))
 refine kO hT hC ?_
 refine Vc.nil ?_
 refine kL [0,4,5,6] [400] [_,_,_,_] [_] ?_
 refine kX h (fun v3 => ([(6, .sv (.int .i64 v3.1))], [(400, some (.ints .u8 v3.2))])) (fun v5 => ([(0, .any), (6, .any)], [(400, some (.ints .u8 v5))])) (kW hC []) (fun v3 s h => ?_) fun v5 h => ?_
 unfold Xem at h
 refine Xa2 (Xad ?_)
 iterate 3 refine kO hT hC ?_
 refine Vc.nil ?_
 refine kS h ?_ ?_ <;> intro b6 h
 refine kt b6 (Xag (Xaf (Xa2 (Xau (Xac ?_)))))
 iterate 3 refine kO hT hC ?_
 iterate 2 refine kQ hT hC h fun h => ?_
 refine kO hT hC ?_
 refine kQ hT hC h fun h => ?_
 refine kO hT hC ?_
 refine kQ hT hC h fun h => ?_
 iterate 3 refine kO hT hC ?_
 refine kT hT hC h fun h => ?_
 refine kO hT hC ?_
 refine Vc.nil (Xax (Xaf (Xac ?_)))
 iterate 3 refine kO hT hC ?_
 refine Vc.nil ?_
 obtain rfl := kj h
 exact Ylz (kW hC [(400, 688)])
 exact kf b6 (Xaw (Xbd ku))
 refine Xaf (Xa2 ?_)
 refine kL [4,5] [400] [_,_] [_] ?_
 refine kX h (fun v8 => ([(4, .sv (.int .i64 v8))], [])) (fun v10 => ([(4, .sv (.int .i64 v10))], [])) (kW hC []) (fun v8 s h => ?_) fun v10 h => ?_
 unfold Xb9 at h
 refine Xa2 (Xad ?_)
 iterate 3 refine kO hT hC ?_
 iterate 2 refine kQ hT hC h fun h => ?_
 refine kO hT hC ?_
 refine Vc.nil ?_
 refine kS h ?_ ?_ <;> intro b9 h
 refine kt b9 (Xag (Xaf (Xau (Xac ?_))))
 iterate 3 refine kO hT hC ?_
 exact Vc.nil (Xax kG)
 exact kf b9 (Xaw (Xbd ku))
 refine Xaf (Xa2 (Xad ?_))
 iterate 3 refine kO hT hC ?_
 refine Vc.nil ?_
 refine kS h ?_ ?_ <;> intro b10 h
 refine kt b10 (Xad ?_)
 iterate 2 refine kO hT hC ?_
 exact Vc.nil (Xah (Xa4 kR))
 refine kf b10 (Xag (Xaf (Xad ?_)))
 iterate 3 refine kO hT hC ?_
 iterate 2 refine kQ hT hC h fun h => ?_
 iterate 2 refine kO hT hC ?_
 exact Vc.nil (Xah kR)
def Ye3 (r : (Int × ByteArray × Bool)) : AV := .tup [.sv (.int .i64 r.1), .sv (.str r.2.1), .sv (.bool r.2.2)]
def Ye2 (r : (Int × ByteArray × Bool)) : Xbl := []
theorem Yh9 {p0 r} (h : Xga p0 = some r) : AC Tryz.prog 112 [.sv (.str p0)] [] (Ye3 r) (Ye2 r) := by
 refine Xae hT Tryz.func112 rfl fun C hC => ?_
 unfold Xga at h
 refine Xad ?_
 iterate 3 refine kO hT hC ?_
 refine Vc.nil (Xa2 ?_)
 refine kL [0] [] [_] [] ?_
 refine kA h (fun v1 => ([(15, .sv (.bool v1))], [])) (fun v1 h => ?_) fun v1 h => ?_
 refine Xac ?_
 iterate 3 refine kO hT hC ?_
 refine kS h ?_ ?_ <;> intro b1 h
 iterate 5 refine kF hC b1 ?_
 refine kP hC true b1 ?_
 exact Vc.nil kM
 refine kI hT hC b1 ?_
 refine kJ hT hC b1 h fun h => ?_
 refine kI hT hC b1 ?_
 refine kE hC b1 [] Tryz.call140 h (fun _ => Yie) fun q2 h => ?_
 refine kI hT hC b1 ?_
 refine kP hC false b1 ?_
 exact Vc.nil kM
 refine kS h ?_ ?_ <;> intro b2 h
 refine kt b2 (Xad ?_)
 iterate 3 refine kO hT hC ?_
 exact Vc.nil (Xah (Xa4 kR))
 refine kf b2 (Xag (Xaf (Xad ?_)))
 refine kO hT hC ?_
 refine kQ hT hC h fun h => ?_
 refine kC hC [] Tryz.call183 h (fun _ => Yba) fun q3 h => ?_
 iterate 5 refine kO hT hC ?_
 refine Vc.nil (Xa2 (Xad ?_))
 iterate 2 refine kO hT hC ?_
 refine Vc.nil ?_
 refine kS h ?_ ?_ <;> intro b3 h
 refine kt b3 (Xad ?_)
 iterate 3 refine kO hT hC ?_
 exact Vc.nil (Xah (Xa4 kR))
 refine kf b3 (Xag (Xaf (Xad ?_)))
 refine kO hT hC ?_
 refine kQ hT hC h fun h => ?_
 iterate 5 refine kO hT hC ?_
 exact Vc.nil (Xah kR)
def Xum (r : Bool) : AV := .sv (.bool r)
def Xul (r : Bool) : Xbl := []
theorem Ylb {p0 r} (h : Xjv p0 = some r) : AC Tryz.prog 215 [.sv (.str p0)] [] (Xum r) (Xul r) := by
 refine Xae hT Tryz.func215 rfl fun C hC => ?_
 unfold Xjv at h
 refine Xad ?_
 refine kO hT hC ?_
 refine Vc.nil (Xa2 (Xad ?_))
 iterate 3 refine kO hT hC ?_
 refine Vc.nil ?_
 refine kS h ?_ ?_ <;> intro b1 h
 refine kt b1 (Xad ?_)
 refine kO hT hC ?_
 exact Vc.nil (Xah (Xa4 kR))
 refine kf b1 (Xag (Xaf (Xa2 (Xad ?_))))
 refine kO hT hC ?_
 refine Vc.nil ?_
 refine kL [0,3] [] [_,_] [] ?_
 obtain ⟨o8, hl, h⟩ := Xb6 h
 refine Xlx (fun v3 => ([(3, .sv (.int .i64 v3))], [])) (fun v6 => ([(0, .any), (3, .any)], [])) (fun r => Xvb C T Tryz.f215.results.toList (Xum r) (Xul r)) hl ?_ ?_ ?_ ?_
 apply Xi9 hC []
 exact co
 rfl
 decide
 rfl
 intro v3 s hs
 have h := hs
 unfold Xhy at h
 refine Xa2 (Xad ?_)
 iterate 4 refine kO hT hC ?_
 refine Vc.nil ?_
 refine kS h ?_ ?_ <;> intro b8 h
 refine kt b8 (Xag (Xaf (Xa2 (Xau ?_))))
 refine kL [0,3] [] [_,_] [] ?_
 refine kA h (fun v7 => ([(22, .sv (.bool v7))], [])) (fun v7 h => ?_) fun v7 h => ?_
 refine Xac ?_
 iterate 2 refine kO hT hC ?_
 refine kQ hT hC h fun h => ?_
 iterate 2 refine kO hT hC ?_
 refine kS h ?_ ?_ <;> intro b9 h
 iterate 2 refine kI hT hC b9 ?_
 refine kJ hT hC b9 h fun h => ?_
 refine kI hT hC b9 ?_
 refine kP hC true b9 ?_
 exact Vc.nil kM
 iterate 4 refine kF hC b9 ?_
 refine kP hC false b9 ?_
 exact Vc.nil kM
 refine kS h ?_ ?_ <;> intro b10 h
 refine kt b10 (Xad ?_)
 refine kO hT hC ?_
 refine Vc.nil (Xah (Xg6 (Xa4 ?_)))
 obtain rfl := kj h
 refine Xx5 (Xx1 ?_)
 exact Xdx (Xif.refl _) rfl trivial
 refine kf b10 (Xag (Xax (Xaf (Xac ?_))))
 iterate 3 refine kO hT hC ?_
 exact Vc.nil kG
 exact kf b8 (Xaw (Xbd kb))
 intro v6 e
 subst e
 refine Xaf (Xad ?_)
 refine kO hT hC ?_
 exact Vc.nil (Xah kR)
 intro r' σ' e hE
 subst e
 obtain rfl := kj h
 refine Xa4 ?_
 exact hE
def Yfh (r : Xkf) : AV := .ptr 16 0
def Yfg (r : Xkf) : Xbl := [(16, .box [.sv (.str r.row_), .sv (.int .i64 r.at_), .sv (.bool r.bad_)])]
theorem Xmg {p0 p1 r} (h : Xe7 p0 p1 = some r) : AC Tryz.prog 184 [.sv (.str p0), .sv (.int .i64 p1)] [] (Yfh r) (Yfg r) := by
 refine Xae hT Tryz.func184 rfl fun C hC => ?_
 unfold Xe7 at h
 refine Xad ?_
 refine kO hT hC ?_
 refine Vc.nil ?_
 refine kL [0,1] [] [_,_] [] ?_
 refine kA h (fun v1 => ([(4, .ptr 321 0), (0, .any), (1, .any)], [(321, some (.box [.sv (.str p0), .sv (.int .i64 p1), .sv (.bool v1)]))])) (fun v1 h => ?_) fun v1 h => ?_
 refine Xac ?_
 iterate 3 refine kO hT hC ?_
 refine kC hC [] Tryz.call215 h (fun _ => Ylb) fun q2 h => ?_
 iterate 2 refine kO hT hC ?_
 refine kS h ?_ ?_ <;> intro b1 h
 iterate 3 refine kI hT hC (kn b1) ?_
 refine kE hC (kn b1) [] Tryz.call116 h (fun _ => Xak) fun q3 h => ?_
 refine kI hT hC (kn b1) ?_
 refine kP hC false (kn b1) ?_
 iterate 3 refine kO hT hC ?_
 refine Vc.nil ?_
 obtain rfl := kj h
 exact Xf5 (kW hC [(321, 288)])
 iterate 5 refine kF hC (kn b1) ?_
 refine kP hC true (kn b1) ?_
 iterate 3 refine kO hT hC ?_
 refine Vc.nil ?_
 obtain rfl := kj h
 exact Xf5 (kW hC [(321, 288)])
 refine Xah ?_
 obtain rfl := kj h
 exact Xdx (τ := ⟨[(4, .ptr 16 0)], [(16, some (.box [.sv (.str p0), .sv (.int .i64 p1), .sv (.bool v1)]))]⟩) (kW hC [(16, 321)]) rfl ⟨rfl, trivial⟩
def Xzq (r : (Int × Xkf)) : AV := .sv (.int .i64 r.1)
def Xzp (r : (Int × Xkf)) : Xbl := [(0, .box [.sv (.str r.2.row_), .sv (.int .i64 r.2.at_), .sv (.bool r.2.bad_)])]
theorem Xdr {p0 p1 r} (h : Xa0 p0 p1 = some r) : AC Tryz.prog 186 [.ptr 0 0, .sv (.int .i64 p1)] [(0, .box [.sv (.str p0.row_), .sv (.int .i64 p0.at_), .sv (.bool p0.bad_)])] (Xzq r) (Xzp r) := by
 refine Xae hT Tryz.func186 rfl fun C hC => ?_
 unfold Xa0 at h
 refine Xad ?_
 refine kO hT hC ?_
 refine Vc.nil (Xa2 ?_)
 refine kL [0,1] [0] [_,_] [_] ?_
 refine kA h (fun v1 => ([(24, .sv (.bool v1))], [])) (fun v1 h => ?_) fun v1 h => ?_
 refine Xf6 hm ?_
 iterate 5 refine kO hT hC ?_
 refine kS h ?_ ?_ <;> intro b1 h
 iterate 12 refine kF hC b1 ?_
 refine kP hC true b1 ?_
 exact kD kM
 iterate 12 refine kI hT hC b1 ?_
 refine kP hC false b1 ?_
 exact kD kM
 refine kS h ?_ ?_ <;> intro b2 h
 refine kt b2 (Xad ?_)
 iterate 4 refine kO hT hC ?_
 refine kN ?_
 refine kO hT hC ?_
 refine Vc.nil (Xah (Xa4 ?_))
 obtain rfl := kj h
 exact Xdx (Xif.refl _) rfl ⟨rfl, trivial⟩
 refine kf b2 (Xag (Xaf (Xad ?_)))
 refine kO hT hC ?_
 refine Vc.nil (Xa2 (Xad ?_))
 refine kO hT hC ?_
 refine Vc.nil ?_
 refine kL [0,1,5,6] [0] [_,_,_,_] [_] ?_
 refine kX h (fun v3 => ([(5, .sv (.int .i64 v3.1)), (6, .sv (.int .i64 v3.2))], [])) (fun v5 => ([(5, .sv (.int .i64 v5)), (6, .any)], [])) (kW hC []) (fun v3 s h => ?_) fun v5 h => ?_
 unfold Xgh at h
 refine Xa2 (Xad ?_)
 iterate 3 refine kO hT hC ?_
 refine Vc.nil ?_
 refine kS h ?_ ?_ <;> intro b5 h
 refine kt b5 (Xag (Xaf (Xa2 (Xau ?_))))
 refine Xf6 hm ?_
 refine kO hT hC ?_
 refine kQ hT hC h fun h => ?_
 iterate 10 refine kO hT hC ?_
 refine kQ hT hC h fun h => ?_
 iterate 4 refine kO hT hC ?_
 refine kD (Xax (Xaf (Xac ?_)))
 iterate 3 refine kO hT hC ?_
 exact Vc.nil kG
 exact kf b5 (Xaw (Xbd ku))
 refine Xaf (Xad ?_)
 iterate 10 refine kO hT hC ?_
 refine kN ?_
 iterate 2 refine kO hT hC ?_
 refine Vc.nil (Xah ?_)
 obtain rfl := kj h
 exact Xdx (Xif.refl _) rfl ⟨rfl, trivial⟩
def Yb9 (r : (Int × Xkf)) : AV := .sv (.int .i64 r.1)
def Yb8 (r : (Int × Xkf)) : Xbl := [(0, .box [.sv (.str r.2.row_), .sv (.int .i64 r.2.at_), .sv (.bool r.2.bad_)])]
theorem Xcs {p0 r} (h : Xbj p0 = some r) : AC Tryz.prog 185 [.ptr 0 0] [(0, .box [.sv (.str p0.row_), .sv (.int .i64 p0.at_), .sv (.bool p0.bad_)])] (Yb9 r) (Yb8 r) := by
 refine Xae hT Tryz.func185 rfl fun C hC => ?_
 unfold Xbj at h
 refine Xad ?_
 refine kO hT hC ?_
 refine kN ?_
 refine kO hT hC ?_
 refine Vc.nil (Xa2 ?_)
 refine kL [0,3] [0] [_,_] [_] ?_
 refine kX h (fun v3 => ([(3, .sv (.int .i64 v3))], [])) (fun v6 => ([(3, .sv (.int .i64 v6))], [])) (kW hC []) (fun v3 s h => ?_) fun v6 h => ?_
 unfold Xch at h
 refine Xa2 ?_
 refine kL [0,3] [0] [_,_] [_] ?_
 refine kA h (fun v7 => ([(37, .sv (.bool v7))], [])) (fun v7 h => ?_) fun v7 h => ?_
 refine Xf6 hm ?_
 iterate 6 refine kO hT hC ?_
 refine kS h ?_ ?_ <;> intro b7 h
 iterate 12 refine kF hC (kn b7) ?_
 refine kP hC false (kn b7) ?_
 refine kO hT hC ?_
 iterate 12 refine kF hC rfl ?_
 refine kO hT hC ?_
 exact kD kM
 iterate 12 refine kI hT hC (kn b7) ?_
 refine kP hC true (kn b7) ?_
 refine kO hT hC ?_
 refine kS h ?_ ?_ <;> intro b8 h
 iterate 10 refine kI hT hC b8 ?_
 refine kJ hT hC b8 h fun h => ?_
 refine kI hT hC b8 ?_
 refine kP hC true b8 ?_
 exact kD kM
 iterate 12 refine kF hC b8 ?_
 refine kP hC false b8 ?_
 exact kD kM
 refine kS h ?_ ?_ <;> intro b9 h
 refine kt b9 (Xag (Xaf (Xau (Xac ?_))))
 iterate 3 refine kO hT hC ?_
 exact Vc.nil (Xax kG)
 exact kf b9 (Xaw (Xbd ku))
 refine Xaf ?_
 refine kL [0,3] [0] [_,_] [_] ?_
 refine kA h (fun v9 => ([], [(0, some (.box [.sv (.str p0.row_), .sv (.int .i64 p0.at_), .sv (.bool v9)]))])) (fun v9 h => ?_) fun v9 h => ?_
 refine Xad ?_
 iterate 2 refine kO hT hC ?_
 refine Vc.nil ?_
 refine kS h ?_ ?_ <;> intro b10 h
 refine kt b10 (Xac ?_)
 iterate 4 refine kO hT hC ?_
 exact Vc.nil kM
 exact kf b10 (Xag kM)
 refine Xad ?_
 iterate 4 refine kO hT hC ?_
 refine kC hC [(0, 0)] Tryz.call186 h (fun _ => Xdr) fun q10 h => ?_
 iterate 2 refine kO hT hC ?_
 refine Vc.nil (Xa2 ?_)
 refine kL [0,4] [0] [_,_] [_] ?_
 refine kA h (fun v11 => ([(58, .sv (.bool v11))], [])) (fun v11 h => ?_) fun v11 h => ?_
 refine Xac ?_
 iterate 5 refine kO hT hC ?_
 refine kS h ?_ ?_ <;> intro b11 h
 iterate 2 refine kF hC b11 ?_
 refine kP hC true b11 ?_
 exact Vc.nil kM
 iterate 2 refine kI hT hC b11 ?_
 refine kP hC false b11 ?_
 exact Vc.nil kM
 refine kS h ?_ ?_ <;> intro b12 h
 refine kt b12 (Xad ?_)
 iterate 4 refine kO hT hC ?_
 refine kN ?_
 refine kO hT hC ?_
 refine Vc.nil (Xah (Xa4 ?_))
 obtain rfl := kj h
 exact Xdx (Xif.refl _) rfl ⟨rfl, trivial⟩
 refine kf b12 (Xag (Xaf (Xad ?_)))
 iterate 2 refine kO hT hC ?_
 refine Vc.nil (Xah ?_)
 obtain rfl := kj h
 exact Xdx (Xif.refl _) rfl ⟨rfl, trivial⟩
def Xxr (r : ((List Int) × Xkf)) : AV := .own 16
def Xxq (r : ((List Int) × Xkf)) : Xbl := [(16, .ints .i64 r.1), (0, .box [.sv (.str r.2.row_), .sv (.int .i64 r.2.at_), .sv (.bool r.2.bad_)])]
theorem Xqd {p0 r} (h : Xcf p0 = some r) : AC Tryz.prog 187 [.ptr 0 0] [(0, .box [.sv (.str p0.row_), .sv (.int .i64 p0.at_), .sv (.bool p0.bad_)])] (Xxr r) (Xxq r) := by
 refine Xae hT Tryz.func187 rfl fun C hC => ?_
 unfold Xcf at h
 refine Xad ?_
 refine kO hT hC ?_
 refine kN ?_
 iterate 2 refine kO hT hC ?_
 refine kN ?_
 refine kO hT hC ?_
 refine kC hC [(0, 0)] Tryz.call185 h (fun _ => Xcs) fun q1 h => ?_
 refine kO hT hC ?_
 refine Vc.nil ?_
 refine kL [0,3,4] [0,96] [_,_,_] [_,_] ?_
 refine kA h (fun v2 => ([], [(0, some (.box [.sv (.str q1.2.row_), .sv (.int .i64 q1.2.at_), .sv (.bool v2)]))])) (fun v2 h => ?_) fun v2 h => ?_
 refine Xad ?_
 iterate 2 refine kO hT hC ?_
 refine Vc.nil ?_
 refine kS h ?_ ?_ <;> intro b1 h
 refine kt b1 (Xac ?_)
 iterate 4 refine kO hT hC ?_
 exact Vc.nil kM
 exact kf b1 (Xag kM)
 refine Xa2 (Xad ?_)
 refine kO hT hC ?_
 refine Vc.nil ?_
 refine kL [0,3,4,5] [0,96] [_,_,_,_] [_,_] ?_
 refine kX h (fun v6 => ([(5, .sv (.int .i64 v6.1))], [(0, some (.box [.sv (.str v6.2.1), .sv (.int .i64 v6.2.2.1), .sv (.bool v6.2.2.2.1)])), (96, some (.ints .i64 v6.2.2.2.2))])) (fun v10 => ([(0, .any), (4, .any), (5, .any)], [(0, some (.box [.sv (.str v10.2.1), .sv (.int .i64 v10.2.2.1), .sv (.bool v10.2.2.2)])), (96, some (.ints .i64 v10.1))])) (kW hC []) (fun v6 s h => ?_) fun v10 h => ?_
 unfold Xay at h
 refine Xa2 ?_
 refine kL [0,3,4,5] [0,96] [_,_,_,_] [_,_] ?_
 refine kA h (fun v11 => ([(23, .sv (.bool v11))], [])) (fun v11 h => ?_) fun v11 h => ?_
 refine Xac ?_
 iterate 4 refine kO hT hC ?_
 refine kS h ?_ ?_ <;> intro b6 h
 iterate 5 refine kI hT hC b6 ?_
 refine kP hC true b6 ?_
 exact Vc.nil kM
 iterate 5 refine kF hC b6 ?_
 refine kP hC false b6 ?_
 exact Vc.nil kM
 refine kS h ?_ ?_ <;> intro b7 h
 refine kt b7 (Xag (Xaf (Xa2 (Xau (Xac ?_)))))
 iterate 2 refine kO hT hC ?_
 refine kC hC [(0, 0)] Tryz.call185 h (fun _ => Xcs) fun q12 h => ?_
 refine kO hT hC ?_
 refine kT hT hC h fun h => ?_
 refine kO hT hC ?_
 refine Vc.nil (Xax (Xaf (Xac ?_)))
 iterate 3 refine kO hT hC ?_
 refine Vc.nil ?_
 obtain rfl := kj h
 exact Ylz (kW hC [(96, 480)])
 exact kf b7 (Xaw (Xbd ku))
 refine Xaf (Xad ?_)
 iterate 2 refine kO hT hC ?_
 refine Vc.nil (Xah ?_)
 obtain rfl := kj h
 exact Xdx (τ := ⟨[(2, .own 16)], [(16, some (.ints .i64 v10.1)), (0, some (.box [.sv (.str v10.2.1), .sv (.int .i64 v10.2.2.1), .sv (.bool v10.2.2.2)]))]⟩) (kW hC [(16, 96)]) rfl ⟨rfl, rfl, trivial⟩
def Ybq (r : (Seq × Int × Bool)) : AV := .tup [.agg [.sv (.int .i64 r.1.Level), .sv (.int .i64 r.1.Bits), .own 16, .own 17], .sv (.int .i64 r.2.1), .sv (.bool r.2.2)]
def Ybp (r : (Seq × Int × Bool)) : Xbl := [(16, .ints .i64 r.1.Cols), (17, .ints .i64 r.1.Rows)]
theorem Yeu {p0 p1 r} (h : Xdl p0 p1 = some r) : AC Tryz.prog 113 [.sv (.str p0), .sv (.int .i64 p1)] [] (Ybq r) (Ybp r) := by
 refine Xae hT Tryz.func113 rfl fun C hC => ?_
 unfold Xdl at h
 refine Xad ?_
 iterate 3 refine kO hT hC ?_
 refine kN ?_
 iterate 2 refine kO hT hC ?_
 refine kC hC [(16, 176)] Tryz.call184 h (fun _ => Xmg) fun q1 h => ?_
 refine kO hT hC ?_
 refine kN ?_
 iterate 3 refine kO hT hC ?_
 refine kN ?_
 refine kO hT hC ?_
 refine kC hC [(0, 176)] Tryz.call185 h (fun _ => Xcs) fun q2 h => ?_
 iterate 2 refine kO hT hC ?_
 refine kN ?_
 refine kO hT hC ?_
 refine kC hC [(0, 176)] Tryz.call186 h (fun _ => Xdr) fun q3 h => ?_
 iterate 2 refine kO hT hC ?_
 refine kN ?_
 refine kO hT hC ?_
 refine kC hC [(16, 320), (0, 176)] Tryz.call187 h (fun _ => Xqd) fun q4 h => ?_
 iterate 2 refine kO hT hC ?_
 refine kN ?_
 refine kO hT hC ?_
 refine kC hC [(16, 368), (0, 176)] Tryz.call187 h (fun _ => Xqd) fun q5 h => ?_
 iterate 2 refine kO hT hC ?_
 refine Vc.nil (Xa2 ?_)
 refine kL [4,7,8] [64,128,176,320,368] [_,_,_] [_,_,_,_,_] ?_
 refine kA h (fun v6 => ([(33, .sv (.bool v6))], [])) (fun v6 h => ?_) fun v6 h => ?_
 refine Xac ?_
 iterate 5 refine kO hT hC ?_
 refine kS h ?_ ?_ <;> intro b1 h
 iterate 3 refine kF hC b1 ?_
 refine kP hC true b1 ?_
 exact Vc.nil kM
 refine kI hT hC b1 ?_
 refine kE hC b1 [] Tryz.call182 h (fun _ => Xhz) fun q7 h => ?_
 refine kI hT hC b1 ?_
 refine kP hC false b1 ?_
 exact Vc.nil kM
 refine kS h ?_ ?_ <;> intro b2 h
 refine kt b2 (Xad ?_)
 iterate 4 refine kO hT hC ?_
 refine Vc.nil (Xah (Xa4 ?_))
 obtain rfl := kj h
 refine Xdx (τ := ⟨[(4, .ptr 2000000 0), (5, .sv (.int .i64 0)), (6, .sv (.bool false))], [(16, some (.ints .i64 [])), (17, some (.ints .i64 [])), (2000000, some (.box [.sv (.int .i64 0), .sv (.int .i64 0), .own 16, .own 17]))]⟩) ?_ rfl ⟨rfl, rfl, trivial⟩
 refine Xyr hC 64 2 657 (.ints .i64 []) rfl rfl rfl rfl rfl trivial ?_
 refine Xyr hC 64 3 658 (.ints .i64 []) rfl rfl rfl rfl rfl trivial ?_
 apply Xi9 hC [(16, 657), (17, 658), (2000000, 64)]
 exact co
 rfl
 decide
 rfl
 refine kf b2 (Xag (Xaf ?_))
 refine Xdw hm ?_
 iterate 8 refine kO hT hC ?_
 refine kD (Xah ?_)
 obtain rfl := kj h
 exact Xdx (τ := ⟨[(4, .ptr 2000000 0), (5, .sv (.int .i64 q5.2.at_)), (6, .sv (.bool true))], [(16, some (.ints .i64 q4.1)), (17, some (.ints .i64 q5.1)), (2000000, some (.box [.sv (.int .i64 q2.1), .sv (.int .i64 q3.1), .own 16, .own 17]))]⟩) (kW hC [(16, 320), (17, 368), (2000000, 64)]) rfl ⟨rfl, rfl, trivial⟩
def Ybo (r : (Par × Int × Bool)) : AV := .tup [.agg [.sv (.int .i64 r.1.Qp), .sv (.bool r.1.Large), .sv (.bool r.1.Exact), .sv (.bool r.1.Confined)], .sv (.int .i64 r.2.1), .sv (.bool r.2.2)]
def Ybn (r : (Par × Int × Bool)) : Xbl := []
theorem Yet {p0 p1 r} (h : Xdk p0 p1 = some r) : AC Tryz.prog 114 [.sv (.str p0), .sv (.int .i64 p1)] [] (Ybo r) (Ybn r) := by
 refine Xae hT Tryz.func114 rfl fun C hC => ?_
 unfold Xdk at h
 refine Xad ?_
 iterate 3 refine kO hT hC ?_
 refine kN ?_
 iterate 2 refine kO hT hC ?_
 refine kC hC [(16, 176)] Tryz.call184 h (fun _ => Xmg) fun q1 h => ?_
 refine kO hT hC ?_
 refine kN ?_
 refine kO hT hC ?_
 refine kC hC [(0, 176)] Tryz.call186 h (fun _ => Xdr) fun q2 h => ?_
 iterate 3 refine kO hT hC ?_
 refine kN ?_
 refine kO hT hC ?_
 refine kC hC [(0, 176)] Tryz.call186 h (fun _ => Xdr) fun q3 h => ?_
 iterate 3 refine kO hT hC ?_
 refine kN ?_
 refine kO hT hC ?_
 refine kC hC [(0, 176)] Tryz.call186 h (fun _ => Xdr) fun q4 h => ?_
 iterate 3 refine kO hT hC ?_
 refine kN ?_
 refine kO hT hC ?_
 refine kC hC [(0, 176)] Tryz.call186 h (fun _ => Xdr) fun q5 h => ?_
 iterate 3 refine kO hT hC ?_
 refine Vc.nil (Xa2 ?_)
 refine kL [4,7,8] [64,128,176] [_,_,_] [_,_,_] ?_
 refine kA h (fun v6 => ([(35, .sv (.bool v6))], [])) (fun v6 h => ?_) fun v6 h => ?_
 refine Xac ?_
 iterate 5 refine kO hT hC ?_
 refine kS h ?_ ?_ <;> intro b1 h
 iterate 3 refine kF hC b1 ?_
 refine kP hC true b1 ?_
 exact Vc.nil kM
 refine kI hT hC b1 ?_
 refine kE hC b1 [] Tryz.call69 h (fun _ => Xns) fun q7 h => ?_
 refine kI hT hC b1 ?_
 refine kP hC false b1 ?_
 exact Vc.nil kM
 refine kS h ?_ ?_ <;> intro b2 h
 refine kt b2 (Xad ?_)
 iterate 4 refine kO hT hC ?_
 exact Vc.nil (Xah (Xa4 kR))
 refine kf b2 (Xag (Xaf ?_))
 refine Xdw hm ?_
 iterate 8 refine kO hT hC ?_
 exact kD (Xah kR)
def Yeq (r : (Int × Bool)) : AV := .tup [.sv (.int .i64 r.1), .sv (.bool r.2)]
def Yep (r : (Int × Bool)) : Xbl := []
theorem Yhz {p0 r} (h : Xjn p0 = some r) : AC Tryz.prog 250 [.sv (.int .i64 p0)] [] (Yeq r) (Yep r) := by
 refine Xae hT Tryz.func250 rfl fun C hC => ?_
 unfold Xjn at h
 refine Xad ?_
 iterate 2 refine kO hT hC ?_
 refine Vc.nil (Xa2 (Xau (Xad ?_)))
 refine kO hT hC ?_
 refine kC hC [] Tryz.call116 h (fun _ => Xak) fun q1 h => ?_
 iterate 2 refine kO hT hC ?_
 refine Vc.nil ?_
 refine kS h ?_ ?_ <;> intro b1 h
 refine kt b1 (Xad ?_)
 iterate 2 refine kO hT hC ?_
 exact Vc.nil (Xah (Xg6 (Xa4 kR)))
 refine kf b1 (Xad ?_)
 refine kO hT hC ?_
 refine kQ hT hC h fun h => ?_
 iterate 2 refine kO hT hC ?_
 refine Vc.nil ?_
 refine kS h ?_ ?_ <;> intro b2 h
 refine kt b2 (Xad ?_)
 iterate 2 refine kO hT hC ?_
 refine kQ hT hC h fun h => ?_
 iterate 2 refine kO hT hC ?_
 exact Vc.nil (Xah (Xg6 (Xa4 kR)))
 refine kf b2 (Xag (Xax (Xaf (Xad ?_))))
 iterate 2 refine kO hT hC ?_
 refine kQ hT hC h fun h => ?_
 iterate 2 refine kO hT hC ?_
 exact Vc.nil (Xah kR)
def Yb7 (r : (Int × Xkf)) : AV := .sv (.int .i64 r.1)
def Yb6 (r : (Int × Xkf)) : Xbl := [(0, .box [.sv (.str r.2.row_), .sv (.int .i64 r.2.at_), .sv (.bool r.2.bad_)])]
theorem Xks {p0 r} (h : Xbw p0 = some r) : AC Tryz.prog 216 [.ptr 0 0] [(0, .box [.sv (.str p0.row_), .sv (.int .i64 p0.at_), .sv (.bool p0.bad_)])] (Yb7 r) (Yb6 r) := by
 refine Xae hT Tryz.func216 rfl fun C hC => ?_
 unfold Xbw at h
 refine Xad ?_
 refine kO hT hC ?_
 refine kN ?_
 refine kO hT hC ?_
 refine kC hC [(0, 0)] Tryz.call185 h (fun _ => Xcs) fun q1 h => ?_
 refine kC hC [] Tryz.call250 h (fun _ => Yhz) fun q2 h => ?_
 iterate 5 refine kO hT hC ?_
 refine Vc.nil ?_
 refine kL [0,3,4] [0] [_,_,_] [_] ?_
 refine kA h (fun v3 => ([(0, .any), (4, .any)], [(0, some (.box [.sv (.str q1.2.row_), .sv (.int .i64 q1.2.at_), .sv (.bool v3)]))])) (fun v3 h => ?_) fun v3 h => ?_
 refine Xac ?_
 iterate 6 refine kO hT hC ?_
 refine kS h ?_ ?_ <;> intro b1 h
 iterate 2 refine kF hC b1 ?_
 refine kP hC true b1 ?_
 iterate 3 refine kO hT hC ?_
 exact Vc.nil kM
 iterate 2 refine kI hT hC b1 ?_
 refine kP hC false b1 ?_
 iterate 3 refine kO hT hC ?_
 exact Vc.nil kM
 refine Xad ?_
 iterate 2 refine kO hT hC ?_
 refine Vc.nil (Xah ?_)
 obtain rfl := kj h
 exact Xdx (Xif.refl _) rfl ⟨rfl, trivial⟩
def Yek (r : Bool) : AV := .sv (.bool r)
def Yej (r : Bool) : Xbl := []
theorem Yhx {p0 p1 p2 r} (h : Xn9 p0 p1 p2 = some r) : AC Tryz.prog 132 [.agg [.sv (.int .i64 p0.Level), .sv (.int .i64 p0.Bits), .sv (.ints .i64 p0.Cols), .sv (.ints .i64 p0.Rows)], .agg [.sv (.int .i64 p1.Qp), .sv (.bool p1.Large), .sv (.bool p1.Exact), .sv (.bool p1.Confined)], .agg [.sv (.int .i64 p2.Tile), .sv (.int .i64 p2.Frame), .sv (.int .i64 p2.Qp)]] [] (Yek r) (Yej r) := by
 refine Xae hT Tryz.func132 rfl fun C hC => ?_
 unfold Xn9 at h
 refine Xad ?_
 iterate 4 refine kO hT hC ?_
 refine Vc.nil ?_
 refine kL [3,4,5,6] [48,64,80] [_,_,_,_] [_,_,_] ?_
 refine kA h (fun v1 => ([(6, .sv (.bool v1)), (3, .any), (4, .any), (5, .any)], [(48, none), (64, none), (80, none)])) (fun v1 h => ?_) fun v1 h => ?_
 refine Xf6 hm ?_
 refine kO hT hC ?_
 refine kC hC [] Tryz.call182 h (fun _ => Xhz) fun q2 h => ?_
 refine kO hT hC ?_
 refine kS h ?_ ?_ <;> intro b1 h
 refine kI hT hC b1 ?_
 refine kE hC b1 [] Tryz.call69 h (fun _ => Xns) fun q3 h => ?_
 refine kP hC true b1 ?_
 refine kO hT hC ?_
 refine kS h ?_ ?_ <;> intro b2 h
 iterate 3 refine kI hT hC b2 ?_
 refine kE hC b2 [] Tryz.call123 h (fun _ => Xkp) fun q4 h => ?_
 refine kI hT hC b2 ?_
 refine kE hC b2 [] Tryz.call116 h (fun _ => Xak) fun q5 h => ?_
 refine kP hC true b2 ?_
 refine kO hT hC ?_
 refine kS h ?_ ?_ <;> intro b3 h
 iterate 4 refine kI hT hC b3 ?_
 refine kJ hT hC b3 h fun h => ?_
 refine kI hT hC b3 ?_
 refine kE hC b3 [] Tryz.call116 h (fun _ => Xak) fun q6 h => ?_
 refine kP hC true b3 ?_
 refine kO hT hC ?_
 refine kS h ?_ ?_ <;> intro b4 h
 iterate 2 refine kI hT hC b4 ?_
 refine kE hC b4 [] Tryz.call116 h (fun _ => Xak) fun q7 h => ?_
 refine kP hC true b4 ?_
 refine kO hT hC ?_
 exact kD kM
 iterate 3 refine kF hC b4 ?_
 refine kP hC false b4 ?_
 refine kO hT hC ?_
 exact kD kM
 iterate 7 refine kF hC b3 ?_
 refine kP hC false b3 ?_
 refine kO hT hC ?_
 iterate 3 refine kF hC rfl ?_
 iterate 2 refine kO hT hC ?_
 exact kD kM
 iterate 6 refine kF hC b2 ?_
 refine kP hC false b2 ?_
 refine kO hT hC ?_
 iterate 7 refine kF hC rfl ?_
 iterate 2 refine kO hT hC ?_
 iterate 3 refine kF hC rfl ?_
 iterate 2 refine kO hT hC ?_
 exact kD kM
 iterate 2 refine kF hC b1 ?_
 refine kP hC false b1 ?_
 refine kO hT hC ?_
 iterate 6 refine kF hC rfl ?_
 iterate 2 refine kO hT hC ?_
 iterate 7 refine kF hC rfl ?_
 iterate 2 refine kO hT hC ?_
 iterate 3 refine kF hC rfl ?_
 iterate 2 refine kO hT hC ?_
 exact kD kM
 exact Xah kR
def Xzb (r : (Xrz × Int × Bool)) : AV := .tup [.agg [.sv (.int .i64 r.1.Tile), .sv (.int .i64 r.1.Frame), .sv (.int .i64 r.1.Qp)], .sv (.int .i64 r.2.1), .sv (.bool r.2.2)]
def Xza (r : (Xrz × Int × Bool)) : Xbl := []
theorem Ybm {p0 p1 p2 r} (h : Xd0 p0 p1 p2 = some r) : AC Tryz.prog 143 [.agg [.sv (.int .i64 p0.Level), .sv (.int .i64 p0.Bits), .sv (.ints .i64 p0.Cols), .sv (.ints .i64 p0.Rows)], .agg [.sv (.int .i64 p1.Qp), .sv (.bool p1.Large), .sv (.bool p1.Exact), .sv (.bool p1.Confined)], .sv (.str p2)] [] (Xzb r) (Xza r) := by
 refine Xae hT Tryz.func143 rfl fun C hC => ?_
 unfold Xd0 at h
 refine Xad ?_
 iterate 5 refine kO hT hC ?_
 refine kN ?_
 refine kO hT hC ?_
 refine kC hC [(16, 192)] Tryz.call184 h (fun _ => Xmg) fun q1 h => ?_
 refine kO hT hC ?_
 refine Vc.nil (Xa2 ?_)
 refine kL [3,4,6,9] [48,64,96,192] [_,_,_,_] [_,_,_,_] ?_
 refine kA h (fun v2 => ([(20, .sv (.bool v2))], [])) (fun v2 h => ?_) fun v2 h => ?_
 refine Xac ?_
 refine kO hT hC ?_
 refine kC hC [] Tryz.call182 h (fun _ => Xhz) fun q3 h => ?_
 iterate 2 refine kO hT hC ?_
 refine kS h ?_ ?_ <;> intro b1 h
 refine kI hT hC (kn b1) ?_
 refine kE hC (kn b1) [] Tryz.call69 h (fun _ => Xns) fun q4 h => ?_
 refine kI hT hC (kn b1) ?_
 refine kP hC false (kn b1) ?_
 exact Vc.nil kM
 iterate 3 refine kF hC (kn b1) ?_
 refine kP hC true (kn b1) ?_
 exact Vc.nil kM
 refine kS h ?_ ?_ <;> intro b2 h
 refine kt b2 (Xad ?_)
 iterate 4 refine kO hT hC ?_
 exact Vc.nil (Xah (Xa4 kR))
 refine kf b2 (Xag (Xaf (Xad ?_)))
 refine kO hT hC ?_
 refine kC hC [(0, 192)] Tryz.call185 h (fun _ => Xcs) fun q5 h => ?_
 iterate 3 refine kO hT hC ?_
 refine kN ?_
 iterate 3 refine kO hT hC ?_
 refine kC hC [(0, 192)] Tryz.call186 h (fun _ => Xdr) fun q6 h => ?_
 iterate 2 refine kO hT hC ?_
 refine kN ?_
 refine kO hT hC ?_
 refine kC hC [(0, 192)] Tryz.call216 h (fun _ => Xks) fun q7 h => ?_
 iterate 2 refine kO hT hC ?_
 refine kN ?_
 iterate 7 refine kO hT hC ?_
 refine Vc.nil (Xa2 ?_)
 refine kL [3,4,6,9,10] [48,64,96,160,192] [_,_,_,_,_] [_,_,_,_,_] ?_
 refine kA h (fun v8 => ([(49, .sv (.bool v8)), (3, .any), (4, .any)], [(48, none), (64, none)])) (fun v8 h => ?_) fun v8 h => ?_
 refine Xac ?_
 iterate 5 refine kO hT hC ?_
 refine kS h ?_ ?_ <;> intro b3 h
 iterate 5 refine kF hC b3 ?_
 refine kP hC true b3 ?_
 exact Vc.nil kM
 iterate 3 refine kI hT hC b3 ?_
 refine kE hC b3 [] Tryz.call132 h (fun _ => Yhx) fun q9 h => ?_
 refine kI hT hC b3 ?_
 refine kP hC false b3 ?_
 exact Vc.nil kM
 refine kS h ?_ ?_ <;> intro b4 h
 refine kt b4 (Xad ?_)
 iterate 4 refine kO hT hC ?_
 exact Vc.nil (Xah (Xa4 kR))
 refine kf b4 (Xag (Xaf ?_))
 refine Xdw hm ?_
 iterate 8 refine kO hT hC ?_
 exact kD (Xah kR)
def Xzi (r : (Xph × Bool)) : AV := .tup [.agg [.sv (.int .i64 r.1.Left), .sv (.int .i64 r.1.Top), .sv (.int .i64 r.1.Wide), .sv (.int .i64 r.1.High)], .sv (.bool r.2)]
def Xzh (r : (Xph × Bool)) : Xbl := []
theorem Xrs {p0 p1 r} (h : Xex p0 p1 = some r) : AC Tryz.prog 190 [.agg [.sv (.int .i64 p0.Level), .sv (.int .i64 p0.Bits), .sv (.ints .i64 p0.Cols), .sv (.ints .i64 p0.Rows)], .sv (.int .i64 p1)] [] (Xzi r) (Xzh r) := by
 refine Xae hT Tryz.func190 rfl fun C hC => ?_
 unfold Xex at h
 refine Xad ?_
 iterate 3 refine kO hT hC ?_
 refine Vc.nil (Xa2 (Xad ?_))
 iterate 2 refine kO hT hC ?_
 refine kC hC [] Tryz.call123 h (fun _ => Xkp) fun q1 h => ?_
 refine kO hT hC ?_
 refine kC hC [] Tryz.call116 h (fun _ => Xak) fun q2 h => ?_
 refine kO hT hC ?_
 refine Vc.nil ?_
 refine kS h ?_ ?_ <;> intro b1 h
 refine kt b1 (Xad ?_)
 iterate 3 refine kO hT hC ?_
 exact Vc.nil (Xah (Xa4 kR))
 refine kf b1 (Xag (Xaf ?_))
 refine Xdw hm ?_
 iterate 4 refine kO hT hC ?_
 refine kQ hT hC h fun h => ?_
 iterate 4 refine kO hT hC ?_
 refine kQ hT hC h fun h => ?_
 iterate 2 refine kO hT hC ?_
 refine kD ?_
 refine Xdw hm ?_
 iterate 3 refine kO hT hC ?_
 refine kQ hT hC h fun h => ?_
 refine kC hC [] Tryz.call195 h (fun _ => Xez) fun q3 h => ?_
 iterate 4 refine kO hT hC ?_
 refine kQ hT hC h fun h => ?_
 refine kC hC [] Tryz.call195 h (fun _ => Xez) fun q4 h => ?_
 iterate 4 refine kO hT hC ?_
 refine kQ hT hC h fun h => ?_
 iterate 5 refine kO hT hC ?_
 refine kQ hT hC h fun h => ?_
 iterate 5 refine kO hT hC ?_
 exact kD (Xah kR)
def Xt3 (r : Int) : AV := .sv (.int .i64 r)
def Xt2 (r : Int) : Xbl := []
theorem Xvs {p0 p1 r} (h : Xgg p0 p1 = some r) : AC Tryz.prog 189 [.agg [.sv (.int .i64 p0.Level), .sv (.int .i64 p0.Bits), .sv (.ints .i64 p0.Cols), .sv (.ints .i64 p0.Rows)], .sv (.int .i64 p1)] [] (Xt3 r) (Xt2 r) := by
 refine Xae hT Tryz.func189 rfl fun C hC => ?_
 unfold Xgg at h
 refine Xad ?_
 iterate 2 refine kO hT hC ?_
 refine kN ?_
 iterate 2 refine kO hT hC ?_
 refine kC hC [] Tryz.call190 h (fun _ => Xrs) fun q1 h => ?_
 iterate 6 refine kO hT hC ?_
 refine kN ?_
 iterate 2 refine kO hT hC ?_
 refine kQ hT hC h fun h => ?_
 iterate 2 refine kO hT hC ?_
 refine kQ hT hC h fun h => ?_
 iterate 2 refine kO hT hC ?_
 exact Vc.nil (Xah kR)
def Yea (r : Bool) : AV := .sv (.bool r)
def Yd9 (r : Bool) : Xbl := []
theorem Xmd {p0 r} (h : Xg9 p0 = some r) : AC Tryz.prog 127 [.agg [.sv (.bool p0.Key), .sv (.int .i64 p0.Qp), .sv (.bool p0.Large), .sv (.bool p0.Exact)]] [] (Yea r) (Yd9 r) := by
 refine Xae hT Tryz.func127 rfl fun C hC => ?_
 unfold Xg9 at h
 refine Xad ?_
 iterate 2 refine kO hT hC ?_
 refine Vc.nil ?_
 refine kL [1,2] [16] [_,_] [_] ?_
 refine kA h (fun v1 => ([(2, .sv (.bool v1)), (1, .any)], [(16, none)])) (fun v1 h => ?_) fun v1 h => ?_
 refine Xac ?_
 iterate 2 refine kO hT hC ?_
 refine kC hC [] Tryz.call116 h (fun _ => Xak) fun q2 h => ?_
 refine kO hT hC ?_
 refine kS h ?_ ?_ <;> intro b1 h
 iterate 3 refine kI hT hC b1 ?_
 refine kS h ?_ ?_ <;> intro b2 h
 iterate 2 refine kI hT hC b2 ?_
 refine Xby hC rfl rfl rfl rfl b1 rfl rfl (b := true) b2 rfl rfl rfl trivial ?_
 refine kI hT hC b1 ?_
 refine kP hC true b1 ?_
 refine kO hT hC ?_
 exact Vc.nil kM
 iterate 2 refine kF hC b2 ?_
 refine Xby hC rfl rfl rfl rfl b1 rfl rfl (b := false) b2 rfl rfl rfl trivial ?_
 refine kI hT hC b1 ?_
 refine kP hC true b1 ?_
 refine kO hT hC ?_
 exact Vc.nil kM
 iterate 3 refine kF hC b1 ?_
 iterate 2 refine Xlf hC rfl rfl rfl rfl rfl rfl ?_
 iterate 2 refine kF hC b1 ?_
 refine kP hC false b1 ?_
 refine kO hT hC ?_
 exact Vc.nil kM
 exact Xah kR
def Xxt (r : ((List Int) × Xkf)) : AV := .own 16
def Xxs (r : ((List Int) × Xkf)) : Xbl := [(16, .ints .i64 r.1), (0, .box [.sv (.str r.2.row_), .sv (.int .i64 r.2.at_), .sv (.bool r.2.bad_)])]
theorem Xqe {p0 p1 r} (h : Xcg p0 p1 = some r) : AC Tryz.prog 297 [.ptr 0 0, .sv (.int .i64 p1)] [(0, .box [.sv (.str p0.row_), .sv (.int .i64 p0.at_), .sv (.bool p0.bad_)])] (Xxt r) (Xxs r) := by
 refine Xae hT Tryz.func297 rfl fun C hC => ?_
 unfold Xcg at h
 refine Xad ?_
 refine kO hT hC ?_
 refine kN ?_
 refine kO hT hC ?_
 obtain ⟨hq, h⟩ := Xa7 h
 refine Yc7 hT hC rfl rfl rfl rfl ⟨hq.1, hq.2.1, hq.2.2, by decide⟩ ?_
 refine kO hT hC ?_
 refine kN ?_
 refine kO hT hC ?_
 refine Vc.nil (Xa2 (Xad ?_))
 refine kO hT hC ?_
 refine kC hC [(0, 0)] Tryz.call185 h (fun _ => Xcs) fun q1 h => ?_
 refine kO hT hC ?_
 refine Vc.nil ?_
 refine kL [0,1,5,6,7] [0,160] [_,_,_,_,_] [_,_] ?_
 refine kX h (fun v8 => ([(6, .sv (.int .i64 v8.1)), (7, .sv (.int .i64 v8.2.1))], [(0, some (.box [.sv (.str v8.2.2.1), .sv (.int .i64 v8.2.2.2.1), .sv (.bool v8.2.2.2.2.1)])), (160, some (.ints .i64 v8.2.2.2.2.2))])) (fun v15 => ([(0, .any), (1, .any), (6, .any), (7, .any)], [(0, some (.box [.sv (.str v15.2.1), .sv (.int .i64 v15.2.2.1), .sv (.bool v15.2.2.2)])), (160, some (.ints .i64 v15.1))])) (kW hC []) (fun v8 s h => ?_) fun v15 h => ?_
 unfold Xbe at h
 refine Xa2 ?_
 refine kL [0,1,5,6,7] [0,160] [_,_,_,_,_] [_,_] ?_
 refine kA h (fun v16 => ([(21, .sv (.bool v16))], [])) (fun v16 h => ?_) fun v16 h => ?_
 refine Xac ?_
 iterate 3 refine kO hT hC ?_
 refine kS h ?_ ?_ <;> intro b11 h
 iterate 5 refine kI hT hC b11 ?_
 refine kP hC true b11 ?_
 exact Vc.nil kM
 iterate 5 refine kF hC b11 ?_
 refine kP hC false b11 ?_
 exact Vc.nil kM
 refine kS h ?_ ?_ <;> intro b12 h
 refine kt b12 (Xag (Xaf (Xa2 (Xau (Xad ?_)))))
 iterate 2 refine kO hT hC ?_
 refine kC hC [(0, 0)] Tryz.call185 h (fun _ => Xcs) fun q17 h => ?_
 iterate 2 refine kO hT hC ?_
 refine kN ?_
 refine kO hT hC ?_
 refine kC hC [(0, 0)] Tryz.call216 h (fun _ => Xks) fun q18 h => ?_
 refine kO hT hC ?_
 refine Vc.nil (Xa2 ?_)
 refine kL [0,1,5,6,7,8] [0,160] [_,_,_,_,_,_] [_,_] ?_
 refine kA h (fun v19 => ([(41, .sv (.bool v19))], [])) (fun v19 h => ?_) fun v19 h => ?_
 refine Xac ?_
 iterate 4 refine kO hT hC ?_
 refine kS h ?_ ?_ <;> intro b13 h
 iterate 2 refine kF hC b13 ?_
 refine kP hC true b13 ?_
 refine kO hT hC ?_
 iterate 3 refine kF hC rfl ?_
 refine kO hT hC ?_
 exact Vc.nil kM
 iterate 2 refine kI hT hC b13 ?_
 refine kP hC false b13 ?_
 refine kO hT hC ?_
 refine kS h ?_ ?_ <;> intro b14 h
 iterate 3 refine kF hC b14 ?_
 refine kP hC true b14 ?_
 exact Vc.nil kM
 refine kI hT hC b14 ?_
 refine kE hC b14 [] Tryz.call116 h (fun _ => Xak) fun q20 h => ?_
 refine kI hT hC b14 ?_
 refine kP hC false b14 ?_
 exact Vc.nil kM
 refine kS h ?_ ?_ <;> intro b15 h
 refine kt b15 (Xad ?_)
 iterate 4 refine kO hT hC ?_
 refine Vc.nil (Xaw (Xbd ?_))
 refine Ytx rfl ?_
 exact Xbd ku
 refine kf b15 (Xag (Xaf (Xad ?_)))
 iterate 3 refine kO hT hC ?_
 iterate 2 refine kQ hT hC h fun h => ?_
 refine Vc.nil (Xac ?_)
 iterate 3 refine kO hT hC ?_
 refine Vc.nil (Xax (Xaf (Xac ?_)))
 iterate 3 refine kO hT hC ?_
 exact Vc.nil kG
 exact kf b12 (Xaw (Xbd ku))
 refine Xaf (Xad ?_)
 iterate 2 refine kO hT hC ?_
 refine Vc.nil (Xah ?_)
 obtain rfl := kj h
 exact Xdx (τ := ⟨[(4, .own 16)], [(16, some (.ints .i64 v15.1)), (0, some (.box [.sv (.str v15.2.1), .sv (.int .i64 v15.2.2.1), .sv (.bool v15.2.2.2)]))]⟩) (kW hC [(16, 160)]) rfl ⟨rfl, rfl, trivial⟩
def Xt7 (r : ((List Int) × Xkf)) : AV := .own 16
def Xt6 (r : ((List Int) × Xkf)) : Xbl := [(16, .ints .i64 r.1), (0, .box [.sv (.str r.2.row_), .sv (.int .i64 r.2.at_), .sv (.bool r.2.bad_)])]
theorem Xoe {p0 p1 r} (h : Xbh p0 p1 = some r) : AC Tryz.prog 265 [.ptr 0 0, .agg [.sv (.bool p1.Key), .sv (.int .i64 p1.Qp), .sv (.bool p1.Large), .sv (.bool p1.Exact)]] [(0, .box [.sv (.str p0.row_), .sv (.int .i64 p0.at_), .sv (.bool p0.bad_)])] (Xt7 r) (Xt6 r) := by
 refine Xae hT Tryz.func265 rfl fun C hC => ?_
 unfold Xbh at h
 refine Xad ?_
 iterate 2 refine kO hT hC ?_
 refine Vc.nil (Xa2 ?_)
 refine kL [0,3] [0,48] [_,_] [_,_] ?_
 refine kA h (fun v1 => ([(11, .sv (.bool v1)), (3, .any)], [(48, none)])) (fun v1 h => ?_) fun v1 h => ?_
 refine Xac ?_
 iterate 3 refine kO hT hC ?_
 refine kS h ?_ ?_ <;> intro b1 h
 iterate 2 refine kF hC b1 ?_
 refine kP hC true b1 ?_
 exact Vc.nil kM
 iterate 2 refine kI hT hC b1 ?_
 refine kP hC false b1 ?_
 exact Vc.nil kM
 refine kS h ?_ ?_ <;> intro b2 h
 refine kt b2 (Xad ?_)
 refine kO hT hC ?_
 refine kC hC [(16, 208), (0, 0)] Tryz.call297 h (fun _ => Xqe) fun q2 h => ?_
 refine kO hT hC ?_
 refine Vc.nil (Xah (Xa4 ?_))
 obtain rfl := kj h
 exact Xdx (τ := ⟨[(4, .own 16)], [(16, some (.ints .i64 q2.1)), (0, some (.box [.sv (.str q2.2.row_), .sv (.int .i64 q2.2.at_), .sv (.bool q2.2.bad_)]))]⟩) (kW hC [(16, 208)]) rfl ⟨rfl, rfl, trivial⟩
 refine kf b2 (Xag (Xaf (Xad ?_)))
 iterate 2 refine kO hT hC ?_
 refine Vc.nil (Xa2 (Xad ?_))
 refine kO hT hC ?_
 refine Vc.nil ?_
 refine kL [0,5,15] [0,224] [_,_,_] [_,_] ?_
 refine kX h (fun v5 => ([(15, .sv (.int .i64 v5.1))], [(0, some (.box [.sv (.str v5.2.1), .sv (.int .i64 v5.2.2.1), .sv (.bool v5.2.2.2.1)])), (224, some (.ints .i64 v5.2.2.2.2))])) (fun v8 => ([(0, .any), (15, .any)], [(0, some (.box [.sv (.str v8.2.1), .sv (.int .i64 v8.2.2.1), .sv (.bool v8.2.2.2)])), (224, some (.ints .i64 v8.1))])) (kW hC []) (fun v5 s h => ?_) fun v8 h => ?_
 unfold Xa3 at h
 refine Xad ?_
 refine kO hT hC ?_
 refine Vc.nil (Xa2 ?_)
 refine kS h ?_ ?_ <;> intro b5 h
 refine kt b5 (Xag (Xaf (Xa2 (Xau (Xac ?_)))))
 iterate 2 refine kO hT hC ?_
 refine kC hC [(16, 304), (0, 0)] Tryz.call297 h (fun _ => Xqe) fun q9 h => ?_
 refine kT hT hC h fun h => ?_
 refine kO hT hC ?_
 refine Vc.nil (Xax (Xaf (Xac ?_)))
 iterate 2 refine kO hT hC ?_
 refine Vc.nil ?_
 obtain rfl := kj h
 exact Ylz (kW hC [(224, 320)])
 exact kf b5 (Xaw (Xbd ku))
 refine Xaf (Xad ?_)
 iterate 2 refine kO hT hC ?_
 refine Vc.nil (Xah ?_)
 obtain rfl := kj h
 exact Xdx (τ := ⟨[(4, .own 16)], [(16, some (.ints .i64 v8.1)), (0, some (.box [.sv (.str v8.2.1), .sv (.int .i64 v8.2.2.1), .sv (.bool v8.2.2.2)]))]⟩) (kW hC [(16, 224)]) rfl ⟨rfl, rfl, trivial⟩
def Xur (r : Bool) : AV := .sv (.bool r)
def Xuq (r : Bool) : Xbl := []
theorem Xh1 {p0 p1 p2 p3 r} (h : Xd9 p0 p1 p2 p3 = some r) : AC Tryz.prog 197 [.sv (.ints .i64 p0), .sv (.int .i64 p1), .sv (.int .i64 p2), .sv (.int .i64 p3)] [] (Xur r) (Xuq r) := by
 refine Xae hT Tryz.func197 rfl fun C hC => ?_
 unfold Xd9 at h
 refine Xad ?_
 refine kO hT hC ?_
 refine Vc.nil (Xa2 (Xad ?_))
 iterate 3 refine kO hT hC ?_
 refine Vc.nil ?_
 refine kL [0,1,2,3,11,12,13] [] [_,_,_,_,_,_,_] [] ?_
 obtain ⟨o8, hl, h⟩ := Xb6 h
 refine Xlx (fun v3 => ([(13, .sv (.int .i64 v3))], [])) (fun v6 => ([(2, .any), (3, .any), (11, .any), (12, .any), (13, .any)], [])) (fun r => Xvb C T Tryz.f197.results.toList (Xur r) (Xuq r)) hl ?_ ?_ ?_ ?_
 apply Xi9 hC []
 exact co
 rfl
 decide
 rfl
 intro v3 s hs
 have h := hs
 unfold Xkq at h
 refine Xad ?_
 refine kO hT hC ?_
 refine Vc.nil (Xa2 ?_)
 refine kS h ?_ ?_ <;> intro b5 h
 refine kt b5 (Xag (Xaf (Xa2 (Xau (Xad ?_)))))
 refine kQ hT hC h fun h => ?_
 iterate 2 refine kO hT hC ?_
 refine kN ?_
 iterate 3 refine kO hT hC ?_
 refine kC hC [] Tryz.call116 h (fun _ => Xak) fun q7 h => ?_
 refine kO hT hC ?_
 refine Vc.nil ?_
 refine kS h ?_ ?_ <;> intro b6 h
 refine kt b6 (Xad ?_)
 refine kO hT hC ?_
 refine Vc.nil (Xah (Xg6 (Xa4 ?_)))
 obtain rfl := kj h
 refine Xx5 (Xx1 ?_)
 exact Xdx (Xif.refl _) rfl trivial
 refine kf b6 (Xag (Xax (Xaf (Xac ?_))))
 iterate 2 refine kO hT hC ?_
 exact Vc.nil kG
 exact kf b5 (Xaw (Xbd kb))
 intro v6 e
 subst e
 refine Xaf (Xad ?_)
 iterate 5 refine kO hT hC ?_
 exact Vc.nil (Xah kR)
 intro r' σ' e hE
 subst e
 obtain rfl := kj h
 refine Xa4 ?_
 exact hE
def Xxm (r : Bool) : AV := .sv (.bool r)
def Xxl (r : Bool) : Xbl := []
theorem Xlq {p0 r} (h : Xe6 p0 = some r) : AC Tryz.prog 248 [.sv (.ints .i64 p0)] [] (Xxm r) (Xxl r) := by
 refine Xae hT Tryz.func248 rfl fun C hC => ?_
 unfold Xe6 at h
 refine Xad ?_
 refine kO hT hC ?_
 refine kN ?_
 refine kO hT hC ?_
 refine kC hC [] Tryz.call197 h (fun _ => Xh1) fun q1 h => ?_
 refine kO hT hC ?_
 exact Vc.nil (Xah kR)
def Xze (r : Bool) : AV := .sv (.bool r)
def Xzd (r : Bool) : Xbl := []
theorem Xrr {p0 r} (h : Xf9 p0 = some r) : AC Tryz.prog 211 [.agg [.sv (.int .i64 p0.Kind), .sv (.int .i64 p0.Mode), .sv (.int .i64 p0.Dx), .sv (.int .i64 p0.Dy), .sv (.ints .i64 p0.Levels)]] [] (Xze r) (Xzd r) := by
 refine Xae hT Tryz.func211 rfl fun C hC => ?_
 unfold Xf9 at h
 refine Xad ?_
 iterate 2 refine kO hT hC ?_
 refine Vc.nil (Xa2 (Xad ?_))
 iterate 2 refine kO hT hC ?_
 refine Vc.nil (Xau (Xad ?_))
 iterate 2 refine kO hT hC ?_
 refine Vc.nil ?_
 refine kS h ?_ ?_ <;> intro b1 h
 refine kt b1 ?_
 refine kL [1,2] [16] [_,_] [_] ?_
 refine kA h (fun v1 => ([(2, .sv (.bool v1)), (1, .any)], [(16, none)])) (fun v1 h => ?_) fun v1 h => ?_
 refine Xac ?_
 iterate 4 refine kO hT hC ?_
 refine kS h ?_ ?_ <;> intro b2 h
 iterate 3 refine kI hT hC b2 ?_
 refine kP hC true b2 ?_
 refine kO hT hC ?_
 refine kS h ?_ ?_ <;> intro b3 h
 iterate 3 refine kI hT hC b3 ?_
 refine kP hC true b3 ?_
 refine kO hT hC ?_
 refine kS h ?_ ?_ <;> intro b4 h
 iterate 4 refine kI hT hC b4 ?_
 refine kP hC true b4 ?_
 refine kO hT hC ?_
 exact Vc.nil kM
 iterate 4 refine kF hC b4 ?_
 refine kP hC false b4 ?_
 refine kO hT hC ?_
 exact Vc.nil kM
 iterate 3 refine kF hC b3 ?_
 refine kP hC false b3 ?_
 refine kO hT hC ?_
 iterate 4 refine kF hC rfl ?_
 iterate 2 refine kO hT hC ?_
 exact Vc.nil kM
 iterate 3 refine kF hC b2 ?_
 refine kP hC false b2 ?_
 refine kO hT hC ?_
 iterate 3 refine kF hC rfl ?_
 iterate 2 refine kO hT hC ?_
 iterate 4 refine kF hC rfl ?_
 iterate 2 refine kO hT hC ?_
 exact Vc.nil kM
 exact Xah (Xg6 (Xa4 kR))
 refine kf b1 (Xad ?_)
 iterate 2 refine kO hT hC ?_
 refine Vc.nil ?_
 refine kS h ?_ ?_ <;> intro b5 h
 refine kt b5 ?_
 refine kL [1,2] [16] [_,_] [_] ?_
 refine kA h (fun v2 => ([(2, .sv (.bool v2)), (1, .any)], [(16, none)])) (fun v2 h => ?_) fun v2 h => ?_
 refine Xac ?_
 iterate 4 refine kO hT hC ?_
 refine kS h ?_ ?_ <;> intro b6 h
 iterate 2 refine kI hT hC b6 ?_
 refine kE hC b6 [] Tryz.call116 h (fun _ => Xak) fun q3 h => ?_
 refine kP hC true b6 ?_
 refine kO hT hC ?_
 refine kS h ?_ ?_ <;> intro b7 h
 iterate 2 refine kI hT hC b7 ?_
 refine kE hC b7 [] Tryz.call116 h (fun _ => Xak) fun q4 h => ?_
 refine kP hC true b7 ?_
 refine kO hT hC ?_
 refine kS h ?_ ?_ <;> intro b8 h
 iterate 2 refine kI hT hC b8 ?_
 refine kE hC b8 [] Tryz.call248 h (fun _ => Xlq) fun q5 h => ?_
 refine kP hC true b8 ?_
 refine kO hT hC ?_
 exact Vc.nil kM
 iterate 3 refine kF hC b8 ?_
 refine kP hC false b8 ?_
 refine kO hT hC ?_
 exact Vc.nil kM
 iterate 3 refine kF hC b7 ?_
 refine kP hC false b7 ?_
 refine kO hT hC ?_
 iterate 3 refine kF hC rfl ?_
 iterate 2 refine kO hT hC ?_
 exact Vc.nil kM
 iterate 3 refine kF hC b6 ?_
 refine kP hC false b6 ?_
 refine kO hT hC ?_
 iterate 3 refine kF hC rfl ?_
 iterate 2 refine kO hT hC ?_
 iterate 3 refine kF hC rfl ?_
 iterate 2 refine kO hT hC ?_
 exact Vc.nil kM
 exact Xah (Xg6 (Xa4 kR))
 refine kf b5 (Xad ?_)
 iterate 2 refine kO hT hC ?_
 refine Vc.nil ?_
 refine kS h ?_ ?_ <;> intro b9 h
 refine kt b9 ?_
 refine kL [1,2] [16] [_,_] [_] ?_
 refine kA h (fun v6 => ([(2, .sv (.bool v6)), (1, .any)], [(16, none)])) (fun v6 h => ?_) fun v6 h => ?_
 refine Xac ?_
 iterate 2 refine kO hT hC ?_
 refine kC hC [] Tryz.call116 h (fun _ => Xak) fun q7 h => ?_
 refine kO hT hC ?_
 refine kS h ?_ ?_ <;> intro b10 h
 iterate 3 refine kI hT hC b10 ?_
 refine kP hC true b10 ?_
 refine kO hT hC ?_
 refine kS h ?_ ?_ <;> intro b11 h
 iterate 3 refine kI hT hC b11 ?_
 refine kP hC true b11 ?_
 refine kO hT hC ?_
 refine kS h ?_ ?_ <;> intro b12 h
 iterate 2 refine kI hT hC b12 ?_
 refine kE hC b12 [] Tryz.call248 h (fun _ => Xlq) fun q8 h => ?_
 refine kP hC true b12 ?_
 refine kO hT hC ?_
 exact Vc.nil kM
 iterate 3 refine kF hC b12 ?_
 refine kP hC false b12 ?_
 refine kO hT hC ?_
 exact Vc.nil kM
 iterate 3 refine kF hC b11 ?_
 refine kP hC false b11 ?_
 refine kO hT hC ?_
 iterate 3 refine kF hC rfl ?_
 iterate 2 refine kO hT hC ?_
 exact Vc.nil kM
 iterate 3 refine kF hC b10 ?_
 refine kP hC false b10 ?_
 refine kO hT hC ?_
 iterate 3 refine kF hC rfl ?_
 iterate 2 refine kO hT hC ?_
 iterate 3 refine kF hC rfl ?_
 iterate 2 refine kO hT hC ?_
 exact Vc.nil kM
 exact Xah (Xg6 (Xa4 kR))
 refine kf b9 (Xag (Xax (Xaf (Xad ?_))))
 refine kO hT hC ?_
 exact Vc.nil (Xah kR)
def Xt9 (r : (Xao × Xkf)) : AV := .agg [.sv (.int .i64 r.1.Kind), .sv (.int .i64 r.1.Mode), .sv (.int .i64 r.1.Dx), .sv (.int .i64 r.1.Dy), .own 16]
def Xt8 (r : (Xao × Xkf)) : Xbl := [(16, .ints .i64 r.1.Levels), (0, .box [.sv (.str r.2.row_), .sv (.int .i64 r.2.at_), .sv (.bool r.2.bad_)])]
theorem Xvt {p0 p1 r} (h : Xca p0 p1 = some r) : AC Tryz.prog 232 [.ptr 0 0, .agg [.sv (.bool p1.Key), .sv (.int .i64 p1.Qp), .sv (.bool p1.Large), .sv (.bool p1.Exact)]] [(0, .box [.sv (.str p0.row_), .sv (.int .i64 p0.at_), .sv (.bool p0.bad_)])] (Xt9 r) (Xt8 r) := by
 refine Xae hT Tryz.func232 rfl fun C hC => ?_
 unfold Xca at h
 refine Xad ?_
 iterate 2 refine kO hT hC ?_
 refine kN ?_
 iterate 3 refine kO hT hC ?_
 refine Vc.nil ?_
 refine kL [0,3,4,5] [0,48,64,80] [_,_,_,_] [_,_,_,_] ?_
 refine kA h (fun v1 => ([], [(0, some (.box [.sv (.str v1.1), .sv (.int .i64 v1.2.1), .sv (.bool v1.2.2.1)])), (80, some (.box [.sv (.int .i64 v1.2.2.2), .sv (.int .i64 0), .sv (.int .i64 0), .sv (.int .i64 0), .sv .nil]))])) (fun v1 h => ?_) fun v1 h => ?_
 refine Xad ?_
 iterate 3 refine kO hT hC ?_
 refine Vc.nil ?_
 refine kS h ?_ ?_ <;> intro b1 h
 refine kt b1 (Xac ?_)
 refine kO hT hC ?_
 refine kC hC [(0, 0)] Tryz.call185 h (fun _ => Xcs) fun q2 h => ?_
 iterate 2 refine kO hT hC ?_
 exact Vc.nil kM
 exact kf b1 (Xag kM)
 refine kL [0,3,4,5] [0,48,64,80] [_,_,_,_] [_,_,_,_] ?_
 refine kA h (fun v3 => ([(3, .any)], [(0, some (.box [.sv (.str v3.1), .sv (.int .i64 v3.2.1), .sv (.bool v3.2.2.1)])), (80, some (.box [.sv (.int .i64 v1.2.2.2), .sv (.int .i64 v3.2.2.2.1), .sv (.int .i64 v3.2.2.2.2.1), .sv (.int .i64 v3.2.2.2.2.2.1), .own 913])), (913, some (.ints .i64 v3.2.2.2.2.2.2)), (48, none)])) (fun v3 h => ?_) fun v3 h => ?_
 refine Xau (Xad ?_)
 iterate 5 refine kO hT hC ?_
 refine Vc.nil ?_
 refine kS h ?_ ?_ <;> intro b2 h
 refine kt b2 (Xag (Xax ?_))
 obtain rfl := kj h
 refine Xf5 ?_
 refine Xyr hC 80 4 914 (.ints .i64 []) rfl rfl rfl rfl rfl trivial ?_
 try dsimp only
 apply Xi9 hC [(913, 914)]
 exact co
 rfl
 decide
 rfl
 refine kf b2 (Xad ?_)
 iterate 4 refine kO hT hC ?_
 refine Vc.nil ?_
 refine kS h ?_ ?_ <;> intro b3 h
 refine kt b3 (Xad ?_)
 refine kO hT hC ?_
 refine kC hC [(0, 0)] Tryz.call216 h (fun _ => Xks) fun q4 h => ?_
 iterate 2 refine kO hT hC ?_
 refine kN ?_
 refine kO hT hC ?_
 refine kC hC [(0, 0)] Tryz.call216 h (fun _ => Xks) fun q5 h => ?_
 iterate 2 refine kO hT hC ?_
 refine Vc.nil (Xac ?_)
 iterate 2 refine kO hT hC ?_
 refine kC hC [(16, 480), (0, 0)] Tryz.call265 h (fun _ => Xoe) fun q6 h => ?_
 iterate 2 refine kO hT hC ?_
 refine Vc.nil (Xax ?_)
 obtain rfl := kj h
 exact Xf5 (kW hC [(913, 480)])
 refine kf b3 (Xad ?_)
 iterate 4 refine kO hT hC ?_
 refine Vc.nil ?_
 refine kS h ?_ ?_ <;> intro b4 h
 refine kt b4 (Xad ?_)
 refine kO hT hC ?_
 refine kC hC [(0, 0)] Tryz.call185 h (fun _ => Xcs) fun q7 h => ?_
 iterate 2 refine kO hT hC ?_
 refine Vc.nil (Xac ?_)
 iterate 2 refine kO hT hC ?_
 refine kC hC [(16, 656), (0, 0)] Tryz.call265 h (fun _ => Xoe) fun q8 h => ?_
 iterate 2 refine kO hT hC ?_
 refine Vc.nil (Xax ?_)
 obtain rfl := kj h
 exact Xf5 (kW hC [(913, 656)])
 refine kf b4 (Xag (Xax ?_))
 obtain rfl := kj h
 refine Xf5 ?_
 refine Xyr hC 80 4 915 (.ints .i64 []) rfl rfl rfl rfl rfl trivial ?_
 try dsimp only
 apply Xi9 hC [(913, 915)]
 exact co
 rfl
 decide
 rfl
 refine kL [0,4,5] [0,64,80,913] [_,_,_] [_,_,_,_] ?_
 refine kA h (fun v9 => ([(0, .any)], [(0, some (.box [.sv (.str v3.1), .sv (.int .i64 v3.2.1), .sv (.bool v9)]))])) (fun v9 h => ?_) fun v9 h => ?_
 refine Xac ?_
 iterate 6 refine kO hT hC ?_
 refine kS h ?_ ?_ <;> intro b5 h
 iterate 3 refine kF hC b5 ?_
 refine kP hC true b5 ?_
 iterate 3 refine kO hT hC ?_
 exact Vc.nil kM
 refine kI hT hC b5 ?_
 refine kE hC b5 [] Tryz.call211 h (fun _ => Xrr) fun q10 h => ?_
 refine kI hT hC b5 ?_
 refine kP hC false b5 ?_
 iterate 3 refine kO hT hC ?_
 exact Vc.nil kM
 refine Xad ?_
 iterate 2 refine kO hT hC ?_
 refine Vc.nil (Xah ?_)
 obtain rfl := kj h
 exact Xdx (τ := ⟨[(4, .ptr 2000000 0)], [(16, some (.ints .i64 v3.2.2.2.2.2.2)), (0, some (.box [.sv (.str v3.1), .sv (.int .i64 v3.2.1), .sv (.bool v9)])), (2000000, some (.box [.sv (.int .i64 v1.2.2.2), .sv (.int .i64 v3.2.2.2.1), .sv (.int .i64 v3.2.2.2.2.1), .sv (.int .i64 v3.2.2.2.2.2.1), .own 16]))]⟩) (kW hC [(16, 913), (2000000, 64)]) rfl ⟨rfl, rfl, trivial⟩
def Xp7 (r : ((List Xao) × Bool)) : AV := .tup [.own 16, .sv (.bool r.2)]
def Xp6 (r : ((List Xao) × Bool)) : Xbl := [(16, .row Xe4 r.1)]
theorem Ybr {p0 p1 p2 p3 r} (h : Xev p0 p1 p2 p3 = some r) : AC Tryz.prog 188 [.sv (.str p0), .sv (.int .i64 p1), .sv (.int .i64 p2), .agg [.sv (.bool p3.Key), .sv (.int .i64 p3.Qp), .sv (.bool p3.Large), .sv (.bool p3.Exact)]] [] (Xp7 r) (Xp6 r) := by
 refine Xae hT Tryz.func188 rfl fun C hC => ?_
 unfold Xev at h
 refine Xad ?_
 iterate 3 refine kO hT hC ?_
 refine kN ?_
 iterate 2 refine kO hT hC ?_
 refine kC hC [(16, 224)] Tryz.call184 h (fun _ => Xmg) fun q1 h => ?_
 refine kO hT hC ?_
 refine kN ?_
 iterate 2 refine kO hT hC ?_
 refine Vc.nil (Xa2 ?_)
 refine kL [0,2,7,10,11] [112,224,240] [_,_,_,_,_] [_,_,_] ?_
 refine kA h (fun v2 => ([(23, .sv (.bool v2))], [])) (fun v2 h => ?_) fun v2 h => ?_
 refine Xac ?_
 refine kO hT hC ?_
 refine kC hC [] Tryz.call116 h (fun _ => Xak) fun q3 h => ?_
 iterate 2 refine kO hT hC ?_
 refine kS h ?_ ?_ <;> intro b1 h
 refine kI hT hC (kn b1) ?_
 refine kE hC (kn b1) [] Tryz.call127 h (fun _ => Xmd) fun q4 h => ?_
 refine kI hT hC (kn b1) ?_
 refine kP hC false (kn b1) ?_
 exact Vc.nil kM
 iterate 3 refine kF hC (kn b1) ?_
 refine kP hC true (kn b1) ?_
 exact Vc.nil kM
 refine kS h ?_ ?_ <;> intro b2 h
 refine kt b2 (Xad ?_)
 iterate 3 refine kO hT hC ?_
 refine Vc.nil (Xah (Xa4 ?_))
 obtain rfl := kj h
 exact Xdx (τ := ⟨[(8, .own 16), (9, .sv (.bool false))], [(16, some (.row Xe4 ([] : List Xao)))]⟩) (kW hC [(16, 240)]) rfl ⟨rfl, trivial⟩
 refine kf b2 (Xag (Xaf (Xa2 (Xad ?_))))
 iterate 2 refine kO hT hC ?_
 refine Vc.nil ?_
 refine kL [0,7,10,11,25,26] [112,224,240] [_,_,_,_,_,_] [_,_,_] ?_
 obtain ⟨o12, hl, h⟩ := Xb6 h
 refine Xlx (fun v7 => ([(26, .sv (.int .i64 v7.1))], [(224, some (.box [.sv (.str v7.2.1), .sv (.int .i64 v7.2.2.1), .sv (.bool v7.2.2.2.1)])), (240, some (.row Xe4 v7.2.2.2.2))])) (fun v10 => ([(7, .any), (25, .any), (26, .any)], [(224, some (.box [.sv (.str v10.1), .sv (.int .i64 v10.2.1), .sv (.bool v10.2.2.1)])), (240, some (.row Xe4 v10.2.2.2)), (112, none)])) (fun r => Xvb C T Tryz.f188.results.toList (Xp7 r) (Xp6 r)) hl ?_ ?_ ?_ ?_
 try dsimp only
 apply Xi9 hC []
 exact co
 rfl
 decide
 rfl
 intro v7 s hs
 have h := hs
 unfold Xba at h
 refine Xad ?_
 refine kO hT hC ?_
 refine Vc.nil (Xa2 ?_)
 refine kS h ?_ ?_ <;> intro b7 h
 refine kt b7 (Xag (Xaf (Xa2 (Xau (Xad ?_)))))
 iterate 3 refine kO hT hC ?_
 refine kC hC [(16, 496), (0, 224)] Tryz.call232 h (fun _ => Xvt) fun q11 h => ?_
 refine kO hT hC ?_
 obtain ⟨hq, h⟩ := Xa7 h
 refine Yc7 hT hC rfl rfl rfl rfl ⟨fun _ _ => rfl, by rw [Xtb]; exact hq⟩ ?_
 rw [Xtb]
 refine kO hT hC ?_
 refine kN ?_
 iterate 4 refine kO hT hC ?_
 refine Vc.nil ?_
 refine kS h ?_ ?_ <;> intro b8 h
 refine kt b8 (Xad ?_)
 iterate 3 refine kO hT hC ?_
 refine Vc.nil (Xah (Xg6 (Xa4 ?_)))
 obtain rfl := kj h
 refine Xx5 (Xx1 ?_)
 refine Xdx (τ := ⟨[(8, .own 16), (9, .sv (.bool false))], [(16, some (.row Xe4 ([] : List Xao)))]⟩) ?_ rfl ⟨rfl, trivial⟩
 apply Xi9 hC [(16, 608)]
 exact co
 rfl
 decide
 rfl
 refine kf b8 (Xag (Xax (Xaf (Xac ?_))))
 iterate 2 refine kO hT hC ?_
 refine Vc.nil ?_
 obtain rfl := kj h
 exact Ylz (kW hC [(240, 528)])
 exact kf b7 (Xaw (Xbd kb))
 intro v10 e
 subst e
 refine Xaf (Xa2 (Xad ?_))
 iterate 7 refine kO hT hC ?_
 refine Vc.nil ?_
 refine kS h ?_ ?_ <;> intro b9 h
 refine kt b9 (Xad ?_)
 iterate 3 refine kO hT hC ?_
 refine Vc.nil (Xah (Xa4 ?_))
 obtain rfl := kj h
 exact Xdx (τ := ⟨[(8, .own 16), (9, .sv (.bool false))], [(16, some (.row Xe4 ([] : List Xao)))]⟩) (kW hC [(16, 752)]) rfl ⟨rfl, trivial⟩
 refine kf b9 (Xag (Xaf (Xad ?_)))
 iterate 3 refine kO hT hC ?_
 refine Vc.nil (Xah ?_)
 obtain rfl := kj h
 exact Xdx (τ := ⟨[(8, .own 16), (9, .sv (.bool true))], [(16, some (.row Xe4 v10.2.2.2))]⟩) (kW hC [(16, 240)]) rfl ⟨rfl, trivial⟩
 intro r' σ' e hE
 subst e
 obtain rfl := kj h
 refine Xa4 ?_
 exact hE
def Yfe (r : Bool) : AV := .sv (.bool r)
def Yfd (r : Bool) : Xbl := []
theorem Xut {p0 r} (h : Xlr p0 = some r) : AC Tryz.prog 126 [.sv (.int .i64 p0)] [] (Yfe r) (Yfd r) := by
 refine Xae hT Tryz.func126 rfl fun C hC => ?_
 unfold Xlr at h
 refine Xad ?_
 refine kO hT hC ?_
 refine Vc.nil ?_
 refine kL [0,2] [] [_,_] [] ?_
 refine kA h (fun v1 => ([(2, .sv (.bool v1)), (0, .any)], [])) (fun v1 h => ?_) fun v1 h => ?_
 refine Xac ?_
 refine kO hT hC ?_
 refine kQ hT hC h fun h => ?_
 iterate 2 refine kO hT hC ?_
 refine kS h ?_ ?_ <;> intro b1 h
 refine kI hT hC b1 ?_
 refine kE hC b1 [] Tryz.call116 h (fun _ => Xak) fun q2 h => ?_
 refine kP hC true b1 ?_
 refine kO hT hC ?_
 exact Vc.nil kM
 iterate 2 refine kF hC b1 ?_
 refine kP hC false b1 ?_
 refine kO hT hC ?_
 exact Vc.nil kM
 exact Xah kR
def Xxc (r : Bool) : AV := .sv (.bool r)
def Xxb (r : Bool) : Xbl := []
theorem Xlm {p0 p1 r} (h : Xd5 p0 p1 = some r) : AC Tryz.prog 233 [.agg [.sv (.int .i64 p0.Wide), .sv (.int .i64 p0.High), .sv (.str p0.Dots)], .agg [.sv (.int .i64 p1.Left), .sv (.int .i64 p1.Top), .sv (.int .i64 p1.Wide), .sv (.int .i64 p1.High)]] [] (Xxc r) (Xxb r) := by
 refine Xae hT Tryz.func233 rfl fun C hC => ?_
 unfold Xd5 at h
 refine Xad ?_
 iterate 3 refine kO hT hC ?_
 refine Vc.nil ?_
 refine kL [2,3,4] [32,48] [_,_,_] [_,_] ?_
 refine kA h (fun v1 => ([(4, .sv (.bool v1)), (2, .any), (3, .any)], [(32, none), (48, none)])) (fun v1 h => ?_) fun v1 h => ?_
 refine Xac ?_
 iterate 4 refine kO hT hC ?_
 refine kC hC [] Tryz.call116 h (fun _ => Xak) fun q2 h => ?_
 refine kO hT hC ?_
 refine kS h ?_ ?_ <;> intro b1 h
 iterate 4 refine kI hT hC b1 ?_
 refine kE hC b1 [] Tryz.call116 h (fun _ => Xak) fun q3 h => ?_
 refine kP hC true b1 ?_
 refine kO hT hC ?_
 refine kS h ?_ ?_ <;> intro b2 h
 iterate 7 refine kI hT hC b2 ?_
 refine kE hC b2 [] Tryz.call116 h (fun _ => Xak) fun q4 h => ?_
 refine kP hC true b2 ?_
 refine kO hT hC ?_
 refine kS h ?_ ?_ <;> intro b3 h
 iterate 7 refine kI hT hC b3 ?_
 refine kE hC b3 [] Tryz.call116 h (fun _ => Xak) fun q5 h => ?_
 refine kP hC true b3 ?_
 refine kO hT hC ?_
 exact Vc.nil kM
 iterate 8 refine kF hC b3 ?_
 refine kP hC false b3 ?_
 refine kO hT hC ?_
 exact Vc.nil kM
 iterate 8 refine kF hC b2 ?_
 refine kP hC false b2 ?_
 refine kO hT hC ?_
 iterate 8 refine kF hC rfl ?_
 iterate 2 refine kO hT hC ?_
 exact Vc.nil kM
 iterate 5 refine kF hC b1 ?_
 refine kP hC false b1 ?_
 refine kO hT hC ?_
 iterate 8 refine kF hC rfl ?_
 iterate 2 refine kO hT hC ?_
 iterate 8 refine kF hC rfl ?_
 iterate 2 refine kO hT hC ?_
 exact Vc.nil kM
 exact Xah kR
def Yhs (r : (Pic × Bool)) : AV := .tup [.agg [.sv (.int .i64 r.1.Wide), .sv (.int .i64 r.1.High), .sv (.str r.1.Dots)], .sv (.bool r.2)]
def Yhr (r : (Pic × Bool)) : Xbl := []
theorem Yk5 {p0 p1 r} (h : Xn5 p0 p1 = some r) : AC Tryz.prog 234 [.agg [.sv (.int .i64 p0.Wide), .sv (.int .i64 p0.High), .sv (.str p0.Dots)], .agg [.sv (.int .i64 p1.Left), .sv (.int .i64 p1.Top), .sv (.int .i64 p1.Wide), .sv (.int .i64 p1.High)]] [] (Yhs r) (Yhr r) := by
 refine Xae hT Tryz.func234 rfl fun C hC => ?_
 unfold Xn5 at h
 refine Xad ?_
 iterate 4 refine kO hT hC ?_
 refine Vc.nil (Xa2 ?_)
 refine kL [2,3,4] [32,48,64] [_,_,_] [_,_,_] ?_
 refine kA h (fun v1 => ([(16, .sv (.bool v1))], [])) (fun v1 h => ?_) fun v1 h => ?_
 refine Xac ?_
 refine kO hT hC ?_
 refine kC hC [] Tryz.call47 h (fun _ => Xdz) fun q2 h => ?_
 iterate 2 refine kO hT hC ?_
 refine kS h ?_ ?_ <;> intro b1 h
 iterate 2 refine kI hT hC (kn b1) ?_
 refine kE hC (kn b1) [] Tryz.call233 h (fun _ => Xlm) fun q3 h => ?_
 refine kI hT hC (kn b1) ?_
 refine kP hC false (kn b1) ?_
 exact Vc.nil kM
 iterate 4 refine kF hC (kn b1) ?_
 refine kP hC true (kn b1) ?_
 exact Vc.nil kM
 refine kS h ?_ ?_ <;> intro b2 h
 refine kt b2 (Xad ?_)
 iterate 3 refine kO hT hC ?_
 exact Vc.nil (Xah (Xa4 kR))
 refine kf b2 (Xag (Xaf (Xad ?_)))
 iterate 5 refine kO hT hC ?_
 obtain ⟨hq, h⟩ := Xa7 h
 refine Yc7 hT hC rfl rfl rfl rfl ⟨hq.1, hq.2.1, hq.2.2, by decide⟩ ?_
 refine kO hT hC ?_
 refine Vc.nil (Xa2 (Xad ?_))
 iterate 3 refine kO hT hC ?_
 refine Vc.nil ?_
 refine kL [2,3,4,6,7] [32,48,64,368] [_,_,_,_,_] [_,_,_,_] ?_
 refine kX h (fun v5 => ([(7, .sv (.int .i64 v5.1))], [(368, some (.ints .u8 v5.2))])) (fun v7 => ([(2, .any), (7, .any)], [(368, some (.ints .u8 v7)), (32, none)])) (kW hC []) (fun v5 s h => ?_) fun v7 h => ?_
 unfold Xq2 at h
 refine Xa2 (Xad ?_)
 iterate 7 refine kO hT hC ?_
 refine Vc.nil ?_
 refine kS h ?_ ?_ <;> intro b5 h
 refine kt b5 (Xag (Xaf (Xa2 (Xau (Xac ?_)))))
 iterate 20 refine kO hT hC ?_
 refine kQ hT hC h fun h => ?_
 refine kT hT hC h fun h => ?_
 refine kO hT hC ?_
 refine Vc.nil (Xax (Xaf (Xac ?_)))
 iterate 3 refine kO hT hC ?_
 refine Vc.nil ?_
 obtain rfl := kj h
 exact Ylz (kW hC [(368, 896)])
 exact kf b5 (Xaw (Xbd ku))
 refine Xaf (Xad ?_)
 iterate 9 refine kO hT hC ?_
 exact Vc.nil (Xah kR)
end
end Go.Proofs.YtnhflbeahbcklabGreat.A
