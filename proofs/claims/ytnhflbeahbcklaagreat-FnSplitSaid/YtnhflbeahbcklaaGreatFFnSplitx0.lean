/- Contracts of the functions that the law FnSplit reaches, part 0: each comes to what its pure function tells. Written by a program of this session. Conditions: as each statement tells. -/
import Derived.Test.YtnhflbeahbcklaaGreatBFnSplit
namespace Go.Proofs.YtnhflbeahbcklaaGreat.A
open Go Go.Proofs Go.Proofs.YtnhflbeahbcklaaGreatAL Go.RowKit
set_option linter.unusedVariables false
set_option linter.unusedSimpArgs false
set_option maxRecDepth 100000
set_option maxHeartbeats 2000000
noncomputable section
def Ynb (r : Bool) : AV := .sv (.bool r)
def Yna (r : Bool) : Xbj := []
theorem Yo2 {p0 r} (h : Ycx p0 = some r) : AC Tryz.prog 8 [.sv (.ints .u8 p0)] [] (Ynb r) (Yna r) := by
 refine Xae hT Tryz.func8 rfl fun C hC => ?_
 unfold Ycx at h
 refine Xad ?_
 refine kO hT hC ?_
 refine kN ?_
 iterate 4 refine kO hT hC ?_
 exact Vc.nil (Xah kR)
def Yf5 (r : Xav) : AV := .ptr 16 0
def Yf4 (r : Xav) : Xbj := [(16, .box [.sv (.ints .u8 r.b_), .sv (.int .i64 r.i_), .sv (.int .i64 r.h_)])]
theorem Xpo {p0 r} (h : Xjm p0 = some r) : AC Tryz.prog 38 [.sv (.ints .u8 p0)] [] (Yf5 r) (Yf4 r) := by
 refine Xae hT Tryz.func38 rfl fun C hC => ?_
 unfold Xjm at h
 refine Xad ?_
 refine kO hT hC ?_
 refine kN ?_
 iterate 4 refine kO hT hC ?_
 refine Vc.nil (Xa3 (Xad ?_))
 refine kO hT hC ?_
 refine Vc.nil ?_
 refine kL [0,3,4] [] [_,_,_] [] ?_
 refine kX h (fun v3 => ([(3, .sv (.int .i64 v3.1)), (4, .sv (.int .i64 v3.2))], [])) (fun v6 => ([(3, .sv (.int .i64 v6)), (4, .any)], [])) (kW hC []) (fun v3 s h => ?_) fun v6 h => ?_
 unfold Xmj at h
 refine Xa3 ?_
 refine kL [0,3,4] [] [_,_,_] [] ?_
 refine kA h (fun v7 => ([(15, .sv (.bool v7))], [])) (fun v7 h => ?_) fun v7 h => ?_
 refine Xac ?_
 iterate 5 refine kO hT hC ?_
 refine kS h ?_ ?_ <;> intro b5 h
 iterate 2 refine kI hT hC b5 ?_
 refine kP hC true b5 ?_
 exact Vc.nil kM
 iterate 2 refine kF hC b5 ?_
 refine kP hC false b5 ?_
 exact Vc.nil kM
 refine kS h ?_ ?_ <;> intro b6 h
 refine kt b6 (Xag (Xaf (Xa3 (Xaw (Xac ?_)))))
 iterate 4 refine kO hT hC ?_
 refine kQ hT hC h fun h => ?_
 iterate 6 refine kO hT hC ?_
 refine Vc.nil (Xa2 (Xaf (Xac ?_)))
 iterate 3 refine kO hT hC ?_
 exact Vc.nil kG
 exact kf b6 (Xa0 (Xbd ku))
 refine Xaf (Xad ?_)
 iterate 5 refine kO hT hC ?_
 refine Vc.nil (Xah ?_)
 obtain rfl := kj h
 exact Xd1 (τ := ⟨[(2, .ptr 16 0)], [(16, some (.box [.sv (.ints .u8 p0), .sv (.int .i64 0), .sv (.int .i64 v6)]))]⟩) (kW hC [(16, 496)]) rfl ⟨rfl, trivial⟩
def Yca (r : (Int × Xav)) : AV := .sv (.int .i64 r.1)
def Yb9 (r : (Int × Xav)) : Xbj := [(0, .box [.sv (.ints .u8 r.2.b_), .sv (.int .i64 r.2.i_), .sv (.int .i64 r.2.h_)])]
theorem Xfp {p0 r} (h : Xd4 p0 = some r) : AC Tryz.prog 39 [.ptr 0 0] [(0, .box [.sv (.ints .u8 p0.b_), .sv (.int .i64 p0.i_), .sv (.int .i64 p0.h_)])] (Yca r) (Yb9 r) := by
 refine Xae hT Tryz.func39 rfl fun C hC => ?_
 unfold Xd4 at h
 refine Xad ?_
 refine kO hT hC ?_
 refine kN ?_
 iterate 10 refine kO hT hC ?_
 refine Vc.nil ?_
 refine Xc6 hm ?_
 iterate 4 refine kO hT hC ?_
 refine kQ hT hC h fun h => ?_
 iterate 4 refine kO hT hC ?_
 refine kQ hT hC h fun h => ?_
 iterate 3 refine kO hT hC ?_
 refine kD ?_
 refine kL [0,3] [0] [_,_] [_] ?_
 refine kA h (fun v1 => ([(3, .sv (.int .i64 v1.1)), (0, .any)], [(0, some (.box [.sv (.ints .u8 p0.b_), .sv (.int .i64 v1.2), .sv (.int .i64 (Xaa .i64 ((Xaa .i64 (p0.h_ * 6364136223846793005)) + 1442695040888963407)))]))])) (fun v1 h => ?_) fun v1 h => ?_
 refine Xc6 hm ?_
 iterate 10 refine kO hT hC ?_
 refine kD ?_
 refine kS h ?_ ?_ <;> intro b1 h
 refine kt b1 ?_
 refine Xc6 hm ?_
 iterate 9 refine kO hT hC ?_
 refine kQ hT hC h fun h => ?_
 iterate 5 refine kO hT hC ?_
 refine kD (Xac ?_)
 iterate 9 refine kO hT hC ?_
 exact Vc.nil kM
 exact kf b1 (Xag kM)
 refine Xad ?_
 iterate 2 refine kO hT hC ?_
 refine Vc.nil (Xah ?_)
 obtain rfl := kj h
 exact Xd1 (Xi6.refl _) rfl ⟨rfl, trivial⟩
def Xzo (r : (Int × Xav)) : AV := .sv (.int .i64 r.1)
def Xzn (r : (Int × Xav)) : Xbj := [(0, .box [.sv (.ints .u8 r.2.b_), .sv (.int .i64 r.2.i_), .sv (.int .i64 r.2.h_)])]
theorem Xat {p0 p1 r} (h : Xar p0 p1 = some r) : AC Tryz.prog 40 [.ptr 0 0, .sv (.int .i64 p1)] [(0, .box [.sv (.ints .u8 p0.b_), .sv (.int .i64 p0.i_), .sv (.int .i64 p0.h_)])] (Xzo r) (Xzn r) := by
 refine Xae hT Tryz.func40 rfl fun C hC => ?_
 unfold Xar at h
 refine Xad ?_
 refine kO hT hC ?_
 refine Vc.nil (Xa3 (Xad ?_))
 iterate 2 refine kO hT hC ?_
 refine Vc.nil ?_
 refine kS h ?_ ?_ <;> intro b1 h
 refine kt b1 (Xad ?_)
 refine kO hT hC ?_
 refine Vc.nil (Xah (Xa9 ?_))
 obtain rfl := kj h
 exact Xd1 (Xi6.refl _) rfl ⟨rfl, trivial⟩
 refine kf b1 (Xag (Xaf (Xa3 (Xad ?_))))
 iterate 2 refine kO hT hC ?_
 refine Vc.nil ?_
 refine kS h ?_ ?_ <;> intro b2 h
 refine kt b2 (Xad ?_)
 refine kO hT hC ?_
 refine kC hC [(0, 0)] Tryz.call39 h (fun _ => Xfp) fun q1 h => ?_
 refine kO hT hC ?_
 refine kQ hT hC h fun h => ?_
 refine kO hT hC ?_
 refine Vc.nil (Xah (Xa9 ?_))
 obtain rfl := kj h
 exact Xd1 (Xi6.refl _) rfl ⟨rfl, trivial⟩
 refine kf b2 (Xag (Xaf (Xad ?_)))
 refine kO hT hC ?_
 refine kC hC [(0, 0)] Tryz.call39 h (fun _ => Xfp) fun q2 h => ?_
 refine kO hT hC ?_
 refine kN ?_
 refine kO hT hC ?_
 refine kC hC [(0, 0)] Tryz.call39 h (fun _ => Xfp) fun q3 h => ?_
 refine kO hT hC ?_
 refine kN ?_
 refine kO hT hC ?_
 refine kC hC [(0, 0)] Tryz.call39 h (fun _ => Xfp) fun q4 h => ?_
 refine kO hT hC ?_
 refine kN ?_
 refine kO hT hC ?_
 refine kC hC [(0, 0)] Tryz.call39 h (fun _ => Xfp) fun q5 h => ?_
 refine kO hT hC ?_
 refine kN ?_
 iterate 11 refine kO hT hC ?_
 refine kQ hT hC h fun h => ?_
 refine kO hT hC ?_
 refine Vc.nil (Xah ?_)
 obtain rfl := kj h
 exact Xd1 (Xi6.refl _) rfl ⟨rfl, trivial⟩
def Yce (r : (Bool × Xav)) : AV := .sv (.bool r.1)
def Ycd (r : (Bool × Xav)) : Xbj := [(0, .box [.sv (.ints .u8 r.2.b_), .sv (.int .i64 r.2.i_), .sv (.int .i64 r.2.h_)])]
theorem Xch {p0 p1 r} (h : Xbi p0 p1 = some r) : AC Tryz.prog 56 [.ptr 0 0, .sv (.int .i64 p1)] [(0, .box [.sv (.ints .u8 p0.b_), .sv (.int .i64 p0.i_), .sv (.int .i64 p0.h_)])] (Yce r) (Ycd r) := by
 refine Xae hT Tryz.func56 rfl fun C hC => ?_
 unfold Xbi at h
 refine Xad ?_
 refine kO hT hC ?_
 refine kN ?_
 iterate 2 refine kO hT hC ?_
 refine kC hC [(0, 0)] Tryz.call40 h (fun _ => Xat) fun q1 h => ?_
 iterate 2 refine kO hT hC ?_
 refine Vc.nil (Xah ?_)
 obtain rfl := kj h
 exact Xd1 (Xi6.refl _) rfl ⟨rfl, trivial⟩
def Xuc (r : (Par × Xav)) : AV := .agg [.sv (.int .i64 r.1.Qp), .sv (.bool r.1.Large), .sv (.bool r.1.Exact), .sv (.bool r.1.Confined)]
def Xub (r : (Par × Xav)) : Xbj := [(0, .box [.sv (.ints .u8 r.2.b_), .sv (.int .i64 r.2.i_), .sv (.int .i64 r.2.h_)])]
theorem Xoo {p0 r} (h : Xeo p0 = some r) : AC Tryz.prog 44 [.ptr 0 0] [(0, .box [.sv (.ints .u8 p0.b_), .sv (.int .i64 p0.i_), .sv (.int .i64 p0.h_)])] (Xuc r) (Xub r) := by
 refine Xae hT Tryz.func44 rfl fun C hC => ?_
 unfold Xeo at h
 refine Xad ?_
 refine kO hT hC ?_
 refine kN ?_
 refine kO hT hC ?_
 refine kC hC [(0, 0)] Tryz.call40 h (fun _ => Xat) fun q1 h => ?_
 refine kO hT hC ?_
 refine kC hC [(0, 0)] Tryz.call56 h (fun _ => Xch) fun q2 h => ?_
 iterate 4 refine kO hT hC ?_
 refine Vc.nil ?_
 refine kL [0,2,3] [0,32,48] [_,_,_] [_,_,_] ?_
 refine kA h (fun v3 => ([(0, .any)], [(0, some (.box [.sv (.ints .u8 v3.2.2.1), .sv (.int .i64 v3.2.2.2.1), .sv (.int .i64 v3.2.2.2.2)])), (48, some (.box [.sv (.int .i64 q1.1), .sv (.bool v3.1), .sv (.bool v3.2.1), .sv (.bool (!q2.1))]))])) (fun v3 h => ?_) fun v3 h => ?_
 refine Xad ?_
 refine kO hT hC ?_
 refine kC hC [(0, 0)] Tryz.call40 h (fun _ => Xat) fun q4 h => ?_
 refine Vc.nil (Xaw (Xad ?_))
 iterate 2 refine kO hT hC ?_
 refine Vc.nil ?_
 refine kS h ?_ ?_ <;> intro b1 h
 refine kt b1 (Xac ?_)
 iterate 2 refine kO hT hC ?_
 exact Vc.nil (Xa2 kM)
 refine kf b1 (Xad ?_)
 iterate 2 refine kO hT hC ?_
 refine Vc.nil ?_
 refine kS h ?_ ?_ <;> intro b2 h
 refine kt b2 (Xac ?_)
 iterate 2 refine kO hT hC ?_
 exact Vc.nil (Xa2 kM)
 exact kf b2 (Xag (Xa2 kM))
 refine Xad ?_
 iterate 2 refine kO hT hC ?_
 refine Vc.nil (Xah ?_)
 obtain rfl := kj h
 exact Xd1 (Xi6.refl _) rfl ⟨rfl, trivial⟩
def Ycc (r : ByteArray) : AV := .sv (.str r)
def Ycb (r : ByteArray) : Xbj := []
theorem Yf3 {p0 p1 r} (h : Xj0 p0 p1 = some r) : AC Tryz.prog 159 [.sv (.int .i64 p0), .sv (.int .u8 p1)] [] (Ycc r) (Ycb r) := by
 refine Xae hT Tryz.func159 rfl fun C hC => ?_
 unfold Xj0 at h
 refine Xad ?_
 refine kO hT hC ?_
 refine kN ?_
 refine kO hT hC ?_
 obtain ⟨hq, h⟩ := Xa7 h
 refine Ygp hT hC rfl rfl rfl rfl ⟨hq.1, hq.2.1, hq.2.2, by decide⟩ ?_
 refine kO hT hC ?_
 refine Vc.nil (Xa3 (Xad ?_))
 refine kO hT hC ?_
 refine Vc.nil ?_
 refine kL [0,1,5,6] [128] [_,_,_,_] [_] ?_
 refine kX h (fun v2 => ([(6, .sv (.int .i64 v2.1))], [(128, some (.ints .u8 v2.2))])) (fun v4 => ([(0, .any), (1, .any), (6, .any)], [(128, some (.ints .u8 v4))])) (kW hC []) (fun v2 s h => ?_) fun v4 h => ?_
 unfold Xhq at h
 refine Xa3 (Xad ?_)
 iterate 3 refine kO hT hC ?_
 refine Vc.nil ?_
 refine kS h ?_ ?_ <;> intro b3 h
 refine kt b3 (Xag (Xaf (Xa3 (Xaw (Xac ?_)))))
 iterate 3 refine kO hT hC ?_
 iterate 2 refine kQ hT hC h fun h => ?_
 refine Vc.nil (Xa2 (Xaf (Xac ?_)))
 iterate 3 refine kO hT hC ?_
 exact Vc.nil kG
 exact kf b3 (Xa0 (Xbd ku))
 refine Xaf (Xad ?_)
 iterate 3 refine kO hT hC ?_
 exact Vc.nil (Xah kR)
def Yif (r : ByteArray) : AV := .sv (.str r)
def Yie (r : ByteArray) : Xbj := []
theorem Xdy {p0 r} (h : Xdn p0 = some r) : AC Tryz.prog 109 [.sv (.int .i64 p0)] [] (Yif r) (Yie r) := by
 refine Xae hT Tryz.func109 rfl fun C hC => ?_
 unfold Xdn at h
 refine Xad ?_
 refine kO hT hC ?_
 refine kN ?_
 iterate 3 refine kO hT hC ?_
 refine kN ?_
 refine kO hT hC ?_
 refine Vc.nil (Xa3 ?_)
 refine kL [3,4] [] [_,_] [] ?_
 refine kX h (fun v2 => ([(3, .sv (.int .i64 v2.1)), (4, .sv (.str v2.2))], [])) (fun v4 => ([(4, .sv (.str v4)), (3, .any)], [])) (kW hC []) (fun v2 s h => ?_) fun v4 h => ?_
 unfold Xid at h
 refine Xa3 (Xad ?_)
 iterate 2 refine kO hT hC ?_
 refine Vc.nil ?_
 refine kS h ?_ ?_ <;> intro b3 h
 refine kt b3 (Xag (Xaf (Xaw (Xad ?_))))
 refine kO hT hC ?_
 refine kQ hT hC h fun h => ?_
 iterate 5 refine kO hT hC ?_
 refine kQ hT hC h fun h => ?_
 refine kO hT hC ?_
 refine Vc.nil (Xac ?_)
 refine kO hT hC ?_
 refine kQ hT hC h fun h => ?_
 refine kO hT hC ?_
 exact Vc.nil (Xa2 kG)
 exact kf b3 (Xa0 (Xbd ku))
 refine Xaf (Xad ?_)
 iterate 3 refine kO hT hC ?_
 refine kC hC [] Tryz.call159 h (fun _ => Yf3) fun q6 h => ?_
 refine kO hT hC ?_
 refine kQ hT hC h fun h => ?_
 refine kO hT hC ?_
 exact Vc.nil (Xah kR)
def Yf7 (r : ByteArray) : AV := .sv (.str r)
def Yf6 (r : ByteArray) : Xbj := []
theorem Xpq {p0 p1 r} (h : Xhr p0 p1 = some r) : AC Tryz.prog 110 [.sv (.int .i64 p0), .sv (.int .i64 p1)] [] (Yf7 r) (Yf6 r) := by
 refine Xae hT Tryz.func110 rfl fun C hC => ?_
 unfold Xhr at h
 refine Xad ?_
 refine kO hT hC ?_
 refine kN ?_
 refine kO hT hC ?_
 obtain ⟨hq, h⟩ := Xa7 h
 refine Ygp hT hC rfl rfl rfl rfl ⟨hq.1, hq.2.1, hq.2.2, by decide⟩ ?_
 refine kO hT hC ?_
 refine Vc.nil (Xa3 (Xad ?_))
 iterate 3 refine kO hT hC ?_
 refine Vc.nil ?_
 refine kL [0,5,6] [128] [_,_,_] [_] ?_
 refine kX h (fun v2 => ([(0, .sv (.int .i64 v2.1)), (6, .sv (.int .i64 v2.2.1))], [(128, some (.ints .u8 v2.2.2))])) (fun v4 => ([(0, .any), (6, .any)], [(128, some (.ints .u8 v4))])) (kW hC []) (fun v2 s h => ?_) fun v4 h => ?_
 unfold Xiz at h
 refine Xa3 (Xad ?_)
 iterate 2 refine kO hT hC ?_
 refine Vc.nil ?_
 refine kS h ?_ ?_ <;> intro b3 h
 refine kt b3 (Xag (Xaf (Xa3 (Xaw (Xad ?_)))))
 iterate 3 refine kO hT hC ?_
 refine kQ hT hC h fun h => ?_
 iterate 2 refine kO hT hC ?_
 iterate 2 refine kQ hT hC h fun h => ?_
 refine Vc.nil (Xac ?_)
 refine kO hT hC ?_
 refine kQ hT hC h fun h => ?_
 refine kO hT hC ?_
 refine Vc.nil (Xa2 (Xaf (Xac ?_)))
 iterate 3 refine kO hT hC ?_
 exact Vc.nil kG
 exact kf b3 (Xa0 (Xbd ku))
 refine Xaf (Xad ?_)
 iterate 3 refine kO hT hC ?_
 exact Vc.nil (Xah kR)
def Yck (r : ByteArray) : AV := .sv (.str r)
def Ycj (r : ByteArray) : Xbj := []
theorem Xsv {p0 r} (h : Xj3 p0 = some r) : AC Tryz.prog 111 [.sv (.ints .i64 p0)] [] (Yck r) (Ycj r) := by
 refine Xae hT Tryz.func111 rfl fun C hC => ?_
 unfold Xj3 at h
 refine Xad ?_
 refine kO hT hC ?_
 refine kN ?_
 iterate 2 refine kO hT hC ?_
 refine kC hC [] Tryz.call109 h (fun _ => Xdy) fun q1 h => ?_
 refine kO hT hC ?_
 refine Vc.nil (Xa3 (Xad ?_))
 refine kO hT hC ?_
 refine Vc.nil ?_
 refine kL [0,3,4] [] [_,_,_] [] ?_
 refine kX h (fun v4 => ([(3, .sv (.str v4.1)), (4, .sv (.int .i64 v4.2))], [])) (fun v7 => ([(3, .sv (.str v7)), (0, .any), (4, .any)], [])) (kW hC []) (fun v4 s h => ?_) fun v7 h => ?_
 unfold Xhs at h
 refine Xa3 (Xad ?_)
 iterate 4 refine kO hT hC ?_
 refine Vc.nil ?_
 refine kS h ?_ ?_ <;> intro b3 h
 refine kt b3 (Xag (Xaf (Xa3 (Xaw (Xac ?_)))))
 iterate 3 refine kO hT hC ?_
 refine kQ hT hC h fun h => ?_
 refine kO hT hC ?_
 refine kC hC [] Tryz.call109 h (fun _ => Xdy) fun q8 h => ?_
 refine kQ hT hC h fun h => ?_
 refine kO hT hC ?_
 refine Vc.nil (Xa2 (Xaf (Xac ?_)))
 iterate 3 refine kO hT hC ?_
 exact Vc.nil kG
 exact kf b3 (Xa0 (Xbd ku))
 refine Xaf (Xad ?_)
 iterate 2 refine kO hT hC ?_
 exact Vc.nil (Xah kR)
def Ygb (r : ByteArray) : AV := .sv (.str r)
def Yga (r : ByteArray) : Xbj := []
theorem Xu0 {p0 r} (h : Xl1 p0 = some r) : AC Tryz.prog 47 [.agg [.sv (.int .i64 p0.Level), .sv (.int .i64 p0.Bits), .sv (.ints .i64 p0.Cols), .sv (.ints .i64 p0.Rows)]] [] (Ygb r) (Yga r) := by
 refine Xae hT Tryz.func47 rfl fun C hC => ?_
 unfold Xl1 at h
 refine Xad ?_
 iterate 2 refine kO hT hC ?_
 refine Vc.nil ?_
 refine Xc6 hm ?_
 iterate 2 refine kO hT hC ?_
 refine kC hC [] Tryz.call109 h (fun _ => Xdy) fun q1 h => ?_
 iterate 2 refine kO hT hC ?_
 refine kC hC [] Tryz.call110 h (fun _ => Xpq) fun q2 h => ?_
 refine kQ hT hC h fun h => ?_
 iterate 2 refine kO hT hC ?_
 refine kC hC [] Tryz.call111 h (fun _ => Xsv) fun q3 h => ?_
 refine kQ hT hC h fun h => ?_
 iterate 2 refine kO hT hC ?_
 refine kC hC [] Tryz.call111 h (fun _ => Xsv) fun q4 h => ?_
 refine kQ hT hC h fun h => ?_
 refine kO hT hC ?_
 exact kD (Xah kR)
def Yco (r : Bool) : AV := .sv (.bool r)
def Ycn (r : Bool) : Xbj := []
theorem Ygc {p0 r} (h : Xj4 p0 = some r) : AC Tryz.prog 48 [.sv (.int .i64 p0)] [] (Yco r) (Ycn r) := by
 refine Xae hT Tryz.func48 rfl fun C hC => ?_
 unfold Xj4 at h
 refine Xad ?_
 refine kO hT hC ?_
 refine Vc.nil ?_
 refine kL [0,2] [] [_,_] [] ?_
 refine kA h (fun v1 => ([(2, .sv (.bool v1)), (0, .any)], [])) (fun v1 h => ?_) fun v1 h => ?_
 refine Xac ?_
 iterate 3 refine kO hT hC ?_
 refine kS h ?_ ?_ <;> intro b1 h
 iterate 2 refine kF hC b1 ?_
 refine kP hC true b1 ?_
 refine kO hT hC ?_
 iterate 2 refine kF hC rfl ?_
 iterate 2 refine kO hT hC ?_
 iterate 2 refine kF hC rfl ?_
 iterate 2 refine kO hT hC ?_
 exact Vc.nil kM
 iterate 2 refine kI hT hC b1 ?_
 refine kP hC false b1 ?_
 refine kO hT hC ?_
 refine kS h ?_ ?_ <;> intro b2 h
 iterate 2 refine kF hC b2 ?_
 refine kP hC true b2 ?_
 refine kO hT hC ?_
 iterate 2 refine kF hC rfl ?_
 iterate 2 refine kO hT hC ?_
 exact Vc.nil kM
 iterate 2 refine kI hT hC b2 ?_
 refine kP hC false b2 ?_
 refine kO hT hC ?_
 refine kS h ?_ ?_ <;> intro b3 h
 iterate 2 refine kF hC b3 ?_
 refine kP hC true b3 ?_
 refine kO hT hC ?_
 exact Vc.nil kM
 iterate 2 refine kI hT hC b3 ?_
 refine kP hC false b3 ?_
 refine kO hT hC ?_
 exact Vc.nil kM
 exact Xah kR
def Xsu (r : Bool) : AV := .sv (.bool r)
def Xst (r : Bool) : Xbj := []
theorem Yia {p0 r} (h : Xl0 p0 = some r) : AC Tryz.prog 112 [.sv (.str p0)] [] (Xsu r) (Xst r) := by
 refine Xae hT Tryz.func112 rfl fun C hC => ?_
 unfold Xl0 at h
 refine Xad ?_
 refine kO hT hC ?_
 refine Vc.nil (Xa3 (Xad ?_))
 refine kO hT hC ?_
 refine Vc.nil ?_
 refine kL [0,3] [] [_,_] [] ?_
 obtain ⟨o8, hl, h⟩ := Xb4 h
 refine Xoe (fun v3 => ([(3, .sv (.int .i64 v3))], [])) (fun v6 => ([(0, .any), (3, .any)], [])) (fun r => Xye C T Tryz.f112.results.toList (Xsu r) (Xst r)) hl ?_ ?_ ?_ ?_
 apply Xle hC []
 exact co
 rfl
 decide
 rfl
 intro v3 s hs
 have h := hs
 unfold Xdb at h
 refine Xa3 (Xad ?_)
 iterate 4 refine kO hT hC ?_
 refine Vc.nil ?_
 refine kS h ?_ ?_ <;> intro b7 h
 refine kt b7 (Xag (Xaf (Xa3 (Xaw ?_))))
 refine kL [0,3] [] [_,_] [] ?_
 refine kA h (fun v7 => ([(19, .sv (.bool v7))], [])) (fun v7 h => ?_) fun v7 h => ?_
 refine Xac ?_
 iterate 2 refine kO hT hC ?_
 refine kQ hT hC h fun h => ?_
 iterate 2 refine kO hT hC ?_
 refine kS h ?_ ?_ <;> intro b8 h
 iterate 2 refine kI hT hC b8 ?_
 refine kJ hT hC b8 h fun h => ?_
 refine kI hT hC b8 ?_
 refine kP hC true b8 ?_
 exact Vc.nil kM
 iterate 4 refine kF hC b8 ?_
 refine kP hC false b8 ?_
 exact Vc.nil kM
 refine kS h ?_ ?_ <;> intro b9 h
 refine kt b9 (Xad ?_)
 refine kO hT hC ?_
 refine Vc.nil (Xah (Xik (Xa9 ?_)))
 obtain rfl := kj h
 refine Yb0 (Yby ?_)
 exact Xd1 (Xi6.refl _) rfl trivial
 refine kf b9 (Xag (Xa2 (Xaf (Xac ?_))))
 iterate 3 refine kO hT hC ?_
 exact Vc.nil kG
 exact kf b7 (Xa0 (Xbd kb))
 intro v6 e
 subst e
 refine Xaf (Xad ?_)
 refine kO hT hC ?_
 exact Vc.nil (Xah kR)
 intro r' σ' e hE
 subst e
 obtain rfl := kj h
 refine Xa9 ?_
 exact hE
def Yh2 (r : Bool) : AV := .sv (.bool r)
def Yh1 (r : Bool) : Xbj := []
theorem Ylo {p0 r} (h : Xgw p0 = some r) : AC Tryz.prog 49 [.sv (.str p0)] [] (Yh2 r) (Yh1 r) := by
 refine Xae hT Tryz.func49 rfl fun C hC => ?_
 unfold Xgw at h
 refine Xad ?_
 refine kO hT hC ?_
 refine Vc.nil ?_
 refine kL [0,2] [] [_,_] [] ?_
 refine kA h (fun v1 => ([(2, .sv (.bool v1)), (0, .any)], [])) (fun v1 h => ?_) fun v1 h => ?_
 refine Xac ?_
 iterate 4 refine kO hT hC ?_
 refine kS h ?_ ?_ <;> intro b1 h
 refine kI hT hC b1 ?_
 refine kE hC b1 [] Tryz.call112 h (fun _ => Yia) fun q2 h => ?_
 refine kP hC true b1 ?_
 refine kO hT hC ?_
 exact Vc.nil kM
 iterate 2 refine kF hC b1 ?_
 refine kP hC false b1 ?_
 refine kO hT hC ?_
 exact Vc.nil kM
 exact Xah kR
def Xzq (r : ByteArray) : AV := .sv (.str r)
def Xzp (r : ByteArray) : Xbj := []
theorem Ycf {p0 r} (h : Xk4 p0 = some r) : AC Tryz.prog 50 [.sv (.str p0)] [] (Xzq r) (Xzp r) := by
 refine Xae hT Tryz.func50 rfl fun C hC => ?_
 unfold Xk4 at h
 refine Xad ?_
 refine kO hT hC ?_
 refine kN ?_
 refine kO hT hC ?_
 refine kQ hT hC h fun h => ?_
 refine kO hT hC ?_
 refine kT hT hC h fun h => ?_
 refine kO hT hC ?_
 refine Vc.nil (Xa3 ?_)
 refine kL [3] [176] [_] [_] ?_
 refine kX h (fun v2 => ([], [(176, some (.ints .u8 v2))])) (fun v4 => ([], [(176, some (.ints .u8 v4))])) (kW hC []) (fun v2 s h => ?_) fun v4 h => ?_
 unfold Xgn at h
 refine Xa3 (Xad ?_)
 iterate 2 refine kO hT hC ?_
 refine kQ hT hC h fun h => ?_
 refine kO hT hC ?_
 refine Vc.nil ?_
 refine kS h ?_ ?_ <;> intro b3 h
 refine kt b3 (Xag (Xaf (Xaw (Xac ?_))))
 iterate 2 refine kO hT hC ?_
 refine kT hT hC h fun h => ?_
 refine kO hT hC ?_
 refine Vc.nil (Xa2 ?_)
 obtain rfl := kj h
 exact Yk5 (kW hC [(176, 288)])
 exact kf b3 (Xa0 (Xbd ku))
 refine Xaf (Xad ?_)
 iterate 2 refine kO hT hC ?_
 refine Vc.nil (Xa3 (Xad ?_))
 refine kO hT hC ?_
 refine Vc.nil ?_
 refine kL [3,4,5] [176,304] [_,_,_] [_,_] ?_
 refine kX h (fun v12 => ([(5, .sv (.int .i64 v12.1))], [(304, some (.ints .u8 v12.2))])) (fun v19 => ([(3, .any), (5, .any)], [(304, some (.ints .u8 v19)), (176, none)])) (kW hC []) (fun v12 s h => ?_) fun v19 h => ?_
 unfold Xfq at h
 refine Xa3 (Xad ?_)
 iterate 4 refine kO hT hC ?_
 refine Vc.nil ?_
 refine kS h ?_ ?_ <;> intro b12 h
 refine kt b12 (Xag (Xaf (Xa3 (Xaw (Xad ?_)))))
 refine kO hT hC ?_
 refine Vc.nil (Xa3 (Xad ?_))
 refine kO hT hC ?_
 refine Vc.nil ?_
 refine kL [3,4,5,6,7] [176,304] [_,_,_,_,_] [_,_] ?_
 refine kX h (fun v21 => ([(6, .sv (.int .i64 v21.1)), (7, .sv (.int .i64 v21.2))], [])) (fun v23 => ([(6, .sv (.int .i64 v23)), (7, .any)], [])) (kW hC []) (fun v21 s h => ?_) fun v23 h => ?_
 unfold Xd8 at h
 refine Xa3 (Xad ?_)
 iterate 2 refine kO hT hC ?_
 refine Vc.nil ?_
 refine kS h ?_ ?_ <;> intro b15 h
 refine kt b15 (Xag (Xaf (Xa3 (Xaw (Xac ?_)))))
 iterate 6 refine kO hT hC ?_
 iterate 2 refine kQ hT hC h fun h => ?_
 iterate 4 refine kO hT hC ?_
 refine Vc.nil (Xa2 (Xaf (Xac ?_)))
 iterate 3 refine kO hT hC ?_
 exact Vc.nil kG
 exact kf b15 (Xa0 (Xbd ku))
 refine Xaf (Xac ?_)
 iterate 4 refine kO hT hC ?_
 refine kT hT hC h fun h => ?_
 refine kO hT hC ?_
 refine Vc.nil (Xa2 (Xaf (Xac ?_)))
 iterate 3 refine kO hT hC ?_
 refine Vc.nil ?_
 obtain rfl := kj h
 exact Yk5 (kW hC [(304, 720)])
 exact kf b12 (Xa0 (Xbd ku))
 refine Xaf (Xad ?_)
 iterate 3 refine kO hT hC ?_
 exact Vc.nil (Xah kR)
def Yf2 (r : (ByteArray × Bool)) : AV := .tup [.sv (.str r.1), .sv (.bool r.2)]
def Yf1 (r : (ByteArray × Bool)) : Xbj := []
theorem Xmh {p0 p1 r} (h : Xgc p0 p1 = some r) : AC Tryz.prog 15 [.sv (.int .i64 p0), .sv (.str p1)] [] (Yf2 r) (Yf1 r) := by
 refine Xae hT Tryz.func15 rfl fun C hC => ?_
 unfold Xgc at h
 refine Xad ?_
 iterate 2 refine kO hT hC ?_
 refine Vc.nil (Xa3 ?_)
 refine kL [0,1] [] [_,_] [] ?_
 refine kA h (fun v1 => ([(13, .sv (.bool v1))], [])) (fun v1 h => ?_) fun v1 h => ?_
 refine Xac ?_
 refine kO hT hC ?_
 refine kC hC [] Tryz.call48 h (fun _ => Ygc) fun q2 h => ?_
 iterate 2 refine kO hT hC ?_
 refine kS h ?_ ?_ <;> intro b1 h
 refine kI hT hC (kn b1) ?_
 refine kE hC (kn b1) [] Tryz.call49 h (fun _ => Ylo) fun q3 h => ?_
 refine kI hT hC (kn b1) ?_
 refine kP hC false (kn b1) ?_
 exact Vc.nil kM
 iterate 3 refine kF hC (kn b1) ?_
 refine kP hC true (kn b1) ?_
 exact Vc.nil kM
 refine kS h ?_ ?_ <;> intro b2 h
 refine kt b2 (Xad ?_)
 iterate 2 refine kO hT hC ?_
 exact Vc.nil (Xah (Xa9 kR))
 refine kf b2 (Xag (Xaf ?_))
 refine Xc6 hm ?_
 iterate 5 refine kO hT hC ?_
 refine kC hC [] Tryz.call50 h (fun _ => Ycf) fun q4 h => ?_
 refine kQ hT hC h fun h => ?_
 iterate 2 refine kO hT hC ?_
 exact kD (Xah kR)
def Yci (r : ByteArray) : AV := .sv (.str r)
def Ych (r : ByteArray) : Xbj := []
theorem Xol {p0 r} (h : Xj2 p0 = some r) : AC Tryz.prog 156 [.sv (.bool p0)] [] (Yci r) (Ych r) := by
 refine Xae hT Tryz.func156 rfl fun C hC => ?_
 unfold Xj2 at h
 refine Xad ?_
 refine kO hT hC ?_
 refine Vc.nil (Xa3 (Xad ?_))
 refine kO hT hC ?_
 refine Vc.nil ?_
 refine kS h ?_ ?_ <;> intro b1 h
 refine kt b1 (Xad ?_)
 refine kO hT hC ?_
 exact Vc.nil (Xah (Xa9 kR))
 refine kf b1 (Xag (Xaf (Xad ?_)))
 refine kO hT hC ?_
 exact Vc.nil (Xah kR)
def Yf9 (r : ByteArray) : AV := .sv (.str r)
def Yf8 (r : ByteArray) : Xbj := []
theorem Yig {p0 r} (h : Xon p0 = some r) : AC Tryz.prog 102 [.agg [.sv (.int .i64 p0.Qp), .sv (.bool p0.Large), .sv (.bool p0.Exact), .sv (.bool p0.Confined)]] [] (Yf9 r) (Yf8 r) := by
 refine Xae hT Tryz.func102 rfl fun C hC => ?_
 unfold Xon at h
 refine Xad ?_
 iterate 2 refine kO hT hC ?_
 refine Vc.nil ?_
 refine Xc6 hm ?_
 iterate 2 refine kO hT hC ?_
 refine kC hC [] Tryz.call110 h (fun _ => Xpq) fun q1 h => ?_
 iterate 2 refine kO hT hC ?_
 refine kC hC [] Tryz.call156 h (fun _ => Xol) fun q2 h => ?_
 refine kQ hT hC h fun h => ?_
 iterate 2 refine kO hT hC ?_
 refine kC hC [] Tryz.call156 h (fun _ => Xol) fun q3 h => ?_
 refine kQ hT hC h fun h => ?_
 iterate 2 refine kO hT hC ?_
 refine kC hC [] Tryz.call156 h (fun _ => Xol) fun q4 h => ?_
 refine kQ hT hC h fun h => ?_
 refine kO hT hC ?_
 exact kD (Xah kR)
def Yh9 (r : Bool) : AV := .sv (.bool r)
def Yh8 (r : Bool) : Xbj := []
theorem Xgd {p0 p1 p2 r} (h : Xaq p0 p1 p2 = some r) : AC Tryz.prog 107 [.sv (.int .i64 p0), .sv (.int .i64 p1), .sv (.int .i64 p2)] [] (Yh9 r) (Yh8 r) := by
 refine Xae hT Tryz.func107 rfl fun C hC => ?_
 unfold Xaq at h
 refine Xad ?_
 refine kO hT hC ?_
 refine Vc.nil ?_
 refine kL [0,1,2,6] [] [_,_,_,_] [] ?_
 refine kA h (fun v1 => ([(6, .sv (.bool v1)), (0, .any), (1, .any), (2, .any)], [])) (fun v1 h => ?_) fun v1 h => ?_
 refine Xac ?_
 iterate 4 refine kO hT hC ?_
 refine kS h ?_ ?_ <;> intro b1 h
 iterate 3 refine kI hT hC b1 ?_
 refine kP hC true b1 ?_
 refine kO hT hC ?_
 exact Vc.nil kM
 iterate 3 refine kF hC b1 ?_
 refine kP hC false b1 ?_
 refine kO hT hC ?_
 exact Vc.nil kM
 exact Xah kR
def Xsy (r : Int) : AV := .sv (.int .i64 r)
def Xsx (r : Int) : Xbj := []
theorem Xu2 {p0 r} (h : Xht p0 = some r) : AC Tryz.prog 118 [.sv (.ints .i64 p0)] [] (Xsy r) (Xsx r) := by
 refine Xae hT Tryz.func118 rfl fun C hC => ?_
 unfold Xht at h
 refine Xad ?_
 refine kO hT hC ?_
 refine Vc.nil (Xa3 ?_)
 refine kL [0] [] [_] [] ?_
 refine kA h (fun v1 => ([(12, .sv (.bool v1))], [])) (fun v1 h => ?_) fun v1 h => ?_
 refine Xac ?_
 iterate 4 refine kO hT hC ?_
 refine kS h ?_ ?_ <;> intro b1 h
 iterate 3 refine kF hC b1 ?_
 refine kP hC true b1 ?_
 exact Vc.nil kM
 iterate 3 refine kI hT hC b1 ?_
 refine kP hC false b1 ?_
 exact Vc.nil kM
 refine kS h ?_ ?_ <;> intro b2 h
 refine kt b2 (Xad ?_)
 refine kO hT hC ?_
 exact Vc.nil (Xah (Xa9 kR))
 refine kf b2 (Xag (Xaf (Xad ?_)))
 refine kO hT hC ?_
 refine Vc.nil (Xa3 (Xad ?_))
 refine kO hT hC ?_
 refine Vc.nil ?_
 refine kL [0,3,4] [] [_,_,_] [] ?_
 obtain ⟨o9, hl, h⟩ := Xb4 h
 refine Xoe (fun v4 => ([(3, .sv (.int .i64 v4.1)), (4, .sv (.int .i64 v4.2))], [])) (fun v7 => ([(3, .sv (.int .i64 v7)), (0, .any), (4, .any)], [])) (fun r => Xye C T Tryz.f118.results.toList (Xsy r) (Xsx r)) hl ?_ ?_ ?_ ?_
 try dsimp only
 apply Xle hC []
 exact co
 rfl
 decide
 rfl
 intro v4 s hs
 have h := hs
 unfold Xgz at h
 refine Xa3 (Xad ?_)
 iterate 4 refine kO hT hC ?_
 refine Vc.nil ?_
 refine kS h ?_ ?_ <;> intro b7 h
 refine kt b7 (Xag (Xaf (Xa3 (Xaw (Xa3 (Xad ?_))))))
 iterate 2 refine kO hT hC ?_
 refine kQ hT hC h fun h => ?_
 refine kO hT hC ?_
 refine kC hC [] Tryz.call107 h (fun _ => Xgd) fun q8 h => ?_
 refine kO hT hC ?_
 refine Vc.nil ?_
 refine kS h ?_ ?_ <;> intro b8 h
 refine kt b8 (Xad ?_)
 refine kO hT hC ?_
 refine Vc.nil (Xah (Xa9 (Xik (Xa9 ?_))))
 obtain rfl := kj h
 refine Yb0 (Yby ?_)
 exact Xd1 (Xi6.refl _) rfl trivial
 refine kf b8 (Xag (Xaf (Xac ?_)))
 iterate 3 refine kO hT hC ?_
 refine kQ hT hC h fun h => ?_
 iterate 3 refine kO hT hC ?_
 refine Vc.nil (Xa2 (Xaf (Xac ?_)))
 iterate 3 refine kO hT hC ?_
 exact Vc.nil kG
 exact kf b7 (Xa0 (Xbd kb))
 intro v7 e
 subst e
 refine Xaf (Xad ?_)
 iterate 2 refine kO hT hC ?_
 exact Vc.nil (Xah kR)
 intro r' σ' e hE
 subst e
 obtain rfl := kj h
 refine Xa9 ?_
 exact hE
def Xx1 (r : Int) : AV := .sv (.int .i64 r)
def Xx0 (r : Int) : Xbj := []
theorem Xql {p0 r} (h : Xgy p0 = some r) : AC Tryz.prog 105 [.agg [.sv (.int .i64 p0.Level), .sv (.int .i64 p0.Bits), .sv (.ints .i64 p0.Cols), .sv (.ints .i64 p0.Rows)]] [] (Xx1 r) (Xx0 r) := by
 refine Xae hT Tryz.func105 rfl fun C hC => ?_
 unfold Xgy at h
 refine Xad ?_
 iterate 2 refine kO hT hC ?_
 refine Vc.nil ?_
 refine Xc6 hm ?_
 iterate 2 refine kO hT hC ?_
 refine kC hC [] Tryz.call118 h (fun _ => Xu2) fun q1 h => ?_
 iterate 2 refine kO hT hC ?_
 refine kC hC [] Tryz.call118 h (fun _ => Xu2) fun q2 h => ?_
 iterate 2 refine kO hT hC ?_
 exact kD (Xah kR)
def Xsq (r : Int) : AV := .sv (.int .i64 r)
def Xsp (r : Int) : Xbj := []
theorem Xt7 {p0 r} (h : Xfl p0 = some r) : AC Tryz.prog 108 [.sv (.int .i64 p0)] [] (Xsq r) (Xsp r) := by
 refine Xae hT Tryz.func108 rfl fun C hC => ?_
 unfold Xfl at h
 refine Xad ?_
 refine kO hT hC ?_
 refine Vc.nil (Xa3 (Xad ?_))
 refine kO hT hC ?_
 refine Vc.nil (Xaw (Xad ?_))
 iterate 2 refine kO hT hC ?_
 refine Vc.nil ?_
 refine kS h ?_ ?_ <;> intro b1 h
 refine kt b1 (Xad ?_)
 refine kO hT hC ?_
 exact Vc.nil (Xah (Xik (Xa9 kR)))
 refine kf b1 (Xad ?_)
 iterate 2 refine kO hT hC ?_
 refine Vc.nil ?_
 refine kS h ?_ ?_ <;> intro b2 h
 refine kt b2 (Xad ?_)
 refine kO hT hC ?_
 exact Vc.nil (Xah (Xik (Xa9 kR)))
 refine kf b2 (Xad ?_)
 iterate 2 refine kO hT hC ?_
 refine Vc.nil ?_
 refine kS h ?_ ?_ <;> intro b3 h
 refine kt b3 (Xad ?_)
 refine kO hT hC ?_
 exact Vc.nil (Xah (Xik (Xa9 kR)))
 refine kf b3 (Xag (Xa2 (Xaf (Xad ?_))))
 refine kO hT hC ?_
 exact Vc.nil (Xah kR)
def Yh4 (r : Bool) : AV := .sv (.bool r)
def Yh3 (r : Bool) : Xbj := []
theorem Xxz {p0 r} (h : Xgx p0 = some r) : AC Tryz.prog 46 [.agg [.sv (.int .i64 p0.Level), .sv (.int .i64 p0.Bits), .sv (.ints .i64 p0.Cols), .sv (.ints .i64 p0.Rows)]] [] (Yh4 r) (Yh3 r) := by
 refine Xae hT Tryz.func46 rfl fun C hC => ?_
 unfold Xgx at h
 refine Xad ?_
 iterate 2 refine kO hT hC ?_
 refine Vc.nil ?_
 refine kL [1,2] [16] [_,_] [_] ?_
 refine kA h (fun v1 => ([(2, .sv (.bool v1)), (1, .any)], [(16, none)])) (fun v1 h => ?_) fun v1 h => ?_
 refine Xf3 hm ?_
 refine kO hT hC ?_
 refine kC hC [] Tryz.call105 h (fun _ => Xql) fun q2 h => ?_
 iterate 2 refine kO hT hC ?_
 refine kC hC [] Tryz.call108 h (fun _ => Xt7) fun q3 h => ?_
 refine kC hC [] Tryz.call107 h (fun _ => Xgd) fun q4 h => ?_
 refine kO hT hC ?_
 refine kS h ?_ ?_ <;> intro b1 h
 iterate 2 refine kI hT hC b1 ?_
 refine kE hC b1 [] Tryz.call107 h (fun _ => Xgd) fun q5 h => ?_
 refine kP hC true b1 ?_
 refine kO hT hC ?_
 exact kD kM
 iterate 3 refine kF hC b1 ?_
 refine kP hC false b1 ?_
 refine kO hT hC ?_
 exact kD kM
 exact Xah kR
def Yb8 (r : Int) : AV := .sv (.int .i64 r)
def Yb7 (r : Int) : Xbj := []
theorem Xk3 {p0 r} (h : Xd3 p0 = some r) : AC Tryz.prog 106 [.agg [.sv (.int .i64 p0.Level), .sv (.int .i64 p0.Bits), .sv (.ints .i64 p0.Cols), .sv (.ints .i64 p0.Rows)]] [] (Yb8 r) (Yb7 r) := by
 refine Xae hT Tryz.func106 rfl fun C hC => ?_
 unfold Xd3 at h
 refine Xad ?_
 iterate 2 refine kO hT hC ?_
 refine Vc.nil (Xa3 (Xad ?_))
 refine kO hT hC ?_
 refine kC hC [] Tryz.call46 h (fun _ => Xxz) fun q1 h => ?_
 refine kO hT hC ?_
 refine Vc.nil ?_
 refine kS h ?_ ?_ <;> intro b1 h
 refine kt b1 (Xad ?_)
 refine kO hT hC ?_
 exact Vc.nil (Xah (Xa9 kR))
 refine kf b1 (Xag (Xaf (Xad ?_)))
 iterate 8 refine kO hT hC ?_
 exact Vc.nil (Xah kR)
def Yh0 (r : Bool) : AV := .sv (.bool r)
def Yhz (r : Bool) : Xbj := []
theorem Yln {p0 r} (h : Xjy p0 = some r) : AC Tryz.prog 141 [.agg [.sv (.int .i64 p0.Qp), .sv (.bool p0.Large), .sv (.bool p0.Exact), .sv (.bool p0.Confined)]] [] (Yh0 r) (Yhz r) := by
 refine Xae hT Tryz.func141 rfl fun C hC => ?_
 unfold Xjy at h
 refine Xad ?_
 iterate 2 refine kO hT hC ?_
 refine Vc.nil ?_
 refine kL [1,2] [16] [_,_] [_] ?_
 refine kA h (fun v1 => ([(2, .sv (.bool v1)), (1, .any)], [(16, none)])) (fun v1 h => ?_) fun v1 h => ?_
 refine Xac ?_
 iterate 2 refine kO hT hC ?_
 refine kC hC [] Tryz.call107 h (fun _ => Xgd) fun q2 h => ?_
 refine kO hT hC ?_
 refine kS h ?_ ?_ <;> intro b1 h
 iterate 3 refine kI hT hC b1 ?_
 refine kS h ?_ ?_ <;> intro b2 h
 iterate 2 refine kI hT hC b2 ?_
 refine Xbw hC rfl rfl rfl rfl b1 rfl rfl (b := true) b2 rfl rfl rfl trivial ?_
 refine kI hT hC b1 ?_
 refine kP hC true b1 ?_
 refine kO hT hC ?_
 exact Vc.nil kM
 iterate 2 refine kF hC b2 ?_
 refine Xbw hC rfl rfl rfl rfl b1 rfl rfl (b := false) b2 rfl rfl rfl trivial ?_
 refine kI hT hC b1 ?_
 refine kP hC true b1 ?_
 refine kO hT hC ?_
 exact Vc.nil kM
 iterate 3 refine kF hC b1 ?_
 iterate 2 refine Xld hC rfl rfl rfl rfl rfl rfl ?_
 iterate 2 refine kF hC b1 ?_
 refine kP hC false b1 ?_
 refine kO hT hC ?_
 exact Vc.nil kM
 exact Xah kR
def Yfv (r : Bool) : AV := .sv (.bool r)
def Yfu (r : Bool) : Xbj := []
theorem Yhy {p0 p1 p2 r} (h : Xlv p0 p1 p2 = some r) : AC Tryz.prog 151 [.agg [.sv (.int .i64 p0.Level), .sv (.int .i64 p0.Bits), .sv (.ints .i64 p0.Cols), .sv (.ints .i64 p0.Rows)], .agg [.sv (.int .i64 p1.Qp), .sv (.bool p1.Large), .sv (.bool p1.Exact), .sv (.bool p1.Confined)], .agg [.sv (.int .i64 p2.Tile), .sv (.int .i64 p2.Frame), .sv (.int .i64 p2.Qp)]] [] (Yfv r) (Yfu r) := by
 refine Xae hT Tryz.func151 rfl fun C hC => ?_
 unfold Xlv at h
 refine Xad ?_
 iterate 4 refine kO hT hC ?_
 refine Vc.nil ?_
 refine kL [3,4,5,6] [48,64,80] [_,_,_,_] [_,_,_] ?_
 refine kA h (fun v1 => ([(6, .sv (.bool v1)), (3, .any), (4, .any), (5, .any)], [(48, none), (64, none), (80, none)])) (fun v1 h => ?_) fun v1 h => ?_
 refine Xf3 hm ?_
 refine kO hT hC ?_
 refine kC hC [] Tryz.call141 h (fun _ => Yln) fun q2 h => ?_
 refine kO hT hC ?_
 refine kS h ?_ ?_ <;> intro b1 h
 iterate 3 refine kI hT hC b1 ?_
 refine kP hC true b1 ?_
 refine kO hT hC ?_
 refine kS h ?_ ?_ <;> intro b2 h
 iterate 3 refine kI hT hC b2 ?_
 refine kE hC b2 [] Tryz.call106 h (fun _ => Xk3) fun q3 h => ?_
 refine kI hT hC b2 ?_
 refine kP hC true b2 ?_
 refine kO hT hC ?_
 refine kS h ?_ ?_ <;> intro b3 h
 iterate 3 refine kI hT hC b3 ?_
 refine kP hC true b3 ?_
 refine kO hT hC ?_
 refine kS h ?_ ?_ <;> intro b4 h
 iterate 5 refine kI hT hC b4 ?_
 refine kJ hT hC b4 h fun h => ?_
 refine kI hT hC b4 ?_
 refine kP hC true b4 ?_
 refine kO hT hC ?_
 refine kS h ?_ ?_ <;> intro b5 h
 iterate 2 refine kI hT hC b5 ?_
 refine kE hC b5 [] Tryz.call107 h (fun _ => Xgd) fun q4 h => ?_
 refine kP hC true b5 ?_
 refine kO hT hC ?_
 exact kD kM
 iterate 3 refine kF hC b5 ?_
 refine kP hC false b5 ?_
 refine kO hT hC ?_
 exact kD kM
 iterate 7 refine kF hC b4 ?_
 refine kP hC false b4 ?_
 refine kO hT hC ?_
 iterate 3 refine kF hC rfl ?_
 iterate 2 refine kO hT hC ?_
 exact kD kM
 iterate 3 refine kF hC b3 ?_
 refine kP hC false b3 ?_
 refine kO hT hC ?_
 iterate 7 refine kF hC rfl ?_
 iterate 2 refine kO hT hC ?_
 iterate 3 refine kF hC rfl ?_
 iterate 2 refine kO hT hC ?_
 exact kD kM
 iterate 5 refine kF hC b2 ?_
 refine kP hC false b2 ?_
 refine kO hT hC ?_
 iterate 3 refine kF hC rfl ?_
 iterate 2 refine kO hT hC ?_
 iterate 7 refine kF hC rfl ?_
 iterate 2 refine kO hT hC ?_
 iterate 3 refine kF hC rfl ?_
 iterate 2 refine kO hT hC ?_
 exact kD kM
 iterate 3 refine kF hC b1 ?_
 refine kP hC false b1 ?_
 refine kO hT hC ?_
 iterate 5 refine kF hC rfl ?_
 iterate 2 refine kO hT hC ?_
 iterate 3 refine kF hC rfl ?_
 iterate 2 refine kO hT hC ?_
 iterate 7 refine kF hC rfl ?_
 iterate 2 refine kO hT hC ?_
 iterate 3 refine kF hC rfl ?_
 iterate 2 refine kO hT hC ?_
 exact kD kM
 exact Xah kR
def Yfs (r : (Int × Bool)) : AV := .tup [.sv (.int .i64 r.1), .sv (.bool r.2)]
def Yfr (r : (Int × Bool)) : Xbj := []
theorem Yhw {p0 r} (h : Xog p0 = some r) : AC Tryz.prog 185 [.sv (.int .i64 p0)] [] (Yfs r) (Yfr r) := by
 refine Xae hT Tryz.func185 rfl fun C hC => ?_
 unfold Xog at h
 refine Xad ?_
 iterate 2 refine kO hT hC ?_
 refine Vc.nil (Xa3 (Xad ?_))
 refine kO hT hC ?_
 refine kC hC [] Tryz.call107 h (fun _ => Xgd) fun q1 h => ?_
 refine kO hT hC ?_
 refine Vc.nil ?_
 refine kS h ?_ ?_ <;> intro b1 h
 refine kt b1 (Xad ?_)
 iterate 2 refine kO hT hC ?_
 exact Vc.nil (Xah (Xa9 kR))
 refine kf b1 (Xag (Xaf (Xa3 (Xad ?_))))
 iterate 2 refine kO hT hC ?_
 refine Vc.nil ?_
 refine kS h ?_ ?_ <;> intro b2 h
 refine kt b2 (Xad ?_)
 iterate 5 refine kO hT hC ?_
 exact Vc.nil (Xah (Xa9 kR))
 refine kf b2 (Xag (Xaf (Xad ?_)))
 iterate 4 refine kO hT hC ?_
 exact Vc.nil (Xah kR)
def Yid (r : ByteArray) : AV := .sv (.str r)
def Yic (r : ByteArray) : Xbj := []
theorem Xnu {p0 r} (h : Xj1 p0 = some r) : AC Tryz.prog 152 [.sv (.int .i64 p0)] [] (Yid r) (Yic r) := by
 refine Xae hT Tryz.func152 rfl fun C hC => ?_
 unfold Xj1 at h
 refine Xad ?_
 refine kO hT hC ?_
 refine kN ?_
 refine kO hT hC ?_
 refine kC hC [] Tryz.call185 h (fun _ => Yhw) fun q1 h => ?_
 iterate 5 refine kO hT hC ?_
 refine kN ?_
 refine kO hT hC ?_
 refine kC hC [] Tryz.call109 h (fun _ => Xdy) fun q2 h => ?_
 refine kO hT hC ?_
 exact Vc.nil (Xah kR)
def Yb5 (r : (ByteArray × Bool)) : AV := .tup [.sv (.str r.1), .sv (.bool r.2)]
def Yb4 (r : (ByteArray × Bool)) : Xbj := []
theorem Yfw {p0 p1 p2 r} (h : Xm2 p0 p1 p2 = some r) : AC Tryz.prog 90 [.agg [.sv (.int .i64 p0.Level), .sv (.int .i64 p0.Bits), .sv (.ints .i64 p0.Cols), .sv (.ints .i64 p0.Rows)], .agg [.sv (.int .i64 p1.Qp), .sv (.bool p1.Large), .sv (.bool p1.Exact), .sv (.bool p1.Confined)], .agg [.sv (.int .i64 p2.Tile), .sv (.int .i64 p2.Frame), .sv (.int .i64 p2.Qp)]] [] (Yb5 r) (Yb4 r) := by
 refine Xae hT Tryz.func90 rfl fun C hC => ?_
 unfold Xm2 at h
 refine Xad ?_
 iterate 5 refine kO hT hC ?_
 refine Vc.nil (Xa3 (Xad ?_))
 iterate 3 refine kO hT hC ?_
 refine kC hC [] Tryz.call151 h (fun _ => Yhy) fun q1 h => ?_
 refine kO hT hC ?_
 refine Vc.nil ?_
 refine kS h ?_ ?_ <;> intro b1 h
 refine kt b1 (Xad ?_)
 iterate 2 refine kO hT hC ?_
 exact Vc.nil (Xah (Xa9 kR))
 refine kf b1 (Xag (Xaf ?_))
 refine Xc6 hm ?_
 iterate 2 refine kO hT hC ?_
 refine kC hC [] Tryz.call109 h (fun _ => Xdy) fun q2 h => ?_
 iterate 4 refine kO hT hC ?_
 refine kC hC [] Tryz.call110 h (fun _ => Xpq) fun q3 h => ?_
 refine kQ hT hC h fun h => ?_
 iterate 5 refine kO hT hC ?_
 refine kC hC [] Tryz.call152 h (fun _ => Xnu) fun q4 h => ?_
 refine kQ hT hC h fun h => ?_
 iterate 2 refine kO hT hC ?_
 exact kD (Xah kR)
def Xx3 (r : Int) : AV := .sv (.int .i64 r)
def Xx2 (r : Int) : Xbj := []
theorem Xqn {p0 p1 r} (h : Xi0 p0 p1 = some r) : AC Tryz.prog 222 [.sv (.ints .i64 p0), .sv (.int .i64 p1)] [] (Xx3 r) (Xx2 r) := by
 refine Xae hT Tryz.func222 rfl fun C hC => ?_
 unfold Xi0 at h
 refine Xad ?_
 refine kO hT hC ?_
 refine kN ?_
 refine kO hT hC ?_
 refine Vc.nil (Xa3 (Xad ?_))
 refine kO hT hC ?_
 refine Vc.nil ?_
 refine kL [0,1,5,6] [] [_,_,_,_] [] ?_
 refine kX h (fun v2 => ([(5, .sv (.int .i64 v2.1)), (6, .sv (.int .i64 v2.2))], [])) (fun v4 => ([(5, .sv (.int .i64 v4)), (0, .any), (1, .any), (6, .any)], [])) (kW hC []) (fun v2 s h => ?_) fun v4 h => ?_
 unfold Xfu at h
 refine Xa3 (Xad ?_)
 iterate 3 refine kO hT hC ?_
 refine Vc.nil ?_
 refine kS h ?_ ?_ <;> intro b3 h
 refine kt b3 (Xag (Xaf (Xa3 (Xaw (Xac ?_)))))
 iterate 3 refine kO hT hC ?_
 refine kQ hT hC h fun h => ?_
 iterate 3 refine kO hT hC ?_
 refine Vc.nil (Xa2 (Xaf (Xac ?_)))
 iterate 3 refine kO hT hC ?_
 exact Vc.nil kG
 exact kf b3 (Xa0 (Xbd ku))
 refine Xaf (Xad ?_)
 iterate 2 refine kO hT hC ?_
 exact Vc.nil (Xah kR)
def Xzm (r : (Xpb × Bool)) : AV := .tup [.agg [.sv (.int .i64 r.1.Left), .sv (.int .i64 r.1.Top), .sv (.int .i64 r.1.Wide), .sv (.int .i64 r.1.High)], .sv (.bool r.2)]
def Xzl (r : (Xpb × Bool)) : Xbj := []
theorem Yb6 {p0 p1 r} (h : Xda p0 p1 = some r) : AC Tryz.prog 188 [.agg [.sv (.int .i64 p0.Level), .sv (.int .i64 p0.Bits), .sv (.ints .i64 p0.Cols), .sv (.ints .i64 p0.Rows)], .sv (.int .i64 p1)] [] (Xzm r) (Xzl r) := by
 refine Xae hT Tryz.func188 rfl fun C hC => ?_
 unfold Xda at h
 refine Xad ?_
 iterate 3 refine kO hT hC ?_
 refine Vc.nil (Xa3 ?_)
 refine kL [1,2,4] [32,64] [_,_,_] [_,_] ?_
 refine kA h (fun v1 => ([(15, .sv (.bool v1))], [])) (fun v1 h => ?_) fun v1 h => ?_
 refine Xac ?_
 iterate 3 refine kO hT hC ?_
 refine kS h ?_ ?_ <;> intro b1 h
 iterate 4 refine kF hC b1 ?_
 refine kP hC true b1 ?_
 exact Vc.nil kM
 iterate 2 refine kI hT hC b1 ?_
 refine kE hC b1 [] Tryz.call106 h (fun _ => Xk3) fun q2 h => ?_
 refine kI hT hC b1 ?_
 refine kP hC false b1 ?_
 exact Vc.nil kM
 refine kS h ?_ ?_ <;> intro b2 h
 refine kt b2 (Xad ?_)
 iterate 3 refine kO hT hC ?_
 exact Vc.nil (Xah (Xa9 kR))
 refine kf b2 (Xag (Xaf (Xad ?_)))
 iterate 4 refine kO hT hC ?_
 refine kQ hT hC h fun h => ?_
 refine kO hT hC ?_
 refine kN ?_
 iterate 4 refine kO hT hC ?_
 refine kQ hT hC h fun h => ?_
 refine kO hT hC ?_
 refine Vc.nil ?_
 refine Xc6 hm ?_
 iterate 3 refine kO hT hC ?_
 refine kC hC [] Tryz.call222 h (fun _ => Xqn) fun q3 h => ?_
 iterate 4 refine kO hT hC ?_
 refine kC hC [] Tryz.call222 h (fun _ => Xqn) fun q4 h => ?_
 iterate 4 refine kO hT hC ?_
 refine kQ hT hC h fun h => ?_
 iterate 5 refine kO hT hC ?_
 refine kQ hT hC h fun h => ?_
 iterate 5 refine kO hT hC ?_
 exact kD (Xah kR)
def Xua (r : Int) : AV := .sv (.int .i64 r)
def Xt9 (r : Int) : Xbj := []
theorem Xv3 {p0 p1 r} (h : Xbv p0 p1 = some r) : AC Tryz.prog 158 [.agg [.sv (.int .i64 p0.Level), .sv (.int .i64 p0.Bits), .sv (.ints .i64 p0.Cols), .sv (.ints .i64 p0.Rows)], .sv (.int .i64 p1)] [] (Xua r) (Xt9 r) := by
 refine Xae hT Tryz.func158 rfl fun C hC => ?_
 unfold Xbv at h
 refine Xad ?_
 iterate 2 refine kO hT hC ?_
 refine kN ?_
 iterate 2 refine kO hT hC ?_
 refine kC hC [] Tryz.call188 h (fun _ => Yb6) fun q1 h => ?_
 iterate 6 refine kO hT hC ?_
 refine kN ?_
 iterate 2 refine kO hT hC ?_
 refine kQ hT hC h fun h => ?_
 iterate 2 refine kO hT hC ?_
 refine kQ hT hC h fun h => ?_
 iterate 2 refine kO hT hC ?_
 exact Vc.nil (Xah kR)
def Xx6 (r : ((List Int) × Xav)) : AV := .own 16
def Xx5 (r : ((List Int) × Xav)) : Xbj := [(16, .ints .i64 r.1), (0, .box [.sv (.ints .u8 r.2.b_), .sv (.int .i64 r.2.i_), .sv (.int .i64 r.2.h_)])]
theorem Xqo {p0 p1 r} (h : Xg0 p0 p1 = some r) : AC Tryz.prog 221 [.ptr 0 0, .sv (.int .i64 p1)] [(0, .box [.sv (.ints .u8 p0.b_), .sv (.int .i64 p0.i_), .sv (.int .i64 p0.h_)])] (Xx6 r) (Xx5 r) := by
 refine Xae hT Tryz.func221 rfl fun C hC => ?_
 unfold Xg0 at h
 refine Xad ?_
 refine kO hT hC ?_
 refine kN ?_
 refine kO hT hC ?_
 obtain ⟨hq, h⟩ := Xa7 h
 refine Ygp hT hC rfl rfl rfl rfl ⟨hq.1, hq.2.1, hq.2.2, by decide⟩ ?_
 refine kO hT hC ?_
 refine Vc.nil (Xa3 (Xad ?_))
 refine kO hT hC ?_
 refine Vc.nil ?_
 refine kL [0,1,5,6] [0,144] [_,_,_,_] [_,_] ?_
 refine kX h (fun v11 => ([(6, .sv (.int .i64 v11.1))], [(0, some (.box [.sv (.ints .u8 v11.2.1), .sv (.int .i64 v11.2.2.1), .sv (.int .i64 v11.2.2.2.1)])), (144, some (.ints .i64 v11.2.2.2.2))])) (fun v22 => ([(0, .any), (1, .any), (6, .any)], [(0, some (.box [.sv (.ints .u8 v22.2.1), .sv (.int .i64 v22.2.2.1), .sv (.int .i64 v22.2.2.2)])), (144, some (.ints .i64 v22.1))])) (kW hC []) (fun v11 s h => ?_) fun v22 h => ?_
 unfold Xig at h
 refine Xa3 ?_
 refine kL [0,1,5,6] [0,144] [_,_,_,_] [_,_] ?_
 refine kA h (fun v23 => ([(17, .sv (.bool v23.1))], [(0, some (.box [.sv (.ints .u8 v23.2.1), .sv (.int .i64 v23.2.2.1), .sv (.int .i64 v23.2.2.2)]))])) (fun v23 h => ?_) fun v23 h => ?_
 refine Xac ?_
 iterate 2 refine kO hT hC ?_
 refine kC hC [(0, 0)] Tryz.call40 h (fun _ => Xat) fun q24 h => ?_
 iterate 2 refine kO hT hC ?_
 refine kS h ?_ ?_ <;> intro b9 h
 iterate 2 refine kI hT hC b9 ?_
 refine kP hC true b9 ?_
 exact Vc.nil kM
 iterate 2 refine kF hC b9 ?_
 refine kP hC false b9 ?_
 exact Vc.nil kM
 refine kS h ?_ ?_ <;> intro b10 h
 refine kt b10 (Xag (Xaf ?_))
 refine kL [0,1,5,6] [0,144] [_,_,_,_] [_,_] ?_
 refine kA h (fun v25 => ([], [(0, some (.box [.sv (.ints .u8 v25.1), .sv (.int .i64 v25.2.1), .sv (.int .i64 v25.2.2.1)])), (144, some (.ints .i64 v25.2.2.2))])) (fun v25 h => ?_) fun v25 h => ?_
 refine Xaw (Xad ?_)
 iterate 2 refine kO hT hC ?_
 refine kC hC [(0, 0)] Tryz.call40 h (fun _ => Xat) fun q26 h => ?_
 refine kO hT hC ?_
 refine Vc.nil ?_
 refine kL [0,1,5,6,7] [0,144] [_,_,_,_,_] [_,_] ?_
 refine kA h (fun v27 => ([(7, .sv (.int .i64 v27.1))], [(0, some (.box [.sv (.ints .u8 v27.2.1), .sv (.int .i64 v27.2.2.1), .sv (.int .i64 v27.2.2.2)]))])) (fun v27 h => ?_) fun v27 h => ?_
 refine Xad ?_
 refine kO hT hC ?_
 refine kC hC [(0, 0)] Tryz.call56 h (fun _ => Xch) fun q28 h => ?_
 refine Vc.nil ?_
 refine kS h ?_ ?_ <;> intro b11 h
 refine kt b11 (Xac ?_)
 refine kO hT hC ?_
 refine kQ hT hC h fun h => ?_
 refine kO hT hC ?_
 exact Vc.nil kM
 exact kf b11 (Xag kM)
 refine Xad ?_
 iterate 3 refine kO hT hC ?_
 refine kC hC [(0, 0)] Tryz.call40 h (fun _ => Xat) fun q29 h => ?_
 refine kO hT hC ?_
 iterate 2 refine kQ hT hC h fun h => ?_
 refine kN ?_
 refine kO hT hC ?_
 refine kC hC [(0, 0)] Tryz.call56 h (fun _ => Xch) fun q30 h => ?_
 refine Vc.nil ?_
 refine kS h ?_ ?_ <;> intro b12 h
 refine kt b12 (Xac ?_)
 iterate 3 refine kO hT hC ?_
 refine kC hC [(0, 0)] Tryz.call40 h (fun _ => Xat) fun q31 h => ?_
 refine kO hT hC ?_
 iterate 2 refine kQ hT hC h fun h => ?_
 exact Vc.nil (Xa2 kM)
 exact kf b12 (Xag (Xa2 kM))
 refine Xac ?_
 iterate 3 refine kO hT hC ?_
 exact Vc.nil kG
 exact kf b10 (Xa0 (Xbd ku))
 refine Xaf (Xad ?_)
 iterate 2 refine kO hT hC ?_
 refine Vc.nil (Xah ?_)
 obtain rfl := kj h
 exact Xd1 (τ := ⟨[(4, .own 16)], [(16, some (.ints .i64 v22.1)), (0, some (.box [.sv (.ints .u8 v22.2.1), .sv (.int .i64 v22.2.2.1), .sv (.int .i64 v22.2.2.2)]))]⟩) (kW hC [(16, 144)]) rfl ⟨rfl, rfl, trivial⟩
def Xx8 (r : (Xao × Xav)) : AV := .agg [.sv (.int .i64 r.1.Kind), .sv (.int .i64 r.1.Mode), .sv (.int .i64 r.1.Dx), .sv (.int .i64 r.1.Dy), .own 16]
def Xx7 (r : (Xao × Xav)) : Xbj := [(16, .ints .i64 r.1.Levels), (0, .box [.sv (.ints .u8 r.2.b_), .sv (.int .i64 r.2.i_), .sv (.int .i64 r.2.h_)])]
theorem Xzv {p0 p1 r} (h : Xi3 p0 p1 = some r) : AC Tryz.prog 187 [.ptr 0 0, .agg [.sv (.bool p1.Key), .sv (.int .i64 p1.Qp), .sv (.bool p1.Large), .sv (.bool p1.Exact)]] [(0, .box [.sv (.ints .u8 p0.b_), .sv (.int .i64 p0.i_), .sv (.int .i64 p0.h_)])] (Xx8 r) (Xx7 r) := by
 refine Xae hT Tryz.func187 rfl fun C hC => ?_
 unfold Xi3 at h
 refine Xad ?_
 iterate 2 refine kO hT hC ?_
 refine Vc.nil (Xa3 ?_)
 refine kL [0,3,4] [0,48,64] [_,_,_] [_,_,_] ?_
 refine kA h (fun v1 => ([(12, .sv (.bool v1.1))], [(0, some (.box [.sv (.ints .u8 v1.2.1), .sv (.int .i64 v1.2.2.1), .sv (.int .i64 v1.2.2.2)]))])) (fun v1 h => ?_) fun v1 h => ?_
 refine Xac ?_
 iterate 4 refine kO hT hC ?_
 refine kS h ?_ ?_ <;> intro b1 h
 iterate 2 refine kF hC (kn b1) ?_
 refine kP hC false (kn b1) ?_
 exact Vc.nil kM
 refine kI hT hC (kn b1) ?_
 refine kE hC (kn b1) [(0, 0)] Tryz.call56 h (fun _ => Xch) fun q2 h => ?_
 refine kP hC true (kn b1) ?_
 exact Vc.nil kM
 refine kS h ?_ ?_ <;> intro b2 h
 refine kt b2 (Xad ?_)
 iterate 2 refine kO hT hC ?_
 refine Vc.nil (Xah (Xa9 ?_))
 obtain rfl := kj h
 refine Xd1 (τ := ⟨[(4, .ptr 2000000 0)], [(16, some (.ints .i64 [])), (0, some (.box [.sv (.ints .u8 v1.2.1), .sv (.int .i64 v1.2.2.1), .sv (.int .i64 v1.2.2.2)])), (2000000, some (.box [.sv (.int .i64 0), .sv (.int .i64 0), .sv (.int .i64 0), .sv (.int .i64 0), .own 16]))]⟩) ?_ rfl ⟨rfl, rfl, trivial⟩
 refine Xyc hC 64 4 689 (.ints .i64 []) rfl rfl rfl rfl rfl trivial ?_
 apply Xle hC [(16, 689), (2000000, 64)]
 exact co
 rfl
 decide
 rfl
 refine kf b2 (Xag (Xaf (Xa3 ?_)))
 refine kL [0,3,4] [0,48,64] [_,_,_] [_,_,_] ?_
 refine kA h (fun v3 => ([(20, .sv (.bool v3.1)), (3, .any)], [(0, some (.box [.sv (.ints .u8 v3.2.1), .sv (.int .i64 v3.2.2.1), .sv (.int .i64 v3.2.2.2)])), (48, none)])) (fun v3 h => ?_) fun v3 h => ?_
 refine Xac ?_
 iterate 4 refine kO hT hC ?_
 refine kS h ?_ ?_ <;> intro b3 h
 iterate 2 refine kF hC (kn b3) ?_
 refine kP hC false (kn b3) ?_
 exact Vc.nil kM
 refine kI hT hC (kn b3) ?_
 refine kE hC (kn b3) [(0, 0)] Tryz.call56 h (fun _ => Xch) fun q4 h => ?_
 refine kP hC true (kn b3) ?_
 exact Vc.nil kM
 refine kS h ?_ ?_ <;> intro b4 h
 refine kt b4 (Xad ?_)
 refine kO hT hC ?_
 refine kC hC [(0, 0)] Tryz.call40 h (fun _ => Xat) fun q5 h => ?_
 iterate 2 refine kO hT hC ?_
 refine kC hC [(0, 0)] Tryz.call40 h (fun _ => Xat) fun q6 h => ?_
 iterate 2 refine kO hT hC ?_
 refine kC hC [(16, 448), (0, 0)] Tryz.call221 h (fun _ => Xqo) fun q7 h => ?_
 iterate 3 refine kO hT hC ?_
 refine Vc.nil ?_
 refine kL [0,4,5] [0,64,80,448] [_,_,_] [_,_,_,_] ?_
 refine kA h (fun v8 => ([(0, .any)], [(0, some (.box [.sv (.ints .u8 v8.2.1), .sv (.int .i64 v8.2.2.1), .sv (.int .i64 v8.2.2.2)])), (80, some (.box [.sv (.int .i64 1), .sv (.int .i64 0), .sv (.int .i64 v8.1), .sv (.int .i64 (Xaa .i64 (q6.1 - 3))), .own 448]))])) (fun v8 h => ?_) fun v8 h => ?_
 refine Xad ?_
 refine kO hT hC ?_
 refine kC hC [(0, 0)] Tryz.call56 h (fun _ => Xch) fun q9 h => ?_
 refine Vc.nil ?_
 refine kS h ?_ ?_ <;> intro b5 h
 refine kt b5 (Xac ?_)
 refine kO hT hC ?_
 refine kC hC [(0, 0)] Tryz.call40 h (fun _ => Xat) fun q10 h => ?_
 iterate 3 refine kO hT hC ?_
 exact Vc.nil kM
 exact kf b5 (Xag kM)
 refine Xad ?_
 iterate 2 refine kO hT hC ?_
 refine Vc.nil (Xah (Xa9 ?_))
 obtain rfl := kj h
 exact Xd1 (τ := ⟨[(4, .ptr 2000000 0)], [(16, some (.ints .i64 q7.1)), (0, some (.box [.sv (.ints .u8 v8.2.1), .sv (.int .i64 v8.2.2.1), .sv (.int .i64 v8.2.2.2)])), (2000000, some (.box [.sv (.int .i64 1), .sv (.int .i64 0), .sv (.int .i64 v8.1), .sv (.int .i64 (Xaa .i64 (q6.1 - 3))), .own 16]))]⟩) (kW hC [(16, 448), (2000000, 64)]) rfl ⟨rfl, rfl, trivial⟩
 refine kf b4 (Xag (Xaf (Xad ?_)))
 refine kO hT hC ?_
 refine kC hC [(0, 0)] Tryz.call40 h (fun _ => Xat) fun q11 h => ?_
 refine kO hT hC ?_
 refine kC hC [(16, 640), (0, 0)] Tryz.call221 h (fun _ => Xqo) fun q12 h => ?_
 iterate 2 refine kO hT hC ?_
 refine Vc.nil (Xah ?_)
 obtain rfl := kj h
 exact Xd1 (τ := ⟨[(4, .ptr 2000000 0)], [(16, some (.ints .i64 q12.1)), (0, some (.box [.sv (.ints .u8 q12.2.b_), .sv (.int .i64 q12.2.i_), .sv (.int .i64 q12.2.h_)])), (2000000, some (.box [.sv (.int .i64 2), .sv (.int .i64 q11.1), .sv (.int .i64 0), .sv (.int .i64 0), .own 16]))]⟩) (kW hC [(16, 640), (2000000, 64)]) rfl ⟨rfl, rfl, trivial⟩
def Xv9 (r : ((List Xao) × Xav)) : AV := .own 16
def Xv8 (r : ((List Xao) × Xav)) : Xbj := [(16, .row Xe1 r.1), (0, .box [.sv (.ints .u8 r.2.b_), .sv (.int .i64 r.2.i_), .sv (.int .i64 r.2.h_)])]
theorem Xx9 {p0 p1 p2 r} (h : Xhw p0 p1 p2 = some r) : AC Tryz.prog 157 [.ptr 0 0, .sv (.int .i64 p1), .agg [.sv (.bool p2.Key), .sv (.int .i64 p2.Qp), .sv (.bool p2.Large), .sv (.bool p2.Exact)]] [(0, .box [.sv (.ints .u8 p0.b_), .sv (.int .i64 p0.i_), .sv (.int .i64 p0.h_)])] (Xv9 r) (Xv8 r) := by
 refine Xae hT Tryz.func157 rfl fun C hC => ?_
 unfold Xhw at h
 refine Xad ?_
 iterate 2 refine kO hT hC ?_
 refine kN ?_
 iterate 2 refine kO hT hC ?_
 refine Vc.nil (Xa3 (Xad ?_))
 refine kO hT hC ?_
 refine Vc.nil ?_
 refine kL [0,1,5,7,8] [0,80,144] [_,_,_,_,_] [_,_,_] ?_
 refine kX h (fun v3 => ([(8, .sv (.int .i64 v3.1))], [(0, some (.box [.sv (.ints .u8 v3.2.1), .sv (.int .i64 v3.2.2.1), .sv (.int .i64 v3.2.2.2.1)])), (144, some (.row Xe1 v3.2.2.2.2))])) (fun v6 => ([(0, .any), (1, .any), (5, .any), (8, .any)], [(0, some (.box [.sv (.ints .u8 v6.2.1), .sv (.int .i64 v6.2.2.1), .sv (.int .i64 v6.2.2.2)])), (144, some (.row Xe1 v6.1)), (80, none)])) (kW hC []) (fun v3 s h => ?_) fun v6 h => ?_
 unfold Xg6 at h
 refine Xa3 (Xad ?_)
 iterate 3 refine kO hT hC ?_
 refine Vc.nil ?_
 refine kS h ?_ ?_ <;> intro b3 h
 refine kt b3 (Xag (Xaf (Xa3 (Xaw (Xac ?_)))))
 iterate 3 refine kO hT hC ?_
 refine kC hC [(16, 288), (0, 0)] Tryz.call187 h (fun _ => Xzv) fun q7 h => ?_
 refine kO hT hC ?_
 obtain ⟨hq, h⟩ := Xa7 h
 refine Ygp hT hC rfl rfl rfl rfl ⟨fun _ _ => rfl, by rw [Xs7]; exact hq⟩ ?_
 rw [Xs7]
 refine kO hT hC ?_
 refine Vc.nil (Xa2 (Xaf (Xac ?_)))
 iterate 3 refine kO hT hC ?_
 refine Vc.nil ?_
 obtain rfl := kj h
 exact Yk5 (kW hC [(144, 320)])
 exact kf b3 (Xa0 (Xbd ku))
 refine Xaf (Xad ?_)
 iterate 2 refine kO hT hC ?_
 refine Vc.nil (Xah ?_)
 obtain rfl := kj h
 exact Xd1 (τ := ⟨[(6, .own 16)], [(16, some (.row Xe1 v6.1)), (0, some (.box [.sv (.ints .u8 v6.2.1), .sv (.int .i64 v6.2.2.1), .sv (.int .i64 v6.2.2.2)]))]⟩) (kW hC [(16, 144)]) rfl ⟨rfl, rfl, trivial⟩
def Ycq (r : ByteArray) : AV := .sv (.str r)
def Ycp (r : ByteArray) : Xbj := []
theorem Xhu {p0 r} (h : Xe0 p0 = some r) : AC Tryz.prog 220 [.sv (.ints .i64 p0)] [] (Ycq r) (Ycp r) := by
 refine Xae hT Tryz.func220 rfl fun C hC => ?_
 unfold Xe0 at h
 refine Xad ?_
 refine kO hT hC ?_
 refine kN ?_
 refine kO hT hC ?_
 refine kN ?_
 refine kO hT hC ?_
 refine kN ?_
 refine kO hT hC ?_
 refine Vc.nil (Xa3 (Xad ?_))
 refine kO hT hC ?_
 refine Vc.nil ?_
 refine kL [0,3,4,5,6] [] [_,_,_,_,_] [] ?_
 refine kX h (fun v5 => ([(3, .sv (.int .i64 v5.1)), (4, .sv (.int .i64 v5.2.1)), (5, .sv (.str v5.2.2.1)), (6, .sv (.int .i64 v5.2.2.2))], [])) (fun v10 => ([(3, .sv (.int .i64 v10.1)), (5, .sv (.str v10.2)), (0, .any), (4, .any), (6, .any)], [])) (kW hC []) (fun v5 s h => ?_) fun v10 h => ?_
 unfold Xfv at h
 refine Xa3 (Xad ?_)
 iterate 4 refine kO hT hC ?_
 refine Vc.nil ?_
 refine kS h ?_ ?_ <;> intro b5 h
 refine kt b5 (Xag (Xaf ?_))
 refine kL [0,3,4,5,6] [] [_,_,_,_,_] [] ?_
 refine kA h (fun v11 => ([(3, .sv (.int .i64 v11.1)), (4, .sv (.int .i64 v11.2.1)), (5, .sv (.str v11.2.2))], [])) (fun v11 h => ?_) fun v11 h => ?_
 refine Xaw (Xa3 (Xad ?_))
 iterate 2 refine kO hT hC ?_
 refine kQ hT hC h fun h => ?_
 iterate 2 refine kO hT hC ?_
 refine Vc.nil ?_
 refine kS h ?_ ?_ <;> intro b6 h
 refine kt b6 (Xad ?_)
 iterate 3 refine kO hT hC ?_
 exact Vc.nil (Xa0 (Xbd (Ysf kM)))
 refine kf b6 (Xag (Xaf (Xad ?_)))
 iterate 3 refine kO hT hC ?_
 refine Vc.nil ?_
 refine Xc6 hm ?_
 iterate 2 refine kO hT hC ?_
 refine kC hC [] Tryz.call109 h (fun _ => Xdy) fun q12 h => ?_
 refine kQ hT hC h fun h => ?_
 iterate 2 refine kO hT hC ?_
 refine kQ hT hC h fun h => ?_
 refine kO hT hC ?_
 refine kC hC [] Tryz.call152 h (fun _ => Xnu) fun q13 h => ?_
 refine kQ hT hC h fun h => ?_
 refine kO hT hC ?_
 refine kD (Xac ?_)
 refine kO hT hC ?_
 exact Vc.nil (Xa2 kM)
 refine Xac ?_
 iterate 3 refine kO hT hC ?_
 exact Vc.nil kG
 exact kf b5 (Xa0 (Xbd ku))
 refine Xaf (Xad ?_)
 refine kO hT hC ?_
 refine kC hC [] Tryz.call109 h (fun _ => Xdy) fun q15 h => ?_
 refine kO hT hC ?_
 refine kQ hT hC h fun h => ?_
 refine kO hT hC ?_
 exact Vc.nil (Xah kR)
def Ygg (r : ByteArray) : AV := .sv (.str r)
def Ygf (r : ByteArray) : Xbj := []
theorem Xu4 {p0 p1 r} (h : Xl3 p0 p1 = some r) : AC Tryz.prog 186 [.sv (.ints .i64 p0), .agg [.sv (.bool p1.Key), .sv (.int .i64 p1.Qp), .sv (.bool p1.Large), .sv (.bool p1.Exact)]] [] (Ygg r) (Ygf r) := by
 refine Xae hT Tryz.func186 rfl fun C hC => ?_
 unfold Xl3 at h
 refine Xad ?_
 iterate 2 refine kO hT hC ?_
 refine Vc.nil (Xa3 ?_)
 refine kL [0,3] [48] [_,_] [_] ?_
 refine kA h (fun v1 => ([(10, .sv (.bool v1)), (3, .any)], [(48, none)])) (fun v1 h => ?_) fun v1 h => ?_
 refine Xac ?_
 iterate 3 refine kO hT hC ?_
 refine kS h ?_ ?_ <;> intro b1 h
 iterate 2 refine kF hC b1 ?_
 refine kP hC true b1 ?_
 exact Vc.nil kM
 iterate 2 refine kI hT hC b1 ?_
 refine kP hC false b1 ?_
 exact Vc.nil kM
 refine kS h ?_ ?_ <;> intro b2 h
 refine kt b2 (Xad ?_)
 refine kO hT hC ?_
 refine kC hC [] Tryz.call220 h (fun _ => Xhu) fun q2 h => ?_
 refine kO hT hC ?_
 exact Vc.nil (Xah (Xa9 kR))
 refine kf b2 (Xag (Xaf ?_))
 refine Xc6 hm ?_
 refine kO hT hC ?_
 refine kQ hT hC h fun h => ?_
 refine kC hC [] Tryz.call220 h (fun _ => Xhu) fun q3 h => ?_
 refine kO hT hC ?_
 refine kQ hT hC h fun h => ?_
 refine kC hC [] Tryz.call220 h (fun _ => Xhu) fun q4 h => ?_
 refine kQ hT hC h fun h => ?_
 refine kO hT hC ?_
 refine kQ hT hC h fun h => ?_
 refine kC hC [] Tryz.call220 h (fun _ => Xhu) fun q5 h => ?_
 refine kQ hT hC h fun h => ?_
 refine kO hT hC ?_
 refine kQ hT hC h fun h => ?_
 refine kC hC [] Tryz.call220 h (fun _ => Xhu) fun q6 h => ?_
 refine kQ hT hC h fun h => ?_
 refine kO hT hC ?_
 exact kD (Xah kR)
def Ygi (r : ByteArray) : AV := .sv (.str r)
def Ygh (r : ByteArray) : Xbj := []
theorem Yil {p0 p1 r} (h : Xos p0 p1 = some r) : AC Tryz.prog 153 [.agg [.sv (.int .i64 p0.Kind), .sv (.int .i64 p0.Mode), .sv (.int .i64 p0.Dx), .sv (.int .i64 p0.Dy), .sv (.ints .i64 p0.Levels)], .agg [.sv (.bool p1.Key), .sv (.int .i64 p1.Qp), .sv (.bool p1.Large), .sv (.bool p1.Exact)]] [] (Ygi r) (Ygh r) := by
 refine Xae hT Tryz.func153 rfl fun C hC => ?_
 unfold Xos at h
 refine Xad ?_
 iterate 3 refine kO hT hC ?_
 refine kN ?_
 refine kO hT hC ?_
 refine Vc.nil ?_
 refine kL [2,3,5] [32,48] [_,_,_] [_,_] ?_
 refine kA h (fun v1 => ([(5, .sv (.str v1))], [])) (fun v1 h => ?_) fun v1 h => ?_
 refine Xad ?_
 iterate 3 refine kO hT hC ?_
 refine Vc.nil ?_
 refine kS h ?_ ?_ <;> intro b1 h
 refine kt b1 (Xac ?_)
 iterate 2 refine kO hT hC ?_
 refine kC hC [] Tryz.call109 h (fun _ => Xdy) fun q2 h => ?_
 refine kO hT hC ?_
 exact Vc.nil kM
 exact kf b1 (Xag kM)
 refine Xa3 (Xad ?_)
 iterate 2 refine kO hT hC ?_
 refine Vc.nil (Xaw (Xad ?_))
 iterate 2 refine kO hT hC ?_
 refine Vc.nil ?_
 refine kS h ?_ ?_ <;> intro b2 h
 refine kt b2 ?_
 refine Xc6 hm ?_
 iterate 3 refine kO hT hC ?_
 refine kC hC [] Tryz.call152 h (fun _ => Xnu) fun q3 h => ?_
 refine kQ hT hC h fun h => ?_
 iterate 2 refine kO hT hC ?_
 refine kC hC [] Tryz.call152 h (fun _ => Xnu) fun q4 h => ?_
 refine kQ hT hC h fun h => ?_
 iterate 3 refine kO hT hC ?_
 refine kC hC [] Tryz.call186 h (fun _ => Xu4) fun q5 h => ?_
 refine kQ hT hC h fun h => ?_
 refine kO hT hC ?_
 exact kD (Xah (Xik (Xa9 kR)))
 refine kf b2 (Xad ?_)
 iterate 2 refine kO hT hC ?_
 refine Vc.nil ?_
 refine kS h ?_ ?_ <;> intro b3 h
 refine kt b3 ?_
 refine Xc6 hm ?_
 iterate 3 refine kO hT hC ?_
 refine kC hC [] Tryz.call109 h (fun _ => Xdy) fun q6 h => ?_
 refine kQ hT hC h fun h => ?_
 iterate 3 refine kO hT hC ?_
 refine kC hC [] Tryz.call186 h (fun _ => Xu4) fun q7 h => ?_
 refine kQ hT hC h fun h => ?_
 refine kO hT hC ?_
 exact kD (Xah (Xik (Xa9 kR)))
 refine kf b3 (Xag (Xa2 (Xaf (Xad ?_))))
 iterate 2 refine kO hT hC ?_
 exact Vc.nil (Xah kR)
def Ygk (r : ByteArray) : AV := .sv (.str r)
def Ygj (r : ByteArray) : Xbj := []
theorem Yio {p0 p1 r} (h : Xot p0 p1 = some r) : AC Tryz.prog 91 [.sv (Xe1.sv p0), .agg [.sv (.bool p1.Key), .sv (.int .i64 p1.Qp), .sv (.bool p1.Large), .sv (.bool p1.Exact)]] [] (Ygk r) (Ygj r) := by
 refine Xae hT Tryz.func91 rfl fun C hC => ?_
 unfold Xot at h
 refine Xad ?_
 iterate 2 refine kO hT hC ?_
 refine kN ?_
 iterate 2 refine kO hT hC ?_
 refine Vc.nil (Xa3 (Xad ?_))
 refine kO hT hC ?_
 refine Vc.nil ?_
 refine kL [0,3,5,6] [48,112] [_,_,_,_] [_,_] ?_
 refine kX h (fun v3 => ([(6, .sv (.int .i64 v3.1))], [(112, some (.ints .u8 v3.2))])) (fun v6 => ([(0, .any), (3, .any), (6, .any)], [(112, some (.ints .u8 v6)), (48, none)])) (kW hC []) (fun v3 s h => ?_) fun v6 h => ?_
 unfold Xi4 at h
 refine Xa3 (Xad ?_)
 iterate 4 refine kO hT hC ?_
 refine Vc.nil ?_
 refine kS h ?_ ?_ <;> intro b3 h
 refine kt b3 (Xag (Xaf (Xa3 (Xaw ?_))))
 refine Xf3 hm ?_
 iterate 3 refine kO hT hC ?_
 refine kQ hT hC h fun h => ?_
 iterate 2 refine kO hT hC ?_
 refine kC hC [] Tryz.call153 h (fun _ => Yil) fun q7 h => ?_
 refine kT hT hC h fun h => ?_
 refine kO hT hC ?_
 refine kD (Xa2 (Xaf (Xac ?_)))
 iterate 3 refine kO hT hC ?_
 refine Vc.nil ?_
 obtain rfl := kj h
 exact Yk5 (kW hC [(112, 336)])
 exact kf b3 (Xa0 (Xbd ku))
 refine Xaf (Xad ?_)
 iterate 3 refine kO hT hC ?_
 exact Vc.nil (Xah kR)
def Xs5 (r : ((List ByteArray) × Xav × Seq)) : AV := .own 16
def Xs4 (r : ((List ByteArray) × Xav × Seq)) : Xbj := [(16, .row Xb9 r.1), (0, .box [.sv (.ints .u8 r.2.1.b_), .sv (.int .i64 r.2.1.i_), .sv (.int .i64 r.2.1.h_)]), (6, .ints .i64 r.2.2.Cols), (7, .ints .i64 r.2.2.Rows)]
theorem Xud {p0 p1 p2 p3 p4 p5 r} (h : Xfw p0 p1 p2 p3 p4 p5 = some r) : AC Tryz.prog 103 [.ptr 0 0, .agg [.sv (.int .i64 p1.Level), .sv (.int .i64 p1.Bits), .own 6, .own 7], .agg [.sv (.int .i64 p2.Qp), .sv (.bool p2.Large), .sv (.bool p2.Exact), .sv (.bool p2.Confined)], .sv (.int .i64 p3), .sv (.int .i64 p4), .sv (.bool p5)] [(0, .box [.sv (.ints .u8 p0.b_), .sv (.int .i64 p0.i_), .sv (.int .i64 p0.h_)]), (6, .ints .i64 p1.Cols), (7, .ints .i64 p1.Rows)] (Xs5 r) (Xs4 r) := by
 refine Xae hT Tryz.func103 rfl fun C hC => ?_
 unfold Xfw at h
 refine Xad ?_
 iterate 3 refine kO hT hC ?_
 refine kN ?_
 iterate 2 refine kO hT hC ?_
 refine Vc.nil (Xa3 (Xad ?_))
 iterate 2 refine kO hT hC ?_
 refine Vc.nil ?_
 refine kL [0,3,5,7,8,13,14] [0,6,7,112,128,336] [_,_,_,_,_,_,_] [_,_,_,_,_,_] ?_
 refine kX h (fun v13 => ([(14, .sv (.int .i64 v13.1))], [(0, some (.box [.sv (.ints .u8 v13.2.1), .sv (.int .i64 v13.2.2.1), .sv (.int .i64 v13.2.2.2.1)])), (336, some (.row Xb9 v13.2.2.2.2))])) (fun v26 => ([(0, .any), (3, .any), (5, .any), (7, .any), (8, .any), (14, .any)], [(0, some (.box [.sv (.ints .u8 v26.2.1), .sv (.int .i64 v26.2.2.1), .sv (.int .i64 v26.2.2.2)])), (336, some (.row Xb9 v26.1)), (112, none), (128, none)])) (kW hC []) (fun v13 s h => ?_) fun v26 h => ?_
 unfold Xfd at h
 refine Xa3 (Xad ?_)
 iterate 2 refine kO hT hC ?_
 refine kC hC [] Tryz.call106 h (fun _ => Xk3) fun q27 h => ?_
 refine kO hT hC ?_
 refine Vc.nil ?_
 refine kS h ?_ ?_ <;> intro b7 h
 refine kt b7 (Xag (Xaf (Xa3 (Xaw ?_))))
 refine kL [0,3,5,7,8,13,14] [0,6,7,112,128,336] [_,_,_,_,_,_,_] [_,_,_,_,_,_] ?_
 refine kA h (fun v28 => ([(15, .ptr 1212 0)], [(0, some (.box [.sv (.ints .u8 v28.1), .sv (.int .i64 v28.2.1), .sv (.int .i64 v28.2.2.1)])), (1212, some (.box [.sv (.bool v28.2.2.2.1), .sv (.int .i64 v28.2.2.2.2), .sv (.bool p2.Large), .sv (.bool p2.Exact)]))])) (fun v28 h => ?_) fun v28 h => ?_
 refine Xf3 hm ?_
 iterate 2 refine kO hT hC ?_
 refine kS h ?_ ?_ <;> intro b8 h
 iterate 2 refine kF hC b8 ?_
 refine kP hC true b8 ?_
 refine kO hT hC ?_
 refine kC hC [(0, 0)] Tryz.call40 h (fun _ => Xat) fun q29 h => ?_
 iterate 7 refine kO hT hC ?_
 refine kD ?_
 obtain rfl := kj h
 exact Xjw (kW hC [(1212, 240)])
 refine kI hT hC b8 ?_
 refine kE hC b8 [(0, 0)] Tryz.call56 h (fun _ => Xch) fun q30 h => ?_
 refine kP hC false b8 ?_
 refine kO hT hC ?_
 refine kC hC [(0, 0)] Tryz.call40 h (fun _ => Xat) fun q31 h => ?_
 iterate 7 refine kO hT hC ?_
 refine kD ?_
 obtain rfl := kj h
 exact Xjw (kW hC [(1212, 240)])
 refine Xad ?_
 iterate 7 refine kO hT hC ?_
 refine kC hC [] Tryz.call90 h (fun _ => Yfw) fun q32 h => ?_
 iterate 5 refine kO hT hC ?_
 refine kN ?_
 refine kO hT hC ?_
 refine Vc.nil ?_
 refine kL [0,3,5,7,8,13,14,15,16,18] [0,6,7,112,128,336,1212] [_,_,_,_,_,_,_,_,_,_] [_,_,_,_,_,_,_] ?_
 refine kA h (fun v33 => ([(18, .sv (.int .i64 v33))], [])) (fun v33 h => ?_) fun v33 h => ?_
 refine Xad ?_
 iterate 2 refine kO hT hC ?_
 refine Vc.nil ?_
 refine kS h ?_ ?_ <;> intro b9 h
 refine kt b9 (Xac ?_)
 refine kO hT hC ?_
 exact Vc.nil kM
 exact kf b9 (Xag kM)
 refine Xc6 hm ?_
 iterate 5 refine kO hT hC ?_
 refine kC hC [] Tryz.call158 h (fun _ => Xv3) fun q34 h => ?_
 refine kO hT hC ?_
 refine kC hC [(16, 992), (0, 0)] Tryz.call157 h (fun _ => Xx9) fun q35 h => ?_
 refine kO hT hC ?_
 refine kC hC [] Tryz.call91 h (fun _ => Yio) fun q36 h => ?_
 refine kQ hT hC h fun h => ?_
 refine kC hC [] Tryz.call15 h (fun _ => Xmh) fun q37 h => ?_
 iterate 5 refine kO hT hC ?_
 refine kD (Xac ?_)
 iterate 3 refine kO hT hC ?_
 obtain ⟨hq, h⟩ := Xa7 h
 refine Ygp hT hC rfl rfl rfl rfl ⟨fun _ _ => rfl, by rw [Xc7]; exact hq⟩ ?_
 rw [Xc7]
 refine kO hT hC ?_
 refine Vc.nil (Xa2 (Xaf (Xac ?_)))
 iterate 3 refine kO hT hC ?_
 refine Vc.nil ?_
 obtain rfl := kj h
 exact Yk5 (kW hC [(336, 1152)])
 exact kf b7 (Xa0 (Xbd ku))
 refine Xaf (Xad ?_)
 iterate 2 refine kO hT hC ?_
 refine Vc.nil (Xah ?_)
 obtain rfl := kj h
 exact Xd1 (τ := ⟨[(12, .own 16)], [(16, some (.row Xb9 v26.1)), (0, some (.box [.sv (.ints .u8 v26.2.1), .sv (.int .i64 v26.2.2.1), .sv (.int .i64 v26.2.2.2)])), (6, some (.ints .i64 p1.Cols)), (7, some (.ints .i64 p1.Rows))]⟩) (kW hC [(16, 336)]) rfl ⟨rfl, rfl, rfl, rfl, trivial⟩
def Xz0 (r : ((List ByteArray) × Xav)) : AV := .own 16
def Xzz (r : ((List ByteArray) × Xav)) : Xbj := [(16, .row Xb9 r.1), (0, .box [.sv (.ints .u8 r.2.b_), .sv (.int .i64 r.2.i_), .sv (.int .i64 r.2.h_)])]
theorem Yct {p0 r} (h : Xlb p0 = some r) : AC Tryz.prog 37 [.ptr 0 0] [(0, .box [.sv (.ints .u8 p0.b_), .sv (.int .i64 p0.i_), .sv (.int .i64 p0.h_)])] (Xz0 r) (Xzz r) := by
 refine Xae hT Tryz.func37 rfl fun C hC => ?_
 unfold Xlb at h
 refine Xad ?_
 refine kO hT hC ?_
 refine kN ?_
 iterate 5 refine kO hT hC ?_
 refine Vc.nil ?_
 refine kL [0,3] [0,48,192,208] [_,_] [_,_,_,_] ?_
 refine kA h (fun v1 => ([], [(0, some (.box [.sv (.ints .u8 v1.1), .sv (.int .i64 v1.2.1), .sv (.int .i64 v1.2.2.1)])), (192, some (.ints .i64 v1.2.2.2))])) (fun v1 h => ?_) fun v1 h => ?_
 refine Xad ?_
 refine kO hT hC ?_
 refine kC hC [(0, 0)] Tryz.call56 h (fun _ => Xch) fun q2 h => ?_
 refine Vc.nil ?_
 refine kS h ?_ ?_ <;> intro b1 h
 refine kt b1 (Xac ?_)
 refine kO hT hC ?_
 refine kC hC [(0, 0)] Tryz.call40 h (fun _ => Xat) fun q3 h => ?_
 iterate 4 refine kO hT hC ?_
 refine Vc.nil ?_
 obtain rfl := kj h
 exact Xjw (kW hC [(192, 320)])
 exact kf b1 (Xag kM)
 refine kL [0,3] [0,48,192,208] [_,_] [_,_,_,_] ?_
 refine kA h (fun v4 => ([], [(0, some (.box [.sv (.ints .u8 v4.1), .sv (.int .i64 v4.2.1), .sv (.int .i64 v4.2.2.1)])), (208, some (.ints .i64 v4.2.2.2))])) (fun v4 h => ?_) fun v4 h => ?_
 refine Xad ?_
 refine kO hT hC ?_
 refine kC hC [(0, 0)] Tryz.call56 h (fun _ => Xch) fun q5 h => ?_
 refine Vc.nil ?_
 refine kS h ?_ ?_ <;> intro b2 h
 refine kt b2 (Xac ?_)
 iterate 3 refine kO hT hC ?_
 refine Vc.nil ?_
 obtain rfl := kj h
 exact Xjw (kW hC [(208, 384)])
 exact kf b2 (Xag kM)
 refine Xad ?_
 refine kO hT hC ?_
 refine kC hC [(0, 0)] Tryz.call44 h (fun _ => Xoo) fun q6 h => ?_
 iterate 2 refine kO hT hC ?_
 refine kN ?_
 refine kO hT hC ?_
 refine kC hC [] Tryz.call47 h (fun _ => Xu0) fun q7 h => ?_
 refine kC hC [] Tryz.call15 h (fun _ => Xmh) fun q8 h => ?_
 iterate 5 refine kO hT hC ?_
 refine kN ?_
 refine kO hT hC ?_
 refine kC hC [] Tryz.call102 h (fun _ => Yig) fun q9 h => ?_
 refine kC hC [] Tryz.call15 h (fun _ => Xmh) fun q10 h => ?_
 iterate 5 refine kO hT hC ?_
 refine kN ?_
 iterate 4 refine kO hT hC ?_
 refine kN ?_
 refine kO hT hC ?_
 refine kC hC [(0, 0)] Tryz.call40 h (fun _ => Xat) fun q11 h => ?_
 refine kO hT hC ?_
 refine Vc.nil (Xa3 (Xad ?_))
 refine kO hT hC ?_
 refine Vc.nil ?_
 refine kL [0,3,4,9,10,11] [0,48,64,192,208,672] [_,_,_,_,_,_] [_,_,_,_,_,_] ?_
 refine kX h (fun v16 => ([(10, .sv (.int .i64 v16.1)), (11, .sv (.int .i64 v16.2.1))], [(0, some (.box [.sv (.ints .u8 v16.2.2.1), .sv (.int .i64 v16.2.2.2.1), .sv (.int .i64 v16.2.2.2.2.1)])), (192, some (.ints .i64 v16.2.2.2.2.2.2.1)), (208, some (.ints .i64 v16.2.2.2.2.2.2.2)), (672, some (.row Xb9 v16.2.2.2.2.2.1))])) (fun v21 => ([(0, .any), (3, .any), (4, .any), (10, .any), (11, .any)], [(0, some (.box [.sv (.ints .u8 v21.2.1), .sv (.int .i64 v21.2.2.1), .sv (.int .i64 v21.2.2.2)])), (672, some (.row Xb9 v21.1)), (48, none), (64, none), (192, none), (208, none)])) (kW hC []) (fun v16 s h => ?_) fun v21 h => ?_
 unfold Xgp at h
 refine Xa3 (Xad ?_)
 iterate 2 refine kO hT hC ?_
 refine kC hC [(0, 0)] Tryz.call40 h (fun _ => Xat) fun q22 h => ?_
 iterate 2 refine kO hT hC ?_
 refine Vc.nil ?_
 refine kS h ?_ ?_ <;> intro b5 h
 refine kt b5 (Xag (Xaf (Xa3 (Xaw (Xad ?_)))))
 iterate 7 refine kO hT hC ?_
 refine kC hC [(16, 944), (0, 0), (6, 192), (7, 208)] Tryz.call103 h (fun _ => Xud) fun q24 h => ?_
 obtain ⟨hq, h⟩ := Xa7 h
 refine Ygp hT hC rfl rfl rfl rfl ⟨fun _ _ => rfl, by rw [Xc7]; exact hq⟩ ?_
 rw [Xc7]
 refine kO hT hC ?_
 refine Vc.nil (Xac ?_)
 iterate 2 refine kO hT hC ?_
 refine kQ hT hC h fun h => ?_
 refine kO hT hC ?_
 refine Vc.nil (Xa2 (Xaf (Xac ?_)))
 iterate 3 refine kO hT hC ?_
 refine Vc.nil ?_
 obtain rfl := kj h
 exact Yk5 (kW hC [(672, 960)])
 exact kf b5 (Xa0 (Xbd ku))
 refine Xaf (Xad ?_)
 iterate 2 refine kO hT hC ?_
 refine Vc.nil (Xah ?_)
 obtain rfl := kj h
 exact Xd1 (τ := ⟨[(2, .own 16)], [(16, some (.row Xb9 v21.1)), (0, some (.box [.sv (.ints .u8 v21.2.1), .sv (.int .i64 v21.2.2.1), .sv (.int .i64 v21.2.2.2)]))]⟩) (kW hC [(16, 672)]) rfl ⟨rfl, rfl, trivial⟩
def Xv0 (r : (List ByteArray)) : AV := .own 16
def Xvz (r : (List ByteArray)) : Xbj := [(16, .row Xb9 r)]
theorem Xxw {p0 r} (h : Xho p0 = some r) : AC Tryz.prog 9 [.sv (.ints .u8 p0)] [] (Xv0 r) (Xvz r) := by
 refine Xae hT Tryz.func9 rfl fun C hC => ?_
 unfold Xho at h
 refine Xad ?_
 refine kO hT hC ?_
 refine kN ?_
 refine kO hT hC ?_
 refine kC hC [(16, 64)] Tryz.call38 h (fun _ => Xpo) fun q1 h => ?_
 refine kC hC [(16, 80), (0, 64)] Tryz.call37 h (fun _ => Yct) fun q2 h => ?_
 refine kO hT hC ?_
 refine Vc.nil (Xah ?_)
 obtain rfl := kj h
 exact Xd1 (τ := ⟨[(2, .own 16)], [(16, some (.row Xb9 q2.1))]⟩) (kW hC [(16, 80)]) rfl ⟨rfl, trivial⟩
def Xvy (r : (List Int)) : AV := .own 16
def Xvx (r : (List Int)) : Xbj := [(16, .ints .i64 r)]
theorem Xxu {p0 r} (h : Xhn p0 = some r) : AC Tryz.prog 10 [.sv (.ints .u8 p0)] [] (Xvy r) (Xvx r) := by
 refine Xae hT Tryz.func10 rfl fun C hC => ?_
 unfold Xhn at h
 refine Xad ?_
 refine kO hT hC ?_
 refine kN ?_
 refine kO hT hC ?_
 refine kC hC [(16, 112)] Tryz.call38 h (fun _ => Xpo) fun q1 h => ?_
 refine kO hT hC ?_
 refine kN ?_
 refine kO hT hC ?_
 refine kC hC [(0, 112)] Tryz.call39 h (fun _ => Xfp) fun q2 h => ?_
 refine kN ?_
 iterate 2 refine kO hT hC ?_
 refine Vc.nil (Xa3 (Xad ?_))
 refine kO hT hC ?_
 refine Vc.nil ?_
 refine kL [3,4,5] [112,160] [_,_,_] [_,_] ?_
 refine kX h (fun v5 => ([(5, .sv (.int .i64 v5.1))], [(112, some (.box [.sv (.ints .u8 v5.2.1), .sv (.int .i64 v5.2.2.1), .sv (.int .i64 v5.2.2.2.1)])), (160, some (.ints .i64 v5.2.2.2.2))])) (fun v8 => ([(3, .any), (5, .any)], [(160, some (.ints .i64 v8)), (112, none)])) (kW hC []) (fun v5 s h => ?_) fun v8 h => ?_
 unfold Xg5 at h
 refine Xa3 (Xad ?_)
 iterate 2 refine kO hT hC ?_
 refine Vc.nil ?_
 refine kS h ?_ ?_ <;> intro b3 h
 refine kt b3 (Xag (Xaf (Xa3 (Xaw (Xac ?_)))))
 iterate 2 refine kO hT hC ?_
 refine kC hC [(0, 112)] Tryz.call40 h (fun _ => Xat) fun q9 h => ?_
 refine kO hT hC ?_
 refine kT hT hC h fun h => ?_
 refine kO hT hC ?_
 refine Vc.nil (Xa2 (Xaf (Xac ?_)))
 iterate 3 refine kO hT hC ?_
 refine Vc.nil ?_
 obtain rfl := kj h
 exact Yk5 (kW hC [(160, 304)])
 exact kf b3 (Xa0 (Xbd ku))
 refine Xaf (Xad ?_)
 iterate 2 refine kO hT hC ?_
 refine Vc.nil (Xah ?_)
 obtain rfl := kj h
 exact Xd1 (τ := ⟨[(2, .own 16)], [(16, some (.ints .i64 v8))]⟩) (kW hC [(16, 160)]) rfl ⟨rfl, trivial⟩
def Ydv (r : Xam) : AV := .agg [.sv (.bool r.HasSeq), .sv (.bool r.HasPar), .sv (.bool r.HasRef), .sv (.int .i64 r.Seq.Level), .sv (.int .i64 r.Seq.Bits), .sv (.ints .i64 r.Seq.Cols), .sv (.ints .i64 r.Seq.Rows), .sv (.int .i64 r.Par.Qp), .sv (.bool r.Par.Large), .sv (.bool r.Par.Exact), .sv (.bool r.Par.Confined), .sv (.int .i64 r.Frame), .sv (.int .i64 r.Got), .sv (.int .i64 r.Now.Wide), .sv (.int .i64 r.Now.High), .sv (.str r.Now.Dots), .sv (.int .i64 r.Ref.Wide), .sv (.int .i64 r.Ref.High), .sv (.str r.Ref.Dots)]
def Ydu (r : Xam) : Xbj := []
theorem Xl9 {r} (h : Xji = some r) : AC Tryz.prog 12 [] [] (Ydv r) (Ydu r) := by
 refine Xae hT Tryz.func12 rfl fun C hC => ?_
 unfold Xji at h
 refine Xad ?_
 refine kO hT hC ?_
 refine kN ?_
 iterate 2 refine kO hT hC ?_
 refine Vc.nil (Xah ?_)
 obtain rfl := kj h
 exact Xd1 (τ := ⟨[(0, .ptr 2000000 0)], [(2000000, some (.box [.sv (.bool false), .sv (.bool false), .sv (.bool false), .sv (.int .i64 0), .sv (.int .i64 0), .sv (.ints .i64 []), .sv (.ints .i64 []), .sv (.int .i64 0), .sv (.bool false), .sv (.bool false), .sv (.bool false), .sv (.int .i64 (-1)), .sv (.int .i64 0), .sv (.int .i64 0), .sv (.int .i64 0), .sv (.str ⟨#[]⟩), .sv (.int .i64 0), .sv (.int .i64 0), .sv (.str ⟨#[]⟩)]))]⟩) (kW hC [(2000000, 0)]) rfl trivial
def Xy4 (r : (List Int)) : AV := .own 16
def Xy3 (r : (List Int)) : Xbj := [(16, .ints .i64 r)]
theorem Xnd {p0 r} (h : Xey p0 = some r) : AC Tryz.prog 135 [.sv (.ints .i64 p0)] [] (Xy4 r) (Xy3 r) := by
 refine Xae hT Tryz.func135 rfl fun C hC => ?_
 unfold Xey at h
 refine Xad ?_
 refine kO hT hC ?_
 refine kN ?_
 iterate 2 refine kO hT hC ?_
 refine kT hT hC h fun h => ?_
 refine kO hT hC ?_
 refine Vc.nil (Xah ?_)
 obtain rfl := kj h
 exact Xd1 (τ := ⟨[(2, .own 16)], [(16, some (.ints .i64 (([] : List Int) ++ p0)))]⟩) (kW hC [(16, 80)]) rfl ⟨rfl, trivial⟩
def Ybg (r : Seq) : AV := .agg [.sv (.int .i64 r.Level), .sv (.int .i64 r.Bits), .own 16, .own 17]
def Ybf (r : Seq) : Xbj := [(16, .ints .i64 r.Cols), (17, .ints .i64 r.Rows)]
theorem Yel {p0 r} (h : Xms p0 = some r) : AC Tryz.prog 75 [.agg [.sv (.int .i64 p0.Level), .sv (.int .i64 p0.Bits), .sv (.ints .i64 p0.Cols), .sv (.ints .i64 p0.Rows)]] [] (Ybg r) (Ybf r) := by
 refine Xae hT Tryz.func75 rfl fun C hC => ?_
 unfold Xms at h
 refine Xad ?_
 iterate 2 refine kO hT hC ?_
 refine kN ?_
 iterate 2 refine kO hT hC ?_
 refine kC hC [(16, 80)] Tryz.call135 h (fun _ => Xnd) fun q1 h => ?_
 iterate 2 refine kO hT hC ?_
 refine kN ?_
 iterate 2 refine kO hT hC ?_
 refine kC hC [(16, 144)] Tryz.call135 h (fun _ => Xnd) fun q2 h => ?_
 iterate 2 refine kO hT hC ?_
 refine kN ?_
 iterate 2 refine kO hT hC ?_
 refine Vc.nil (Xah ?_)
 obtain rfl := kj h
 exact Xd1 (τ := ⟨[(2, .ptr 2000000 0)], [(16, some (.ints .i64 q1)), (17, some (.ints .i64 q2)), (2000000, some (.box [.sv (.int .i64 p0.Level), .sv (.int .i64 p0.Bits), .own 16, .own 17]))]⟩) (kW hC [(16, 80), (17, 144), (2000000, 32)]) rfl ⟨rfl, rfl, trivial⟩
def Xt0 (r : Xam) : AV := .agg [.sv (.bool r.HasSeq), .sv (.bool r.HasPar), .sv (.bool r.HasRef), .sv (.int .i64 r.Seq.Level), .sv (.int .i64 r.Seq.Bits), .own 16, .own 17, .sv (.int .i64 r.Par.Qp), .sv (.bool r.Par.Large), .sv (.bool r.Par.Exact), .sv (.bool r.Par.Confined), .sv (.int .i64 r.Frame), .sv (.int .i64 r.Got), .sv (.int .i64 r.Now.Wide), .sv (.int .i64 r.Now.High), .sv (.str r.Now.Dots), .sv (.int .i64 r.Ref.Wide), .sv (.int .i64 r.Ref.High), .sv (.str r.Ref.Dots)]
def Xtz (r : Xam) : Xbj := [(16, .ints .i64 r.Seq.Cols), (17, .ints .i64 r.Seq.Rows)]
theorem Xn7 {p0 r} (h : Xcw p0 = some r) : AC Tryz.prog 41 [.agg [.sv (.bool p0.HasSeq), .sv (.bool p0.HasPar), .sv (.bool p0.HasRef), .sv (.int .i64 p0.Seq.Level), .sv (.int .i64 p0.Seq.Bits), .sv (.ints .i64 p0.Seq.Cols), .sv (.ints .i64 p0.Seq.Rows), .sv (.int .i64 p0.Par.Qp), .sv (.bool p0.Par.Large), .sv (.bool p0.Par.Exact), .sv (.bool p0.Par.Confined), .sv (.int .i64 p0.Frame), .sv (.int .i64 p0.Got), .sv (.int .i64 p0.Now.Wide), .sv (.int .i64 p0.Now.High), .sv (.str p0.Now.Dots), .sv (.int .i64 p0.Ref.Wide), .sv (.int .i64 p0.Ref.High), .sv (.str p0.Ref.Dots)]] [] (Xt0 r) (Xtz r) := by
 refine Xae hT Tryz.func41 rfl fun C hC => ?_
 unfold Xcw at h
 refine Xad ?_
 iterate 2 refine kO hT hC ?_
 refine kN ?_
 iterate 2 refine kO hT hC ?_
 refine kC hC [(16, 80), (17, 81)] Tryz.call75 h (fun _ => Yel) fun q1 h => ?_
 iterate 2 refine kO hT hC ?_
 refine kN ?_
 iterate 2 refine kO hT hC ?_
 refine Vc.nil (Xah ?_)
 obtain rfl := kj h
 exact Xd1 (τ := ⟨[(2, .ptr 2000000 0)], [(16, some (.ints .i64 q1.Cols)), (17, some (.ints .i64 q1.Rows)), (2000000, some (.box [.sv (.bool p0.HasSeq), .sv (.bool p0.HasPar), .sv (.bool p0.HasRef), .sv (.int .i64 q1.Level), .sv (.int .i64 q1.Bits), .own 16, .own 17, .sv (.int .i64 p0.Par.Qp), .sv (.bool p0.Par.Large), .sv (.bool p0.Par.Exact), .sv (.bool p0.Par.Confined), .sv (.int .i64 p0.Frame), .sv (.int .i64 p0.Got), .sv (.int .i64 p0.Now.Wide), .sv (.int .i64 p0.Now.High), .sv (.str p0.Now.Dots), .sv (.int .i64 p0.Ref.Wide), .sv (.int .i64 p0.Ref.High), .sv (.str p0.Ref.Dots)]))]⟩) (kW hC [(16, 80), (17, 81), (2000000, 32)]) rfl ⟨rfl, rfl, trivial⟩
def Ybi (r : Bool) : AV := .sv (.bool r)
def Ybh (r : Bool) : Xbj := []
theorem Yeq {p0 r} (h : Xmt p0 = some r) : AC Tryz.prog 70 [.agg [.sv (.int .i64 p0.Level), .sv (.int .i64 p0.Bits), .sv (.ints .i64 p0.Cols), .sv (.ints .i64 p0.Rows)]] [] (Ybi r) (Ybh r) := by
 refine Xae hT Tryz.func70 rfl fun C hC => ?_
 unfold Xmt at h
 refine Xad ?_
 iterate 2 refine kO hT hC ?_
 refine Vc.nil ?_
 refine kL [1,2] [16] [_,_] [_] ?_
 refine kA h (fun v1 => ([(2, .sv (.bool v1)), (1, .any)], [(16, none)])) (fun v1 h => ?_) fun v1 h => ?_
 refine Xac ?_
 iterate 4 refine kO hT hC ?_
 refine kS h ?_ ?_ <;> intro b1 h
 iterate 3 refine kI hT hC b1 ?_
 refine kP hC true b1 ?_
 refine kO hT hC ?_
 refine kS h ?_ ?_ <;> intro b2 h
 iterate 4 refine kI hT hC b2 ?_
 refine kP hC true b2 ?_
 refine kO hT hC ?_
 refine kS h ?_ ?_ <;> intro b3 h
 iterate 4 refine kI hT hC b3 ?_
 refine kP hC true b3 ?_
 refine kO hT hC ?_
 exact Vc.nil kM
 iterate 4 refine kF hC b3 ?_
 refine kP hC false b3 ?_
 refine kO hT hC ?_
 exact Vc.nil kM
 iterate 4 refine kF hC b2 ?_
 refine kP hC false b2 ?_
 refine kO hT hC ?_
 iterate 4 refine kF hC rfl ?_
 iterate 2 refine kO hT hC ?_
 exact Vc.nil kM
 iterate 3 refine kF hC b1 ?_
 refine kP hC false b1 ?_
 refine kO hT hC ?_
 iterate 4 refine kF hC rfl ?_
 iterate 2 refine kO hT hC ?_
 iterate 4 refine kF hC rfl ?_
 iterate 2 refine kO hT hC ?_
 exact Vc.nil kM
 exact Xah kR
def Ye2 (r : Bool) : AV := .sv (.bool r)
def Ye1 (r : Bool) : Xbj := []
theorem Xak {p0 p1 p2 r} (h : Xan p0 p1 p2 = some r) : AC Tryz.prog 69 [.sv (.int .i64 p0), .sv (.int .i64 p1), .sv (.int .i64 p2)] [] (Ye2 r) (Ye1 r) := by
 refine Xae hT Tryz.func69 rfl fun C hC => ?_
 unfold Xan at h
 refine Xad ?_
 refine kO hT hC ?_
 refine Vc.nil ?_
 refine kL [0,1,2,6] [] [_,_,_,_] [] ?_
 refine kA h (fun v1 => ([(6, .sv (.bool v1)), (0, .any), (1, .any), (2, .any)], [])) (fun v1 h => ?_) fun v1 h => ?_
 refine Xac ?_
 iterate 4 refine kO hT hC ?_
 refine kS h ?_ ?_ <;> intro b1 h
 iterate 3 refine kI hT hC b1 ?_
 refine kP hC true b1 ?_
 refine kO hT hC ?_
 exact Vc.nil kM
 iterate 3 refine kF hC b1 ?_
 refine kP hC false b1 ?_
 refine kO hT hC ?_
 exact Vc.nil kM
 exact Xah kR
def Yhp (r : Int) : AV := .sv (.int .i64 r)
def Yho (r : Int) : Xbj := []
theorem Xez {p0 r} (h : Xcm p0 = some r) : AC Tryz.prog 140 [.sv (.ints .i64 p0)] [] (Yhp r) (Yho r) := by
 refine Xae hT Tryz.func140 rfl fun C hC => ?_
 unfold Xcm at h
 refine Xad ?_
 refine kO hT hC ?_
 refine kN ?_
 refine kO hT hC ?_
 refine Vc.nil (Xa3 (Xad ?_))
 iterate 3 refine kO hT hC ?_
 refine Vc.nil ?_
 refine kL [3,6,7,8] [] [_,_,_,_] [] ?_
 refine kX h (fun v2 => ([(3, .sv (.int .i64 v2.1)), (8, .sv (.int .i64 v2.2))], [])) (fun v4 => ([(3, .sv (.int .i64 v4)), (6, .any), (7, .any), (8, .any)], [])) (kW hC []) (fun v2 s h => ?_) fun v4 h => ?_
 unfold Xdw at h
 refine Xad ?_
 refine kO hT hC ?_
 refine Vc.nil (Xa3 ?_)
 refine kS h ?_ ?_ <;> intro b3 h
 refine kt b3 (Xag (Xaf (Xa3 (Xaw (Xad ?_)))))
 refine kQ hT hC h fun h => ?_
 iterate 2 refine kO hT hC ?_
 refine Vc.nil (Xac ?_)
 iterate 4 refine kO hT hC ?_
 refine Vc.nil (Xa2 (Xaf (Xac ?_)))
 iterate 2 refine kO hT hC ?_
 exact Vc.nil kG
 exact kf b3 (Xa0 (Xbd ku))
 refine Xaf (Xad ?_)
 iterate 2 refine kO hT hC ?_
 exact Vc.nil (Xah kR)
def Xki (r : Int) : AV := .sv (.int .i64 r)
def Xkh (r : Int) : Xbj := []
theorem Xyz {p0 r} (h : Xir p0 = some r) : AC Tryz.prog 132 [.agg [.sv (.int .i64 p0.Level), .sv (.int .i64 p0.Bits), .sv (.ints .i64 p0.Cols), .sv (.ints .i64 p0.Rows)]] [] (Xki r) (Xkh r) := by
 refine Xae hT Tryz.func132 rfl fun C hC => ?_
 unfold Xir at h
 refine Xad ?_
 iterate 2 refine kO hT hC ?_
 refine Vc.nil (Xa3 (Xad ?_))
 iterate 7 refine kO hT hC ?_
 refine Vc.nil ?_
 refine kL [1,11,12,13] [16,176] [_,_,_,_] [_,_] ?_
 obtain ⟨o32, hl, h⟩ := Xb4 h
 refine Xoe (fun v11 => ([(13, .sv (.int .i64 v11))], [])) (fun v22 => ([(11, .any), (12, .any), (13, .any)], [(176, none)])) (fun r => Xye C T Tryz.f132.results.toList (Xki r) (Xkh r)) hl ?_ ?_ ?_ ?_
 apply Xle hC []
 exact co
 rfl
 decide
 rfl
 intro v11 s hs
 have h := hs
 unfold Xdm at h
 refine Xad ?_
 refine kO hT hC ?_
 refine Vc.nil (Xa3 ?_)
 refine kS h ?_ ?_ <;> intro b17 h
 refine kt b17 (Xag (Xaf (Xa3 (Xaw (Xad ?_)))))
 iterate 2 refine kQ hT hC h fun h => ?_
 refine kO hT hC ?_
 refine Vc.nil (Xa3 (Xad ?_))
 iterate 2 refine kO hT hC ?_
 refine kC hC [] Tryz.call69 h (fun _ => Xak) fun q23 h => ?_
 refine kO hT hC ?_
 refine Vc.nil ?_
 refine kS h ?_ ?_ <;> intro b18 h
 refine kt b18 (Xad ?_)
 refine kO hT hC ?_
 refine Vc.nil (Xah (Xa9 (Xik (Xa9 ?_))))
 obtain rfl := kj h
 refine Yb0 (Yby ?_)
 exact Xd1 (Xi6.refl _) rfl trivial
 refine kf b18 (Xag (Xaf (Xad ?_)))
 iterate 3 refine kO hT hC ?_
 refine Vc.nil ?_
 refine kL [1,11,12,13,21,22,23] [16,176] [_,_,_,_,_,_,_] [_,_] ?_
 obtain ⟨o31, hl, h⟩ := Xb4 h
 refine Xoe (fun v26 => ([(23, .sv (.int .i64 v26))], [])) (fun v29 => ([(21, .any), (22, .any), (23, .any)], [])) (fun r => Xye C T Tryz.f132.results.toList (Xki r) (Xkh r)) hl ?_ ?_ ?_ ?_
 apply Xle hC []
 exact co
 rfl
 decide
 rfl
 intro v26 s hs
 have h := hs
 unfold Xcr at h
 refine Xad ?_
 refine kO hT hC ?_
 refine Vc.nil (Xa3 ?_)
 refine kS h ?_ ?_ <;> intro b23 h
 refine kt b23 (Xag (Xaf (Xa3 (Xaw (Xad ?_)))))
 refine kQ hT hC h fun h => ?_
 iterate 2 refine kO hT hC ?_
 refine kN ?_
 refine kO hT hC ?_
 refine kC hC [] Tryz.call69 h (fun _ => Xak) fun q30 h => ?_
 refine kO hT hC ?_
 refine Vc.nil ?_
 refine kS h ?_ ?_ <;> intro b24 h
 refine kt b24 (Xad ?_)
 refine kO hT hC ?_
 refine Vc.nil (Xah (Xik (Xa9 ?_)))
 obtain rfl := kj h
 refine Yb0 (Yby ?_)
 exact Xd1 (Xi6.refl _) rfl trivial
 refine kf b24 (Xag (Xa2 (Xaf (Xac ?_))))
 iterate 2 refine kO hT hC ?_
 exact Vc.nil kG
 exact kf b23 (Xa0 (Xbd kb))
 intro v29 e
 subst e
 refine Xa2 (Xaf (Xac ?_))
 iterate 2 refine kO hT hC ?_
 exact Vc.nil kG
 intro r' σ' e hE
 subst e
 obtain rfl := kj h
 refine Xik (Xa9 (Yb0 (Yby ?_)))
 exact hE
 exact kf b17 (Xa0 (Xbd kb))
 intro v22 e
 subst e
 refine Xaf ?_
 refine Xc6 hm ?_
 iterate 2 refine kO hT hC ?_
 refine kC hC [] Tryz.call140 h (fun _ => Xez) fun q33 h => ?_
 iterate 2 refine kO hT hC ?_
 refine kC hC [] Tryz.call140 h (fun _ => Xez) fun q34 h => ?_
 iterate 2 refine kO hT hC ?_
 exact kD (Xah kR)
 intro r' σ' e hE
 subst e
 obtain rfl := kj h
 refine Xa9 ?_
 exact hE
def Xsc (r : Int) : AV := .sv (.int .i64 r)
def Xsb (r : Int) : Xbj := []
theorem Xtv {p0 r} (h : Xfg p0 = some r) : AC Tryz.prog 133 [.sv (.int .i64 p0)] [] (Xsc r) (Xsb r) := by
 refine Xae hT Tryz.func133 rfl fun C hC => ?_
 unfold Xfg at h
 refine Xad ?_
 refine kO hT hC ?_
 refine Vc.nil (Xa3 (Xad ?_))
 refine kO hT hC ?_
 refine kC hC [] Tryz.call69 h (fun _ => Xak) fun q1 h => ?_
 refine kO hT hC ?_
 refine Vc.nil ?_
 refine kS h ?_ ?_ <;> intro b1 h
 refine kt b1 (Xad ?_)
 refine kO hT hC ?_
 exact Vc.nil (Xah (Xa9 kR))
 refine kf b1 (Xag (Xaf (Xad ?_)))
 iterate 3 refine kO hT hC ?_
 iterate 2 refine kQ hT hC h fun h => ?_
 refine kO hT hC ?_
 exact Vc.nil (Xah kR)
def Yhf (r : Bool) : AV := .sv (.bool r)
def Yhe (r : Bool) : Xbj := []
theorem Xh3 {p0 r} (h : Xgt p0 = some r) : AC Tryz.prog 71 [.agg [.sv (.int .i64 p0.Level), .sv (.int .i64 p0.Bits), .sv (.ints .i64 p0.Cols), .sv (.ints .i64 p0.Rows)]] [] (Yhf r) (Yhe r) := by
 refine Xae hT Tryz.func71 rfl fun C hC => ?_
 unfold Xgt at h
 refine Xad ?_
 iterate 2 refine kO hT hC ?_
 refine Vc.nil ?_
 refine kL [1,2] [16] [_,_] [_] ?_
 refine kA h (fun v1 => ([(2, .sv (.bool v1)), (1, .any)], [(16, none)])) (fun v1 h => ?_) fun v1 h => ?_
 refine Xf3 hm ?_
 refine kO hT hC ?_
 refine kC hC [] Tryz.call132 h (fun _ => Xyz) fun q2 h => ?_
 iterate 2 refine kO hT hC ?_
 refine kC hC [] Tryz.call133 h (fun _ => Xtv) fun q3 h => ?_
 refine kC hC [] Tryz.call69 h (fun _ => Xak) fun q4 h => ?_
 refine kO hT hC ?_
 refine kS h ?_ ?_ <;> intro b1 h
 iterate 2 refine kI hT hC b1 ?_
 refine kE hC b1 [] Tryz.call69 h (fun _ => Xak) fun q5 h => ?_
 refine kP hC true b1 ?_
 refine kO hT hC ?_
 exact kD kM
 iterate 3 refine kF hC b1 ?_
 refine kP hC false b1 ?_
 refine kO hT hC ?_
 exact kD kM
 exact Xah kR
def Yha (r : Bool) : AV := .sv (.bool r)
def Yg9 (r : Bool) : Xbj := []
theorem Xno {p0 r} (h : Xjq p0 = some r) : AC Tryz.prog 67 [.agg [.sv (.int .i64 p0.Qp), .sv (.bool p0.Large), .sv (.bool p0.Exact), .sv (.bool p0.Confined)]] [] (Yha r) (Yg9 r) := by
 refine Xae hT Tryz.func67 rfl fun C hC => ?_
 unfold Xjq at h
 refine Xad ?_
 iterate 2 refine kO hT hC ?_
 refine Vc.nil ?_
 refine kL [1,2] [16] [_,_] [_] ?_
 refine kA h (fun v1 => ([(2, .sv (.bool v1)), (1, .any)], [(16, none)])) (fun v1 h => ?_) fun v1 h => ?_
 refine Xac ?_
 iterate 2 refine kO hT hC ?_
 refine kC hC [] Tryz.call69 h (fun _ => Xak) fun q2 h => ?_
 refine kO hT hC ?_
 refine kS h ?_ ?_ <;> intro b1 h
 iterate 3 refine kI hT hC b1 ?_
 refine kS h ?_ ?_ <;> intro b2 h
 iterate 2 refine kI hT hC b2 ?_
 refine Xbw hC rfl rfl rfl rfl b1 rfl rfl (b := true) b2 rfl rfl rfl trivial ?_
 refine kI hT hC b1 ?_
 refine kP hC true b1 ?_
 refine kO hT hC ?_
 exact Vc.nil kM
 iterate 2 refine kF hC b2 ?_
 refine Xbw hC rfl rfl rfl rfl b1 rfl rfl (b := false) b2 rfl rfl rfl trivial ?_
 refine kI hT hC b1 ?_
 refine kP hC true b1 ?_
 refine kO hT hC ?_
 exact Vc.nil kM
 iterate 3 refine kF hC b1 ?_
 iterate 2 refine Xld hC rfl rfl rfl rfl rfl rfl ?_
 iterate 2 refine kF hC b1 ?_
 refine kP hC false b1 ?_
 refine kO hT hC ?_
 exact Vc.nil kM
 exact Xah kR
def Ybe (r : Int) : AV := .sv (.int .i64 r)
def Ybd (r : Int) : Xbj := []
theorem Xkk {p0 r} (h : Xfz p0 = some r) : AC Tryz.prog 66 [.agg [.sv (.int .i64 p0.Level), .sv (.int .i64 p0.Bits), .sv (.ints .i64 p0.Cols), .sv (.ints .i64 p0.Rows)]] [] (Ybe r) (Ybd r) := by
 refine Xae hT Tryz.func66 rfl fun C hC => ?_
 unfold Xfz at h
 refine Xad ?_
 iterate 2 refine kO hT hC ?_
 refine Vc.nil (Xa3 (Xad ?_))
 refine kO hT hC ?_
 refine kC hC [] Tryz.call71 h (fun _ => Xh3) fun q1 h => ?_
 refine kO hT hC ?_
 refine Vc.nil ?_
 refine kS h ?_ ?_ <;> intro b1 h
 refine kt b1 (Xad ?_)
 refine kO hT hC ?_
 exact Vc.nil (Xah (Xa9 kR))
 refine kf b1 (Xag (Xaf (Xad ?_)))
 iterate 8 refine kO hT hC ?_
 exact Vc.nil (Xah kR)
def Yef (r : (Int × Int)) : AV := .tup [.sv (.int .i64 r.1), .sv (.int .i64 r.2)]
def Yee (r : (Int × Int)) : Xbj := []
theorem Xuj {p0 r} (h : Xjl p0 = some r) : AC Tryz.prog 83 [.agg [.sv (.int .i64 p0.Level), .sv (.int .i64 p0.Bits), .sv (.ints .i64 p0.Cols), .sv (.ints .i64 p0.Rows)]] [] (Yef r) (Yee r) := by
 refine Xae hT Tryz.func83 rfl fun C hC => ?_
 unfold Xjl at h
 refine Xad ?_
 iterate 3 refine kO hT hC ?_
 refine Vc.nil (Xa3 (Xad ?_))
 refine kO hT hC ?_
 refine kC hC [] Tryz.call71 h (fun _ => Xh3) fun q1 h => ?_
 refine kO hT hC ?_
 refine Vc.nil ?_
 refine kS h ?_ ?_ <;> intro b1 h
 refine kt b1 (Xad ?_)
 iterate 2 refine kO hT hC ?_
 exact Vc.nil (Xah (Xa9 kR))
 refine kf b1 (Xag (Xaf ?_))
 refine Xc6 hm ?_
 iterate 2 refine kO hT hC ?_
 refine kC hC [] Tryz.call140 h (fun _ => Xez) fun q2 h => ?_
 iterate 3 refine kO hT hC ?_
 refine kC hC [] Tryz.call140 h (fun _ => Xez) fun q3 h => ?_
 iterate 3 refine kO hT hC ?_
 exact kD (Xah kR)
def Yhd (r : Bool) : AV := .sv (.bool r)
def Yhc (r : Bool) : Xbj := []
theorem Xdu {p0 r} (h : Xdl p0 = some r) : AC Tryz.prog 42 [.agg [.sv (.int .i64 p0.Wide), .sv (.int .i64 p0.High), .sv (.str p0.Dots)]] [] (Yhd r) (Yhc r) := by
 refine Xae hT Tryz.func42 rfl fun C hC => ?_
 unfold Xdl at h
 refine Xad ?_
 iterate 2 refine kO hT hC ?_
 refine Vc.nil ?_
 refine kL [1,2] [16] [_,_] [_] ?_
 refine kA h (fun v1 => ([(2, .sv (.bool v1)), (1, .any)], [(16, none)])) (fun v1 h => ?_) fun v1 h => ?_
 refine Xac ?_
 iterate 2 refine kO hT hC ?_
 refine kC hC [] Tryz.call69 h (fun _ => Xak) fun q2 h => ?_
 refine kO hT hC ?_
 refine kS h ?_ ?_ <;> intro b1 h
 iterate 2 refine kI hT hC b1 ?_
 refine kE hC b1 [] Tryz.call69 h (fun _ => Xak) fun q3 h => ?_
 refine kP hC true b1 ?_
 refine kO hT hC ?_
 refine kS h ?_ ?_ <;> intro b2 h
 iterate 9 refine kI hT hC b2 ?_
 refine kP hC true b2 ?_
 refine kO hT hC ?_
 exact Vc.nil kM
 iterate 9 refine kF hC b2 ?_
 refine kP hC false b2 ?_
 refine kO hT hC ?_
 exact Vc.nil kM
 iterate 3 refine kF hC b1 ?_
 refine kP hC false b1 ?_
 refine kO hT hC ?_
 iterate 9 refine kF hC rfl ?_
 iterate 2 refine kO hT hC ?_
 exact Vc.nil kM
 exact Xah kR
def Ykm (r : Bool) : AV := .sv (.bool r)
def Ykl (r : Bool) : Xbj := []
theorem Yah {p0 p1 r} (h : Xp6 p0 p1 = some r) : AC Tryz.prog 58 [.agg [.sv (.int .i64 p0.Wide), .sv (.int .i64 p0.High), .sv (.str p0.Dots)], .agg [.sv (.int .i64 p1.Level), .sv (.int .i64 p1.Bits), .sv (.ints .i64 p1.Cols), .sv (.ints .i64 p1.Rows)]] [] (Ykm r) (Ykl r) := by
 refine Xae hT Tryz.func58 rfl fun C hC => ?_
 unfold Xp6 at h
 refine Xad ?_
 iterate 3 refine kO hT hC ?_
 refine kN ?_
 refine kO hT hC ?_
 refine kC hC [] Tryz.call83 h (fun _ => Xuj) fun q1 h => ?_
 iterate 5 refine kO hT hC ?_
 refine Vc.nil ?_
 refine kL [2,4,5,6] [32] [_,_,_,_] [_] ?_
 refine kA h (fun v2 => ([(4, .sv (.bool v2)), (2, .any), (5, .any), (6, .any)], [(32, none)])) (fun v2 h => ?_) fun v2 h => ?_
 refine Xac ?_
 refine kO hT hC ?_
 refine kC hC [] Tryz.call42 h (fun _ => Xdu) fun q3 h => ?_
 refine kO hT hC ?_
 refine kS h ?_ ?_ <;> intro b1 h
 iterate 4 refine kI hT hC b1 ?_
 refine kP hC true b1 ?_
 refine kO hT hC ?_
 refine kS h ?_ ?_ <;> intro b2 h
 iterate 4 refine kI hT hC b2 ?_
 refine kP hC true b2 ?_
 refine kO hT hC ?_
 exact Vc.nil kM
 iterate 4 refine kF hC b2 ?_
 refine kP hC false b2 ?_
 refine kO hT hC ?_
 exact Vc.nil kM
 iterate 4 refine kF hC b1 ?_
 refine kP hC false b1 ?_
 refine kO hT hC ?_
 iterate 4 refine kF hC rfl ?_
 iterate 2 refine kO hT hC ?_
 exact Vc.nil kM
 exact Xah kR
def Yg5 (r : Bool) : AV := .sv (.bool r)
def Yg4 (r : Bool) : Xbj := []
theorem Ykc {p0 r} (h : Xpx p0 = some r) : AC Tryz.prog 24 [.agg [.sv (.bool p0.HasSeq), .sv (.bool p0.HasPar), .sv (.bool p0.HasRef), .sv (.int .i64 p0.Seq.Level), .sv (.int .i64 p0.Seq.Bits), .sv (.ints .i64 p0.Seq.Cols), .sv (.ints .i64 p0.Seq.Rows), .sv (.int .i64 p0.Par.Qp), .sv (.bool p0.Par.Large), .sv (.bool p0.Par.Exact), .sv (.bool p0.Par.Confined), .sv (.int .i64 p0.Frame), .sv (.int .i64 p0.Got), .sv (.int .i64 p0.Now.Wide), .sv (.int .i64 p0.Now.High), .sv (.str p0.Now.Dots), .sv (.int .i64 p0.Ref.Wide), .sv (.int .i64 p0.Ref.High), .sv (.str p0.Ref.Dots)]] [] (Yg5 r) (Yg4 r) := by
 refine Xae hT Tryz.func24 rfl fun C hC => ?_
 unfold Xpx at h
 refine Xad ?_
 iterate 2 refine kO hT hC ?_
 refine Vc.nil (Xa3 (Xad ?_))
 iterate 3 refine kO hT hC ?_
 refine Vc.nil ?_
 refine kS h ?_ ?_ <;> intro b1 h
 refine kt b1 ?_
 refine kL [1,2] [16] [_,_] [_] ?_
 refine kA h (fun v1 => ([(2, .sv (.bool v1)), (1, .any)], [(16, none)])) (fun v1 h => ?_) fun v1 h => ?_
 refine Xac ?_
 iterate 4 refine kO hT hC ?_
 refine kS h ?_ ?_ <;> intro b2 h
 iterate 3 refine kF hC (kn b2) ?_
 refine kP hC false (kn b2) ?_
 refine kO hT hC ?_
 iterate 3 refine kF hC rfl ?_
 iterate 2 refine kO hT hC ?_
 iterate 4 refine kF hC rfl ?_
 iterate 2 refine kO hT hC ?_
 iterate 3 refine kF hC rfl ?_
 iterate 2 refine kO hT hC ?_
 iterate 3 refine kF hC rfl ?_
 iterate 2 refine kO hT hC ?_
 iterate 4 refine kF hC rfl ?_
 iterate 2 refine kO hT hC ?_
 iterate 4 refine kF hC rfl ?_
 iterate 2 refine kO hT hC ?_
 exact Vc.nil kM
 iterate 3 refine kI hT hC (kn b2) ?_
 refine kP hC true (kn b2) ?_
 refine kO hT hC ?_
 refine kS h ?_ ?_ <;> intro b3 h
 iterate 3 refine kF hC (kn b3) ?_
 refine kP hC false (kn b3) ?_
 refine kO hT hC ?_
 iterate 4 refine kF hC rfl ?_
 iterate 2 refine kO hT hC ?_
 iterate 3 refine kF hC rfl ?_
 iterate 2 refine kO hT hC ?_
 iterate 3 refine kF hC rfl ?_
 iterate 2 refine kO hT hC ?_
 iterate 4 refine kF hC rfl ?_
 iterate 2 refine kO hT hC ?_
 iterate 4 refine kF hC rfl ?_
 iterate 2 refine kO hT hC ?_
 exact Vc.nil kM
 iterate 2 refine kI hT hC (kn b3) ?_
 refine kE hC (kn b3) [] Tryz.call70 h (fun _ => Yeq) fun q2 h => ?_
 refine kP hC true (kn b3) ?_
 refine kO hT hC ?_
 refine kS h ?_ ?_ <;> intro b4 h
 iterate 3 refine kI hT hC b4 ?_
 refine Xrm hC rfl rfl rfl rfl b4 rfl rfl rfl Ysp rfl rfl ?_
 refine kP hC true b4 ?_
 refine kO hT hC ?_
 refine kS h ?_ ?_ <;> intro b5 h
 iterate 3 refine kI hT hC b5 ?_
 refine kP hC true b5 ?_
 refine kO hT hC ?_
 refine kS h ?_ ?_ <;> intro b6 h
 iterate 3 refine kI hT hC b6 ?_
 refine kP hC true b6 ?_
 refine kO hT hC ?_
 refine kS h ?_ ?_ <;> intro b7 h
 iterate 3 refine kI hT hC b7 ?_
 refine Xrm hC rfl rfl rfl rfl b7 rfl rfl rfl Yad rfl rfl ?_
 refine kP hC true b7 ?_
 refine kO hT hC ?_
 refine kS h ?_ ?_ <;> intro b8 h
 iterate 3 refine kI hT hC b8 ?_
 refine Xrm hC rfl rfl rfl rfl b8 rfl rfl rfl Yad rfl rfl ?_
 refine kP hC true b8 ?_
 refine kO hT hC ?_
 exact Vc.nil kM
 iterate 4 refine kF hC b8 ?_
 refine kP hC false b8 ?_
 refine kO hT hC ?_
 exact Vc.nil kM
 iterate 4 refine kF hC b7 ?_
 refine kP hC false b7 ?_
 refine kO hT hC ?_
 iterate 4 refine kF hC rfl ?_
 iterate 2 refine kO hT hC ?_
 exact Vc.nil kM
 iterate 3 refine kF hC b6 ?_
 refine kP hC false b6 ?_
 refine kO hT hC ?_
 iterate 4 refine kF hC rfl ?_
 iterate 2 refine kO hT hC ?_
 iterate 4 refine kF hC rfl ?_
 iterate 2 refine kO hT hC ?_
 exact Vc.nil kM
 iterate 3 refine kF hC b5 ?_
 refine kP hC false b5 ?_
 refine kO hT hC ?_
 iterate 3 refine kF hC rfl ?_
 iterate 2 refine kO hT hC ?_
 iterate 4 refine kF hC rfl ?_
 iterate 2 refine kO hT hC ?_
 iterate 4 refine kF hC rfl ?_
 iterate 2 refine kO hT hC ?_
 exact Vc.nil kM
 iterate 4 refine kF hC b4 ?_
 refine kP hC false b4 ?_
 refine kO hT hC ?_
 iterate 3 refine kF hC rfl ?_
 iterate 2 refine kO hT hC ?_
 iterate 3 refine kF hC rfl ?_
 iterate 2 refine kO hT hC ?_
 iterate 4 refine kF hC rfl ?_
 iterate 2 refine kO hT hC ?_
 iterate 4 refine kF hC rfl ?_
 iterate 2 refine kO hT hC ?_
 exact Vc.nil kM
 exact Xah (Xa9 kR)
 refine kf b1 (Xag (Xaf (Xa3 ?_)))
 refine kL [1] [16] [_] [_] ?_
 refine kA h (fun v3 => ([(80, .sv (.bool v3))], [])) (fun v3 h => ?_) fun v3 h => ?_
 refine Xac ?_
 iterate 2 refine kO hT hC ?_
 refine kC hC [] Tryz.call71 h (fun _ => Xh3) fun q4 h => ?_
 iterate 2 refine kO hT hC ?_
 refine kS h ?_ ?_ <;> intro b9 h
 iterate 3 refine kI hT hC (kn b9) ?_
 refine kS h ?_ ?_ <;> intro b10 h
 iterate 2 refine kI hT hC b10 ?_
 refine kE hC b10 [] Tryz.call67 h (fun _ => Xno) fun q5 h => ?_
 refine kI hT hC b10 ?_
 refine Xbw hC rfl rfl rfl rfl (kn b9) rfl rfl (b := true) b10 rfl rfl rfl trivial ?_
 refine kP hC false (kn b9) ?_
 refine kO hT hC ?_
 refine kS h ?_ ?_ <;> intro b11 h
 iterate 4 refine kI hT hC (kn b11) ?_
 iterate 5 refine kF hC (kn b10) ?_
 iterate 3 refine Xld hC rfl rfl rfl rfl rfl rfl ?_
 iterate 2 refine kF hC (kn b10) ?_
 iterate 2 refine Xld hC rfl rfl rfl rfl rfl rfl ?_
 refine kF hC (kn b10) ?_
 refine Xbw hC rfl rfl rfl rfl (kn b11) rfl rfl (b := false) (kn b10) rfl rfl rfl trivial ?_
 refine kP hC false (kn b11) ?_
 exact Vc.nil kM
 iterate 4 refine kF hC (kn b11) ?_
 iterate 13 refine Xld hC rfl rfl rfl rfl rfl rfl ?_
 refine kF hC (kn b11) ?_
 refine kP hC true (kn b11) ?_
 exact Vc.nil kM
 iterate 4 refine kF hC b10 ?_
 refine Xbw hC rfl rfl rfl rfl (kn b9) rfl rfl (b := false) b10 rfl rfl rfl trivial ?_
 refine kP hC false (kn b9) ?_
 refine kO hT hC ?_
 iterate 4 refine kI hT hC rfl ?_
 iterate 3 refine kI hT hC (kn b10) ?_
 refine Xrm hC rfl rfl rfl rfl (kn b10) rfl rfl rfl Ysp rfl rfl ?_
 refine kI hT hC (kn b10) ?_
 refine kS h ?_ ?_ <;> intro b12 h
 iterate 3 refine kF hC b12 ?_
 refine Xbw hC rfl rfl rfl rfl (kn b10) rfl rfl (b := true) b12 rfl rfl rfl trivial ?_
 refine kI hT hC (kn b10) ?_
 iterate 2 refine kF hC rfl ?_
 refine Xbw hC rfl rfl rfl rfl (kn b10) rfl rfl (b := true) rfl rfl rfl rfl trivial ?_
 refine Xbw hC rfl rfl rfl rfl rfl rfl rfl (b := true) (kn b10) rfl rfl rfl trivial ?_
 refine kO hT hC ?_
 exact Vc.nil kM
 iterate 3 refine kI hT hC b12 ?_
 refine Xbw hC rfl rfl rfl rfl (kn b10) rfl rfl (b := false) b12 rfl rfl rfl trivial ?_
 refine kI hT hC (kn b10) ?_
 refine kS h ?_ ?_ <;> intro b13 h
 iterate 2 refine kF hC b13 ?_
 refine Xbw hC rfl rfl rfl rfl (kn b10) rfl rfl (b := true) b13 rfl rfl rfl trivial ?_
 refine Xbw hC rfl rfl rfl rfl rfl rfl rfl (b := true) (kn b10) rfl rfl rfl trivial ?_
 refine kO hT hC ?_
 exact Vc.nil kM
 iterate 2 refine kI hT hC b13 ?_
 refine Xbw hC rfl rfl rfl rfl (kn b10) rfl rfl (b := false) b13 rfl rfl rfl trivial ?_
 refine Xbw hC rfl rfl rfl rfl rfl rfl rfl (b := true) (kn b10) rfl rfl rfl trivial ?_
 refine kO hT hC ?_
 exact Vc.nil kM
 iterate 3 refine kF hC (kn b9) ?_
 iterate 4 refine Xld hC rfl rfl rfl rfl rfl rfl ?_
 refine kF hC (kn b9) ?_
 refine kP hC true (kn b9) ?_
 refine kO hT hC ?_
 iterate 4 refine kF hC rfl ?_
 iterate 13 refine Xld hC rfl rfl rfl rfl rfl rfl ?_
 refine kF hC rfl ?_
 refine kO hT hC ?_
 exact Vc.nil kM
 refine kS h ?_ ?_ <;> intro b14 h
 refine kt b14 (Xad ?_)
 refine kO hT hC ?_
 exact Vc.nil (Xah (Xa9 kR))
 refine kf b14 (Xag (Xaf (Xa3 ?_)))
 refine kL [1] [16] [_] [_] ?_
 refine kA h (fun v6 => ([(99, .sv (.bool v6))], [])) (fun v6 h => ?_) fun v6 h => ?_
 refine Xf3 hm ?_
 iterate 5 refine kO hT hC ?_
 refine kQ hT hC h fun h => ?_
 refine kO hT hC ?_
 refine kC hC [] Tryz.call69 h (fun _ => Xak) fun q7 h => ?_
 iterate 2 refine kO hT hC ?_
 refine kS h ?_ ?_ <;> intro b15 h
 iterate 4 refine kI hT hC (kn b15) ?_
 refine kE hC (kn b15) [] Tryz.call66 h (fun _ => Xkk) fun q8 h => ?_
 refine kI hT hC (kn b15) ?_
 refine kE hC (kn b15) [] Tryz.call69 h (fun _ => Xak) fun q9 h => ?_
 refine kI hT hC (kn b15) ?_
 refine kP hC false (kn b15) ?_
 exact kD kM
 iterate 8 refine kF hC (kn b15) ?_
 refine kP hC true (kn b15) ?_
 exact kD kM
 refine kS h ?_ ?_ <;> intro b16 h
 refine kt b16 (Xad ?_)
 refine kO hT hC ?_
 exact Vc.nil (Xah (Xa9 kR))
 refine kf b16 (Xag (Xaf (Xa3 ?_)))
 refine kL [1] [16] [_] [_] ?_
 refine kA h (fun v10 => ([(126, .sv (.bool v10))], [])) (fun v10 h => ?_) fun v10 h => ?_
 refine Xac ?_
 iterate 4 refine kO hT hC ?_
 refine kS h ?_ ?_ <;> intro b17 h
 iterate 4 refine kI hT hC b17 ?_
 refine kS h ?_ ?_ <;> intro b18 h
 iterate 6 refine kF hC b18 ?_
 refine Xbw hC rfl rfl rfl rfl b17 rfl rfl (b := true) b18 rfl rfl rfl trivial ?_
 refine kP hC true b17 ?_
 refine kO hT hC ?_
 iterate 4 refine kF hC rfl ?_
 iterate 4 refine Xld hC rfl rfl rfl rfl rfl rfl ?_
 refine kF hC rfl ?_
 refine kO hT hC ?_
 exact Vc.nil kM
 iterate 4 refine kI hT hC b18 ?_
 refine kE hC b18 [] Tryz.call58 h (fun _ => Yah) fun q11 h => ?_
 refine kI hT hC b18 ?_
 refine Xbw hC rfl rfl rfl rfl b17 rfl rfl (b := false) b18 rfl rfl rfl trivial ?_
 refine kP hC true b17 ?_
 refine kO hT hC ?_
 refine kS h ?_ ?_ <;> intro b19 h
 iterate 4 refine kI hT hC (kn b19) ?_
 refine kS h ?_ ?_ <;> intro b20 h
 iterate 3 refine kI hT hC b20 ?_
 refine Xrm hC rfl rfl rfl rfl b20 rfl rfl rfl Yad rfl rfl ?_
 refine Xbw hC rfl rfl rfl rfl (kn b19) rfl rfl (b := true) b20 rfl rfl rfl trivial ?_
 refine kP hC false (kn b19) ?_
 exact Vc.nil kM
 iterate 4 refine kF hC b20 ?_
 refine Xbw hC rfl rfl rfl rfl (kn b19) rfl rfl (b := false) b20 rfl rfl rfl trivial ?_
 refine kP hC false (kn b19) ?_
 exact Vc.nil kM
 iterate 4 refine kF hC (kn b19) ?_
 iterate 4 refine Xld hC rfl rfl rfl rfl rfl rfl ?_
 refine kF hC (kn b19) ?_
 refine kP hC true (kn b19) ?_
 exact Vc.nil kM
 iterate 4 refine kF hC b17 ?_
 iterate 6 refine Xld hC rfl rfl rfl rfl rfl rfl ?_
 refine kF hC b17 ?_
 refine kP hC false b17 ?_
 refine kO hT hC ?_
 iterate 4 refine kI hT hC rfl ?_
 refine kS h ?_ ?_ <;> intro b21 h
 iterate 3 refine kI hT hC b21 ?_
 refine Xrm hC rfl rfl rfl rfl b21 rfl rfl rfl Yad rfl rfl ?_
 refine Xbw hC rfl rfl rfl rfl rfl rfl rfl (b := true) b21 rfl rfl rfl trivial ?_
 refine kO hT hC ?_
 exact Vc.nil kM
 iterate 4 refine kF hC b21 ?_
 refine Xbw hC rfl rfl rfl rfl rfl rfl rfl (b := false) b21 rfl rfl rfl trivial ?_
 refine kO hT hC ?_
 exact Vc.nil kM
 refine kS h ?_ ?_ <;> intro b22 h
 refine kt b22 (Xad ?_)
 refine kO hT hC ?_
 exact Vc.nil (Xah (Xa9 kR))
 refine kf b22 (Xag (Xaf (Xa3 (Xad ?_))))
 iterate 2 refine kO hT hC ?_
 refine Vc.nil ?_
 refine kS h ?_ ?_ <;> intro b23 h
 refine kt b23 (Xad ?_)
 iterate 4 refine kO hT hC ?_
 refine kC hC [] Tryz.call58 h (fun _ => Yah) fun q12 h => ?_
 refine kO hT hC ?_
 exact Vc.nil (Xah (Xa9 kR))
 refine kf b23 (Xag (Xaf (Xad ?_)))
 iterate 3 refine kO hT hC ?_
 refine Yz0 hC rfl rfl rfl rfl Yad rfl rfl ?_
 refine kO hT hC ?_
 exact Vc.nil (Xah kR)
def Yep (r : Bool) : AV := .sv (.bool r)
def Yeo (r : Bool) : Xbj := []
theorem Yhn {p0 r} (h : Xn8 p0 = some r) : AC Tryz.prog 96 [.sv (.int .i64 p0)] [] (Yep r) (Yeo r) := by
 refine Xae hT Tryz.func96 rfl fun C hC => ?_
 unfold Xn8 at h
 refine Xad ?_
 refine kO hT hC ?_
 refine Vc.nil ?_
 refine kL [0,2] [] [_,_] [] ?_
 refine kA h (fun v1 => ([(2, .sv (.bool v1)), (0, .any)], [])) (fun v1 h => ?_) fun v1 h => ?_
 refine Xac ?_
 iterate 3 refine kO hT hC ?_
 refine kS h ?_ ?_ <;> intro b1 h
 iterate 2 refine kF hC b1 ?_
 refine kP hC true b1 ?_
 refine kO hT hC ?_
 iterate 2 refine kF hC rfl ?_
 iterate 2 refine kO hT hC ?_
 iterate 2 refine kF hC rfl ?_
 iterate 2 refine kO hT hC ?_
 exact Vc.nil kM
 iterate 2 refine kI hT hC b1 ?_
 refine kP hC false b1 ?_
 refine kO hT hC ?_
 refine kS h ?_ ?_ <;> intro b2 h
 iterate 2 refine kF hC b2 ?_
 refine kP hC true b2 ?_
 refine kO hT hC ?_
 iterate 2 refine kF hC rfl ?_
 iterate 2 refine kO hT hC ?_
 exact Vc.nil kM
 iterate 2 refine kI hT hC b2 ?_
 refine kP hC false b2 ?_
 refine kO hT hC ?_
 refine kS h ?_ ?_ <;> intro b3 h
 iterate 2 refine kF hC b3 ?_
 refine kP hC true b3 ?_
 refine kO hT hC ?_
 exact Vc.nil kM
 iterate 2 refine kI hT hC b3 ?_
 refine kP hC false b3 ?_
 refine kO hT hC ?_
 exact Vc.nil kM
 exact Xah kR
def Xyp (r : (ByteArray × Bool)) : AV := .tup [.sv (.str r.1), .sv (.bool r.2)]
def Xyo (r : (ByteArray × Bool)) : Xbj := []
theorem Yau {p0 r} (h : Xeq p0 = some r) : AC Tryz.prog 97 [.sv (.str p0)] [] (Xyp r) (Xyo r) := by
 refine Xae hT Tryz.func97 rfl fun C hC => ?_
 unfold Xeq at h
 refine Xad ?_
 iterate 2 refine kO hT hC ?_
 refine kN ?_
 iterate 4 refine kO hT hC ?_
 refine Vc.nil (Xa3 ?_)
 refine kL [0,4] [] [_,_] [] ?_
 refine kA h (fun v1 => ([(23, .sv (.bool v1))], [])) (fun v1 h => ?_) fun v1 h => ?_
 refine Xac ?_
 iterate 3 refine kO hT hC ?_
 refine kS h ?_ ?_ <;> intro b1 h
 iterate 6 refine kF hC b1 ?_
 refine kP hC true b1 ?_
 refine kO hT hC ?_
 iterate 2 refine kF hC rfl ?_
 refine kO hT hC ?_
 exact Vc.nil kM
 iterate 4 refine kI hT hC b1 ?_
 refine kJ hT hC b1 h fun h => ?_
 refine kI hT hC b1 ?_
 refine kP hC false b1 ?_
 refine kO hT hC ?_
 refine kS h ?_ ?_ <;> intro b2 h
 iterate 2 refine kF hC b2 ?_
 refine kP hC true b2 ?_
 exact Vc.nil kM
 iterate 2 refine kI hT hC b2 ?_
 refine kP hC false b2 ?_
 exact Vc.nil kM
 refine kS h ?_ ?_ <;> intro b3 h
 refine kt b3 (Xad ?_)
 iterate 2 refine kO hT hC ?_
 exact Vc.nil (Xah (Xa9 kR))
 refine kf b3 (Xag (Xaf (Xad ?_)))
 refine kO hT hC ?_
 obtain ⟨hq, h⟩ := Xa7 h
 refine Ygp hT hC rfl rfl rfl rfl ⟨hq.1, hq.2.1, hq.2.2, by decide⟩ ?_
 refine kO hT hC ?_
 refine Vc.nil (Xa3 (Xad ?_))
 refine kO hT hC ?_
 refine Vc.nil ?_
 refine kL [0,4,5,6] [400] [_,_,_,_] [_] ?_
 refine kX h (fun v3 => ([(6, .sv (.int .i64 v3.1))], [(400, some (.ints .u8 v3.2))])) (fun v5 => ([(0, .any), (6, .any)], [(400, some (.ints .u8 v5))])) (kW hC []) (fun v3 s h => ?_) fun v5 h => ?_
 unfold Xel at h
 refine Xa3 (Xad ?_)
 iterate 3 refine kO hT hC ?_
 refine Vc.nil ?_
 refine kS h ?_ ?_ <;> intro b6 h
 refine kt b6 (Xag (Xaf (Xa3 (Xaw (Xac ?_)))))
 iterate 3 refine kO hT hC ?_
 iterate 2 refine kQ hT hC h fun h => ?_
 refine kO hT hC ?_
 refine kQ hT hC h fun h => ?_
 refine kO hT hC ?_
 refine kQ hT hC h fun h => ?_
 iterate 3 refine kO hT hC ?_
 refine kT hT hC h fun h => ?_
 refine kO hT hC ?_
 refine Vc.nil (Xa2 (Xaf (Xac ?_)))
 iterate 3 refine kO hT hC ?_
 refine Vc.nil ?_
 obtain rfl := kj h
 exact Yk5 (kW hC [(400, 688)])
 exact kf b6 (Xa0 (Xbd ku))
 refine Xaf (Xa3 ?_)
 refine kL [4,5] [400] [_,_] [_] ?_
 refine kX h (fun v8 => ([(4, .sv (.int .i64 v8))], [])) (fun v10 => ([(4, .sv (.int .i64 v10))], [])) (kW hC []) (fun v8 s h => ?_) fun v10 h => ?_
 unfold Xb7 at h
 refine Xa3 (Xad ?_)
 iterate 3 refine kO hT hC ?_
 iterate 2 refine kQ hT hC h fun h => ?_
 refine kO hT hC ?_
 refine Vc.nil ?_
 refine kS h ?_ ?_ <;> intro b9 h
 refine kt b9 (Xag (Xaf (Xaw (Xac ?_))))
 iterate 3 refine kO hT hC ?_
 exact Vc.nil (Xa2 kG)
 exact kf b9 (Xa0 (Xbd ku))
 refine Xaf (Xa3 (Xad ?_))
 iterate 3 refine kO hT hC ?_
 refine Vc.nil ?_
 refine kS h ?_ ?_ <;> intro b10 h
 refine kt b10 (Xad ?_)
 iterate 2 refine kO hT hC ?_
 exact Vc.nil (Xah (Xa9 kR))
 refine kf b10 (Xag (Xaf (Xad ?_)))
 iterate 3 refine kO hT hC ?_
 iterate 2 refine kQ hT hC h fun h => ?_
 iterate 2 refine kO hT hC ?_
 exact Vc.nil (Xah kR)
def Yej (r : (Int × ByteArray × Bool)) : AV := .tup [.sv (.int .i64 r.1), .sv (.str r.2.1), .sv (.bool r.2.2)]
def Yei (r : (Int × ByteArray × Bool)) : Xbj := []
theorem Yhi {p0 r} (h : Xf8 p0 = some r) : AC Tryz.prog 33 [.sv (.str p0)] [] (Yej r) (Yei r) := by
 refine Xae hT Tryz.func33 rfl fun C hC => ?_
 unfold Xf8 at h
 refine Xad ?_
 iterate 3 refine kO hT hC ?_
 refine Vc.nil (Xa3 ?_)
 refine kL [0] [] [_] [] ?_
 refine kA h (fun v1 => ([(15, .sv (.bool v1))], [])) (fun v1 h => ?_) fun v1 h => ?_
 refine Xac ?_
 iterate 3 refine kO hT hC ?_
 refine kS h ?_ ?_ <;> intro b1 h
 iterate 5 refine kF hC b1 ?_
 refine kP hC true b1 ?_
 exact Vc.nil kM
 refine kI hT hC b1 ?_
 refine kJ hT hC b1 h fun h => ?_
 refine kI hT hC b1 ?_
 refine kE hC b1 [] Tryz.call96 h (fun _ => Yhn) fun q2 h => ?_
 refine kI hT hC b1 ?_
 refine kP hC false b1 ?_
 exact Vc.nil kM
 refine kS h ?_ ?_ <;> intro b2 h
 refine kt b2 (Xad ?_)
 iterate 3 refine kO hT hC ?_
 exact Vc.nil (Xah (Xa9 kR))
 refine kf b2 (Xag (Xaf (Xad ?_)))
 refine kO hT hC ?_
 refine kQ hT hC h fun h => ?_
 refine kC hC [] Tryz.call97 h (fun _ => Yau) fun q3 h => ?_
 iterate 5 refine kO hT hC ?_
 refine Vc.nil (Xa3 (Xad ?_))
 iterate 2 refine kO hT hC ?_
 refine Vc.nil ?_
 refine kS h ?_ ?_ <;> intro b3 h
 refine kt b3 (Xad ?_)
 iterate 3 refine kO hT hC ?_
 exact Vc.nil (Xah (Xa9 kR))
 refine kf b3 (Xag (Xaf (Xad ?_)))
 refine kO hT hC ?_
 refine kQ hT hC h fun h => ?_
 iterate 5 refine kO hT hC ?_
 exact Vc.nil (Xah kR)
def Xuh (r : Bool) : AV := .sv (.bool r)
def Xug (r : Bool) : Xbj := []
theorem Ykg {p0 r} (h : Xjr p0 = some r) : AC Tryz.prog 155 [.sv (.str p0)] [] (Xuh r) (Xug r) := by
 refine Xae hT Tryz.func155 rfl fun C hC => ?_
 unfold Xjr at h
 refine Xad ?_
 refine kO hT hC ?_
 refine Vc.nil (Xa3 (Xad ?_))
 iterate 3 refine kO hT hC ?_
 refine Vc.nil ?_
 refine kS h ?_ ?_ <;> intro b1 h
 refine kt b1 (Xad ?_)
 refine kO hT hC ?_
 exact Vc.nil (Xah (Xa9 kR))
 refine kf b1 (Xag (Xaf (Xa3 (Xad ?_))))
 refine kO hT hC ?_
 refine Vc.nil ?_
 refine kL [0,3] [] [_,_] [] ?_
 obtain ⟨o8, hl, h⟩ := Xb4 h
 refine Xoe (fun v3 => ([(3, .sv (.int .i64 v3))], [])) (fun v6 => ([(0, .any), (3, .any)], [])) (fun r => Xye C T Tryz.f155.results.toList (Xuh r) (Xug r)) hl ?_ ?_ ?_ ?_
 apply Xle hC []
 exact co
 rfl
 decide
 rfl
 intro v3 s hs
 have h := hs
 unfold Xh2 at h
 refine Xa3 (Xad ?_)
 iterate 4 refine kO hT hC ?_
 refine Vc.nil ?_
 refine kS h ?_ ?_ <;> intro b8 h
 refine kt b8 (Xag (Xaf (Xa3 (Xaw ?_))))
 refine kL [0,3] [] [_,_] [] ?_
 refine kA h (fun v7 => ([(22, .sv (.bool v7))], [])) (fun v7 h => ?_) fun v7 h => ?_
 refine Xac ?_
 iterate 2 refine kO hT hC ?_
 refine kQ hT hC h fun h => ?_
 iterate 2 refine kO hT hC ?_
 refine kS h ?_ ?_ <;> intro b9 h
 iterate 2 refine kI hT hC b9 ?_
 refine kJ hT hC b9 h fun h => ?_
 refine kI hT hC b9 ?_
 refine kP hC true b9 ?_
 exact Vc.nil kM
 iterate 4 refine kF hC b9 ?_
 refine kP hC false b9 ?_
 exact Vc.nil kM
 refine kS h ?_ ?_ <;> intro b10 h
 refine kt b10 (Xad ?_)
 refine kO hT hC ?_
 refine Vc.nil (Xah (Xik (Xa9 ?_)))
 obtain rfl := kj h
 refine Yb0 (Yby ?_)
 exact Xd1 (Xi6.refl _) rfl trivial
 refine kf b10 (Xag (Xa2 (Xaf (Xac ?_))))
 iterate 3 refine kO hT hC ?_
 exact Vc.nil kG
 exact kf b8 (Xa0 (Xbd kb))
 intro v6 e
 subst e
 refine Xaf (Xad ?_)
 refine kO hT hC ?_
 exact Vc.nil (Xah kR)
 intro r' σ' e hE
 subst e
 obtain rfl := kj h
 refine Xa9 ?_
 exact hE
def Yew (r : Xj9) : AV := .ptr 16 0
def Yev (r : Xj9) : Xbj := [(16, .box [.sv (.str r.row_), .sv (.int .i64 r.at_), .sv (.bool r.bad_)])]
theorem Xmc {p0 p1 r} (h : Xe4 p0 p1 = some r) : AC Tryz.prog 98 [.sv (.str p0), .sv (.int .i64 p1)] [] (Yew r) (Yev r) := by
 refine Xae hT Tryz.func98 rfl fun C hC => ?_
 unfold Xe4 at h
 refine Xad ?_
 refine kO hT hC ?_
 refine Vc.nil ?_
 refine kL [0,1] [] [_,_] [] ?_
 refine kA h (fun v1 => ([(4, .ptr 321 0), (0, .any), (1, .any)], [(321, some (.box [.sv (.str p0), .sv (.int .i64 p1), .sv (.bool v1)]))])) (fun v1 h => ?_) fun v1 h => ?_
 refine Xac ?_
 iterate 3 refine kO hT hC ?_
 refine kC hC [] Tryz.call155 h (fun _ => Ykg) fun q2 h => ?_
 iterate 2 refine kO hT hC ?_
 refine kS h ?_ ?_ <;> intro b1 h
 iterate 3 refine kI hT hC (kn b1) ?_
 refine kE hC (kn b1) [] Tryz.call69 h (fun _ => Xak) fun q3 h => ?_
 refine kI hT hC (kn b1) ?_
 refine kP hC false (kn b1) ?_
 iterate 3 refine kO hT hC ?_
 refine Vc.nil ?_
 obtain rfl := kj h
 exact Xjw (kW hC [(321, 288)])
 iterate 5 refine kF hC (kn b1) ?_
 refine kP hC true (kn b1) ?_
 iterate 3 refine kO hT hC ?_
 refine Vc.nil ?_
 obtain rfl := kj h
 exact Xjw (kW hC [(321, 288)])
 refine Xah ?_
 obtain rfl := kj h
 exact Xd1 (τ := ⟨[(4, .ptr 16 0)], [(16, some (.box [.sv (.str p0), .sv (.int .i64 p1), .sv (.bool v1)]))]⟩) (kW hC [(16, 321)]) rfl ⟨rfl, trivial⟩
def Xy8 (r : (Int × Xj9)) : AV := .sv (.int .i64 r.1)
def Xy7 (r : (Int × Xj9)) : Xbj := [(0, .box [.sv (.str r.2.row_), .sv (.int .i64 r.2.at_), .sv (.bool r.2.bad_)])]
theorem Xdo {p0 p1 r} (h : Xaz p0 p1 = some r) : AC Tryz.prog 100 [.ptr 0 0, .sv (.int .i64 p1)] [(0, .box [.sv (.str p0.row_), .sv (.int .i64 p0.at_), .sv (.bool p0.bad_)])] (Xy8 r) (Xy7 r) := by
 refine Xae hT Tryz.func100 rfl fun C hC => ?_
 unfold Xaz at h
 refine Xad ?_
 refine kO hT hC ?_
 refine Vc.nil (Xa3 ?_)
 refine kL [0,1] [0] [_,_] [_] ?_
 refine kA h (fun v1 => ([(24, .sv (.bool v1))], [])) (fun v1 h => ?_) fun v1 h => ?_
 refine Xf3 hm ?_
 iterate 5 refine kO hT hC ?_
 refine kS h ?_ ?_ <;> intro b1 h
 iterate 12 refine kF hC b1 ?_
 refine kP hC true b1 ?_
 exact kD kM
 iterate 12 refine kI hT hC b1 ?_
 refine kP hC false b1 ?_
 exact kD kM
 refine kS h ?_ ?_ <;> intro b2 h
 refine kt b2 (Xad ?_)
 iterate 4 refine kO hT hC ?_
 refine kN ?_
 refine kO hT hC ?_
 refine Vc.nil (Xah (Xa9 ?_))
 obtain rfl := kj h
 exact Xd1 (Xi6.refl _) rfl ⟨rfl, trivial⟩
 refine kf b2 (Xag (Xaf (Xad ?_)))
 refine kO hT hC ?_
 refine Vc.nil (Xa3 (Xad ?_))
 refine kO hT hC ?_
 refine Vc.nil ?_
 refine kL [0,1,5,6] [0] [_,_,_,_] [_] ?_
 refine kX h (fun v3 => ([(5, .sv (.int .i64 v3.1)), (6, .sv (.int .i64 v3.2))], [])) (fun v5 => ([(5, .sv (.int .i64 v5)), (6, .any)], [])) (kW hC []) (fun v3 s h => ?_) fun v5 h => ?_
 unfold Xgi at h
 refine Xa3 (Xad ?_)
 iterate 3 refine kO hT hC ?_
 refine Vc.nil ?_
 refine kS h ?_ ?_ <;> intro b5 h
 refine kt b5 (Xag (Xaf (Xa3 (Xaw ?_))))
 refine Xf3 hm ?_
 refine kO hT hC ?_
 refine kQ hT hC h fun h => ?_
 iterate 10 refine kO hT hC ?_
 refine kQ hT hC h fun h => ?_
 iterate 4 refine kO hT hC ?_
 refine kD (Xa2 (Xaf (Xac ?_)))
 iterate 3 refine kO hT hC ?_
 exact Vc.nil kG
 exact kf b5 (Xa0 (Xbd ku))
 refine Xaf (Xad ?_)
 iterate 10 refine kO hT hC ?_
 refine kN ?_
 iterate 2 refine kO hT hC ?_
 refine Vc.nil (Xah ?_)
 obtain rfl := kj h
 exact Xd1 (Xi6.refl _) rfl ⟨rfl, trivial⟩
def Ybp (r : (Int × Xj9)) : AV := .sv (.int .i64 r.1)
def Ybo (r : (Int × Xj9)) : Xbj := [(0, .box [.sv (.str r.2.row_), .sv (.int .i64 r.2.at_), .sv (.bool r.2.bad_)])]
theorem Xcs {p0 r} (h : Xbf p0 = some r) : AC Tryz.prog 99 [.ptr 0 0] [(0, .box [.sv (.str p0.row_), .sv (.int .i64 p0.at_), .sv (.bool p0.bad_)])] (Ybp r) (Ybo r) := by
 refine Xae hT Tryz.func99 rfl fun C hC => ?_
 unfold Xbf at h
 refine Xad ?_
 refine kO hT hC ?_
 refine kN ?_
 refine kO hT hC ?_
 refine Vc.nil (Xa3 ?_)
 refine kL [0,3] [0] [_,_] [_] ?_
 refine kX h (fun v3 => ([(3, .sv (.int .i64 v3))], [])) (fun v6 => ([(3, .sv (.int .i64 v6))], [])) (kW hC []) (fun v3 s h => ?_) fun v6 h => ?_
 unfold Xcd at h
 refine Xa3 ?_
 refine kL [0,3] [0] [_,_] [_] ?_
 refine kA h (fun v7 => ([(37, .sv (.bool v7))], [])) (fun v7 h => ?_) fun v7 h => ?_
 refine Xf3 hm ?_
 iterate 6 refine kO hT hC ?_
 refine kS h ?_ ?_ <;> intro b7 h
 iterate 12 refine kF hC (kn b7) ?_
 refine kP hC false (kn b7) ?_
 refine kO hT hC ?_
 iterate 12 refine kF hC rfl ?_
 refine kO hT hC ?_
 exact kD kM
 iterate 12 refine kI hT hC (kn b7) ?_
 refine kP hC true (kn b7) ?_
 refine kO hT hC ?_
 refine kS h ?_ ?_ <;> intro b8 h
 iterate 10 refine kI hT hC b8 ?_
 refine kJ hT hC b8 h fun h => ?_
 refine kI hT hC b8 ?_
 refine kP hC true b8 ?_
 exact kD kM
 iterate 12 refine kF hC b8 ?_
 refine kP hC false b8 ?_
 exact kD kM
 refine kS h ?_ ?_ <;> intro b9 h
 refine kt b9 (Xag (Xaf (Xaw (Xac ?_))))
 iterate 3 refine kO hT hC ?_
 exact Vc.nil (Xa2 kG)
 exact kf b9 (Xa0 (Xbd ku))
 refine Xaf ?_
 refine kL [0,3] [0] [_,_] [_] ?_
 refine kA h (fun v9 => ([], [(0, some (.box [.sv (.str p0.row_), .sv (.int .i64 p0.at_), .sv (.bool v9)]))])) (fun v9 h => ?_) fun v9 h => ?_
 refine Xad ?_
 iterate 2 refine kO hT hC ?_
 refine Vc.nil ?_
 refine kS h ?_ ?_ <;> intro b10 h
 refine kt b10 (Xac ?_)
 iterate 4 refine kO hT hC ?_
 exact Vc.nil kM
 exact kf b10 (Xag kM)
 refine Xad ?_
 iterate 4 refine kO hT hC ?_
 refine kC hC [(0, 0)] Tryz.call100 h (fun _ => Xdo) fun q10 h => ?_
 iterate 2 refine kO hT hC ?_
 refine Vc.nil (Xa3 ?_)
 refine kL [0,4] [0] [_,_] [_] ?_
 refine kA h (fun v11 => ([(58, .sv (.bool v11))], [])) (fun v11 h => ?_) fun v11 h => ?_
 refine Xac ?_
 iterate 5 refine kO hT hC ?_
 refine kS h ?_ ?_ <;> intro b11 h
 iterate 2 refine kF hC b11 ?_
 refine kP hC true b11 ?_
 exact Vc.nil kM
 iterate 2 refine kI hT hC b11 ?_
 refine kP hC false b11 ?_
 exact Vc.nil kM
 refine kS h ?_ ?_ <;> intro b12 h
 refine kt b12 (Xad ?_)
 iterate 4 refine kO hT hC ?_
 refine kN ?_
 refine kO hT hC ?_
 refine Vc.nil (Xah (Xa9 ?_))
 obtain rfl := kj h
 exact Xd1 (Xi6.refl _) rfl ⟨rfl, trivial⟩
 refine kf b12 (Xag (Xaf (Xad ?_)))
 iterate 2 refine kO hT hC ?_
 refine Vc.nil (Xah ?_)
 obtain rfl := kj h
 exact Xd1 (Xi6.refl _) rfl ⟨rfl, trivial⟩
def Xxd (r : ((List Int) × Xj9)) : AV := .own 16
def Xxc (r : ((List Int) × Xj9)) : Xbj := [(16, .ints .i64 r.1), (0, .box [.sv (.str r.2.row_), .sv (.int .i64 r.2.at_), .sv (.bool r.2.bad_)])]
theorem Xp7 {p0 r} (h : Xcb p0 = some r) : AC Tryz.prog 101 [.ptr 0 0] [(0, .box [.sv (.str p0.row_), .sv (.int .i64 p0.at_), .sv (.bool p0.bad_)])] (Xxd r) (Xxc r) := by
 refine Xae hT Tryz.func101 rfl fun C hC => ?_
 unfold Xcb at h
 refine Xad ?_
 refine kO hT hC ?_
 refine kN ?_
 iterate 2 refine kO hT hC ?_
 refine kN ?_
 refine kO hT hC ?_
 refine kC hC [(0, 0)] Tryz.call99 h (fun _ => Xcs) fun q1 h => ?_
 refine kO hT hC ?_
 refine Vc.nil ?_
 refine kL [0,3,4] [0,96] [_,_,_] [_,_] ?_
 refine kA h (fun v2 => ([], [(0, some (.box [.sv (.str q1.2.row_), .sv (.int .i64 q1.2.at_), .sv (.bool v2)]))])) (fun v2 h => ?_) fun v2 h => ?_
 refine Xad ?_
 iterate 2 refine kO hT hC ?_
 refine Vc.nil ?_
 refine kS h ?_ ?_ <;> intro b1 h
 refine kt b1 (Xac ?_)
 iterate 4 refine kO hT hC ?_
 exact Vc.nil kM
 exact kf b1 (Xag kM)
 refine Xa3 (Xad ?_)
 refine kO hT hC ?_
 refine Vc.nil ?_
 refine kL [0,3,4,5] [0,96] [_,_,_,_] [_,_] ?_
 refine kX h (fun v6 => ([(5, .sv (.int .i64 v6.1))], [(0, some (.box [.sv (.str v6.2.1), .sv (.int .i64 v6.2.2.1), .sv (.bool v6.2.2.2.1)])), (96, some (.ints .i64 v6.2.2.2.2))])) (fun v10 => ([(0, .any), (4, .any), (5, .any)], [(0, some (.box [.sv (.str v10.2.1), .sv (.int .i64 v10.2.2.1), .sv (.bool v10.2.2.2)])), (96, some (.ints .i64 v10.1))])) (kW hC []) (fun v6 s h => ?_) fun v10 h => ?_
 unfold Xax at h
 refine Xa3 ?_
 refine kL [0,3,4,5] [0,96] [_,_,_,_] [_,_] ?_
 refine kA h (fun v11 => ([(23, .sv (.bool v11))], [])) (fun v11 h => ?_) fun v11 h => ?_
 refine Xac ?_
 iterate 4 refine kO hT hC ?_
 refine kS h ?_ ?_ <;> intro b6 h
 iterate 5 refine kI hT hC b6 ?_
 refine kP hC true b6 ?_
 exact Vc.nil kM
 iterate 5 refine kF hC b6 ?_
 refine kP hC false b6 ?_
 exact Vc.nil kM
 refine kS h ?_ ?_ <;> intro b7 h
 refine kt b7 (Xag (Xaf (Xa3 (Xaw (Xac ?_)))))
 iterate 2 refine kO hT hC ?_
 refine kC hC [(0, 0)] Tryz.call99 h (fun _ => Xcs) fun q12 h => ?_
 refine kO hT hC ?_
 refine kT hT hC h fun h => ?_
 refine kO hT hC ?_
 refine Vc.nil (Xa2 (Xaf (Xac ?_)))
 iterate 3 refine kO hT hC ?_
 refine Vc.nil ?_
 obtain rfl := kj h
 exact Yk5 (kW hC [(96, 480)])
 exact kf b7 (Xa0 (Xbd ku))
 refine Xaf (Xad ?_)
 iterate 2 refine kO hT hC ?_
 refine Vc.nil (Xah ?_)
 obtain rfl := kj h
 exact Xd1 (τ := ⟨[(2, .own 16)], [(16, some (.ints .i64 v10.1)), (0, some (.box [.sv (.str v10.2.1), .sv (.int .i64 v10.2.2.1), .sv (.bool v10.2.2.2)]))]⟩) (kW hC [(16, 96)]) rfl ⟨rfl, rfl, trivial⟩
def Ya8 (r : (Seq × Int × Bool)) : AV := .tup [.agg [.sv (.int .i64 r.1.Level), .sv (.int .i64 r.1.Bits), .own 16, .own 17], .sv (.int .i64 r.2.1), .sv (.bool r.2.2)]
def Ya7 (r : (Seq × Int × Bool)) : Xbj := [(16, .ints .i64 r.1.Cols), (17, .ints .i64 r.1.Rows)]
theorem Yea {p0 p1 r} (h : Xdi p0 p1 = some r) : AC Tryz.prog 34 [.sv (.str p0), .sv (.int .i64 p1)] [] (Ya8 r) (Ya7 r) := by
 refine Xae hT Tryz.func34 rfl fun C hC => ?_
 unfold Xdi at h
 refine Xad ?_
 iterate 3 refine kO hT hC ?_
 refine kN ?_
 iterate 2 refine kO hT hC ?_
 refine kC hC [(16, 176)] Tryz.call98 h (fun _ => Xmc) fun q1 h => ?_
 refine kO hT hC ?_
 refine kN ?_
 iterate 3 refine kO hT hC ?_
 refine kN ?_
 refine kO hT hC ?_
 refine kC hC [(0, 176)] Tryz.call99 h (fun _ => Xcs) fun q2 h => ?_
 iterate 2 refine kO hT hC ?_
 refine kN ?_
 refine kO hT hC ?_
 refine kC hC [(0, 176)] Tryz.call100 h (fun _ => Xdo) fun q3 h => ?_
 iterate 2 refine kO hT hC ?_
 refine kN ?_
 refine kO hT hC ?_
 refine kC hC [(16, 320), (0, 176)] Tryz.call101 h (fun _ => Xp7) fun q4 h => ?_
 iterate 2 refine kO hT hC ?_
 refine kN ?_
 refine kO hT hC ?_
 refine kC hC [(16, 368), (0, 176)] Tryz.call101 h (fun _ => Xp7) fun q5 h => ?_
 iterate 2 refine kO hT hC ?_
 refine Vc.nil (Xa3 ?_)
 refine kL [4,7,8] [64,128,176,320,368] [_,_,_] [_,_,_,_,_] ?_
 refine kA h (fun v6 => ([(33, .sv (.bool v6))], [])) (fun v6 h => ?_) fun v6 h => ?_
 refine Xac ?_
 iterate 5 refine kO hT hC ?_
 refine kS h ?_ ?_ <;> intro b1 h
 iterate 3 refine kF hC b1 ?_
 refine kP hC true b1 ?_
 exact Vc.nil kM
 refine kI hT hC b1 ?_
 refine kE hC b1 [] Tryz.call71 h (fun _ => Xh3) fun q7 h => ?_
 refine kI hT hC b1 ?_
 refine kP hC false b1 ?_
 exact Vc.nil kM
 refine kS h ?_ ?_ <;> intro b2 h
 refine kt b2 (Xad ?_)
 iterate 4 refine kO hT hC ?_
 refine Vc.nil (Xah (Xa9 ?_))
 obtain rfl := kj h
 refine Xd1 (τ := ⟨[(4, .ptr 2000000 0), (5, .sv (.int .i64 0)), (6, .sv (.bool false))], [(16, some (.ints .i64 [])), (17, some (.ints .i64 [])), (2000000, some (.box [.sv (.int .i64 0), .sv (.int .i64 0), .own 16, .own 17]))]⟩) ?_ rfl ⟨rfl, rfl, trivial⟩
 refine Xyc hC 64 2 657 (.ints .i64 []) rfl rfl rfl rfl rfl trivial ?_
 refine Xyc hC 64 3 658 (.ints .i64 []) rfl rfl rfl rfl rfl trivial ?_
 apply Xle hC [(16, 657), (17, 658), (2000000, 64)]
 exact co
 rfl
 decide
 rfl
 refine kf b2 (Xag (Xaf ?_))
 refine Xc6 hm ?_
 iterate 8 refine kO hT hC ?_
 refine kD (Xah ?_)
 obtain rfl := kj h
 exact Xd1 (τ := ⟨[(4, .ptr 2000000 0), (5, .sv (.int .i64 q5.2.at_)), (6, .sv (.bool true))], [(16, some (.ints .i64 q4.1)), (17, some (.ints .i64 q5.1)), (2000000, some (.box [.sv (.int .i64 q2.1), .sv (.int .i64 q3.1), .own 16, .own 17]))]⟩) (kW hC [(16, 320), (17, 368), (2000000, 64)]) rfl ⟨rfl, rfl, trivial⟩
def Ya6 (r : (Par × Int × Bool)) : AV := .tup [.agg [.sv (.int .i64 r.1.Qp), .sv (.bool r.1.Large), .sv (.bool r.1.Exact), .sv (.bool r.1.Confined)], .sv (.int .i64 r.2.1), .sv (.bool r.2.2)]
def Ya5 (r : (Par × Int × Bool)) : Xbj := []
theorem Yd9 {p0 p1 r} (h : Xdh p0 p1 = some r) : AC Tryz.prog 35 [.sv (.str p0), .sv (.int .i64 p1)] [] (Ya6 r) (Ya5 r) := by
 refine Xae hT Tryz.func35 rfl fun C hC => ?_
 unfold Xdh at h
 refine Xad ?_
 iterate 3 refine kO hT hC ?_
 refine kN ?_
 iterate 2 refine kO hT hC ?_
 refine kC hC [(16, 176)] Tryz.call98 h (fun _ => Xmc) fun q1 h => ?_
 refine kO hT hC ?_
 refine kN ?_
 refine kO hT hC ?_
 refine kC hC [(0, 176)] Tryz.call100 h (fun _ => Xdo) fun q2 h => ?_
 iterate 3 refine kO hT hC ?_
 refine kN ?_
 refine kO hT hC ?_
 refine kC hC [(0, 176)] Tryz.call100 h (fun _ => Xdo) fun q3 h => ?_
 iterate 3 refine kO hT hC ?_
 refine kN ?_
 refine kO hT hC ?_
 refine kC hC [(0, 176)] Tryz.call100 h (fun _ => Xdo) fun q4 h => ?_
 iterate 3 refine kO hT hC ?_
 refine kN ?_
 refine kO hT hC ?_
 refine kC hC [(0, 176)] Tryz.call100 h (fun _ => Xdo) fun q5 h => ?_
 iterate 3 refine kO hT hC ?_
 refine Vc.nil (Xa3 ?_)
 refine kL [4,7,8] [64,128,176] [_,_,_] [_,_,_] ?_
 refine kA h (fun v6 => ([(35, .sv (.bool v6))], [])) (fun v6 h => ?_) fun v6 h => ?_
 refine Xac ?_
 iterate 5 refine kO hT hC ?_
 refine kS h ?_ ?_ <;> intro b1 h
 iterate 3 refine kF hC b1 ?_
 refine kP hC true b1 ?_
 exact Vc.nil kM
 refine kI hT hC b1 ?_
 refine kE hC b1 [] Tryz.call67 h (fun _ => Xno) fun q7 h => ?_
 refine kI hT hC b1 ?_
 refine kP hC false b1 ?_
 exact Vc.nil kM
 refine kS h ?_ ?_ <;> intro b2 h
 refine kt b2 (Xad ?_)
 iterate 4 refine kO hT hC ?_
 exact Vc.nil (Xah (Xa9 kR))
 refine kf b2 (Xag (Xaf ?_))
 refine Xc6 hm ?_
 iterate 8 refine kO hT hC ?_
 exact kD (Xah kR)
def Yd6 (r : (Int × Bool)) : AV := .tup [.sv (.int .i64 r.1), .sv (.bool r.2)]
def Yd5 (r : (Int × Bool)) : Xbj := []
theorem Yg8 {p0 r} (h : Xjk p0 = some r) : AC Tryz.prog 189 [.sv (.int .i64 p0)] [] (Yd6 r) (Yd5 r) := by
 refine Xae hT Tryz.func189 rfl fun C hC => ?_
 unfold Xjk at h
 refine Xad ?_
 iterate 2 refine kO hT hC ?_
 refine Vc.nil (Xa3 (Xaw (Xad ?_)))
 refine kO hT hC ?_
 refine kC hC [] Tryz.call69 h (fun _ => Xak) fun q1 h => ?_
 iterate 2 refine kO hT hC ?_
 refine Vc.nil ?_
 refine kS h ?_ ?_ <;> intro b1 h
 refine kt b1 (Xad ?_)
 iterate 2 refine kO hT hC ?_
 exact Vc.nil (Xah (Xik (Xa9 kR)))
 refine kf b1 (Xad ?_)
 refine kO hT hC ?_
 refine kQ hT hC h fun h => ?_
 iterate 2 refine kO hT hC ?_
 refine Vc.nil ?_
 refine kS h ?_ ?_ <;> intro b2 h
 refine kt b2 (Xad ?_)
 iterate 2 refine kO hT hC ?_
 refine kQ hT hC h fun h => ?_
 iterate 2 refine kO hT hC ?_
 exact Vc.nil (Xah (Xik (Xa9 kR)))
 refine kf b2 (Xag (Xa2 (Xaf (Xad ?_))))
 iterate 2 refine kO hT hC ?_
 refine kQ hT hC h fun h => ?_
 iterate 2 refine kO hT hC ?_
 exact Vc.nil (Xah kR)
def Ybn (r : (Int × Xj9)) : AV := .sv (.int .i64 r.1)
def Ybm (r : (Int × Xj9)) : Xbj := [(0, .box [.sv (.str r.2.row_), .sv (.int .i64 r.2.at_), .sv (.bool r.2.bad_)])]
theorem Xkn {p0 r} (h : Xbt p0 = some r) : AC Tryz.prog 160 [.ptr 0 0] [(0, .box [.sv (.str p0.row_), .sv (.int .i64 p0.at_), .sv (.bool p0.bad_)])] (Ybn r) (Ybm r) := by
 refine Xae hT Tryz.func160 rfl fun C hC => ?_
 unfold Xbt at h
 refine Xad ?_
 refine kO hT hC ?_
 refine kN ?_
 refine kO hT hC ?_
 refine kC hC [(0, 0)] Tryz.call99 h (fun _ => Xcs) fun q1 h => ?_
 refine kC hC [] Tryz.call189 h (fun _ => Yg8) fun q2 h => ?_
 iterate 5 refine kO hT hC ?_
 refine Vc.nil ?_
 refine kL [0,3,4] [0] [_,_,_] [_] ?_
 refine kA h (fun v3 => ([(0, .any), (4, .any)], [(0, some (.box [.sv (.str q1.2.row_), .sv (.int .i64 q1.2.at_), .sv (.bool v3)]))])) (fun v3 h => ?_) fun v3 h => ?_
 refine Xac ?_
 iterate 6 refine kO hT hC ?_
 refine kS h ?_ ?_ <;> intro b1 h
 iterate 2 refine kF hC b1 ?_
 refine kP hC true b1 ?_
 iterate 3 refine kO hT hC ?_
 exact Vc.nil kM
 iterate 2 refine kI hT hC b1 ?_
 refine kP hC false b1 ?_
 iterate 3 refine kO hT hC ?_
 exact Vc.nil kM
 refine Xad ?_
 iterate 2 refine kO hT hC ?_
 refine Vc.nil (Xah ?_)
 obtain rfl := kj h
 exact Xd1 (Xi6.refl _) rfl ⟨rfl, trivial⟩
def Yd0 (r : Bool) : AV := .sv (.bool r)
def Ydz (r : Bool) : Xbj := []
theorem Yg6 {p0 p1 p2 r} (h : Xn5 p0 p1 p2 = some r) : AC Tryz.prog 125 [.agg [.sv (.int .i64 p0.Level), .sv (.int .i64 p0.Bits), .sv (.ints .i64 p0.Cols), .sv (.ints .i64 p0.Rows)], .agg [.sv (.int .i64 p1.Qp), .sv (.bool p1.Large), .sv (.bool p1.Exact), .sv (.bool p1.Confined)], .agg [.sv (.int .i64 p2.Tile), .sv (.int .i64 p2.Frame), .sv (.int .i64 p2.Qp)]] [] (Yd0 r) (Ydz r) := by
 refine Xae hT Tryz.func125 rfl fun C hC => ?_
 unfold Xn5 at h
 refine Xad ?_
 iterate 4 refine kO hT hC ?_
 refine Vc.nil ?_
 refine kL [3,4,5,6] [48,64,80] [_,_,_,_] [_,_,_] ?_
 refine kA h (fun v1 => ([(6, .sv (.bool v1)), (3, .any), (4, .any), (5, .any)], [(48, none), (64, none), (80, none)])) (fun v1 h => ?_) fun v1 h => ?_
 refine Xf3 hm ?_
 refine kO hT hC ?_
 refine kC hC [] Tryz.call71 h (fun _ => Xh3) fun q2 h => ?_
 refine kO hT hC ?_
 refine kS h ?_ ?_ <;> intro b1 h
 refine kI hT hC b1 ?_
 refine kE hC b1 [] Tryz.call67 h (fun _ => Xno) fun q3 h => ?_
 refine kP hC true b1 ?_
 refine kO hT hC ?_
 refine kS h ?_ ?_ <;> intro b2 h
 iterate 3 refine kI hT hC b2 ?_
 refine kE hC b2 [] Tryz.call66 h (fun _ => Xkk) fun q4 h => ?_
 refine kI hT hC b2 ?_
 refine kE hC b2 [] Tryz.call69 h (fun _ => Xak) fun q5 h => ?_
 refine kP hC true b2 ?_
 refine kO hT hC ?_
 refine kS h ?_ ?_ <;> intro b3 h
 iterate 4 refine kI hT hC b3 ?_
 refine kJ hT hC b3 h fun h => ?_
 refine kI hT hC b3 ?_
 refine kE hC b3 [] Tryz.call69 h (fun _ => Xak) fun q6 h => ?_
 refine kP hC true b3 ?_
 refine kO hT hC ?_
 refine kS h ?_ ?_ <;> intro b4 h
 iterate 2 refine kI hT hC b4 ?_
 refine kE hC b4 [] Tryz.call69 h (fun _ => Xak) fun q7 h => ?_
 refine kP hC true b4 ?_
 refine kO hT hC ?_
 exact kD kM
 iterate 3 refine kF hC b4 ?_
 refine kP hC false b4 ?_
 refine kO hT hC ?_
 exact kD kM
 iterate 7 refine kF hC b3 ?_
 refine kP hC false b3 ?_
 refine kO hT hC ?_
 iterate 3 refine kF hC rfl ?_
 iterate 2 refine kO hT hC ?_
 exact kD kM
 iterate 6 refine kF hC b2 ?_
 refine kP hC false b2 ?_
 refine kO hT hC ?_
 iterate 7 refine kF hC rfl ?_
 iterate 2 refine kO hT hC ?_
 iterate 3 refine kF hC rfl ?_
 iterate 2 refine kO hT hC ?_
 exact kD kM
 iterate 2 refine kF hC b1 ?_
 refine kP hC false b1 ?_
 refine kO hT hC ?_
 iterate 6 refine kF hC rfl ?_
 iterate 2 refine kO hT hC ?_
 iterate 7 refine kF hC rfl ?_
 iterate 2 refine kO hT hC ?_
 iterate 3 refine kF hC rfl ?_
 iterate 2 refine kO hT hC ?_
 exact kD kM
 exact Xah kR
def Xyv (r : (Xow × Int × Bool)) : AV := .tup [.agg [.sv (.int .i64 r.1.Tile), .sv (.int .i64 r.1.Frame), .sv (.int .i64 r.1.Qp)], .sv (.int .i64 r.2.1), .sv (.bool r.2.2)]
def Xyu (r : (Xow × Int × Bool)) : Xbj := []
theorem Ya4 {p0 p1 p2 r} (h : Xdv p0 p1 p2 = some r) : AC Tryz.prog 113 [.agg [.sv (.int .i64 p0.Level), .sv (.int .i64 p0.Bits), .sv (.ints .i64 p0.Cols), .sv (.ints .i64 p0.Rows)], .agg [.sv (.int .i64 p1.Qp), .sv (.bool p1.Large), .sv (.bool p1.Exact), .sv (.bool p1.Confined)], .sv (.str p2)] [] (Xyv r) (Xyu r) := by
 refine Xae hT Tryz.func113 rfl fun C hC => ?_
 unfold Xdv at h
 refine Xad ?_
 iterate 5 refine kO hT hC ?_
 refine kN ?_
 refine kO hT hC ?_
 refine kC hC [(16, 192)] Tryz.call98 h (fun _ => Xmc) fun q1 h => ?_
 refine kO hT hC ?_
 refine Vc.nil (Xa3 ?_)
 refine kL [3,4,6,9] [48,64,96,192] [_,_,_,_] [_,_,_,_] ?_
 refine kA h (fun v2 => ([(20, .sv (.bool v2))], [])) (fun v2 h => ?_) fun v2 h => ?_
 refine Xac ?_
 refine kO hT hC ?_
 refine kC hC [] Tryz.call71 h (fun _ => Xh3) fun q3 h => ?_
 iterate 2 refine kO hT hC ?_
 refine kS h ?_ ?_ <;> intro b1 h
 refine kI hT hC (kn b1) ?_
 refine kE hC (kn b1) [] Tryz.call67 h (fun _ => Xno) fun q4 h => ?_
 refine kI hT hC (kn b1) ?_
 refine kP hC false (kn b1) ?_
 exact Vc.nil kM
 iterate 3 refine kF hC (kn b1) ?_
 refine kP hC true (kn b1) ?_
 exact Vc.nil kM
 refine kS h ?_ ?_ <;> intro b2 h
 refine kt b2 (Xad ?_)
 iterate 4 refine kO hT hC ?_
 exact Vc.nil (Xah (Xa9 kR))
 refine kf b2 (Xag (Xaf (Xad ?_)))
 refine kO hT hC ?_
 refine kC hC [(0, 192)] Tryz.call99 h (fun _ => Xcs) fun q5 h => ?_
 iterate 3 refine kO hT hC ?_
 refine kN ?_
 iterate 3 refine kO hT hC ?_
 refine kC hC [(0, 192)] Tryz.call100 h (fun _ => Xdo) fun q6 h => ?_
 iterate 2 refine kO hT hC ?_
 refine kN ?_
 refine kO hT hC ?_
 refine kC hC [(0, 192)] Tryz.call160 h (fun _ => Xkn) fun q7 h => ?_
 iterate 2 refine kO hT hC ?_
 refine kN ?_
 iterate 7 refine kO hT hC ?_
 refine Vc.nil (Xa3 ?_)
 refine kL [3,4,6,9,10] [48,64,96,160,192] [_,_,_,_,_] [_,_,_,_,_] ?_
 refine kA h (fun v8 => ([(49, .sv (.bool v8)), (3, .any), (4, .any)], [(48, none), (64, none)])) (fun v8 h => ?_) fun v8 h => ?_
 refine Xac ?_
 iterate 5 refine kO hT hC ?_
 refine kS h ?_ ?_ <;> intro b3 h
 iterate 5 refine kF hC b3 ?_
 refine kP hC true b3 ?_
 exact Vc.nil kM
 iterate 3 refine kI hT hC b3 ?_
 refine kE hC b3 [] Tryz.call125 h (fun _ => Yg6) fun q9 h => ?_
 refine kI hT hC b3 ?_
 refine kP hC false b3 ?_
 exact Vc.nil kM
 refine kS h ?_ ?_ <;> intro b4 h
 refine kt b4 (Xad ?_)
 iterate 4 refine kO hT hC ?_
 exact Vc.nil (Xah (Xa9 kR))
 refine kf b4 (Xag (Xaf ?_))
 refine Xc6 hm ?_
 iterate 8 refine kO hT hC ?_
 exact kD (Xah kR)
def Xy2 (r : (Xpb × Bool)) : AV := .tup [.agg [.sv (.int .i64 r.1.Left), .sv (.int .i64 r.1.Top), .sv (.int .i64 r.1.Wide), .sv (.int .i64 r.1.High)], .sv (.bool r.2)]
def Xy1 (r : (Xpb × Bool)) : Xbj := []
theorem Xrt {p0 p1 r} (h : Xex p0 p1 = some r) : AC Tryz.prog 82 [.agg [.sv (.int .i64 p0.Level), .sv (.int .i64 p0.Bits), .sv (.ints .i64 p0.Cols), .sv (.ints .i64 p0.Rows)], .sv (.int .i64 p1)] [] (Xy2 r) (Xy1 r) := by
 refine Xae hT Tryz.func82 rfl fun C hC => ?_
 unfold Xex at h
 refine Xad ?_
 iterate 3 refine kO hT hC ?_
 refine Vc.nil (Xa3 (Xad ?_))
 iterate 2 refine kO hT hC ?_
 refine kC hC [] Tryz.call66 h (fun _ => Xkk) fun q1 h => ?_
 refine kO hT hC ?_
 refine kC hC [] Tryz.call69 h (fun _ => Xak) fun q2 h => ?_
 refine kO hT hC ?_
 refine Vc.nil ?_
 refine kS h ?_ ?_ <;> intro b1 h
 refine kt b1 (Xad ?_)
 iterate 3 refine kO hT hC ?_
 exact Vc.nil (Xah (Xa9 kR))
 refine kf b1 (Xag (Xaf ?_))
 refine Xc6 hm ?_
 iterate 4 refine kO hT hC ?_
 refine kQ hT hC h fun h => ?_
 iterate 4 refine kO hT hC ?_
 refine kQ hT hC h fun h => ?_
 iterate 2 refine kO hT hC ?_
 refine kD ?_
 refine Xc6 hm ?_
 iterate 3 refine kO hT hC ?_
 refine kQ hT hC h fun h => ?_
 refine kC hC [] Tryz.call140 h (fun _ => Xez) fun q3 h => ?_
 iterate 4 refine kO hT hC ?_
 refine kQ hT hC h fun h => ?_
 refine kC hC [] Tryz.call140 h (fun _ => Xez) fun q4 h => ?_
 iterate 4 refine kO hT hC ?_
 refine kQ hT hC h fun h => ?_
 iterate 5 refine kO hT hC ?_
 refine kQ hT hC h fun h => ?_
 iterate 5 refine kO hT hC ?_
 exact kD (Xah kR)
def Xty (r : Int) : AV := .sv (.int .i64 r)
def Xtx (r : Int) : Xbj := []
theorem Xvq {p0 p1 r} (h : Xgh p0 p1 = some r) : AC Tryz.prog 114 [.agg [.sv (.int .i64 p0.Level), .sv (.int .i64 p0.Bits), .sv (.ints .i64 p0.Cols), .sv (.ints .i64 p0.Rows)], .sv (.int .i64 p1)] [] (Xty r) (Xtx r) := by
 refine Xae hT Tryz.func114 rfl fun C hC => ?_
 unfold Xgh at h
 refine Xad ?_
 iterate 2 refine kO hT hC ?_
 refine kN ?_
 iterate 2 refine kO hT hC ?_
 refine kC hC [] Tryz.call82 h (fun _ => Xrt) fun q1 h => ?_
 iterate 6 refine kO hT hC ?_
 refine kN ?_
 iterate 2 refine kO hT hC ?_
 refine kQ hT hC h fun h => ?_
 iterate 2 refine kO hT hC ?_
 refine kQ hT hC h fun h => ?_
 iterate 2 refine kO hT hC ?_
 exact Vc.nil (Xah kR)
def Ydr (r : Bool) : AV := .sv (.bool r)
def Ydq (r : Bool) : Xbj := []
theorem Xl8 {p0 r} (h : Xg9 p0 = some r) : AC Tryz.prog 121 [.agg [.sv (.bool p0.Key), .sv (.int .i64 p0.Qp), .sv (.bool p0.Large), .sv (.bool p0.Exact)]] [] (Ydr r) (Ydq r) := by
 refine Xae hT Tryz.func121 rfl fun C hC => ?_
 unfold Xg9 at h
 refine Xad ?_
 iterate 2 refine kO hT hC ?_
 refine Vc.nil ?_
 refine kL [1,2] [16] [_,_] [_] ?_
 refine kA h (fun v1 => ([(2, .sv (.bool v1)), (1, .any)], [(16, none)])) (fun v1 h => ?_) fun v1 h => ?_
 refine Xac ?_
 iterate 2 refine kO hT hC ?_
 refine kC hC [] Tryz.call69 h (fun _ => Xak) fun q2 h => ?_
 refine kO hT hC ?_
 refine kS h ?_ ?_ <;> intro b1 h
 iterate 3 refine kI hT hC b1 ?_
 refine kS h ?_ ?_ <;> intro b2 h
 iterate 2 refine kI hT hC b2 ?_
 refine Xbw hC rfl rfl rfl rfl b1 rfl rfl (b := true) b2 rfl rfl rfl trivial ?_
 refine kI hT hC b1 ?_
 refine kP hC true b1 ?_
 refine kO hT hC ?_
 exact Vc.nil kM
 iterate 2 refine kF hC b2 ?_
 refine Xbw hC rfl rfl rfl rfl b1 rfl rfl (b := false) b2 rfl rfl rfl trivial ?_
 refine kI hT hC b1 ?_
 refine kP hC true b1 ?_
 refine kO hT hC ?_
 exact Vc.nil kM
 iterate 3 refine kF hC b1 ?_
 iterate 2 refine Xld hC rfl rfl rfl rfl rfl rfl ?_
 iterate 2 refine kF hC b1 ?_
 refine kP hC false b1 ?_
 refine kO hT hC ?_
 exact Vc.nil kM
 exact Xah kR
def Xxf (r : ((List Int) × Xj9)) : AV := .own 16
def Xxe (r : ((List Int) × Xj9)) : Xbj := [(16, .ints .i64 r.1), (0, .box [.sv (.str r.2.row_), .sv (.int .i64 r.2.at_), .sv (.bool r.2.bad_)])]
theorem Xp8 {p0 p1 r} (h : Xcc p0 p1 = some r) : AC Tryz.prog 203 [.ptr 0 0, .sv (.int .i64 p1)] [(0, .box [.sv (.str p0.row_), .sv (.int .i64 p0.at_), .sv (.bool p0.bad_)])] (Xxf r) (Xxe r) := by
 refine Xae hT Tryz.func203 rfl fun C hC => ?_
 unfold Xcc at h
 refine Xad ?_
 refine kO hT hC ?_
 refine kN ?_
 refine kO hT hC ?_
 obtain ⟨hq, h⟩ := Xa7 h
 refine Ygp hT hC rfl rfl rfl rfl ⟨hq.1, hq.2.1, hq.2.2, by decide⟩ ?_
 refine kO hT hC ?_
 refine kN ?_
 refine kO hT hC ?_
 refine Vc.nil (Xa3 (Xad ?_))
 refine kO hT hC ?_
 refine kC hC [(0, 0)] Tryz.call99 h (fun _ => Xcs) fun q1 h => ?_
 refine kO hT hC ?_
 refine Vc.nil ?_
 refine kL [0,1,5,6,7] [0,160] [_,_,_,_,_] [_,_] ?_
 refine kX h (fun v8 => ([(6, .sv (.int .i64 v8.1)), (7, .sv (.int .i64 v8.2.1))], [(0, some (.box [.sv (.str v8.2.2.1), .sv (.int .i64 v8.2.2.2.1), .sv (.bool v8.2.2.2.2.1)])), (160, some (.ints .i64 v8.2.2.2.2.2))])) (fun v15 => ([(0, .any), (1, .any), (6, .any), (7, .any)], [(0, some (.box [.sv (.str v15.2.1), .sv (.int .i64 v15.2.2.1), .sv (.bool v15.2.2.2)])), (160, some (.ints .i64 v15.1))])) (kW hC []) (fun v8 s h => ?_) fun v15 h => ?_
 unfold Xbb at h
 refine Xa3 ?_
 refine kL [0,1,5,6,7] [0,160] [_,_,_,_,_] [_,_] ?_
 refine kA h (fun v16 => ([(21, .sv (.bool v16))], [])) (fun v16 h => ?_) fun v16 h => ?_
 refine Xac ?_
 iterate 3 refine kO hT hC ?_
 refine kS h ?_ ?_ <;> intro b11 h
 iterate 5 refine kI hT hC b11 ?_
 refine kP hC true b11 ?_
 exact Vc.nil kM
 iterate 5 refine kF hC b11 ?_
 refine kP hC false b11 ?_
 exact Vc.nil kM
 refine kS h ?_ ?_ <;> intro b12 h
 refine kt b12 (Xag (Xaf (Xa3 (Xaw (Xad ?_)))))
 iterate 2 refine kO hT hC ?_
 refine kC hC [(0, 0)] Tryz.call99 h (fun _ => Xcs) fun q17 h => ?_
 iterate 2 refine kO hT hC ?_
 refine kN ?_
 refine kO hT hC ?_
 refine kC hC [(0, 0)] Tryz.call160 h (fun _ => Xkn) fun q18 h => ?_
 refine kO hT hC ?_
 refine Vc.nil (Xa3 ?_)
 refine kL [0,1,5,6,7,8] [0,160] [_,_,_,_,_,_] [_,_] ?_
 refine kA h (fun v19 => ([(41, .sv (.bool v19))], [])) (fun v19 h => ?_) fun v19 h => ?_
 refine Xac ?_
 iterate 4 refine kO hT hC ?_
 refine kS h ?_ ?_ <;> intro b13 h
 iterate 2 refine kF hC b13 ?_
 refine kP hC true b13 ?_
 refine kO hT hC ?_
 iterate 3 refine kF hC rfl ?_
 refine kO hT hC ?_
 exact Vc.nil kM
 iterate 2 refine kI hT hC b13 ?_
 refine kP hC false b13 ?_
 refine kO hT hC ?_
 refine kS h ?_ ?_ <;> intro b14 h
 iterate 3 refine kF hC b14 ?_
 refine kP hC true b14 ?_
 exact Vc.nil kM
 refine kI hT hC b14 ?_
 refine kE hC b14 [] Tryz.call69 h (fun _ => Xak) fun q20 h => ?_
 refine kI hT hC b14 ?_
 refine kP hC false b14 ?_
 exact Vc.nil kM
 refine kS h ?_ ?_ <;> intro b15 h
 refine kt b15 (Xad ?_)
 iterate 4 refine kO hT hC ?_
 refine Vc.nil (Xa0 (Xbd ?_))
 refine Yws rfl ?_
 exact Xbd ku
 refine kf b15 (Xag (Xaf (Xad ?_)))
 iterate 3 refine kO hT hC ?_
 iterate 2 refine kQ hT hC h fun h => ?_
 refine Vc.nil (Xac ?_)
 iterate 3 refine kO hT hC ?_
 refine Vc.nil (Xa2 (Xaf (Xac ?_)))
 iterate 3 refine kO hT hC ?_
 exact Vc.nil kG
 exact kf b12 (Xa0 (Xbd ku))
 refine Xaf (Xad ?_)
 iterate 2 refine kO hT hC ?_
 refine Vc.nil (Xah ?_)
 obtain rfl := kj h
 exact Xd1 (τ := ⟨[(4, .own 16)], [(16, some (.ints .i64 v15.1)), (0, some (.box [.sv (.str v15.2.1), .sv (.int .i64 v15.2.2.1), .sv (.bool v15.2.2.2)]))]⟩) (kW hC [(16, 160)]) rfl ⟨rfl, rfl, trivial⟩
def Xt2 (r : ((List Int) × Xj9)) : AV := .own 16
def Xt1 (r : ((List Int) × Xj9)) : Xbj := [(16, .ints .i64 r.1), (0, .box [.sv (.str r.2.row_), .sv (.int .i64 r.2.at_), .sv (.bool r.2.bad_)])]
theorem Xn9 {p0 p1 r} (h : Xbe p0 p1 = some r) : AC Tryz.prog 178 [.ptr 0 0, .agg [.sv (.bool p1.Key), .sv (.int .i64 p1.Qp), .sv (.bool p1.Large), .sv (.bool p1.Exact)]] [(0, .box [.sv (.str p0.row_), .sv (.int .i64 p0.at_), .sv (.bool p0.bad_)])] (Xt2 r) (Xt1 r) := by
 refine Xae hT Tryz.func178 rfl fun C hC => ?_
 unfold Xbe at h
 refine Xad ?_
 iterate 2 refine kO hT hC ?_
 refine Vc.nil (Xa3 ?_)
 refine kL [0,3] [0,48] [_,_] [_,_] ?_
 refine kA h (fun v1 => ([(11, .sv (.bool v1)), (3, .any)], [(48, none)])) (fun v1 h => ?_) fun v1 h => ?_
 refine Xac ?_
 iterate 3 refine kO hT hC ?_
 refine kS h ?_ ?_ <;> intro b1 h
 iterate 2 refine kF hC b1 ?_
 refine kP hC true b1 ?_
 exact Vc.nil kM
 iterate 2 refine kI hT hC b1 ?_
 refine kP hC false b1 ?_
 exact Vc.nil kM
 refine kS h ?_ ?_ <;> intro b2 h
 refine kt b2 (Xad ?_)
 refine kO hT hC ?_
 refine kC hC [(16, 208), (0, 0)] Tryz.call203 h (fun _ => Xp8) fun q2 h => ?_
 refine kO hT hC ?_
 refine Vc.nil (Xah (Xa9 ?_))
 obtain rfl := kj h
 exact Xd1 (τ := ⟨[(4, .own 16)], [(16, some (.ints .i64 q2.1)), (0, some (.box [.sv (.str q2.2.row_), .sv (.int .i64 q2.2.at_), .sv (.bool q2.2.bad_)]))]⟩) (kW hC [(16, 208)]) rfl ⟨rfl, rfl, trivial⟩
 refine kf b2 (Xag (Xaf (Xad ?_)))
 iterate 2 refine kO hT hC ?_
 refine Vc.nil (Xa3 (Xad ?_))
 refine kO hT hC ?_
 refine Vc.nil ?_
 refine kL [0,5,15] [0,224] [_,_,_] [_,_] ?_
 refine kX h (fun v5 => ([(15, .sv (.int .i64 v5.1))], [(0, some (.box [.sv (.str v5.2.1), .sv (.int .i64 v5.2.2.1), .sv (.bool v5.2.2.2.1)])), (224, some (.ints .i64 v5.2.2.2.2))])) (fun v8 => ([(0, .any), (15, .any)], [(0, some (.box [.sv (.str v8.2.1), .sv (.int .i64 v8.2.2.1), .sv (.bool v8.2.2.2)])), (224, some (.ints .i64 v8.1))])) (kW hC []) (fun v5 s h => ?_) fun v8 h => ?_
 unfold Xa1 at h
 refine Xad ?_
 refine kO hT hC ?_
 refine Vc.nil (Xa3 ?_)
 refine kS h ?_ ?_ <;> intro b5 h
 refine kt b5 (Xag (Xaf (Xa3 (Xaw (Xac ?_)))))
 iterate 2 refine kO hT hC ?_
 refine kC hC [(16, 304), (0, 0)] Tryz.call203 h (fun _ => Xp8) fun q9 h => ?_
 refine kT hT hC h fun h => ?_
 refine kO hT hC ?_
 refine Vc.nil (Xa2 (Xaf (Xac ?_)))
 iterate 2 refine kO hT hC ?_
 refine Vc.nil ?_
 obtain rfl := kj h
 exact Yk5 (kW hC [(224, 320)])
 exact kf b5 (Xa0 (Xbd ku))
 refine Xaf (Xad ?_)
 iterate 2 refine kO hT hC ?_
 refine Vc.nil (Xah ?_)
 obtain rfl := kj h
 exact Xd1 (τ := ⟨[(4, .own 16)], [(16, some (.ints .i64 v8.1)), (0, some (.box [.sv (.str v8.2.1), .sv (.int .i64 v8.2.2.1), .sv (.bool v8.2.2.2)]))]⟩) (kW hC [(16, 224)]) rfl ⟨rfl, rfl, trivial⟩
def Xum (r : Bool) : AV := .sv (.bool r)
def Xul (r : Bool) : Xbj := []
theorem Xh5 {p0 p1 p2 p3 r} (h : Xd7 p0 p1 p2 p3 = some r) : AC Tryz.prog 163 [.sv (.ints .i64 p0), .sv (.int .i64 p1), .sv (.int .i64 p2), .sv (.int .i64 p3)] [] (Xum r) (Xul r) := by
 refine Xae hT Tryz.func163 rfl fun C hC => ?_
 unfold Xd7 at h
 refine Xad ?_
 refine kO hT hC ?_
 refine Vc.nil (Xa3 (Xad ?_))
 iterate 3 refine kO hT hC ?_
 refine Vc.nil ?_
 refine kL [0,1,2,3,11,12,13] [] [_,_,_,_,_,_,_] [] ?_
 obtain ⟨o8, hl, h⟩ := Xb4 h
 refine Xoe (fun v3 => ([(13, .sv (.int .i64 v3))], [])) (fun v6 => ([(2, .any), (3, .any), (11, .any), (12, .any), (13, .any)], [])) (fun r => Xye C T Tryz.f163.results.toList (Xum r) (Xul r)) hl ?_ ?_ ?_ ?_
 apply Xle hC []
 exact co
 rfl
 decide
 rfl
 intro v3 s hs
 have h := hs
 unfold Xkl at h
 refine Xad ?_
 refine kO hT hC ?_
 refine Vc.nil (Xa3 ?_)
 refine kS h ?_ ?_ <;> intro b5 h
 refine kt b5 (Xag (Xaf (Xa3 (Xaw (Xad ?_)))))
 refine kQ hT hC h fun h => ?_
 iterate 2 refine kO hT hC ?_
 refine kN ?_
 iterate 3 refine kO hT hC ?_
 refine kC hC [] Tryz.call69 h (fun _ => Xak) fun q7 h => ?_
 refine kO hT hC ?_
 refine Vc.nil ?_
 refine kS h ?_ ?_ <;> intro b6 h
 refine kt b6 (Xad ?_)
 refine kO hT hC ?_
 refine Vc.nil (Xah (Xik (Xa9 ?_)))
 obtain rfl := kj h
 refine Yb0 (Yby ?_)
 exact Xd1 (Xi6.refl _) rfl trivial
 refine kf b6 (Xag (Xa2 (Xaf (Xac ?_))))
 iterate 2 refine kO hT hC ?_
 exact Vc.nil kG
 exact kf b5 (Xa0 (Xbd kb))
 intro v6 e
 subst e
 refine Xaf (Xad ?_)
 iterate 5 refine kO hT hC ?_
 exact Vc.nil (Xah kR)
 intro r' σ' e hE
 subst e
 obtain rfl := kj h
 refine Xa9 ?_
 exact hE
def Xw8 (r : Bool) : AV := .sv (.bool r)
def Xw7 (r : Bool) : Xbj := []
theorem Xln {p0 r} (h : Xe3 p0 = some r) : AC Tryz.prog 201 [.sv (.ints .i64 p0)] [] (Xw8 r) (Xw7 r) := by
 refine Xae hT Tryz.func201 rfl fun C hC => ?_
 unfold Xe3 at h
 refine Xad ?_
 refine kO hT hC ?_
 refine kN ?_
 refine kO hT hC ?_
 refine kC hC [] Tryz.call163 h (fun _ => Xh5) fun q1 h => ?_
 refine kO hT hC ?_
 exact Vc.nil (Xah kR)
def Xyy (r : Bool) : AV := .sv (.bool r)
def Xyx (r : Bool) : Xbj := []
theorem Xrs {p0 r} (h : Xf7 p0 = some r) : AC Tryz.prog 175 [.agg [.sv (.int .i64 p0.Kind), .sv (.int .i64 p0.Mode), .sv (.int .i64 p0.Dx), .sv (.int .i64 p0.Dy), .sv (.ints .i64 p0.Levels)]] [] (Xyy r) (Xyx r) := by
 refine Xae hT Tryz.func175 rfl fun C hC => ?_
 unfold Xf7 at h
 refine Xad ?_
 iterate 2 refine kO hT hC ?_
 refine Vc.nil (Xa3 (Xad ?_))
 iterate 2 refine kO hT hC ?_
 refine Vc.nil (Xaw (Xad ?_))
 iterate 2 refine kO hT hC ?_
 refine Vc.nil ?_
 refine kS h ?_ ?_ <;> intro b1 h
 refine kt b1 ?_
 refine kL [1,2] [16] [_,_] [_] ?_
 refine kA h (fun v1 => ([(2, .sv (.bool v1)), (1, .any)], [(16, none)])) (fun v1 h => ?_) fun v1 h => ?_
 refine Xac ?_
 iterate 4 refine kO hT hC ?_
 refine kS h ?_ ?_ <;> intro b2 h
 iterate 3 refine kI hT hC b2 ?_
 refine kP hC true b2 ?_
 refine kO hT hC ?_
 refine kS h ?_ ?_ <;> intro b3 h
 iterate 3 refine kI hT hC b3 ?_
 refine kP hC true b3 ?_
 refine kO hT hC ?_
 refine kS h ?_ ?_ <;> intro b4 h
 iterate 4 refine kI hT hC b4 ?_
 refine kP hC true b4 ?_
 refine kO hT hC ?_
 exact Vc.nil kM
 iterate 4 refine kF hC b4 ?_
 refine kP hC false b4 ?_
 refine kO hT hC ?_
 exact Vc.nil kM
 iterate 3 refine kF hC b3 ?_
 refine kP hC false b3 ?_
 refine kO hT hC ?_
 iterate 4 refine kF hC rfl ?_
 iterate 2 refine kO hT hC ?_
 exact Vc.nil kM
 iterate 3 refine kF hC b2 ?_
 refine kP hC false b2 ?_
 refine kO hT hC ?_
 iterate 3 refine kF hC rfl ?_
 iterate 2 refine kO hT hC ?_
 iterate 4 refine kF hC rfl ?_
 iterate 2 refine kO hT hC ?_
 exact Vc.nil kM
 exact Xah (Xik (Xa9 kR))
 refine kf b1 (Xad ?_)
 iterate 2 refine kO hT hC ?_
 refine Vc.nil ?_
 refine kS h ?_ ?_ <;> intro b5 h
 refine kt b5 ?_
 refine kL [1,2] [16] [_,_] [_] ?_
 refine kA h (fun v2 => ([(2, .sv (.bool v2)), (1, .any)], [(16, none)])) (fun v2 h => ?_) fun v2 h => ?_
 refine Xac ?_
 iterate 4 refine kO hT hC ?_
 refine kS h ?_ ?_ <;> intro b6 h
 iterate 2 refine kI hT hC b6 ?_
 refine kE hC b6 [] Tryz.call69 h (fun _ => Xak) fun q3 h => ?_
 refine kP hC true b6 ?_
 refine kO hT hC ?_
 refine kS h ?_ ?_ <;> intro b7 h
 iterate 2 refine kI hT hC b7 ?_
 refine kE hC b7 [] Tryz.call69 h (fun _ => Xak) fun q4 h => ?_
 refine kP hC true b7 ?_
 refine kO hT hC ?_
 refine kS h ?_ ?_ <;> intro b8 h
 iterate 2 refine kI hT hC b8 ?_
 refine kE hC b8 [] Tryz.call201 h (fun _ => Xln) fun q5 h => ?_
 refine kP hC true b8 ?_
 refine kO hT hC ?_
 exact Vc.nil kM
 iterate 3 refine kF hC b8 ?_
 refine kP hC false b8 ?_
 refine kO hT hC ?_
 exact Vc.nil kM
 iterate 3 refine kF hC b7 ?_
 refine kP hC false b7 ?_
 refine kO hT hC ?_
 iterate 3 refine kF hC rfl ?_
 iterate 2 refine kO hT hC ?_
 exact Vc.nil kM
 iterate 3 refine kF hC b6 ?_
 refine kP hC false b6 ?_
 refine kO hT hC ?_
 iterate 3 refine kF hC rfl ?_
 iterate 2 refine kO hT hC ?_
 iterate 3 refine kF hC rfl ?_
 iterate 2 refine kO hT hC ?_
 exact Vc.nil kM
 exact Xah (Xik (Xa9 kR))
 refine kf b5 (Xad ?_)
 iterate 2 refine kO hT hC ?_
 refine Vc.nil ?_
 refine kS h ?_ ?_ <;> intro b9 h
 refine kt b9 ?_
 refine kL [1,2] [16] [_,_] [_] ?_
 refine kA h (fun v6 => ([(2, .sv (.bool v6)), (1, .any)], [(16, none)])) (fun v6 h => ?_) fun v6 h => ?_
 refine Xac ?_
 iterate 2 refine kO hT hC ?_
 refine kC hC [] Tryz.call69 h (fun _ => Xak) fun q7 h => ?_
 refine kO hT hC ?_
 refine kS h ?_ ?_ <;> intro b10 h
 iterate 3 refine kI hT hC b10 ?_
 refine kP hC true b10 ?_
 refine kO hT hC ?_
 refine kS h ?_ ?_ <;> intro b11 h
 iterate 3 refine kI hT hC b11 ?_
 refine kP hC true b11 ?_
 refine kO hT hC ?_
 refine kS h ?_ ?_ <;> intro b12 h
 iterate 2 refine kI hT hC b12 ?_
 refine kE hC b12 [] Tryz.call201 h (fun _ => Xln) fun q8 h => ?_
 refine kP hC true b12 ?_
 refine kO hT hC ?_
 exact Vc.nil kM
 iterate 3 refine kF hC b12 ?_
 refine kP hC false b12 ?_
 refine kO hT hC ?_
 exact Vc.nil kM
 iterate 3 refine kF hC b11 ?_
 refine kP hC false b11 ?_
 refine kO hT hC ?_
 iterate 3 refine kF hC rfl ?_
 iterate 2 refine kO hT hC ?_
 exact Vc.nil kM
 iterate 3 refine kF hC b10 ?_
 refine kP hC false b10 ?_
 refine kO hT hC ?_
 iterate 3 refine kF hC rfl ?_
 iterate 2 refine kO hT hC ?_
 iterate 3 refine kF hC rfl ?_
 iterate 2 refine kO hT hC ?_
 exact Vc.nil kM
 exact Xah (Xik (Xa9 kR))
 refine kf b9 (Xag (Xa2 (Xaf (Xad ?_))))
 refine kO hT hC ?_
 exact Vc.nil (Xah kR)
def Xt4 (r : (Xao × Xj9)) : AV := .agg [.sv (.int .i64 r.1.Kind), .sv (.int .i64 r.1.Mode), .sv (.int .i64 r.1.Dx), .sv (.int .i64 r.1.Dy), .own 16]
def Xt3 (r : (Xao × Xj9)) : Xbj := [(16, .ints .i64 r.1.Levels), (0, .box [.sv (.str r.2.row_), .sv (.int .i64 r.2.at_), .sv (.bool r.2.bad_)])]
theorem Xvr {p0 p1 r} (h : Xb8 p0 p1 = some r) : AC Tryz.prog 136 [.ptr 0 0, .agg [.sv (.bool p1.Key), .sv (.int .i64 p1.Qp), .sv (.bool p1.Large), .sv (.bool p1.Exact)]] [(0, .box [.sv (.str p0.row_), .sv (.int .i64 p0.at_), .sv (.bool p0.bad_)])] (Xt4 r) (Xt3 r) := by
 refine Xae hT Tryz.func136 rfl fun C hC => ?_
 unfold Xb8 at h
 refine Xad ?_
 iterate 2 refine kO hT hC ?_
 refine kN ?_
 iterate 3 refine kO hT hC ?_
 refine Vc.nil ?_
 refine kL [0,3,4,5] [0,48,64,80] [_,_,_,_] [_,_,_,_] ?_
 refine kA h (fun v1 => ([], [(0, some (.box [.sv (.str v1.1), .sv (.int .i64 v1.2.1), .sv (.bool v1.2.2.1)])), (80, some (.box [.sv (.int .i64 v1.2.2.2), .sv (.int .i64 0), .sv (.int .i64 0), .sv (.int .i64 0), .sv .nil]))])) (fun v1 h => ?_) fun v1 h => ?_
 refine Xad ?_
 iterate 3 refine kO hT hC ?_
 refine Vc.nil ?_
 refine kS h ?_ ?_ <;> intro b1 h
 refine kt b1 (Xac ?_)
 refine kO hT hC ?_
 refine kC hC [(0, 0)] Tryz.call99 h (fun _ => Xcs) fun q2 h => ?_
 iterate 2 refine kO hT hC ?_
 exact Vc.nil kM
 exact kf b1 (Xag kM)
 refine kL [0,3,4,5] [0,48,64,80] [_,_,_,_] [_,_,_,_] ?_
 refine kA h (fun v3 => ([(3, .any)], [(0, some (.box [.sv (.str v3.1), .sv (.int .i64 v3.2.1), .sv (.bool v3.2.2.1)])), (80, some (.box [.sv (.int .i64 v1.2.2.2), .sv (.int .i64 v3.2.2.2.1), .sv (.int .i64 v3.2.2.2.2.1), .sv (.int .i64 v3.2.2.2.2.2.1), .own 913])), (913, some (.ints .i64 v3.2.2.2.2.2.2)), (48, none)])) (fun v3 h => ?_) fun v3 h => ?_
 refine Xaw (Xad ?_)
 iterate 5 refine kO hT hC ?_
 refine Vc.nil ?_
 refine kS h ?_ ?_ <;> intro b2 h
 refine kt b2 (Xag (Xa2 ?_))
 obtain rfl := kj h
 refine Xjw ?_
 refine Xyc hC 80 4 914 (.ints .i64 []) rfl rfl rfl rfl rfl trivial ?_
 try dsimp only
 apply Xle hC [(913, 914)]
 exact co
 rfl
 decide
 rfl
 refine kf b2 (Xad ?_)
 iterate 4 refine kO hT hC ?_
 refine Vc.nil ?_
 refine kS h ?_ ?_ <;> intro b3 h
 refine kt b3 (Xad ?_)
 refine kO hT hC ?_
 refine kC hC [(0, 0)] Tryz.call160 h (fun _ => Xkn) fun q4 h => ?_
 iterate 2 refine kO hT hC ?_
 refine kN ?_
 refine kO hT hC ?_
 refine kC hC [(0, 0)] Tryz.call160 h (fun _ => Xkn) fun q5 h => ?_
 iterate 2 refine kO hT hC ?_
 refine Vc.nil (Xac ?_)
 iterate 2 refine kO hT hC ?_
 refine kC hC [(16, 480), (0, 0)] Tryz.call178 h (fun _ => Xn9) fun q6 h => ?_
 iterate 2 refine kO hT hC ?_
 refine Vc.nil (Xa2 ?_)
 obtain rfl := kj h
 exact Xjw (kW hC [(913, 480)])
 refine kf b3 (Xad ?_)
 iterate 4 refine kO hT hC ?_
 refine Vc.nil ?_
 refine kS h ?_ ?_ <;> intro b4 h
 refine kt b4 (Xad ?_)
 refine kO hT hC ?_
 refine kC hC [(0, 0)] Tryz.call99 h (fun _ => Xcs) fun q7 h => ?_
 iterate 2 refine kO hT hC ?_
 refine Vc.nil (Xac ?_)
 iterate 2 refine kO hT hC ?_
 refine kC hC [(16, 656), (0, 0)] Tryz.call178 h (fun _ => Xn9) fun q8 h => ?_
 iterate 2 refine kO hT hC ?_
 refine Vc.nil (Xa2 ?_)
 obtain rfl := kj h
 exact Xjw (kW hC [(913, 656)])
 refine kf b4 (Xag (Xa2 ?_))
 obtain rfl := kj h
 refine Xjw ?_
 refine Xyc hC 80 4 915 (.ints .i64 []) rfl rfl rfl rfl rfl trivial ?_
 try dsimp only
 apply Xle hC [(913, 915)]
 exact co
 rfl
 decide
 rfl
 refine kL [0,4,5] [0,64,80,913] [_,_,_] [_,_,_,_] ?_
 refine kA h (fun v9 => ([(0, .any)], [(0, some (.box [.sv (.str v3.1), .sv (.int .i64 v3.2.1), .sv (.bool v9)]))])) (fun v9 h => ?_) fun v9 h => ?_
 refine Xac ?_
 iterate 6 refine kO hT hC ?_
 refine kS h ?_ ?_ <;> intro b5 h
 iterate 3 refine kF hC b5 ?_
 refine kP hC true b5 ?_
 iterate 3 refine kO hT hC ?_
 exact Vc.nil kM
 refine kI hT hC b5 ?_
 refine kE hC b5 [] Tryz.call175 h (fun _ => Xrs) fun q10 h => ?_
 refine kI hT hC b5 ?_
 refine kP hC false b5 ?_
 iterate 3 refine kO hT hC ?_
 exact Vc.nil kM
 refine Xad ?_
 iterate 2 refine kO hT hC ?_
 refine Vc.nil (Xah ?_)
 obtain rfl := kj h
 exact Xd1 (τ := ⟨[(4, .ptr 2000000 0)], [(16, some (.ints .i64 v3.2.2.2.2.2.2)), (0, some (.box [.sv (.str v3.1), .sv (.int .i64 v3.2.1), .sv (.bool v9)])), (2000000, some (.box [.sv (.int .i64 v1.2.2.2), .sv (.int .i64 v3.2.2.2.1), .sv (.int .i64 v3.2.2.2.2.1), .sv (.int .i64 v3.2.2.2.2.2.1), .own 16]))]⟩) (kW hC [(16, 913), (2000000, 64)]) rfl ⟨rfl, rfl, trivial⟩
def Xp1 (r : ((List Xao) × Bool)) : AV := .tup [.own 16, .sv (.bool r.2)]
def Xp0 (r : ((List Xao) × Bool)) : Xbj := [(16, .row Xe1 r.1)]
theorem Ya9 {p0 p1 p2 p3 r} (h : Xev p0 p1 p2 p3 = some r) : AC Tryz.prog 80 [.sv (.str p0), .sv (.int .i64 p1), .sv (.int .i64 p2), .agg [.sv (.bool p3.Key), .sv (.int .i64 p3.Qp), .sv (.bool p3.Large), .sv (.bool p3.Exact)]] [] (Xp1 r) (Xp0 r) := by
 refine Xae hT Tryz.func80 rfl fun C hC => ?_
 unfold Xev at h
 refine Xad ?_
 iterate 3 refine kO hT hC ?_
 refine kN ?_
 iterate 2 refine kO hT hC ?_
 refine kC hC [(16, 224)] Tryz.call98 h (fun _ => Xmc) fun q1 h => ?_
 refine kO hT hC ?_
 refine kN ?_
 iterate 2 refine kO hT hC ?_
 refine Vc.nil (Xa3 ?_)
 refine kL [0,2,7,10,11] [112,224,240] [_,_,_,_,_] [_,_,_] ?_
 refine kA h (fun v2 => ([(23, .sv (.bool v2))], [])) (fun v2 h => ?_) fun v2 h => ?_
 refine Xac ?_
 refine kO hT hC ?_
 refine kC hC [] Tryz.call69 h (fun _ => Xak) fun q3 h => ?_
 iterate 2 refine kO hT hC ?_
 refine kS h ?_ ?_ <;> intro b1 h
 refine kI hT hC (kn b1) ?_
 refine kE hC (kn b1) [] Tryz.call121 h (fun _ => Xl8) fun q4 h => ?_
 refine kI hT hC (kn b1) ?_
 refine kP hC false (kn b1) ?_
 exact Vc.nil kM
 iterate 3 refine kF hC (kn b1) ?_
 refine kP hC true (kn b1) ?_
 exact Vc.nil kM
 refine kS h ?_ ?_ <;> intro b2 h
 refine kt b2 (Xad ?_)
 iterate 3 refine kO hT hC ?_
 refine Vc.nil (Xah (Xa9 ?_))
 obtain rfl := kj h
 exact Xd1 (τ := ⟨[(8, .own 16), (9, .sv (.bool false))], [(16, some (.row Xe1 ([] : List Xao)))]⟩) (kW hC [(16, 240)]) rfl ⟨rfl, trivial⟩
 refine kf b2 (Xag (Xaf (Xa3 (Xad ?_))))
 iterate 2 refine kO hT hC ?_
 refine Vc.nil ?_
 refine kL [0,7,10,11,25,26] [112,224,240] [_,_,_,_,_,_] [_,_,_] ?_
 obtain ⟨o12, hl, h⟩ := Xb4 h
 refine Xoe (fun v7 => ([(26, .sv (.int .i64 v7.1))], [(224, some (.box [.sv (.str v7.2.1), .sv (.int .i64 v7.2.2.1), .sv (.bool v7.2.2.2.1)])), (240, some (.row Xe1 v7.2.2.2.2))])) (fun v10 => ([(7, .any), (25, .any), (26, .any)], [(224, some (.box [.sv (.str v10.1), .sv (.int .i64 v10.2.1), .sv (.bool v10.2.2.1)])), (240, some (.row Xe1 v10.2.2.2)), (112, none)])) (fun r => Xye C T Tryz.f80.results.toList (Xp1 r) (Xp0 r)) hl ?_ ?_ ?_ ?_
 try dsimp only
 apply Xle hC []
 exact co
 rfl
 decide
 rfl
 intro v7 s hs
 have h := hs
 unfold Xba at h
 refine Xad ?_
 refine kO hT hC ?_
 refine Vc.nil (Xa3 ?_)
 refine kS h ?_ ?_ <;> intro b7 h
 refine kt b7 (Xag (Xaf (Xa3 (Xaw (Xad ?_)))))
 iterate 3 refine kO hT hC ?_
 refine kC hC [(16, 496), (0, 224)] Tryz.call136 h (fun _ => Xvr) fun q11 h => ?_
 refine kO hT hC ?_
 obtain ⟨hq, h⟩ := Xa7 h
 refine Ygp hT hC rfl rfl rfl rfl ⟨fun _ _ => rfl, by rw [Xs7]; exact hq⟩ ?_
 rw [Xs7]
 refine kO hT hC ?_
 refine kN ?_
 iterate 4 refine kO hT hC ?_
 refine Vc.nil ?_
 refine kS h ?_ ?_ <;> intro b8 h
 refine kt b8 (Xad ?_)
 iterate 3 refine kO hT hC ?_
 refine Vc.nil (Xah (Xik (Xa9 ?_)))
 obtain rfl := kj h
 refine Yb0 (Yby ?_)
 refine Xd1 (τ := ⟨[(8, .own 16), (9, .sv (.bool false))], [(16, some (.row Xe1 ([] : List Xao)))]⟩) ?_ rfl ⟨rfl, trivial⟩
 apply Xle hC [(16, 608)]
 exact co
 rfl
 decide
 rfl
 refine kf b8 (Xag (Xa2 (Xaf (Xac ?_))))
 iterate 2 refine kO hT hC ?_
 refine Vc.nil ?_
 obtain rfl := kj h
 exact Yk5 (kW hC [(240, 528)])
 exact kf b7 (Xa0 (Xbd kb))
 intro v10 e
 subst e
 refine Xaf (Xa3 (Xad ?_))
 iterate 7 refine kO hT hC ?_
 refine Vc.nil ?_
 refine kS h ?_ ?_ <;> intro b9 h
 refine kt b9 (Xad ?_)
 iterate 3 refine kO hT hC ?_
 refine Vc.nil (Xah (Xa9 ?_))
 obtain rfl := kj h
 exact Xd1 (τ := ⟨[(8, .own 16), (9, .sv (.bool false))], [(16, some (.row Xe1 ([] : List Xao)))]⟩) (kW hC [(16, 752)]) rfl ⟨rfl, trivial⟩
 refine kf b9 (Xag (Xaf (Xad ?_)))
 iterate 3 refine kO hT hC ?_
 refine Vc.nil (Xah ?_)
 obtain rfl := kj h
 exact Xd1 (τ := ⟨[(8, .own 16), (9, .sv (.bool true))], [(16, some (.row Xe1 v10.2.2.2))]⟩) (kW hC [(16, 240)]) rfl ⟨rfl, trivial⟩
 intro r' σ' e hE
 subst e
 obtain rfl := kj h
 refine Xa9 ?_
 exact hE
def Yet (r : Bool) : AV := .sv (.bool r)
def Yes (r : Bool) : Xbj := []
theorem Xuo {p0 r} (h : Xlo p0 = some r) : AC Tryz.prog 78 [.sv (.int .i64 p0)] [] (Yet r) (Yes r) := by
 refine Xae hT Tryz.func78 rfl fun C hC => ?_
 unfold Xlo at h
 refine Xad ?_
 refine kO hT hC ?_
 refine Vc.nil ?_
 refine kL [0,2] [] [_,_] [] ?_
 refine kA h (fun v1 => ([(2, .sv (.bool v1)), (0, .any)], [])) (fun v1 h => ?_) fun v1 h => ?_
 refine Xac ?_
 refine kO hT hC ?_
 refine kQ hT hC h fun h => ?_
 iterate 2 refine kO hT hC ?_
 refine kS h ?_ ?_ <;> intro b1 h
 refine kI hT hC b1 ?_
 refine kE hC b1 [] Tryz.call69 h (fun _ => Xak) fun q2 h => ?_
 refine kP hC true b1 ?_
 refine kO hT hC ?_
 exact Vc.nil kM
 iterate 2 refine kF hC b1 ?_
 refine kP hC false b1 ?_
 refine kO hT hC ?_
 exact Vc.nil kM
 exact Xah kR
def Xw0 (r : Bool) : AV := .sv (.bool r)
def Xwz (r : Bool) : Xbj := []
theorem Xlj {p0 p1 r} (h : Xd2 p0 p1 = some r) : AC Tryz.prog 137 [.agg [.sv (.int .i64 p0.Wide), .sv (.int .i64 p0.High), .sv (.str p0.Dots)], .agg [.sv (.int .i64 p1.Left), .sv (.int .i64 p1.Top), .sv (.int .i64 p1.Wide), .sv (.int .i64 p1.High)]] [] (Xw0 r) (Xwz r) := by
 refine Xae hT Tryz.func137 rfl fun C hC => ?_
 unfold Xd2 at h
 refine Xad ?_
 iterate 3 refine kO hT hC ?_
 refine Vc.nil ?_
 refine kL [2,3,4] [32,48] [_,_,_] [_,_] ?_
 refine kA h (fun v1 => ([(4, .sv (.bool v1)), (2, .any), (3, .any)], [(32, none), (48, none)])) (fun v1 h => ?_) fun v1 h => ?_
 refine Xac ?_
 iterate 4 refine kO hT hC ?_
 refine kC hC [] Tryz.call69 h (fun _ => Xak) fun q2 h => ?_
 refine kO hT hC ?_
 refine kS h ?_ ?_ <;> intro b1 h
 iterate 4 refine kI hT hC b1 ?_
 refine kE hC b1 [] Tryz.call69 h (fun _ => Xak) fun q3 h => ?_
 refine kP hC true b1 ?_
 refine kO hT hC ?_
 refine kS h ?_ ?_ <;> intro b2 h
 iterate 7 refine kI hT hC b2 ?_
 refine kE hC b2 [] Tryz.call69 h (fun _ => Xak) fun q4 h => ?_
 refine kP hC true b2 ?_
 refine kO hT hC ?_
 refine kS h ?_ ?_ <;> intro b3 h
 iterate 7 refine kI hT hC b3 ?_
 refine kE hC b3 [] Tryz.call69 h (fun _ => Xak) fun q5 h => ?_
 refine kP hC true b3 ?_
 refine kO hT hC ?_
 exact Vc.nil kM
 iterate 8 refine kF hC b3 ?_
 refine kP hC false b3 ?_
 refine kO hT hC ?_
 exact Vc.nil kM
 iterate 8 refine kF hC b2 ?_
 refine kP hC false b2 ?_
 refine kO hT hC ?_
 iterate 8 refine kF hC rfl ?_
 iterate 2 refine kO hT hC ?_
 exact Vc.nil kM
 iterate 5 refine kF hC b1 ?_
 refine kP hC false b1 ?_
 refine kO hT hC ?_
 iterate 8 refine kF hC rfl ?_
 iterate 2 refine kO hT hC ?_
 iterate 8 refine kF hC rfl ?_
 iterate 2 refine kO hT hC ?_
 exact Vc.nil kM
 exact Xah kR
def Yg2 (r : (Pic × Bool)) : AV := .tup [.agg [.sv (.int .i64 r.1.Wide), .sv (.int .i64 r.1.High), .sv (.str r.1.Dots)], .sv (.bool r.2)]
def Yg1 (r : (Pic × Bool)) : Xbj := []
theorem Yka {p0 p1 r} (h : Xn0 p0 p1 = some r) : AC Tryz.prog 138 [.agg [.sv (.int .i64 p0.Wide), .sv (.int .i64 p0.High), .sv (.str p0.Dots)], .agg [.sv (.int .i64 p1.Left), .sv (.int .i64 p1.Top), .sv (.int .i64 p1.Wide), .sv (.int .i64 p1.High)]] [] (Yg2 r) (Yg1 r) := by
 refine Xae hT Tryz.func138 rfl fun C hC => ?_
 unfold Xn0 at h
 refine Xad ?_
 iterate 4 refine kO hT hC ?_
 refine Vc.nil (Xa3 ?_)
 refine kL [2,3,4] [32,48,64] [_,_,_] [_,_,_] ?_
 refine kA h (fun v1 => ([(16, .sv (.bool v1))], [])) (fun v1 h => ?_) fun v1 h => ?_
 refine Xac ?_
 refine kO hT hC ?_
 refine kC hC [] Tryz.call42 h (fun _ => Xdu) fun q2 h => ?_
 iterate 2 refine kO hT hC ?_
 refine kS h ?_ ?_ <;> intro b1 h
 iterate 2 refine kI hT hC (kn b1) ?_
 refine kE hC (kn b1) [] Tryz.call137 h (fun _ => Xlj) fun q3 h => ?_
 refine kI hT hC (kn b1) ?_
 refine kP hC false (kn b1) ?_
 exact Vc.nil kM
 iterate 4 refine kF hC (kn b1) ?_
 refine kP hC true (kn b1) ?_
 exact Vc.nil kM
 refine kS h ?_ ?_ <;> intro b2 h
 refine kt b2 (Xad ?_)
 iterate 3 refine kO hT hC ?_
 exact Vc.nil (Xah (Xa9 kR))
 refine kf b2 (Xag (Xaf (Xad ?_)))
 iterate 5 refine kO hT hC ?_
 obtain ⟨hq, h⟩ := Xa7 h
 refine Ygp hT hC rfl rfl rfl rfl ⟨hq.1, hq.2.1, hq.2.2, by decide⟩ ?_
 refine kO hT hC ?_
 refine Vc.nil (Xa3 (Xad ?_))
 iterate 3 refine kO hT hC ?_
 refine Vc.nil ?_
 refine kL [2,3,4,6,7] [32,48,64,368] [_,_,_,_,_] [_,_,_,_] ?_
 refine kX h (fun v5 => ([(7, .sv (.int .i64 v5.1))], [(368, some (.ints .u8 v5.2))])) (fun v7 => ([(2, .any), (7, .any)], [(368, some (.ints .u8 v7)), (32, none)])) (kW hC []) (fun v5 s h => ?_) fun v7 h => ?_
 unfold Xq1 at h
 refine Xa3 (Xad ?_)
 iterate 7 refine kO hT hC ?_
 refine Vc.nil ?_
 refine kS h ?_ ?_ <;> intro b5 h
 refine kt b5 (Xag (Xaf (Xa3 (Xaw (Xac ?_)))))
 iterate 20 refine kO hT hC ?_
 refine kQ hT hC h fun h => ?_
 refine kT hT hC h fun h => ?_
 refine kO hT hC ?_
 refine Vc.nil (Xa2 (Xaf (Xac ?_)))
 iterate 3 refine kO hT hC ?_
 refine Vc.nil ?_
 obtain rfl := kj h
 exact Yk5 (kW hC [(368, 896)])
 exact kf b5 (Xa0 (Xbd ku))
 refine Xaf (Xad ?_)
 iterate 9 refine kO hT hC ?_
 exact Vc.nil (Xah kR)
def Ykf (r : Pic) : AV := .agg [.sv (.int .i64 r.Wide), .sv (.int .i64 r.High), .sv (.str r.Dots)]
def Yke (r : Pic) : Xbj := []
theorem Yae {p0 p1 r} (h : Xn4 p0 p1 = some r) : AC Tryz.prog 115 [.sv (.int .i64 p0), .sv (.int .i64 p1)] [] (Ykf r) (Yke r) := by
 refine Xae hT Tryz.func115 rfl fun C hC => ?_
 unfold Xn4 at h
 refine Xad ?_
 refine kO hT hC ?_
 refine Vc.nil (Xa3 ?_)
 refine kL [0,1,4] [64] [_,_,_] [_] ?_
 refine kA h (fun v1 => ([(14, .sv (.bool v1))], [])) (fun v1 h => ?_) fun v1 h => ?_
 refine Xac ?_
 refine kO hT hC ?_
 refine kC hC [] Tryz.call69 h (fun _ => Xak) fun q2 h => ?_
 iterate 2 refine kO hT hC ?_
 refine kS h ?_ ?_ <;> intro b1 h
 refine kI hT hC (kn b1) ?_
 refine kE hC (kn b1) [] Tryz.call69 h (fun _ => Xak) fun q3 h => ?_
 refine kI hT hC (kn b1) ?_
 refine kP hC false (kn b1) ?_
 exact Vc.nil kM
 iterate 3 refine kF hC (kn b1) ?_
 refine kP hC true (kn b1) ?_
 exact Vc.nil kM
 refine kS h ?_ ?_ <;> intro b2 h
 refine kt b2 (Xad ?_)
 iterate 2 refine kO hT hC ?_
 exact Vc.nil (Xah (Xa9 kR))
 refine kf b2 (Xag (Xaf (Xad ?_)))
 iterate 3 refine kO hT hC ?_
 obtain ⟨hq, h⟩ := Xa7 h
 refine Ygp hT hC rfl rfl rfl rfl ⟨hq.1, hq.2.1, hq.2.2, by decide⟩ ?_
 refine kO hT hC ?_
 refine Vc.nil (Xa3 (Xad ?_))
 iterate 3 refine kO hT hC ?_
 refine Vc.nil ?_
 refine kL [0,1,4,5,21,22] [64,304] [_,_,_,_,_,_] [_,_] ?_
 refine kX h (fun v5 => ([(22, .sv (.int .i64 v5.1))], [(304, some (.ints .u8 v5.2))])) (fun v7 => ([(21, .any), (22, .any)], [(304, some (.ints .u8 v7))])) (kW hC []) (fun v5 s h => ?_) fun v7 h => ?_
 unfold Xmq at h
 refine Xad ?_
 refine kO hT hC ?_
 refine Vc.nil (Xa3 ?_)
 refine kS h ?_ ?_ <;> intro b5 h
 refine kt b5 (Xag (Xaf (Xa3 (Xaw (Xad ?_)))))
 iterate 2 refine kO hT hC ?_
 refine Vc.nil (Xac ?_)
 iterate 2 refine kO hT hC ?_
 iterate 2 refine kQ hT hC h fun h => ?_
 refine Vc.nil (Xa2 (Xaf (Xac ?_)))
 iterate 2 refine kO hT hC ?_
 exact Vc.nil kG
 exact kf b5 (Xa0 (Xbd ku))
 refine Xaf (Xad ?_)
 iterate 6 refine kO hT hC ?_
 exact Vc.nil (Xah kR)
def Xse (r : Bool) : AV := .sv (.bool r)
def Xsd (r : Bool) : Xbj := []
theorem Xnk {p0 p1 p2 r} (h : Xcz p0 p1 p2 = some r) : AC Tryz.prog 162 [.agg [.sv (.int .i64 p0.Wide), .sv (.int .i64 p0.High), .sv (.str p0.Dots)], .sv (.int .i64 p1), .sv (.int .i64 p2)] [] (Xse r) (Xsd r) := by
 refine Xae hT Tryz.func162 rfl fun C hC => ?_
 unfold Xcz at h
 refine Xad ?_
 iterate 2 refine kO hT hC ?_
 refine Vc.nil ?_
 refine kL [1,2,3,6] [48] [_,_,_,_] [_] ?_
 refine kA h (fun v1 => ([(6, .sv (.bool v1)), (1, .any), (2, .any), (3, .any)], [(48, none)])) (fun v1 h => ?_) fun v1 h => ?_
 refine Xac ?_
 refine kO hT hC ?_
 refine kQ hT hC h fun h => ?_
 iterate 2 refine kO hT hC ?_
 refine kS h ?_ ?_ <;> intro b1 h
 refine kI hT hC b1 ?_
 refine kJ hT hC b1 h fun h => ?_
 refine kI hT hC b1 ?_
 refine kP hC true b1 ?_
 refine kO hT hC ?_
 refine kS h ?_ ?_ <;> intro b2 h
 iterate 4 refine kI hT hC b2 ?_
 refine kE hC b2 [] Tryz.call69 h (fun _ => Xak) fun q2 h => ?_
 refine kP hC true b2 ?_
 refine kO hT hC ?_
 refine kS h ?_ ?_ <;> intro b3 h
 iterate 4 refine kI hT hC b3 ?_
 refine kE hC b3 [] Tryz.call69 h (fun _ => Xak) fun q3 h => ?_
 refine kP hC true b3 ?_
 refine kO hT hC ?_
 exact Vc.nil kM
 iterate 5 refine kF hC b3 ?_
 refine kP hC false b3 ?_
 refine kO hT hC ?_
 exact Vc.nil kM
 iterate 5 refine kF hC b2 ?_
 refine kP hC false b2 ?_
 refine kO hT hC ?_
 iterate 5 refine kF hC rfl ?_
 iterate 2 refine kO hT hC ?_
 exact Vc.nil kM
 iterate 3 refine kF hC b1 ?_
 refine kP hC false b1 ?_
 refine kO hT hC ?_
 iterate 5 refine kF hC rfl ?_
 iterate 2 refine kO hT hC ?_
 iterate 5 refine kF hC rfl ?_
 iterate 2 refine kO hT hC ?_
 exact Vc.nil kM
 exact Xah kR
def Xvp (r : Bool) : AV := .sv (.bool r)
def Xvo (r : Bool) : Xbj := []
theorem Xw4 {p0 p1 r} (h : Xhc p0 p1 = some r) : AC Tryz.prog 176 [.agg [.sv (.int .i64 p0.Kind), .sv (.int .i64 p0.Mode), .sv (.int .i64 p0.Dx), .sv (.int .i64 p0.Dy), .sv (.ints .i64 p0.Levels)], .agg [.sv (.bool p1.Key), .sv (.int .i64 p1.Qp), .sv (.bool p1.Large), .sv (.bool p1.Exact)]] [] (Xvp r) (Xvo r) := by
 refine Xae hT Tryz.func176 rfl fun C hC => ?_
 unfold Xhc at h
 refine Xad ?_
 iterate 3 refine kO hT hC ?_
 refine Vc.nil ?_
 refine kL [2,3,4] [32,48] [_,_,_] [_,_] ?_
 refine kA h (fun v1 => ([(4, .sv (.bool v1)), (2, .any), (3, .any)], [(32, none), (48, none)])) (fun v1 h => ?_) fun v1 h => ?_
 refine Xac ?_
 iterate 4 refine kO hT hC ?_
 refine kS h ?_ ?_ <;> intro b1 h
 iterate 3 refine kI hT hC (kn b1) ?_
 refine kP hC false (kn b1) ?_
 refine kO hT hC ?_
 exact Vc.nil kM
 iterate 3 refine kF hC (kn b1) ?_
 refine kP hC true (kn b1) ?_
 refine kO hT hC ?_
 exact Vc.nil kM
 exact Xah kR
def Yat (r : Int) : AV := .sv (.int .i64 r)
def Yas (r : Int) : Xbj := []
theorem Xkc {p0 p1 p2 r} (h : Xep p0 p1 p2 = some r) : AC Tryz.prog 131 [.sv (.int .i64 p0), .sv (.int .i64 p1), .sv (.int .i64 p2)] [] (Yat r) (Yas r) := by
 refine Xae hT Tryz.func131 rfl fun C hC => ?_
 unfold Xep at h
 refine Xad ?_
 refine kO hT hC ?_
 refine kN ?_
 iterate 6 refine kO hT hC ?_
 exact Vc.nil (Xah kR)
def Ya3 (r : Int) : AV := .sv (.int .i64 r)
def Ya2 (r : Int) : Xbj := []
theorem Xkg {p0 p1 p2 r} (h : Xeu p0 p1 p2 = some r) : AC Tryz.prog 171 [.agg [.sv (.int .i64 p0.Wide), .sv (.int .i64 p0.High), .sv (.str p0.Dots)], .sv (.int .i64 p1), .sv (.int .i64 p2)] [] (Ya3 r) (Ya2 r) := by
 refine Xae hT Tryz.func171 rfl fun C hC => ?_
 unfold Xeu at h
 refine Xad ?_
 iterate 2 refine kO hT hC ?_
 refine Vc.nil ?_
 refine Xc6 hm ?_
 iterate 6 refine kO hT hC ?_
 refine kC hC [] Tryz.call131 h (fun _ => Xkc) fun q1 h => ?_
 iterate 7 refine kO hT hC ?_
 refine kC hC [] Tryz.call131 h (fun _ => Xkc) fun q2 h => ?_
 refine kO hT hC ?_
 refine kQ hT hC h fun h => ?_
 iterate 2 refine kO hT hC ?_
 exact kD (Xah kR)
def Xwy (r : (List Int)) : AV := .own 16
def Xwx (r : (List Int)) : Xbj := [(16, .ints .i64 r)]
theorem Xpz {p0 p1 p2 r} (h : Xgs p0 p1 p2 = some r) : AC Tryz.prog 123 [.agg [.sv (.int .i64 p0.Wide), .sv (.int .i64 p0.High), .sv (.str p0.Dots)], .sv (.int .i64 p1), .sv (.int .i64 p2)] [] (Xwy r) (Xwx r) := by
 refine Xae hT Tryz.func123 rfl fun C hC => ?_
 unfold Xgs at h
 refine Xad ?_
 iterate 2 refine kO hT hC ?_
 refine kN ?_
 obtain ⟨hq, h⟩ := Xa7 h
 refine Ygp hT hC rfl rfl rfl rfl ⟨hq.1, hq.2.1, hq.2.2, by decide⟩ ?_
 refine kO hT hC ?_
 refine Vc.nil (Xa3 (Xad ?_))
 refine kO hT hC ?_
 refine Vc.nil ?_
 refine kL [1,2,3,7,11] [48,160] [_,_,_,_,_] [_,_] ?_
 refine kX h (fun v10 => ([(11, .sv (.int .i64 v10.1))], [(160, some (.ints .i64 v10.2))])) (fun v20 => ([(1, .any), (2, .any), (3, .any), (11, .any)], [(160, some (.ints .i64 v20)), (48, none)])) (kW hC []) (fun v10 s h => ?_) fun v20 h => ?_
 unfold Xes at h
 refine Xad ?_
 refine kO hT hC ?_
 refine Vc.nil (Xa3 ?_)
 refine kS h ?_ ?_ <;> intro b9 h
 refine kt b9 (Xag (Xaf (Xa3 (Xaw (Xad ?_)))))
 iterate 2 refine kO hT hC ?_
 refine kN ?_
 refine kO hT hC ?_
 refine Vc.nil ?_
 refine kL [1,2,3,7,8,11,14] [48,160] [_,_,_,_,_,_,_] [_,_] ?_
 refine kX h (fun v23 => ([(14, .sv (.int .i64 v23.1))], [(160, some (.ints .i64 v23.2))])) (fun v26 => ([(8, .any), (14, .any)], [(160, some (.ints .i64 v26))])) (kW hC []) (fun v23 s h => ?_) fun v26 h => ?_
 unfold Xet at h
 refine Xad ?_
 refine kO hT hC ?_
 refine Vc.nil (Xa3 ?_)
 refine kS h ?_ ?_ <;> intro b12 h
 refine kt b12 (Xag (Xaf (Xa3 (Xaw (Xad ?_)))))
 iterate 2 refine kO hT hC ?_
 refine Vc.nil (Xac ?_)
 iterate 8 refine kO hT hC ?_
 refine kC hC [] Tryz.call171 h (fun _ => Xkg) fun q27 h => ?_
 refine kO hT hC ?_
 refine kT hT hC h fun h => ?_
 refine kO hT hC ?_
 refine Vc.nil (Xa2 (Xaf (Xac ?_)))
 iterate 2 refine kO hT hC ?_
 refine Vc.nil ?_
 obtain rfl := kj h
 exact Yk5 (kW hC [(160, 432)])
 exact kf b12 (Xa0 (Xbd ku))
 refine Xa2 (Xaf (Xac ?_))
 iterate 2 refine kO hT hC ?_
 exact Vc.nil kG
 exact kf b9 (Xa0 (Xbd ku))
 refine Xaf (Xad ?_)
 iterate 2 refine kO hT hC ?_
 refine Vc.nil (Xah ?_)
 obtain rfl := kj h
 exact Xd1 (τ := ⟨[(6, .own 16)], [(16, some (.ints .i64 v20))]⟩) (kW hC [(16, 160)]) rfl ⟨rfl, trivial⟩
def Xxb (r : (List Int)) : AV := .own 16
def Xxa (r : (List Int)) : Xbj := [(16, .ints .i64 r)]
theorem Xy5 {p0 r} (h : Xis p0 = some r) : AC Tryz.prog 223 [.sv (.int .i64 p0)] [] (Xxb r) (Xxa r) := by
 refine Xae hT Tryz.func223 rfl fun C hC => ?_
 unfold Xis at h
 refine Xad ?_
 refine kO hT hC ?_
 refine kN ?_
 iterate 2 refine kO hT hC ?_
 refine Vc.nil (Xa3 (Xad ?_))
 refine kO hT hC ?_
 refine Vc.nil ?_
 refine kL [0,3,4] [128] [_,_,_] [_] ?_
 refine kX h (fun v16 => ([(4, .sv (.int .i64 v16.1))], [(128, some (.ints .i64 v16.2))])) (fun v32 => ([(0, .any), (4, .any)], [(128, some (.ints .i64 v32))])) (kW hC []) (fun v16 s h => ?_) fun v32 h => ?_
 unfold Xg4 at h
 refine Xa3 (Xad ?_)
 iterate 5 refine kO hT hC ?_
 refine Vc.nil ?_
 refine kS h ?_ ?_ <;> intro b27 h
 refine kt b27 (Xag (Xaf (Xa3 (Xaw (Xad ?_)))))
 refine kO hT hC ?_
 refine Vc.nil ?_
 refine kL [0,3,4,5] [128] [_,_,_,_] [_] ?_
 refine kX h (fun v37 => ([(5, .sv (.int .i64 v37.1))], [(128, some (.ints .i64 v37.2))])) (fun v42 => ([(5, .any)], [(128, some (.ints .i64 v42))])) (kW hC []) (fun v37 s h => ?_) fun v42 h => ?_
 unfold Xkm at h
 refine Xa3 (Xad ?_)
 iterate 3 refine kO hT hC ?_
 refine Vc.nil ?_
 refine kS h ?_ ?_ <;> intro b36 h
 refine kt b36 (Xag (Xaf ?_))
 refine kL [0,3,4,5] [128] [_,_,_,_] [_] ?_
 refine kA h (fun v43 => ([], [(128, some (.ints .i64 v43))])) (fun v43 h => ?_) fun v43 h => ?_
 refine Xaw (Xad ?_)
 iterate 2 refine kO hT hC ?_
 refine Vc.nil ?_
 refine kL [0,3,4,5,6] [128] [_,_,_,_,_] [_] ?_
 refine kA h (fun v44 => ([(6, .sv (.int .i64 v44))], [])) (fun v44 h => ?_) fun v44 h => ?_
 refine Xad ?_
 refine kO hT hC ?_
 refine kQ hT hC h fun h => ?_
 refine kO hT hC ?_
 refine Vc.nil ?_
 refine kS h ?_ ?_ <;> intro b37 h
 refine kt b37 (Xac ?_)
 iterate 4 refine kO hT hC ?_
 exact Vc.nil kM
 exact kf b37 (Xag kM)
 refine Xad ?_
 iterate 4 refine kO hT hC ?_
 refine Vc.nil ?_
 refine kL [0,3,4,5,6,7] [128] [_,_,_,_,_,_] [_] ?_
 refine kA h (fun v45 => ([(38, .sv (.bool v45))], [])) (fun v45 h => ?_) fun v45 h => ?_
 refine Xac ?_
 iterate 4 refine kO hT hC ?_
 refine kS h ?_ ?_ <;> intro b38 h
 iterate 3 refine kI hT hC b38 ?_
 refine kP hC true b38 ?_
 exact Vc.nil kM
 iterate 3 refine kF hC b38 ?_
 refine kP hC false b38 ?_
 exact Vc.nil kM
 refine kS h ?_ ?_ <;> intro b39 h
 refine kt b39 (Xac ?_)
 iterate 7 refine kO hT hC ?_
 refine kT hT hC h fun h => ?_
 refine kO hT hC ?_
 refine Vc.nil (Xa2 ?_)
 obtain rfl := kj h
 exact Xjw (kW hC [(128, 736)])
 exact kf b39 (Xag (Xa2 kM))
 refine Xac ?_
 iterate 3 refine kO hT hC ?_
 exact Vc.nil kG
 exact kf b36 (Xa0 (Xbd ku))
 refine Xa2 (Xaf (Xac ?_))
 iterate 3 refine kO hT hC ?_
 exact Vc.nil kG
 exact kf b27 (Xa0 (Xbd ku))
 refine Xaf (Xad ?_)
 iterate 2 refine kO hT hC ?_
 refine Vc.nil (Xah ?_)
 obtain rfl := kj h
 exact Xd1 (τ := ⟨[(2, .own 16)], [(16, some (.ints .i64 v32))]⟩) (kW hC [(16, 128)]) rfl ⟨rfl, trivial⟩
def Xw6 (r : ((List Int) × Bool)) : AV := .tup [.own 16, .sv (.bool r.2)]
def Xw5 (r : ((List Int) × Bool)) : Xbj := [(16, .ints .i64 r.1)]
theorem Xlm {p0 p1 r} (h : Xe2 p0 p1 = some r) : AC Tryz.prog 204 [.sv (.int .i64 p0), .sv (.ints .i64 p1)] [] (Xw6 r) (Xw5 r) := by
 refine Xae hT Tryz.func204 rfl fun C hC => ?_
 unfold Xe2 at h
 refine Xad ?_
 iterate 2 refine kO hT hC ?_
 refine Vc.nil (Xa3 ?_)
 refine kL [0,1] [] [_,_] [] ?_
 refine kA h (fun v1 => ([(22, .sv (.bool v1))], [])) (fun v1 h => ?_) fun v1 h => ?_
 refine Xac ?_
 iterate 3 refine kO hT hC ?_
 refine kS h ?_ ?_ <;> intro b1 h
 iterate 2 refine kI hT hC b1 ?_
 refine kP hC true b1 ?_
 refine kO hT hC ?_
 refine kS h ?_ ?_ <;> intro b2 h
 iterate 6 refine kF hC b2 ?_
 refine kP hC true b2 ?_
 exact Vc.nil kM
 iterate 6 refine kI hT hC b2 ?_
 refine kP hC false b2 ?_
 exact Vc.nil kM
 iterate 2 refine kF hC b1 ?_
 refine kP hC false b1 ?_
 refine kO hT hC ?_
 iterate 6 refine kI hT hC rfl ?_
 refine kO hT hC ?_
 exact Vc.nil kM
 refine kS h ?_ ?_ <;> intro b3 h
 refine kt b3 (Xad ?_)
 iterate 3 refine kO hT hC ?_
 refine Vc.nil (Xah (Xa9 ?_))
 obtain rfl := kj h
 exact Xd1 (τ := ⟨[(4, .own 16), (5, .sv (.bool false))], [(16, some (.ints .i64 ([] : List Int)))]⟩) (kW hC [(16, 368)]) rfl ⟨rfl, trivial⟩
 refine kf b3 (Xag (Xaf (Xad ?_)))
 iterate 2 refine kO hT hC ?_
 obtain ⟨hq, h⟩ := Xa7 h
 refine Ygp hT hC rfl rfl rfl rfl ⟨hq.1, hq.2.1, hq.2.2, by decide⟩ ?_
 refine kO hT hC ?_
 refine Vc.nil (Xa3 (Xad ?_))
 refine kO hT hC ?_
 refine kC hC [(16, 448)] Tryz.call223 h (fun _ => Xy5) fun q2 h => ?_
 iterate 2 refine kO hT hC ?_
 refine Vc.nil ?_
 refine kL [1,6,28,29,30] [416,448] [_,_,_,_,_] [_,_] ?_
 refine kX h (fun v4 => ([(30, .sv (.int .i64 v4.1))], [(416, some (.ints .i64 v4.2))])) (fun v6 => ([(1, .any), (28, .any), (29, .any), (30, .any)], [(416, some (.ints .i64 v6)), (448, none)])) (kW hC []) (fun v4 s h => ?_) fun v6 h => ?_
 unfold Xh4 at h
 refine Xad ?_
 refine kO hT hC ?_
 refine Vc.nil (Xa3 ?_)
 refine kS h ?_ ?_ <;> intro b6 h
 refine kt b6 (Xag (Xaf (Xa3 (Xaw (Xad ?_)))))
 refine kO hT hC ?_
 iterate 2 refine kQ hT hC h fun h => ?_
 iterate 2 refine kO hT hC ?_
 refine Vc.nil (Xac ?_)
 iterate 4 refine kO hT hC ?_
 refine kQ hT hC h fun h => ?_
 refine kO hT hC ?_
 iterate 2 refine kQ hT hC h fun h => ?_
 refine Vc.nil (Xa2 (Xaf (Xac ?_)))
 iterate 2 refine kO hT hC ?_
 exact Vc.nil kG
 exact kf b6 (Xa0 (Xbd ku))
 refine Xaf (Xad ?_)
 iterate 3 refine kO hT hC ?_
 refine Vc.nil (Xah ?_)
 obtain rfl := kj h
 exact Xd1 (τ := ⟨[(4, .own 16), (5, .sv (.bool true))], [(16, some (.ints .i64 v6))]⟩) (kW hC [(16, 416)]) rfl ⟨rfl, trivial⟩
end
end Go.Proofs.YtnhflbeahbcklaaGreat.A
