/- Contracts of the functions that the law FnExactTileFor reaches, part 1: each comes to what its pure function tells. Written by a program of this session. Conditions: as each statement tells. -/
import Derived.Test.YthpkcbplfbokcaaGreatFFnExactTileForx0
namespace Go.Proofs.YthpkcbplfbokcaaGreat.A
open Go Go.Proofs Go.Proofs.YthpkcbplfbokcaaGreatAL Go.RowKit
set_option linter.unusedVariables false
set_option linter.unusedSimpArgs false
set_option maxRecDepth 100000
set_option maxHeartbeats 8000000
noncomputable section
def Yat (r : (List Int)) : AV := .sv (.ints .i64 r)
def Yas (r : (List Int)) : Xa1 := []
theorem Xq4 {p0 r} (h : Xjv p0 = some r) : AC Tryz.prog 73 [.sv (.ints .i64 p0)] [] (Yat r) (Yas r) := by
 refine Xag hT Tryz.func73 rfl fun C hC => ?_
 unfold Xjv at h
 refine Xab ?_
 refine kO hT hC ?_
 refine Vc.nil (Xap (Xab ?_))
 iterate 3 refine kO hT hC ?_
 refine Vc.nil ?_
 refine kS h ?_ ?_ <;> intro b1 h
 refine kt b1 (Xab ?_)
 iterate 2 refine kO hT hC ?_
 refine Vc.nil (Xah (Xas ?_))
 obtain rfl := kj h
 exact Xch (τ := ⟨[(2, .sv (.ints .i64 ([128, 128, 128, 128, 128, 128, 128, 128])))], []⟩) (kW hC []) rfl trivial
 refine kf b1 (Xaf (Xae (Xab ?_)))
 iterate 2 refine kO hT hC ?_
 exact Vc.nil (Xah kR)
def Xxd (r : (List Int)) : AV := .own 16
def Xxc (r : (List Int)) : Xa1 := [(16, .ints .i64 r)]
theorem Xlo {p0 p1 r} (h : Xe9 p0 p1 = some r) : AC Tryz.prog 45 [.sv (.int .i64 p0), .agg [.sv (.ints .i64 p1.Above), .sv (.ints .i64 p1.Left), .sv (.int .i64 p1.Corner)]] [] (Xxd r) (Xxc r) := by
 refine Xag hT Tryz.func45 rfl fun C hC => ?_
 unfold Xe9 at h
 refine Xab ?_
 iterate 2 refine kO hT hC ?_
 refine kN ?_
 iterate 2 refine kO hT hC ?_
 refine Vc.nil (Xap ?_)
 refine kL [0,3,5] [48,208] [_,_,_] [_,_] ?_
 refine kA h (fun v1 => ([(21, .sv (.bool v1))], [])) (fun v1 h => ?_) fun v1 h => ?_
 refine Xac ?_
 refine kO hT hC ?_
 refine kC hC [] Tryz.call64 h (fun _ => Xpi) fun q2 h => ?_
 iterate 2 refine kO hT hC ?_
 refine kS h ?_ ?_ <;> intro b1 h
 refine kI hT hC (kn b1) ?_
 refine kE hC (kn b1) [] Tryz.call25 h (fun _ => Xaj) fun q3 h => ?_
 refine kI hT hC (kn b1) ?_
 refine kP hC false (kn b1) ?_
 exact Vc.nil kM
 iterate 3 refine kF hC (kn b1) ?_
 refine kP hC true (kn b1) ?_
 exact Vc.nil kM
 refine kS h ?_ ?_ <;> intro b2 h
 refine kt b2 (Xab ?_)
 iterate 2 refine kO hT hC ?_
 refine Vc.nil (Xah (Xas ?_))
 obtain rfl := kj h
 exact Xch (τ := ⟨[(4, .own 16)], [(16, some (.ints .i64 ([] : List Int)))]⟩) (kW hC [(16, 208)]) rfl ⟨rfl, trivial⟩
 refine kf b2 (Xaf (Xae (Xab ?_)))
 refine kO hT hC ?_
 refine Vc.nil ?_
 refine kL [0,3,5,6] [48,208] [_,_,_,_] [_,_] ?_
 refine kA h (fun v4 => ([(6, .sv (.int .i64 v4))], [])) (fun v4 h => ?_) fun v4 h => ?_
 refine Xab ?_
 iterate 8 refine kO hT hC ?_
 refine kN ?_
 iterate 2 refine kO hT hC ?_
 refine Vc.nil ?_
 refine kS h ?_ ?_ <;> intro b3 h
 refine kt b3 ?_
 refine Xdw hm ?_
 iterate 2 refine kO hT hC ?_
 refine kC hC [] Tryz.call72 h (fun _ => Xts) fun q5 h => ?_
 iterate 2 refine kO hT hC ?_
 refine kC hC [] Tryz.call72 h (fun _ => Xts) fun q6 h => ?_
 iterate 2 refine kO hT hC ?_
 refine kQ hT hC h fun h => ?_
 iterate 2 refine kO hT hC ?_
 refine kQ hT hC h fun h => ?_
 refine kO hT hC ?_
 exact kD kM
 exact kf b3 (Xaf kM)
 refine Xhg hm ?_
 iterate 2 refine kO hT hC ?_
 refine kC hC [] Tryz.call73 h (fun _ => Xq4) fun q7 h => ?_
 iterate 2 refine kO hT hC ?_
 refine kC hC [] Tryz.call73 h (fun _ => Xq4) fun q8 h => ?_
 iterate 5 refine kO hT hC ?_
 refine kD ?_
 refine kL [0,5,6,8,9,10] [208] [_,_,_,_,_,_] [_] ?_
 refine kA h (fun v9 => ([(10, .sv (.int .i64 v9))], [])) (fun v9 h => ?_) fun v9 h => ?_
 refine Xab ?_
 iterate 2 refine kO hT hC ?_
 refine Vc.nil ?_
 refine kS h ?_ ?_ <;> intro b4 h
 refine kt b4 (Xac ?_)
 refine kO hT hC ?_
 exact Vc.nil kM
 exact kf b4 (Xaf kM)
 refine Xap (Xab ?_)
 refine kO hT hC ?_
 refine Vc.nil ?_
 refine kL [0,5,6,8,9,10,54] [208] [_,_,_,_,_,_,_] [_] ?_
 refine kX h (fun v22 => ([(54, .sv (.int .i64 v22.1))], [(208, some (.ints .i64 v22.2))])) (fun v35 => ([(0, .any), (6, .any), (8, .any), (9, .any), (10, .any), (54, .any)], [(208, some (.ints .i64 v35))])) (kW hC []) (fun v22 s h => ?_) fun v35 h => ?_
 unfold Xkx at h
 refine Xab ?_
 refine kO hT hC ?_
 refine Vc.nil (Xap ?_)
 refine kS h ?_ ?_ <;> intro b31 h
 refine kt b31 (Xaf (Xae (Xap (Xak (Xab ?_)))))
 iterate 2 refine kO hT hC ?_
 refine kN ?_
 refine kO hT hC ?_
 refine Vc.nil ?_
 refine kL [0,5,6,8,9,10,11,54,57] [208] [_,_,_,_,_,_,_,_,_] [_] ?_
 refine kX h (fun v39 => ([(57, .sv (.int .i64 v39.1))], [(208, some (.ints .i64 v39.2))])) (fun v43 => ([(11, .any), (57, .any)], [(208, some (.ints .i64 v43))])) (kW hC []) (fun v39 s h => ?_) fun v43 h => ?_
 unfold Xfs at h
 refine Xab ?_
 refine kO hT hC ?_
 refine Vc.nil (Xap ?_)
 refine kS h ?_ ?_ <;> intro b40 h
 refine kt b40 (Xaf (Xae ?_))
 refine kL [0,5,6,8,9,10,11,54,57] [208] [_,_,_,_,_,_,_,_,_] [_] ?_
 refine kA h (fun v44 => ([(5, .own 1700)], [(1700, some (.ints .i64 v44)), (208, none)])) (fun v44 h => ?_) fun v44 h => ?_
 refine Xak (Xab ?_)
 iterate 2 refine kO hT hC ?_
 refine kN ?_
 refine kO hT hC ?_
 refine Vc.nil (Xak (Xab ?_))
 iterate 2 refine kO hT hC ?_
 refine Vc.nil ?_
 refine kS h ?_ ?_ <;> intro b41 h
 refine kt b41 (Xac ?_)
 iterate 3 refine kO hT hC ?_
 refine kT hT hC h fun h => ?_
 refine kO hT hC ?_
 refine Vc.nil ?_
 iterate 2 refine Xao ?_
 obtain rfl := kj h
 exact Xkt (kW hC [(1700, 1296)])
 refine kf b41 (Xab ?_)
 iterate 2 refine kO hT hC ?_
 refine Vc.nil ?_
 refine kS h ?_ ?_ <;> intro b42 h
 refine kt b42 (Xac ?_)
 iterate 3 refine kO hT hC ?_
 refine kQ hT hC h fun h => ?_
 iterate 2 refine kO hT hC ?_
 refine kT hT hC h fun h => ?_
 refine kO hT hC ?_
 refine Vc.nil ?_
 iterate 2 refine Xao ?_
 obtain rfl := kj h
 exact Xkt (kW hC [(1700, 1440)])
 refine kf b42 (Xab ?_)
 iterate 2 refine kO hT hC ?_
 refine Vc.nil ?_
 refine kS h ?_ ?_ <;> intro b43 h
 refine kt b43 (Xac ?_)
 iterate 3 refine kO hT hC ?_
 refine kQ hT hC h fun h => ?_
 iterate 2 refine kO hT hC ?_
 refine kT hT hC h fun h => ?_
 refine kO hT hC ?_
 refine Vc.nil ?_
 iterate 2 refine Xao ?_
 obtain rfl := kj h
 exact Xkt (kW hC [(1700, 1584)])
 refine kf b43 ?_
 refine Xdw hm ?_
 iterate 3 refine kO hT hC ?_
 refine kQ hT hC h fun h => ?_
 iterate 3 refine kO hT hC ?_
 refine kQ hT hC h fun h => ?_
 iterate 4 refine kO hT hC ?_
 refine kC hC [] Tryz.call74 h (fun _ => Xip) fun q45 h => ?_
 refine kO hT hC ?_
 refine kT hT hC h fun h => ?_
 refine kO hT hC ?_
 refine kD ?_
 iterate 2 refine Xao ?_
 obtain rfl := kj h
 exact Xkt (kW hC [(1700, 1200)])
 refine Xac ?_
 iterate 2 refine kO hT hC ?_
 refine Vc.nil ?_
 obtain rfl := kj h
 exact Yci (kW hC [(208, 1700)])
 exact kf b40 (Xam (Xau ku))
 refine Xao (Xae (Xac ?_))
 iterate 2 refine kO hT hC ?_
 exact Vc.nil kG
 exact kf b31 (Xam (Xau ku))
 refine Xae (Xab ?_)
 iterate 2 refine kO hT hC ?_
 refine Vc.nil (Xah ?_)
 obtain rfl := kj h
 exact Xch (τ := ⟨[(4, .own 16)], [(16, some (.ints .i64 v35))]⟩) (kW hC [(16, 208)]) rfl ⟨rfl, trivial⟩
def Yfr (r : Int) : AV := .sv (.int .i64 r)
def Yfq (r : Int) : Xa1 := []
theorem Xpq {p0 r} (h : Xkq p0 = some r) : AC Tryz.prog 75 [.sv (.int .i64 p0)] [] (Yfr r) (Yfq r) := by
 refine Xag hT Tryz.func75 rfl fun C hC => ?_
 unfold Xkq at h
 refine Xab ?_
 refine kO hT hC ?_
 refine kN ?_
 iterate 5 refine kO hT hC ?_
 exact Vc.nil (Xah kR)
def Yhr (r : Int) : AV := .sv (.int .i64 r)
def Yhq (r : Int) : Xa1 := []
theorem Xr1 {p0 p1 r} (h : Xmj p0 p1 = some r) : AC Tryz.prog 46 [.sv (.ints .i64 p0), .sv (.ints .i64 p1)] [] (Yhr r) (Yhq r) := by
 refine Xag hT Tryz.func46 rfl fun C hC => ?_
 unfold Xmj at h
 refine Xab ?_
 refine kO hT hC ?_
 refine kN ?_
 refine kO hT hC ?_
 refine Vc.nil (Xap (Xab ?_))
 iterate 3 refine kO hT hC ?_
 refine Vc.nil ?_
 refine kL [1,5,8,9,10] [] [_,_,_,_,_] [] ?_
 refine kX h (fun v3 => ([(5, .sv (.int .i64 v3.1)), (10, .sv (.int .i64 v3.2))], [])) (fun v6 => ([(5, .sv (.int .i64 v6)), (1, .any), (8, .any), (9, .any), (10, .any)], [])) (kW hC []) (fun v3 s h => ?_) fun v6 h => ?_
 unfold Xlq at h
 refine Xab ?_
 refine kO hT hC ?_
 refine Vc.nil (Xap ?_)
 refine kS h ?_ ?_ <;> intro b3 h
 refine kt b3 (Xaf (Xae (Xap (Xak (Xab ?_)))))
 refine kO hT hC ?_
 refine kQ hT hC h fun h => ?_
 iterate 3 refine kO hT hC ?_
 refine Vc.nil (Xac ?_)
 iterate 4 refine kO hT hC ?_
 refine kQ hT hC h fun h => ?_
 iterate 2 refine kO hT hC ?_
 refine kC hC [] Tryz.call75 h (fun _ => Xpq) fun q7 h => ?_
 iterate 2 refine kO hT hC ?_
 refine Vc.nil (Xao (Xae (Xac ?_)))
 iterate 2 refine kO hT hC ?_
 exact Vc.nil kG
 exact kf b3 (Xam (Xau ku))
 refine Xae (Xab ?_)
 iterate 2 refine kO hT hC ?_
 exact Vc.nil (Xah kR)
def Xto (r : Int) : AV := .sv (.int .i64 r)
def Xtn (r : Int) : Xa1 := []
theorem Xvn {p0 r} (h : Xke p0 = some r) : AC Tryz.prog 145 [.sv (.int .i64 p0)] [] (Xto r) (Xtn r) := by
 refine Xag hT Tryz.func145 rfl fun C hC => ?_
 unfold Xke at h
 refine Xab ?_
 refine kO hT hC ?_
 refine kN ?_
 refine kO hT hC ?_
 refine Vc.nil (Xap ?_)
 refine kL [0,3] [] [_,_] [] ?_
 refine kX h (fun v2 => ([(0, .sv (.int .i64 v2.1)), (3, .sv (.int .i64 v2.2))], [])) (fun v4 => ([(3, .sv (.int .i64 v4)), (0, .any)], [])) (kW hC []) (fun v2 s h => ?_) fun v4 h => ?_
 unfold Xcj at h
 refine Xap (Xab ?_)
 iterate 2 refine kO hT hC ?_
 refine Vc.nil ?_
 refine kS h ?_ ?_ <;> intro b3 h
 refine kt b3 (Xaf (Xae (Xap (Xak (Xac ?_)))))
 iterate 3 refine kO hT hC ?_
 refine Vc.nil (Xao (Xae (Xac ?_)))
 refine kO hT hC ?_
 refine kQ hT hC h fun h => ?_
 refine kO hT hC ?_
 exact Vc.nil kG
 exact kf b3 (Xam (Xau ku))
 refine Xae (Xab ?_)
 iterate 2 refine kO hT hC ?_
 exact Vc.nil (Xah kR)
def Yc3 (r : ByteArray) : AV := .sv (.str r)
def Yc2 (r : ByteArray) : Xa1 := []
theorem Yfo {p0 p1 r} (h : Xnb p0 p1 = some r) : AC Tryz.prog 144 [.sv (.int .i64 p0), .sv (.int .i64 p1)] [] (Yc3 r) (Yc2 r) := by
 refine Xag hT Tryz.func144 rfl fun C hC => ?_
 unfold Xnb at h
 refine Xab ?_
 refine kO hT hC ?_
 refine kN ?_
 refine kO hT hC ?_
 obtain ⟨hq, h⟩ := Xaw h
 refine Yj5 hT hC rfl rfl rfl rfl ⟨hq.1, hq.2.1, hq.2.2, by decide⟩ ?_
 refine kO hT hC ?_
 refine Vc.nil (Xap (Xab ?_))
 iterate 3 refine kO hT hC ?_
 refine Vc.nil ?_
 refine kL [0,5,6] [128] [_,_,_] [_] ?_
 refine kX h (fun v2 => ([(0, .sv (.int .i64 v2.1)), (6, .sv (.int .i64 v2.2.1))], [(128, some (.ints .u8 v2.2.2))])) (fun v4 => ([(0, .any), (6, .any)], [(128, some (.ints .u8 v4))])) (kW hC []) (fun v2 s h => ?_) fun v4 h => ?_
 unfold Xiz at h
 refine Xap (Xab ?_)
 iterate 2 refine kO hT hC ?_
 refine Vc.nil ?_
 refine kS h ?_ ?_ <;> intro b3 h
 refine kt b3 (Xaf (Xae (Xap (Xak (Xab ?_)))))
 iterate 6 refine kO hT hC ?_
 iterate 2 refine kQ hT hC h fun h => ?_
 refine Vc.nil (Xac ?_)
 refine kO hT hC ?_
 refine kQ hT hC h fun h => ?_
 refine kO hT hC ?_
 refine Vc.nil (Xao (Xae (Xac ?_)))
 iterate 3 refine kO hT hC ?_
 exact Vc.nil kG
 exact kf b3 (Xam (Xau ku))
 refine Xae (Xab ?_)
 iterate 3 refine kO hT hC ?_
 exact Vc.nil (Xah kR)
def Yjg (r : ByteArray) : AV := .sv (.str r)
def Yjf (r : ByteArray) : Xa1 := []
theorem Ylt {p0 r} (h : Xvq p0 = some r) : AC Tryz.prog 129 [.sv (.int .i64 p0)] [] (Yjg r) (Yjf r) := by
 refine Xag hT Tryz.func129 rfl fun C hC => ?_
 unfold Xvq at h
 refine Xab ?_
 refine kO hT hC ?_
 refine kN ?_
 iterate 4 refine kO hT hC ?_
 refine kC hC [] Tryz.call145 h (fun _ => Xvn) fun q1 h => ?_
 iterate 2 refine kO hT hC ?_
 refine kC hC [] Tryz.call144 h (fun _ => Yfo) fun q2 h => ?_
 refine kO hT hC ?_
 exact Vc.nil (Xah kR)
def Ycy (r : (ByteArray × Bool)) : AV := .tup [.sv (.str r.1), .sv (.bool r.2)]
def Ycx (r : (ByteArray × Bool)) : Xa1 := []
theorem Xth {p0 r} (h : Xlh p0 = some r) : AC Tryz.prog 100 [.sv (.int .i64 p0)] [] (Ycy r) (Ycx r) := by
 refine Xag hT Tryz.func100 rfl fun C hC => ?_
 unfold Xlh at h
 refine Xab ?_
 iterate 2 refine kO hT hC ?_
 refine Vc.nil (Xap (Xab ?_))
 refine kO hT hC ?_
 refine kC hC [] Tryz.call25 h (fun _ => Xaj) fun q1 h => ?_
 refine kO hT hC ?_
 refine Vc.nil ?_
 refine kS h ?_ ?_ <;> intro b1 h
 refine kt b1 (Xab ?_)
 iterate 2 refine kO hT hC ?_
 exact Vc.nil (Xah (Xas kR))
 refine kf b1 (Xaf (Xae (Xab ?_)))
 refine kO hT hC ?_
 refine kC hC [] Tryz.call129 h (fun _ => Ylt) fun q2 h => ?_
 iterate 2 refine kO hT hC ?_
 exact Vc.nil (Xah kR)
def Yao (r : Int) : AV := .sv (.int .i64 r)
def Yan (r : Int) : Xa1 := []
theorem Ycz {p0 r} (h : Xjr p0 = some r) : AC Tryz.prog 65 [.sv (.int .i64 p0)] [] (Yao r) (Yan r) := by
 refine Xag hT Tryz.func65 rfl fun C hC => ?_
 unfold Xjr at h
 refine Xab ?_
 refine kO hT hC ?_
 refine kN ?_
 refine kO hT hC ?_
 refine kC hC [] Tryz.call100 h (fun _ => Xth) fun q1 h => ?_
 iterate 5 refine kO hT hC ?_
 refine kN ?_
 iterate 3 refine kO hT hC ?_
 exact Vc.nil (Xah kR)
def Xsy (r : (Int × Int)) : AV := .tup [.sv (.int .i64 r.1), .sv (.int .i64 r.2)]
def Xsx (r : (Int × Int)) : Xa1 := []
theorem Xu7 {p0 p1 r} (h : Xhl p0 p1 = some r) : AC Tryz.prog 42 [.sv (.ints .i64 p0), .agg [.sv (.ints .i64 p1.Above), .sv (.ints .i64 p1.Left), .sv (.int .i64 p1.Corner)]] [] (Xsy r) (Xsx r) := by
 refine Xag hT Tryz.func42 rfl fun C hC => ?_
 unfold Xhl at h
 refine Xab ?_
 iterate 3 refine kO hT hC ?_
 refine Vc.nil (Xap ?_)
 refine kL [0,3] [48] [_,_] [_] ?_
 refine kA h (fun v1 => ([(17, .sv (.bool v1))], [])) (fun v1 h => ?_) fun v1 h => ?_
 refine Xac ?_
 refine kO hT hC ?_
 refine kC hC [] Tryz.call64 h (fun _ => Xpi) fun q2 h => ?_
 iterate 2 refine kO hT hC ?_
 refine kS h ?_ ?_ <;> intro b1 h
 refine kI hT hC (kn b1) ?_
 refine kE hC (kn b1) [] Tryz.call40 h (fun _ => Xbl) fun q3 h => ?_
 refine kI hT hC (kn b1) ?_
 refine kP hC false (kn b1) ?_
 exact Vc.nil kM
 iterate 3 refine kF hC (kn b1) ?_
 refine kP hC true (kn b1) ?_
 exact Vc.nil kM
 refine kS h ?_ ?_ <;> intro b2 h
 refine kt b2 (Xab ?_)
 iterate 2 refine kO hT hC ?_
 exact Vc.nil (Xah (Xas kR))
 refine kf b2 (Xaf (Xae (Xab ?_)))
 iterate 2 refine kO hT hC ?_
 refine Vc.nil (Xap (Xab ?_))
 refine kO hT hC ?_
 refine Vc.nil ?_
 refine kL [0,3,6,7,8] [48] [_,_,_,_,_] [_] ?_
 refine kX h (fun v16 => ([(6, .sv (.int .i64 v16.1)), (7, .sv (.int .i64 v16.2.1)), (8, .sv (.int .i64 v16.2.2))], [])) (fun v23 => ([(6, .sv (.int .i64 v23.1)), (7, .sv (.int .i64 v23.2)), (0, .any), (3, .any), (8, .any)], [(48, none)])) (kW hC []) (fun v16 s h => ?_) fun v23 h => ?_
 unfold Xg5 at h
 refine Xap (Xab ?_)
 iterate 2 refine kO hT hC ?_
 refine Vc.nil ?_
 refine kS h ?_ ?_ <;> intro b12 h
 refine kt b12 (Xaf (Xae ?_))
 refine kL [0,3,6,7,8] [48] [_,_,_,_,_] [_] ?_
 refine kA h (fun v24 => ([(6, .sv (.int .i64 v24.1)), (7, .sv (.int .i64 v24.2))], [])) (fun v24 h => ?_) fun v24 h => ?_
 refine Xak (Xab ?_)
 iterate 3 refine kO hT hC ?_
 refine kC hC [(16, 400)] Tryz.call45 h (fun _ => Xlo) fun q25 h => ?_
 refine kC hC [] Tryz.call46 h (fun _ => Xr1) fun q26 h => ?_
 refine kO hT hC ?_
 refine kC hC [] Tryz.call65 h (fun _ => Ycz) fun q27 h => ?_
 iterate 2 refine kO hT hC ?_
 refine Vc.nil ?_
 refine kL [0,3,6,7,8,9] [48] [_,_,_,_,_,_] [_] ?_
 refine kA h (fun v28 => ([(36, .sv (.bool v28))], [])) (fun v28 h => ?_) fun v28 h => ?_
 refine Xac ?_
 iterate 3 refine kO hT hC ?_
 refine kS h ?_ ?_ <;> intro b13 h
 iterate 3 refine kF hC b13 ?_
 refine kP hC true b13 ?_
 exact Vc.nil kM
 iterate 3 refine kI hT hC b13 ?_
 refine kP hC false b13 ?_
 exact Vc.nil kM
 refine kS h ?_ ?_ <;> intro b14 h
 refine kt b14 (Xac ?_)
 iterate 4 refine kO hT hC ?_
 exact Vc.nil (Xao kM)
 exact kf b14 (Xaf (Xao kM))
 refine Xac ?_
 iterate 3 refine kO hT hC ?_
 exact Vc.nil kG
 exact kf b12 (Xam (Xau ku))
 refine Xae (Xab ?_)
 iterate 4 refine kO hT hC ?_
 exact Vc.nil (Xah kR)
def Xvp (r : (List Int)) : AV := .own 16
def Xvo (r : (List Int)) : Xa1 := [(16, .ints .i64 r)]
theorem Xor {p0 p1 r} (h : Xfk p0 p1 = some r) : AC Tryz.prog 44 [.sv (.ints .i64 p0), .sv (.ints .i64 p1)] [] (Xvp r) (Xvo r) := by
 refine Xag hT Tryz.func44 rfl fun C hC => ?_
 unfold Xfk at h
 refine Xab ?_
 refine kO hT hC ?_
 refine kN ?_
 iterate 2 refine kO hT hC ?_
 refine Vc.nil (Xap (Xab ?_))
 iterate 3 refine kO hT hC ?_
 refine Vc.nil ?_
 refine kL [1,5,9,10,11] [128] [_,_,_,_,_] [_] ?_
 refine kX h (fun v2 => ([(11, .sv (.int .i64 v2.1))], [(128, some (.ints .i64 v2.2))])) (fun v4 => ([(1, .any), (9, .any), (10, .any), (11, .any)], [(128, some (.ints .i64 v4))])) (kW hC []) (fun v2 s h => ?_) fun v4 h => ?_
 unfold Xhy at h
 refine Xab ?_
 refine kO hT hC ?_
 refine Vc.nil (Xap ?_)
 refine kS h ?_ ?_ <;> intro b3 h
 refine kt b3 (Xaf (Xae (Xap (Xak (Xab ?_)))))
 refine kO hT hC ?_
 refine kQ hT hC h fun h => ?_
 iterate 3 refine kO hT hC ?_
 refine Vc.nil (Xac ?_)
 iterate 4 refine kO hT hC ?_
 refine kQ hT hC h fun h => ?_
 iterate 3 refine kO hT hC ?_
 refine kT hT hC h fun h => ?_
 refine kO hT hC ?_
 refine Vc.nil (Xao (Xae (Xac ?_)))
 iterate 2 refine kO hT hC ?_
 refine Vc.nil ?_
 obtain rfl := kj h
 exact Yci (kW hC [(128, 384)])
 exact kf b3 (Xam (Xau ku))
 refine Xae (Xab ?_)
 iterate 2 refine kO hT hC ?_
 refine Vc.nil (Xah ?_)
 obtain rfl := kj h
 exact Xch (τ := ⟨[(4, .own 16)], [(16, some (.ints .i64 v4))]⟩) (kW hC [(16, 128)]) rfl ⟨rfl, trivial⟩
def Xtr (r : (List Int)) : AV := .own 16
def Xtq (r : (List Int)) : Xa1 := [(16, .ints .i64 r)]
theorem Xm9 {p0 r} (h : Xf1 p0 = some r) : AC Tryz.prog 101 [.sv (.int .i64 p0)] [] (Xtr r) (Xtq r) := by
 refine Xag hT Tryz.func101 rfl fun C hC => ?_
 unfold Xf1 at h
 refine Xab ?_
 refine kO hT hC ?_
 refine kN ?_
 iterate 2 refine kO hT hC ?_
 refine Vc.nil (Xap (Xab ?_))
 refine kO hT hC ?_
 refine Vc.nil ?_
 refine kL [0,3,4] [128] [_,_,_] [_] ?_
 refine kX h (fun v16 => ([(4, .sv (.int .i64 v16.1))], [(128, some (.ints .i64 v16.2))])) (fun v32 => ([(0, .any), (4, .any)], [(128, some (.ints .i64 v32))])) (kW hC []) (fun v16 s h => ?_) fun v32 h => ?_
 unfold Xgb at h
 refine Xap (Xab ?_)
 iterate 5 refine kO hT hC ?_
 refine Vc.nil ?_
 refine kS h ?_ ?_ <;> intro b27 h
 refine kt b27 (Xaf (Xae (Xap (Xak (Xab ?_)))))
 refine kO hT hC ?_
 refine Vc.nil ?_
 refine kL [0,3,4,5] [128] [_,_,_,_] [_] ?_
 refine kX h (fun v37 => ([(5, .sv (.int .i64 v37.1))], [(128, some (.ints .i64 v37.2))])) (fun v42 => ([(5, .any)], [(128, some (.ints .i64 v42))])) (kW hC []) (fun v37 s h => ?_) fun v42 h => ?_
 unfold Xiy at h
 refine Xap (Xab ?_)
 iterate 3 refine kO hT hC ?_
 refine Vc.nil ?_
 refine kS h ?_ ?_ <;> intro b36 h
 refine kt b36 (Xaf (Xae ?_))
 refine kL [0,3,4,5] [128] [_,_,_,_] [_] ?_
 refine kA h (fun v43 => ([], [(128, some (.ints .i64 v43))])) (fun v43 h => ?_) fun v43 h => ?_
 refine Xak (Xab ?_)
 iterate 2 refine kO hT hC ?_
 refine Vc.nil ?_
 refine kL [0,3,4,5,6] [128] [_,_,_,_,_] [_] ?_
 refine kA h (fun v44 => ([(6, .sv (.int .i64 v44))], [])) (fun v44 h => ?_) fun v44 h => ?_
 refine Xab ?_
 refine kO hT hC ?_
 refine kQ hT hC h fun h => ?_
 refine kO hT hC ?_
 refine Vc.nil ?_
 refine kS h ?_ ?_ <;> intro b37 h
 refine kt b37 (Xac ?_)
 iterate 4 refine kO hT hC ?_
 exact Vc.nil kM
 exact kf b37 (Xaf kM)
 refine Xab ?_
 iterate 4 refine kO hT hC ?_
 refine Vc.nil ?_
 refine kL [0,3,4,5,6,7] [128] [_,_,_,_,_,_] [_] ?_
 refine kA h (fun v45 => ([(38, .sv (.bool v45))], [])) (fun v45 h => ?_) fun v45 h => ?_
 refine Xac ?_
 iterate 4 refine kO hT hC ?_
 refine kS h ?_ ?_ <;> intro b38 h
 iterate 3 refine kI hT hC b38 ?_
 refine kP hC true b38 ?_
 exact Vc.nil kM
 iterate 3 refine kF hC b38 ?_
 refine kP hC false b38 ?_
 exact Vc.nil kM
 refine kS h ?_ ?_ <;> intro b39 h
 refine kt b39 (Xac ?_)
 iterate 7 refine kO hT hC ?_
 refine kT hT hC h fun h => ?_
 refine kO hT hC ?_
 refine Vc.nil (Xao ?_)
 obtain rfl := kj h
 exact Xkt (kW hC [(128, 736)])
 exact kf b39 (Xaf (Xao kM))
 refine Xac ?_
 iterate 3 refine kO hT hC ?_
 exact Vc.nil kG
 exact kf b36 (Xam (Xau ku))
 refine Xao (Xae (Xac ?_))
 iterate 3 refine kO hT hC ?_
 exact Vc.nil kG
 exact kf b27 (Xam (Xau ku))
 refine Xae (Xab ?_)
 iterate 2 refine kO hT hC ?_
 refine Vc.nil (Xah ?_)
 obtain rfl := kj h
 exact Xch (τ := ⟨[(2, .own 16)], [(16, some (.ints .i64 v32))]⟩) (kW hC [(16, 128)]) rfl ⟨rfl, trivial⟩
def Xxj (r : ((List Int) × Bool)) : AV := .tup [.own 16, .sv (.bool r.2)]
def Xxi (r : ((List Int) × Bool)) : Xa1 := [(16, .ints .i64 r.1)]
theorem Xlp {p0 p1 r} (h : Xgk p0 p1 = some r) : AC Tryz.prog 66 [.sv (.int .i64 p0), .sv (.ints .i64 p1)] [] (Xxj r) (Xxi r) := by
 refine Xag hT Tryz.func66 rfl fun C hC => ?_
 unfold Xgk at h
 refine Xab ?_
 iterate 2 refine kO hT hC ?_
 refine kN ?_
 iterate 2 refine kO hT hC ?_
 refine Vc.nil (Xap ?_)
 refine kL [0,1,6] [144] [_,_,_] [_] ?_
 refine kA h (fun v1 => ([(23, .sv (.bool v1))], [])) (fun v1 h => ?_) fun v1 h => ?_
 refine Xac ?_
 iterate 3 refine kO hT hC ?_
 refine kS h ?_ ?_ <;> intro b1 h
 iterate 2 refine kI hT hC b1 ?_
 refine kP hC true b1 ?_
 refine kO hT hC ?_
 refine kS h ?_ ?_ <;> intro b2 h
 iterate 6 refine kF hC b2 ?_
 refine kP hC true b2 ?_
 exact Vc.nil kM
 iterate 6 refine kI hT hC b2 ?_
 refine kP hC false b2 ?_
 exact Vc.nil kM
 iterate 2 refine kF hC b1 ?_
 refine kP hC false b1 ?_
 refine kO hT hC ?_
 iterate 6 refine kI hT hC rfl ?_
 refine kO hT hC ?_
 exact Vc.nil kM
 refine kS h ?_ ?_ <;> intro b3 h
 refine kt b3 (Xab ?_)
 iterate 3 refine kO hT hC ?_
 refine Vc.nil (Xah (Xas ?_))
 obtain rfl := kj h
 exact Xch (τ := ⟨[(4, .own 16), (5, .sv (.bool false))], [(16, some (.ints .i64 ([] : List Int)))]⟩) (kW hC [(16, 144)]) rfl ⟨rfl, trivial⟩
 refine kf b3 (Xaf (Xae (Xap (Xab ?_))))
 refine kO hT hC ?_
 refine kC hC [(16, 416)] Tryz.call101 h (fun _ => Xm9) fun q2 h => ?_
 iterate 2 refine kO hT hC ?_
 refine Vc.nil ?_
 refine kL [1,6,26,27,28] [144,416] [_,_,_,_,_] [_,_] ?_
 refine kX h (fun v4 => ([(28, .sv (.int .i64 v4.1))], [(144, some (.ints .i64 v4.2))])) (fun v6 => ([(1, .any), (26, .any), (27, .any), (28, .any)], [(144, some (.ints .i64 v6)), (416, none)])) (kW hC []) (fun v4 s h => ?_) fun v6 h => ?_
 unfold Xiu at h
 refine Xab ?_
 refine kO hT hC ?_
 refine Vc.nil (Xap ?_)
 refine kS h ?_ ?_ <;> intro b6 h
 refine kt b6 (Xaf (Xae (Xap (Xak (Xab ?_)))))
 iterate 2 refine kQ hT hC h fun h => ?_
 refine kO hT hC ?_
 refine Vc.nil (Xac ?_)
 iterate 3 refine kO hT hC ?_
 refine kQ hT hC h fun h => ?_
 iterate 2 refine kO hT hC ?_
 refine kT hT hC h fun h => ?_
 refine kO hT hC ?_
 refine Vc.nil (Xao (Xae (Xac ?_)))
 iterate 2 refine kO hT hC ?_
 refine Vc.nil ?_
 obtain rfl := kj h
 exact Yci (kW hC [(144, 608)])
 exact kf b6 (Xam (Xau ku))
 refine Xae (Xab ?_)
 iterate 3 refine kO hT hC ?_
 refine Vc.nil (Xah ?_)
 obtain rfl := kj h
 exact Xch (τ := ⟨[(4, .own 16), (5, .sv (.bool true))], [(16, some (.ints .i64 v6))]⟩) (kW hC [(16, 144)]) rfl ⟨rfl, trivial⟩
def Yak (r : Int) : AV := .sv (.int .i64 r)
def Yaj (r : Int) : Xa1 := []
theorem Xqz {p0 p1 r} (h : Xjq p0 p1 = some r) : AC Tryz.prog 130 [.sv (.int .i64 p0), .sv (.int .i64 p1)] [] (Yak r) (Yaj r) := by
 refine Xag hT Tryz.func130 rfl fun C hC => ?_
 unfold Xjq at h
 refine Xab ?_
 refine kO hT hC ?_
 refine Vc.nil (Xap ?_)
 refine kL [0,1] [] [_,_] [] ?_
 refine kA h (fun v1 => ([(13, .sv (.bool v1))], [])) (fun v1 h => ?_) fun v1 h => ?_
 refine Xac ?_
 refine kO hT hC ?_
 refine kC hC [] Tryz.call25 h (fun _ => Xaj) fun q2 h => ?_
 iterate 2 refine kO hT hC ?_
 refine kS h ?_ ?_ <;> intro b1 h
 refine kI hT hC (kn b1) ?_
 refine kE hC (kn b1) [] Tryz.call25 h (fun _ => Xaj) fun q3 h => ?_
 refine kI hT hC (kn b1) ?_
 refine kP hC false (kn b1) ?_
 exact Vc.nil kM
 iterate 3 refine kF hC (kn b1) ?_
 refine kP hC true (kn b1) ?_
 exact Vc.nil kM
 refine kS h ?_ ?_ <;> intro b2 h
 refine kt b2 (Xab ?_)
 refine kO hT hC ?_
 exact Vc.nil (Xah (Xas kR))
 refine kf b2 (Xaf (Xae (Xab ?_)))
 iterate 4 refine kO hT hC ?_
 refine Vc.nil (Xap (Xab ?_))
 iterate 3 refine kO hT hC ?_
 refine kQ hT hC h fun h => ?_
 iterate 3 refine kO hT hC ?_
 refine kQ hT hC h fun h => ?_
 iterate 2 refine kO hT hC ?_
 refine kQ hT hC h fun h => ?_
 refine kO hT hC ?_
 refine Vc.nil ?_
 refine kS h ?_ ?_ <;> intro b3 h
 refine kt b3 (Xab ?_)
 refine kO hT hC ?_
 exact Vc.nil (Xah (Xas kR))
 refine kf b3 (Xaf (Xae (Xab ?_)))
 refine kO hT hC ?_
 exact Vc.nil (Xah kR)
def Yfu (r : (List Int)) : AV := .own 16
def Yft (r : (List Int)) : Xa1 := [(16, .ints .i64 r)]
theorem Xwv {p0 r} (h : Xnc p0 = some r) : AC Tryz.prog 102 [.sv (.ints .i64 p0)] [] (Yfu r) (Yft r) := by
 refine Xag hT Tryz.func102 rfl fun C hC => ?_
 unfold Xnc at h
 refine Xab ?_
 refine kO hT hC ?_
 refine kN ?_
 obtain ⟨hq, h⟩ := Xaw h
 refine Yj5 hT hC rfl rfl rfl rfl ⟨hq.1, hq.2.1, hq.2.2, by decide⟩ ?_
 refine kO hT hC ?_
 refine Vc.nil (Xap (Xab ?_))
 refine kO hT hC ?_
 refine Vc.nil ?_
 refine kL [0,3,12] [176] [_,_,_] [_] ?_
 refine kX h (fun v31 => ([(12, .sv (.int .i64 v31.1))], [(176, some (.ints .i64 v31.2))])) (fun v62 => ([(0, .any), (12, .any)], [(176, some (.ints .i64 v62))])) (kW hC []) (fun v31 s h => ?_) fun v62 h => ?_
 unfold Xn9 at h
 refine Xab ?_
 refine kO hT hC ?_
 refine Vc.nil (Xap ?_)
 refine kS h ?_ ?_ <;> intro b27 h
 refine kt b27 (Xaf (Xae (Xap (Xak (Xab ?_)))))
 iterate 2 refine kO hT hC ?_
 refine kN ?_
 refine kO hT hC ?_
 refine Vc.nil ?_
 refine kL [0,3,4,12,15] [176] [_,_,_,_,_] [_] ?_
 refine kX h (fun v72 => ([(15, .sv (.int .i64 v72.1))], [(176, some (.ints .i64 v72.2))])) (fun v82 => ([(4, .any), (15, .any)], [(176, some (.ints .i64 v82))])) (kW hC []) (fun v72 s h => ?_) fun v82 h => ?_
 unfold Xoa at h
 refine Xab ?_
 refine kO hT hC ?_
 refine Vc.nil (Xap ?_)
 refine kS h ?_ ?_ <;> intro b36 h
 refine kt b36 (Xaf (Xae (Xap (Xak (Xab ?_)))))
 iterate 2 refine kO hT hC ?_
 refine kN ?_
 refine kO hT hC ?_
 refine Vc.nil ?_
 refine kL [0,3,4,5,12,15,18] [176] [_,_,_,_,_,_,_] [_] ?_
 refine kX h (fun v85 => ([(18, .sv (.int .i64 v85.1))], [(176, some (.ints .i64 v85.2))])) (fun v88 => ([(5, .any), (18, .any)], [(176, some (.ints .i64 v88))])) (kW hC []) (fun v85 s h => ?_) fun v88 h => ?_
 unfold Xi0 at h
 refine Xab ?_
 refine kO hT hC ?_
 refine Vc.nil (Xap ?_)
 refine kS h ?_ ?_ <;> intro b39 h
 refine kt b39 (Xaf (Xae (Xap (Xak (Xab ?_)))))
 iterate 2 refine kO hT hC ?_
 refine Vc.nil ?_
 refine Xdw hm ?_
 iterate 10 refine kO hT hC ?_
 iterate 2 refine kQ hT hC h fun h => ?_
 iterate 2 refine kO hT hC ?_
 refine kC hC [] Tryz.call130 h (fun _ => Xqz) fun q89 h => ?_
 iterate 5 refine kO hT hC ?_
 refine kQ hT hC h fun h => ?_
 iterate 3 refine kO hT hC ?_
 iterate 2 refine kQ hT hC h fun h => ?_
 refine kD (Xao (Xae (Xac ?_)))
 iterate 2 refine kO hT hC ?_
 exact Vc.nil kG
 exact kf b39 (Xam (Xau ku))
 refine Xao (Xae (Xac ?_))
 iterate 2 refine kO hT hC ?_
 exact Vc.nil kG
 exact kf b36 (Xam (Xau ku))
 refine Xao (Xae (Xac ?_))
 iterate 2 refine kO hT hC ?_
 exact Vc.nil kG
 exact kf b27 (Xam (Xau ku))
 refine Xae (Xab ?_)
 obtain ⟨hq, h⟩ := Xaw h
 refine Yj5 hT hC rfl rfl rfl rfl ⟨hq.1, hq.2.1, hq.2.2, by decide⟩ ?_
 refine kO hT hC ?_
 refine Vc.nil (Xap (Xab ?_))
 refine kO hT hC ?_
 refine Vc.nil ?_
 refine kL [3,7,50] [176,784] [_,_,_] [_,_] ?_
 refine kX h (fun v123 => ([(50, .sv (.int .i64 v123.1))], [(784, some (.ints .i64 v123.2))])) (fun v154 => ([(3, .any), (50, .any)], [(784, some (.ints .i64 v154)), (176, none)])) (kW hC []) (fun v123 s h => ?_) fun v154 h => ?_
 unfold Xmt at h
 refine Xab ?_
 refine kO hT hC ?_
 refine Vc.nil (Xap ?_)
 refine kS h ?_ ?_ <;> intro b66 h
 refine kt b66 (Xaf (Xae (Xap (Xak (Xab ?_)))))
 iterate 2 refine kO hT hC ?_
 refine kN ?_
 refine kO hT hC ?_
 refine Vc.nil ?_
 refine kL [3,7,8,50,53] [176,784] [_,_,_,_,_] [_,_] ?_
 refine kX h (fun v164 => ([(53, .sv (.int .i64 v164.1))], [(784, some (.ints .i64 v164.2))])) (fun v174 => ([(8, .any), (53, .any)], [(784, some (.ints .i64 v174))])) (kW hC []) (fun v164 s h => ?_) fun v174 h => ?_
 unfold Xmu at h
 refine Xab ?_
 refine kO hT hC ?_
 refine Vc.nil (Xap ?_)
 refine kS h ?_ ?_ <;> intro b75 h
 refine kt b75 (Xaf (Xae (Xap (Xak (Xab ?_)))))
 iterate 2 refine kO hT hC ?_
 refine kN ?_
 refine kO hT hC ?_
 refine Vc.nil ?_
 refine kL [3,7,8,9,50,53,56] [176,784] [_,_,_,_,_,_,_] [_,_] ?_
 refine kX h (fun v177 => ([(56, .sv (.int .i64 v177.1))], [(784, some (.ints .i64 v177.2))])) (fun v180 => ([(9, .any), (56, .any)], [(784, some (.ints .i64 v180))])) (kW hC []) (fun v177 s h => ?_) fun v180 h => ?_
 unfold Xhr at h
 refine Xab ?_
 refine kO hT hC ?_
 refine Vc.nil (Xap ?_)
 refine kS h ?_ ?_ <;> intro b78 h
 refine kt b78 (Xaf (Xae (Xap (Xak (Xab ?_)))))
 iterate 2 refine kO hT hC ?_
 refine Vc.nil ?_
 refine Xdw hm ?_
 iterate 10 refine kO hT hC ?_
 iterate 2 refine kQ hT hC h fun h => ?_
 iterate 2 refine kO hT hC ?_
 refine kC hC [] Tryz.call130 h (fun _ => Xqz) fun q181 h => ?_
 iterate 5 refine kO hT hC ?_
 iterate 2 refine kQ hT hC h fun h => ?_
 iterate 2 refine kO hT hC ?_
 iterate 2 refine kQ hT hC h fun h => ?_
 refine kD (Xao (Xae (Xac ?_)))
 iterate 2 refine kO hT hC ?_
 exact Vc.nil kG
 exact kf b78 (Xam (Xau ku))
 refine Xao (Xae (Xac ?_))
 iterate 2 refine kO hT hC ?_
 exact Vc.nil kG
 exact kf b75 (Xam (Xau ku))
 refine Xao (Xae (Xac ?_))
 iterate 2 refine kO hT hC ?_
 exact Vc.nil kG
 exact kf b66 (Xam (Xau ku))
 refine Xae (Xab ?_)
 iterate 2 refine kO hT hC ?_
 refine Vc.nil (Xah ?_)
 obtain rfl := kj h
 exact Xch (τ := ⟨[(2, .own 16)], [(16, some (.ints .i64 v154))]⟩) (kW hC [(16, 784)]) rfl ⟨rfl, trivial⟩
def Yco (r : (List Int)) : AV := .own 16
def Ycn (r : (List Int)) : Xa1 := [(16, .ints .i64 r)]
theorem Yfe {p0 r} (h : Xm6 p0 = some r) : AC Tryz.prog 67 [.sv (.ints .i64 p0)] [] (Yco r) (Ycn r) := by
 refine Xag hT Tryz.func67 rfl fun C hC => ?_
 unfold Xm6 at h
 refine Xab ?_
 refine kO hT hC ?_
 refine Vc.nil (Xap (Xab ?_))
 refine kO hT hC ?_
 refine kC hC [] Tryz.call40 h (fun _ => Xbl) fun q1 h => ?_
 refine kO hT hC ?_
 refine Vc.nil ?_
 refine kS h ?_ ?_ <;> intro b1 h
 refine kt b1 (Xab ?_)
 iterate 2 refine kO hT hC ?_
 refine Vc.nil (Xah (Xas ?_))
 obtain rfl := kj h
 exact Xch (τ := ⟨[(2, .own 16)], [(16, some (.ints .i64 ([] : List Int)))]⟩) (kW hC [(16, 96)]) rfl ⟨rfl, trivial⟩
 refine kf b1 (Xaf (Xae (Xab ?_)))
 refine kO hT hC ?_
 refine kC hC [(16, 128)] Tryz.call102 h (fun _ => Xwv) fun q2 h => ?_
 refine kO hT hC ?_
 refine Vc.nil (Xah ?_)
 obtain rfl := kj h
 exact Xch (τ := ⟨[(2, .own 16)], [(16, some (.ints .i64 q2))]⟩) (kW hC [(16, 128)]) rfl ⟨rfl, trivial⟩
def Yam (r : Int) : AV := .sv (.int .i64 r)
def Yal (r : Int) : Xa1 := []
theorem Xq0 {p0 r} (h : Xh6 p0 = some r) : AC Tryz.prog 103 [.sv (.int .i64 p0)] [] (Yam r) (Yal r) := by
 refine Xag hT Tryz.func103 rfl fun C hC => ?_
 unfold Xh6 at h
 refine Xab ?_
 refine kO hT hC ?_
 refine Vc.nil (Xap (Xab ?_))
 refine kO hT hC ?_
 refine kC hC [] Tryz.call25 h (fun _ => Xaj) fun q1 h => ?_
 refine kO hT hC ?_
 refine Vc.nil ?_
 refine kS h ?_ ?_ <;> intro b1 h
 refine kt b1 (Xab ?_)
 refine kO hT hC ?_
 exact Vc.nil (Xah (Xas kR))
 refine kf b1 (Xaf (Xae (Xab ?_)))
 iterate 2 refine kO hT hC ?_
 iterate 3 refine kQ hT hC h fun h => ?_
 refine kO hT hC ?_
 iterate 2 refine kQ hT hC h fun h => ?_
 refine kO hT hC ?_
 exact Vc.nil (Xah kR)
def Yav (r : Int) : AV := .sv (.int .i64 r)
def Yau (r : Int) : Xa1 := []
theorem Xq5 {p0 p1 r} (h : Xlt p0 p1 = some r) : AC Tryz.prog 104 [.sv (.int .i64 p0), .sv (.int .i64 p1)] [] (Yav r) (Yau r) := by
 refine Xag hT Tryz.func104 rfl fun C hC => ?_
 unfold Xlt at h
 refine Xab ?_
 refine kO hT hC ?_
 refine Vc.nil (Xap (Xab ?_))
 iterate 2 refine kO hT hC ?_
 refine Vc.nil ?_
 refine kS h ?_ ?_ <;> intro b1 h
 refine kt b1 (Xab ?_)
 iterate 3 refine kO hT hC ?_
 exact Vc.nil (Xah (Xas kR))
 refine kf b1 (Xaf (Xae (Xab ?_)))
 iterate 2 refine kO hT hC ?_
 exact Vc.nil (Xah kR)
def Xrs (r : Int) : AV := .sv (.int .i64 r)
def Xrr (r : Int) : Xa1 := []
theorem Xs4 {p0 p1 r} (h : Xgi p0 p1 = some r) : AC Tryz.prog 68 [.sv (.int .i64 p0), .sv (.int .i64 p1)] [] (Xrs r) (Xrr r) := by
 refine Xag hT Tryz.func68 rfl fun C hC => ?_
 unfold Xgi at h
 refine Xab ?_
 refine kO hT hC ?_
 refine Vc.nil (Xap ?_)
 refine kL [0,1] [] [_,_] [] ?_
 refine kA h (fun v1 => ([(13, .sv (.bool v1))], [])) (fun v1 h => ?_) fun v1 h => ?_
 refine Xac ?_
 refine kO hT hC ?_
 refine kC hC [] Tryz.call25 h (fun _ => Xaj) fun q2 h => ?_
 iterate 2 refine kO hT hC ?_
 refine kS h ?_ ?_ <;> intro b1 h
 refine kI hT hC (kn b1) ?_
 refine kE hC (kn b1) [] Tryz.call25 h (fun _ => Xaj) fun q3 h => ?_
 refine kI hT hC (kn b1) ?_
 refine kP hC false (kn b1) ?_
 exact Vc.nil kM
 iterate 3 refine kF hC (kn b1) ?_
 refine kP hC true (kn b1) ?_
 exact Vc.nil kM
 refine kS h ?_ ?_ <;> intro b2 h
 refine kt b2 (Xab ?_)
 refine kO hT hC ?_
 exact Vc.nil (Xah (Xas kR))
 refine kf b2 (Xaf (Xae (Xab ?_)))
 refine kO hT hC ?_
 refine kC hC [] Tryz.call103 h (fun _ => Xq0) fun q4 h => ?_
 refine kO hT hC ?_
 refine kN ?_
 refine kO hT hC ?_
 refine kC hC [] Tryz.call75 h (fun _ => Xpq) fun q5 h => ?_
 refine kO hT hC ?_
 refine kQ hT hC h fun h => ?_
 iterate 2 refine kO hT hC ?_
 refine kQ hT hC h fun h => ?_
 refine kO hT hC ?_
 refine kC hC [] Tryz.call104 h (fun _ => Xq5) fun q6 h => ?_
 refine kO hT hC ?_
 exact Vc.nil (Xah kR)
def Xxp (r : (List Int)) : AV := .own 16
def Xxo (r : (List Int)) : Xa1 := [(16, .ints .i64 r)]
theorem Xpo {p0 r} (h : Xif p0 = some r) : AC Tryz.prog 69 [.sv (.int .i64 p0)] [] (Xxp r) (Xxo r) := by
 refine Xag hT Tryz.func69 rfl fun C hC => ?_
 unfold Xif at h
 refine Xab ?_
 refine kO hT hC ?_
 refine kN ?_
 iterate 2 refine kO hT hC ?_
 refine Vc.nil (Xap (Xab ?_))
 refine kO hT hC ?_
 refine Vc.nil ?_
 refine kL [0,3,7] [96] [_,_,_] [_] ?_
 refine kX h (fun v7 => ([(7, .sv (.int .i64 v7.1))], [(96, some (.ints .i64 v7.2))])) (fun v14 => ([(0, .any), (7, .any)], [(96, some (.ints .i64 v14))])) (kW hC []) (fun v7 s h => ?_) fun v14 h => ?_
 unfold Xhz at h
 refine Xab ?_
 refine kO hT hC ?_
 refine Vc.nil (Xap ?_)
 refine kS h ?_ ?_ <;> intro b9 h
 refine kt b9 (Xaf (Xae (Xap (Xak (Xab ?_)))))
 iterate 2 refine kO hT hC ?_
 refine kN ?_
 refine kO hT hC ?_
 refine Vc.nil ?_
 refine kL [0,3,4,7,10] [96] [_,_,_,_,_] [_] ?_
 refine kX h (fun v16 => ([(10, .sv (.int .i64 v16.1))], [(96, some (.ints .i64 v16.2))])) (fun v18 => ([(4, .any), (10, .any)], [(96, some (.ints .i64 v18))])) (kW hC []) (fun v16 s h => ?_) fun v18 h => ?_
 unfold Xk1 at h
 refine Xab ?_
 refine kO hT hC ?_
 refine Vc.nil (Xap ?_)
 refine kS h ?_ ?_ <;> intro b12 h
 refine kt b12 (Xaf (Xae (Xap (Xak (Xab ?_)))))
 iterate 2 refine kO hT hC ?_
 refine Vc.nil (Xac ?_)
 iterate 3 refine kO hT hC ?_
 refine kQ hT hC h fun h => ?_
 iterate 6 refine kO hT hC ?_
 refine kQ hT hC h fun h => ?_
 iterate 3 refine kO hT hC ?_
 refine kT hT hC h fun h => ?_
 refine kO hT hC ?_
 refine Vc.nil (Xao (Xae (Xac ?_)))
 iterate 2 refine kO hT hC ?_
 refine Vc.nil ?_
 obtain rfl := kj h
 exact Yci (kW hC [(96, 432)])
 exact kf b12 (Xam (Xau ku))
 refine Xao (Xae (Xac ?_))
 iterate 2 refine kO hT hC ?_
 exact Vc.nil kG
 exact kf b9 (Xam (Xau ku))
 refine Xae (Xab ?_)
 iterate 2 refine kO hT hC ?_
 refine Vc.nil (Xah ?_)
 obtain rfl := kj h
 exact Xch (τ := ⟨[(2, .own 16)], [(16, some (.ints .i64 v14))]⟩) (kW hC [(16, 96)]) rfl ⟨rfl, trivial⟩
def Xvm (r : (List Int)) : AV := .own 16
def Xvl (r : (List Int)) : Xa1 := [(16, .ints .i64 r)]
theorem Xoq {p0 r} (h : Xg8 p0 = some r) : AC Tryz.prog 131 [.sv (.ints .i64 p0)] [] (Xvm r) (Xvl r) := by
 refine Xag hT Tryz.func131 rfl fun C hC => ?_
 unfold Xg8 at h
 refine Xab ?_
 refine kO hT hC ?_
 refine kN ?_
 iterate 2 refine kO hT hC ?_
 refine kT hT hC h fun h => ?_
 refine kO hT hC ?_
 refine Vc.nil (Xah ?_)
 obtain rfl := kj h
 exact Xch (τ := ⟨[(2, .own 16)], [(16, some (.ints .i64 (([] : List Int) ++ p0)))]⟩) (kW hC [(16, 80)]) rfl ⟨rfl, trivial⟩
def Yaa (r : (Int × Int × Int × Int)) : AV := .agg [.sv (.int .i64 r.1), .sv (.int .i64 r.2.1), .sv (.int .i64 r.2.2.1), .sv (.int .i64 r.2.2.2)]
def Xz9 (r : (Int × Int × Int × Int)) : Xa1 := []
theorem Xqv {p0 p1 p2 p3 r} (h : Xjm p0 p1 p2 p3 = some r) : AC Tryz.prog 106 [.sv (.int .i64 p0), .sv (.int .i64 p1), .sv (.int .i64 p2), .sv (.int .i64 p3)] [] (Yaa r) (Xz9 r) := by
 refine Xag hT Tryz.func106 rfl fun C hC => ?_
 unfold Xjm at h
 refine Xab ?_
 refine kO hT hC ?_
 refine kN ?_
 iterate 34 refine kO hT hC ?_
 exact Vc.nil (Xah kR)
def Xlv (r : (List Int)) : AV := .own 16
def Xlu (r : (List Int)) : Xa1 := [(16, .ints .i64 r)]
theorem Xme {p0 r} (h : Xc3 p0 = some r) : AC Tryz.prog 105 [.sv (.ints .i64 p0), .fn 106 []] [] (Xlv r) (Xlu r) := by
 refine Xag hT Tryz.func105 rfl fun C hC => ?_
 unfold Xc3 at h
 refine Xab ?_
 refine kO hT hC ?_
 refine kN ?_
 refine kO hT hC ?_
 refine kC hC [(16, 208)] Tryz.call131 h (fun _ => Xoq) fun q1 h => ?_
 refine kO hT hC ?_
 refine Vc.nil (Xap (Xab ?_))
 refine kO hT hC ?_
 refine Vc.nil ?_
 refine kL [1,5,6] [208] [_,_,_] [_] ?_
 refine kX h (fun v4 => ([(6, .sv (.int .i64 v4.1))], [(208, some (.ints .i64 v4.2))])) (fun v7 => ([(6, .any)], [(208, some (.ints .i64 v7))])) (kW hC []) (fun v4 s h => ?_) fun v7 h => ?_
 unfold Xhf at h
 refine Xap (Xab ?_)
 iterate 2 refine kO hT hC ?_
 refine Vc.nil ?_
 refine kS h ?_ ?_ <;> intro b3 h
 refine kt b3 (Xaf (Xae (Xap (Xak ?_))))
 refine Xhg hm ?_
 iterate 3 refine kO hT hC ?_
 iterate 2 refine kQ hT hC h fun h => ?_
 iterate 3 refine kO hT hC ?_
 iterate 2 refine kQ hT hC h fun h => ?_
 iterate 3 refine kO hT hC ?_
 iterate 2 refine kQ hT hC h fun h => ?_
 iterate 3 refine kO hT hC ?_
 iterate 2 refine kQ hT hC h fun h => ?_
 refine kC hC [] Tryz.call106 h (fun _ => Xqv) fun q8 h => ?_
 iterate 2 refine kO hT hC ?_
 refine kD ?_
 refine Xdw hm ?_
 iterate 4 refine kO hT hC ?_
 refine kQ hT hC h fun h => ?_
 refine Yr6 hT hC rfl rfl rfl rfl rfl rfl rfl rfl rfl ?_
 obtain ⟨hq, h⟩ := Xaw h
 refine Yp9 hT hC rfl rfl rfl rfl rfl rfl rfl rfl rfl ⟨⟨trivial, hq.1⟩, hq.2⟩ ?_
 refine kD (Xao (Xae (Xac ?_)))
 iterate 3 refine kO hT hC ?_
 exact Vc.nil kG
 exact kf b3 (Xam (Xau ku))
 refine Xae (Xap (Xab ?_))
 refine kO hT hC ?_
 refine Vc.nil ?_
 refine kL [1,5,46] [208] [_,_,_] [_] ?_
 refine kX h (fun v17 => ([(46, .sv (.int .i64 v17.1))], [(208, some (.ints .i64 v17.2))])) (fun v25 => ([(1, .any), (46, .any)], [(208, some (.ints .i64 v25))])) (kW hC []) (fun v17 s h => ?_) fun v25 h => ?_
 unfold Xgo at h
 refine Xab ?_
 refine kO hT hC ?_
 refine Vc.nil (Xap ?_)
 refine kS h ?_ ?_ <;> intro b12 h
 refine kt b12 (Xaf (Xae (Xap (Xak (Xab ?_)))))
 iterate 2 refine kO hT hC ?_
 refine Vc.nil ?_
 refine Xhg hm ?_
 iterate 3 refine kO hT hC ?_
 iterate 2 refine kQ hT hC h fun h => ?_
 iterate 3 refine kO hT hC ?_
 iterate 2 refine kQ hT hC h fun h => ?_
 iterate 3 refine kO hT hC ?_
 iterate 2 refine kQ hT hC h fun h => ?_
 iterate 3 refine kO hT hC ?_
 iterate 2 refine kQ hT hC h fun h => ?_
 refine kC hC [] Tryz.call106 h (fun _ => Xqv) fun q26 h => ?_
 iterate 2 refine kO hT hC ?_
 refine kD (Xab ?_)
 iterate 2 refine kO hT hC ?_
 refine Vc.nil ?_
 refine kL [1,5,8,46,70,71] [208] [_,_,_,_,_,_] [_] ?_
 refine kX h (fun v28 => ([(71, .sv (.int .i64 v28.1))], [(208, some (.ints .i64 v28.2))])) (fun v30 => ([(8, .any), (70, .any), (71, .any)], [(208, some (.ints .i64 v30))])) (kW hC []) (fun v28 s h => ?_) fun v30 h => ?_
 unfold Xgp at h
 refine Xab ?_
 refine kO hT hC ?_
 refine Vc.nil (Xap ?_)
 refine kS h ?_ ?_ <;> intro b15 h
 refine kt b15 (Xaf (Xae (Xap (Xak (Xab ?_)))))
 refine kO hT hC ?_
 obtain ⟨hq, h⟩ := Xaw h
 refine Ysa hT hC rfl rfl rfl rfl rfl rfl rfl hq ?_
 iterate 2 refine kO hT hC ?_
 refine Vc.nil (Xac ?_)
 iterate 6 refine kO hT hC ?_
 iterate 2 refine kQ hT hC h fun h => ?_
 refine Vc.nil (Xao (Xae (Xac ?_)))
 iterate 2 refine kO hT hC ?_
 exact Vc.nil kG
 exact kf b15 (Xam (Xau ku))
 refine Xao (Xae (Xac ?_))
 iterate 2 refine kO hT hC ?_
 exact Vc.nil kG
 exact kf b12 (Xam (Xau ku))
 refine Xae (Xab ?_)
 iterate 2 refine kO hT hC ?_
 refine Vc.nil (Xah ?_)
 obtain rfl := kj h
 exact Xch (τ := ⟨[(4, .own 16)], [(16, some (.ints .i64 v25))]⟩) (kW hC [(16, 208)]) rfl ⟨rfl, trivial⟩
def Yfg (r : (List Int)) : AV := .own 16
def Yff (r : (List Int)) : Xa1 := [(16, .ints .i64 r)]
theorem Yhm {p0 r} (h : Xpj p0 = some r) : AC Tryz.prog 70 [.sv (.ints .i64 p0)] [] (Yfg r) (Yff r) := by
 refine Xag hT Tryz.func70 rfl fun C hC => ?_
 unfold Xpj at h
 refine Xab ?_
 refine kO hT hC ?_
 refine Vc.nil (Xap (Xab ?_))
 refine kO hT hC ?_
 refine kC hC [] Tryz.call40 h (fun _ => Xbl) fun q1 h => ?_
 refine kO hT hC ?_
 refine Vc.nil ?_
 refine kS h ?_ ?_ <;> intro b1 h
 refine kt b1 (Xab ?_)
 iterate 2 refine kO hT hC ?_
 refine Vc.nil (Xah (Xas ?_))
 obtain rfl := kj h
 exact Xch (τ := ⟨[(2, .own 16)], [(16, some (.ints .i64 ([] : List Int)))]⟩) (kW hC [(16, 96)]) rfl ⟨rfl, trivial⟩
 refine kf b1 (Xaf (Xae (Xab ?_)))
 refine kO hT hC ?_
 refine kC hC [(16, 128)] Tryz.call105 h (fun _ => Xme) fun q2 h => ?_
 refine kO hT hC ?_
 refine Vc.nil (Xah ?_)
 obtain rfl := kj h
 exact Xch (τ := ⟨[(2, .own 16)], [(16, some (.ints .i64 q2))]⟩) (kW hC [(16, 128)]) rfl ⟨rfl, trivial⟩
def Yae (r : Int) : AV := .sv (.int .i64 r)
def Yad (r : Int) : Xa1 := []
theorem Xqx {p0 r} (h : Xn4 p0 = some r) : AC Tryz.prog 132 [.sv (.int .i64 p0)] [] (Yae r) (Yad r) := by
 refine Xag hT Tryz.func132 rfl fun C hC => ?_
 unfold Xn4 at h
 refine Xab ?_
 refine kO hT hC ?_
 refine Vc.nil (Xap (Xab ?_))
 refine kO hT hC ?_
 refine kC hC [] Tryz.call25 h (fun _ => Xaj) fun q1 h => ?_
 refine kO hT hC ?_
 refine Vc.nil ?_
 refine kS h ?_ ?_ <;> intro b1 h
 refine kt b1 (Xab ?_)
 refine kO hT hC ?_
 exact Vc.nil (Xah (Xas kR))
 refine kf b1 (Xaf (Xae (Xab ?_)))
 refine kO hT hC ?_
 iterate 2 refine kQ hT hC h fun h => ?_
 refine kO hT hC ?_
 iterate 2 refine kQ hT hC h fun h => ?_
 iterate 2 refine kO hT hC ?_
 refine Vc.nil (Xap (Xak ?_))
 refine kL [3,4] [] [_,_] [] ?_
 refine kA h (fun v2 => ([(14, .sv (.bool v2))], [])) (fun v2 h => ?_) fun v2 h => ?_
 refine Xac ?_
 iterate 3 refine kO hT hC ?_
 refine kS h ?_ ?_ <;> intro b2 h
 iterate 2 refine kI hT hC b2 ?_
 refine kP hC true b2 ?_
 refine kO hT hC ?_
 exact Vc.nil kM
 iterate 2 refine kF hC b2 ?_
 refine kP hC false b2 ?_
 refine kO hT hC ?_
 exact Vc.nil kM
 refine kS h ?_ ?_ <;> intro b3 h
 refine kt b3 (Xab ?_)
 refine kO hT hC ?_
 exact Vc.nil (Xah (Xgh (Xas kR)))
 refine kf b3 ?_
 refine kL [3,4] [] [_,_] [] ?_
 refine kA h (fun v3 => ([(21, .sv (.bool v3)), (3, .any), (4, .any)], [])) (fun v3 h => ?_) fun v3 h => ?_
 refine Xac ?_
 iterate 3 refine kO hT hC ?_
 refine kS h ?_ ?_ <;> intro b4 h
 iterate 2 refine kI hT hC b4 ?_
 refine kP hC true b4 ?_
 refine kO hT hC ?_
 exact Vc.nil kM
 iterate 2 refine kF hC b4 ?_
 refine kP hC false b4 ?_
 refine kO hT hC ?_
 exact Vc.nil kM
 refine kS h ?_ ?_ <;> intro b5 h
 refine kt b5 (Xab ?_)
 refine kO hT hC ?_
 exact Vc.nil (Xah (Xgh (Xas kR)))
 refine kf b5 (Xaf (Xao (Xae (Xab ?_))))
 refine kO hT hC ?_
 exact Vc.nil (Xah kR)
def Xxl (r : Int) : AV := .sv (.int .i64 r)
def Xxk (r : Int) : Xa1 := []
theorem Yai {p0 p1 r} (h : Xkp p0 p1 = some r) : AC Tryz.prog 107 [.sv (.int .i64 p0), .sv (.int .i64 p1)] [] (Xxl r) (Xxk r) := by
 refine Xag hT Tryz.func107 rfl fun C hC => ?_
 unfold Xkp at h
 refine Xab ?_
 refine kO hT hC ?_
 refine Vc.nil (Xap ?_)
 refine kL [0,1] [] [_,_] [] ?_
 refine kA h (fun v1 => ([(13, .sv (.bool v1))], [])) (fun v1 h => ?_) fun v1 h => ?_
 refine Xac ?_
 refine kO hT hC ?_
 refine kC hC [] Tryz.call25 h (fun _ => Xaj) fun q2 h => ?_
 iterate 2 refine kO hT hC ?_
 refine kS h ?_ ?_ <;> intro b1 h
 refine kI hT hC (kn b1) ?_
 refine kE hC (kn b1) [] Tryz.call25 h (fun _ => Xaj) fun q3 h => ?_
 refine kI hT hC (kn b1) ?_
 refine kP hC false (kn b1) ?_
 exact Vc.nil kM
 iterate 3 refine kF hC (kn b1) ?_
 refine kP hC true (kn b1) ?_
 exact Vc.nil kM
 refine kS h ?_ ?_ <;> intro b2 h
 refine kt b2 (Xab ?_)
 refine kO hT hC ?_
 exact Vc.nil (Xah (Xas kR))
 refine kf b2 (Xaf (Xae (Xab ?_)))
 iterate 9 refine kO hT hC ?_
 refine Vc.nil ?_
 refine Xhg hm ?_
 refine kO hT hC ?_
 refine kQ hT hC h fun h => ?_
 refine kO hT hC ?_
 refine kC hC [] Tryz.call132 h (fun _ => Xqx) fun q4 h => ?_
 iterate 2 refine kQ hT hC h fun h => ?_
 obtain ⟨hq, h⟩ := Xaw h
 refine Ysc hT hC rfl rfl rfl rfl rfl rfl hq ?_
 refine kO hT hC ?_
 exact kD (Xah kR)
def Xrw (r : Int) : AV := .sv (.int .i64 r)
def Xrv (r : Int) : Xa1 := []
theorem Xtc {p0 p1 p2 r} (h : Xgl p0 p1 p2 = some r) : AC Tryz.prog 71 [.sv (.int .i64 p0), .sv (.int .i64 p1), .sv (.int .i64 p2)] [] (Xrw r) (Xrv r) := by
 refine Xag hT Tryz.func71 rfl fun C hC => ?_
 unfold Xgl at h
 refine Xab ?_
 refine kO hT hC ?_
 refine Vc.nil (Xap ?_)
 refine kL [0,1,2] [] [_,_,_] [] ?_
 refine kA h (fun v1 => ([(20, .sv (.bool v1))], [])) (fun v1 h => ?_) fun v1 h => ?_
 refine Xac ?_
 refine kO hT hC ?_
 refine kC hC [] Tryz.call25 h (fun _ => Xaj) fun q2 h => ?_
 iterate 2 refine kO hT hC ?_
 refine kS h ?_ ?_ <;> intro b1 h
 refine kI hT hC (kn b1) ?_
 refine kE hC (kn b1) [] Tryz.call25 h (fun _ => Xaj) fun q3 h => ?_
 refine kI hT hC (kn b1) ?_
 refine kP hC false (kn b1) ?_
 refine kO hT hC ?_
 refine kS h ?_ ?_ <;> intro b2 h
 refine kI hT hC (kn b2) ?_
 refine kE hC (kn b2) [] Tryz.call25 h (fun _ => Xaj) fun q4 h => ?_
 refine kI hT hC (kn b2) ?_
 refine kP hC false (kn b2) ?_
 exact Vc.nil kM
 iterate 3 refine kF hC (kn b2) ?_
 refine kP hC true (kn b2) ?_
 exact Vc.nil kM
 iterate 3 refine kF hC (kn b1) ?_
 refine kP hC true (kn b1) ?_
 refine kO hT hC ?_
 iterate 3 refine kF hC rfl ?_
 refine kO hT hC ?_
 exact Vc.nil kM
 refine kS h ?_ ?_ <;> intro b3 h
 refine kt b3 (Xab ?_)
 refine kO hT hC ?_
 exact Vc.nil (Xah (Xas kR))
 refine kf b3 (Xaf (Xae (Xab ?_)))
 refine kO hT hC ?_
 refine kQ hT hC h fun h => ?_
 refine kO hT hC ?_
 refine kQ hT hC h fun h => ?_
 refine kO hT hC ?_
 refine kN ?_
 refine kO hT hC ?_
 refine kC hC [] Tryz.call75 h (fun _ => Xpq) fun q5 h => ?_
 iterate 2 refine kO hT hC ?_
 refine kC hC [] Tryz.call107 h (fun _ => Yai) fun q6 h => ?_
 iterate 2 refine kO hT hC ?_
 refine kQ hT hC h fun h => ?_
 iterate 2 refine kO hT hC ?_
 refine kQ hT hC h fun h => ?_
 refine kO hT hC ?_
 refine kC hC [] Tryz.call104 h (fun _ => Xq5) fun q7 h => ?_
 refine kO hT hC ?_
 exact Vc.nil (Xah kR)
def Xvf (r : ((List Int) × Bool)) : AV := .tup [.own 16, .sv (.bool r.2)]
def Xve (r : ((List Int) × Bool)) : Xa1 := [(16, .ints .i64 r.1)]
theorem Xop {p0 p1 r} (h : Xfi p0 p1 = some r) : AC Tryz.prog 43 [.sv (.ints .i64 p0), .agg [.sv (.bool p1.Key), .sv (.int .i64 p1.Qp), .sv (.bool p1.Large), .sv (.bool p1.Exact)]] [] (Xvf r) (Xve r) := by
 refine Xag hT Tryz.func43 rfl fun C hC => ?_
 unfold Xfi at h
 refine Xab ?_
 iterate 3 refine kO hT hC ?_
 refine Vc.nil (Xap ?_)
 refine kL [0,3] [48] [_,_] [_] ?_
 refine kA h (fun v1 => ([(26, .sv (.bool v1))], [])) (fun v1 h => ?_) fun v1 h => ?_
 refine Xac ?_
 refine kO hT hC ?_
 refine kC hC [] Tryz.call40 h (fun _ => Xbl) fun q2 h => ?_
 iterate 2 refine kO hT hC ?_
 refine kS h ?_ ?_ <;> intro b1 h
 refine kI hT hC (kn b1) ?_
 refine kE hC (kn b1) [] Tryz.call24 h (fun _ => Xhm) fun q3 h => ?_
 refine kI hT hC (kn b1) ?_
 refine kP hC false (kn b1) ?_
 exact Vc.nil kM
 iterate 3 refine kF hC (kn b1) ?_
 refine kP hC true (kn b1) ?_
 exact Vc.nil kM
 refine kS h ?_ ?_ <;> intro b2 h
 refine kt b2 (Xab ?_)
 iterate 3 refine kO hT hC ?_
 refine Vc.nil (Xah (Xas ?_))
 obtain rfl := kj h
 exact Xch (τ := ⟨[(4, .own 16), (5, .sv (.bool false))], [(16, some (.ints .i64 ([] : List Int)))]⟩) (kW hC [(16, 432)]) rfl ⟨rfl, trivial⟩
 refine kf b2 (Xaf (Xae (Xap (Xab ?_))))
 iterate 2 refine kO hT hC ?_
 refine Vc.nil ?_
 refine kS h ?_ ?_ <;> intro b3 h
 refine kt b3 (Xab ?_)
 refine kO hT hC ?_
 refine kC hC [(16, 496)] Tryz.call66 h (fun _ => Xlp) fun q4 h => ?_
 iterate 4 refine kO hT hC ?_
 refine Vc.nil (Xah (Xas ?_))
 obtain rfl := kj h
 exact Xch (τ := ⟨[(4, .own 16), (5, .sv (.bool q4.2))], [(16, some (.ints .i64 q4.1))]⟩) (kW hC [(16, 496)]) rfl ⟨rfl, trivial⟩
 refine kf b3 (Xaf (Xae (Xap (Xab ?_))))
 iterate 2 refine kO hT hC ?_
 refine Vc.nil ?_
 refine kS h ?_ ?_ <;> intro b4 h
 refine kt b4 (Xab ?_)
 refine kO hT hC ?_
 refine kC hC [(16, 592)] Tryz.call67 h (fun _ => Yfe) fun q5 h => ?_
 refine kO hT hC ?_
 refine Vc.nil (Xap (Xab ?_))
 iterate 3 refine kO hT hC ?_
 refine Vc.nil ?_
 refine kL [3,6,38,39,40] [48,592] [_,_,_,_,_] [_,_] ?_
 refine kX h (fun v8 => ([(40, .sv (.int .i64 v8.1))], [(592, some (.ints .i64 v8.2))])) (fun v11 => ([(3, .any), (38, .any), (39, .any), (40, .any)], [(592, some (.ints .i64 v11)), (48, none)])) (kW hC []) (fun v8 s h => ?_) fun v11 h => ?_
 unfold Xhx at h
 refine Xab ?_
 refine kO hT hC ?_
 refine Vc.nil (Xap ?_)
 refine kS h ?_ ?_ <;> intro b7 h
 refine kt b7 (Xaf (Xae (Xap (Xak (Xab ?_)))))
 refine kO hT hC ?_
 iterate 2 refine kQ hT hC h fun h => ?_
 iterate 2 refine kO hT hC ?_
 refine Vc.nil (Xac ?_)
 iterate 5 refine kO hT hC ?_
 refine kC hC [] Tryz.call68 h (fun _ => Xs4) fun q12 h => ?_
 iterate 2 refine kQ hT hC h fun h => ?_
 refine Vc.nil (Xao (Xae (Xac ?_)))
 iterate 2 refine kO hT hC ?_
 exact Vc.nil kG
 exact kf b7 (Xam (Xau ku))
 refine Xae (Xab ?_)
 refine kO hT hC ?_
 refine kC hC [(16, 864)] Tryz.call66 h (fun _ => Xlp) fun q14 h => ?_
 iterate 4 refine kO hT hC ?_
 refine Vc.nil (Xah (Xas ?_))
 obtain rfl := kj h
 exact Xch (τ := ⟨[(4, .own 16), (5, .sv (.bool q14.2))], [(16, some (.ints .i64 q14.1))]⟩) (kW hC [(16, 864)]) rfl ⟨rfl, trivial⟩
 refine kf b4 (Xaf (Xae (Xab ?_)))
 iterate 2 refine kO hT hC ?_
 refine Vc.nil (Xap (Xab ?_))
 refine kO hT hC ?_
 refine Vc.nil ?_
 refine kL [0,3,9,58] [48,912] [_,_,_,_] [_,_] ?_
 refine kX h (fun v32 => ([(58, .sv (.int .i64 v32.1))], [(912, some (.ints .i64 v32.2))])) (fun v50 => ([(0, .any), (3, .any), (58, .any)], [(912, some (.ints .i64 v50)), (48, none)])) (kW hC []) (fun v32 s h => ?_) fun v50 h => ?_
 unfold Xjo at h
 refine Xab ?_
 refine kO hT hC ?_
 refine Vc.nil (Xap ?_)
 refine kS h ?_ ?_ <;> intro b22 h
 refine kt b22 (Xaf (Xae (Xap (Xak (Xab ?_)))))
 iterate 2 refine kO hT hC ?_
 refine kN ?_
 iterate 2 refine kO hT hC ?_
 refine Vc.nil (Xap (Xab ?_))
 refine kO hT hC ?_
 refine kC hC [(16, 1008)] Tryz.call69 h (fun _ => Xpo) fun q51 h => ?_
 iterate 2 refine kO hT hC ?_
 refine Vc.nil ?_
 refine kL [0,3,9,11,58,63,64,65] [48,912,976,1008] [_,_,_,_,_,_,_,_] [_,_,_,_] ?_
 refine kX h (fun v53 => ([(65, .sv (.int .i64 v53.1))], [(976, some (.ints .i64 v53.2))])) (fun v55 => ([(63, .any), (64, .any), (65, .any)], [(976, some (.ints .i64 v55)), (1008, none)])) (kW hC []) (fun v53 s h => ?_) fun v55 h => ?_
 unfold Xex at h
 refine Xab ?_
 refine kO hT hC ?_
 refine Vc.nil (Xap ?_)
 refine kS h ?_ ?_ <;> intro b25 h
 refine kt b25 (Xaf (Xae (Xap (Xak (Xab ?_)))))
 iterate 2 refine kQ hT hC h fun h => ?_
 refine kO hT hC ?_
 refine Vc.nil (Xac ?_)
 iterate 3 refine kO hT hC ?_
 refine kQ hT hC h fun h => ?_
 iterate 2 refine kO hT hC ?_
 refine kT hT hC h fun h => ?_
 refine kO hT hC ?_
 refine Vc.nil (Xao (Xae (Xac ?_)))
 iterate 2 refine kO hT hC ?_
 refine Vc.nil ?_
 obtain rfl := kj h
 exact Yci (kW hC [(976, 1200)])
 exact kf b25 (Xam (Xau ku))
 refine Xae (Xab ?_)
 refine kO hT hC ?_
 refine kC hC [(16, 1248)] Tryz.call70 h (fun _ => Yhm) fun q57 h => ?_
 refine kO hT hC ?_
 refine Vc.nil (Xap (Xab ?_))
 iterate 3 refine kO hT hC ?_
 refine Vc.nil ?_
 refine kL [0,3,9,14,58,79,80,81] [48,912,1248] [_,_,_,_,_,_,_,_] [_,_,_] ?_
 refine kX h (fun v60 => ([(81, .sv (.int .i64 v60.1))], [(1248, some (.ints .i64 v60.2))])) (fun v63 => ([(79, .any), (80, .any), (81, .any)], [(1248, some (.ints .i64 v63))])) (kW hC []) (fun v60 s h => ?_) fun v63 h => ?_
 unfold Xg6 at h
 refine Xab ?_
 refine kO hT hC ?_
 refine Vc.nil (Xap ?_)
 refine kS h ?_ ?_ <;> intro b28 h
 refine kt b28 (Xaf (Xae (Xap (Xak (Xab ?_)))))
 refine kO hT hC ?_
 iterate 2 refine kQ hT hC h fun h => ?_
 iterate 2 refine kO hT hC ?_
 refine Vc.nil (Xac ?_)
 iterate 6 refine kO hT hC ?_
 refine kC hC [] Tryz.call71 h (fun _ => Xtc) fun q64 h => ?_
 iterate 2 refine kQ hT hC h fun h => ?_
 refine Vc.nil (Xao (Xae (Xac ?_)))
 iterate 2 refine kO hT hC ?_
 exact Vc.nil kG
 exact kf b28 (Xam (Xau ku))
 refine Xae (Xab ?_)
 refine kO hT hC ?_
 refine kC hC [(16, 1552)] Tryz.call66 h (fun _ => Xlp) fun q66 h => ?_
 iterate 5 refine kO hT hC ?_
 refine Vc.nil (Xac ?_)
 iterate 2 refine kO hT hC ?_
 refine kT hT hC h fun h => ?_
 refine kO hT hC ?_
 refine Vc.nil (Xao (Xae (Xac ?_)))
 iterate 2 refine kO hT hC ?_
 refine Vc.nil ?_
 obtain rfl := kj h
 exact Yci (kW hC [(912, 1632)])
 exact kf b22 (Xam (Xau ku))
 refine Xae (Xab ?_)
 iterate 3 refine kO hT hC ?_
 refine Vc.nil (Xah ?_)
 obtain rfl := kj h
 exact Xch (τ := ⟨[(4, .own 16), (5, .sv (.bool true))], [(16, some (.ints .i64 v50))]⟩) (kW hC [(16, 912)]) rfl ⟨rfl, trivial⟩
def Xs9 (r : Bool) : AV := .sv (.bool r)
def Xs8 (r : Bool) : Xa1 := []
theorem Xvg {p0 p1 r} (h : Xhp p0 p1 = some r) : AC Tryz.prog 76 [.agg [.sv (.int .i64 p0.Wide), .sv (.int .i64 p0.High), .sv (.str p0.Dots)], .agg [.sv (.int .i64 p1.Left), .sv (.int .i64 p1.Top), .sv (.int .i64 p1.Wide), .sv (.int .i64 p1.High)]] [] (Xs9 r) (Xs8 r) := by
 refine Xag hT Tryz.func76 rfl fun C hC => ?_
 unfold Xhp at h
 refine Xab ?_
 iterate 3 refine kO hT hC ?_
 refine Vc.nil ?_
 refine kL [2,3,4] [32,48] [_,_,_] [_,_] ?_
 refine kA h (fun v1 => ([(4, .sv (.bool v1)), (2, .any), (3, .any)], [(32, none), (48, none)])) (fun v1 h => ?_) fun v1 h => ?_
 refine Xac ?_
 iterate 4 refine kO hT hC ?_
 refine kC hC [] Tryz.call25 h (fun _ => Xaj) fun q2 h => ?_
 refine kO hT hC ?_
 refine kS h ?_ ?_ <;> intro b1 h
 iterate 4 refine kI hT hC b1 ?_
 refine kE hC b1 [] Tryz.call25 h (fun _ => Xaj) fun q3 h => ?_
 refine kP hC true b1 ?_
 refine kO hT hC ?_
 refine kS h ?_ ?_ <;> intro b2 h
 iterate 7 refine kI hT hC b2 ?_
 refine kE hC b2 [] Tryz.call25 h (fun _ => Xaj) fun q4 h => ?_
 refine kP hC true b2 ?_
 refine kO hT hC ?_
 refine kS h ?_ ?_ <;> intro b3 h
 iterate 7 refine kI hT hC b3 ?_
 refine kE hC b3 [] Tryz.call25 h (fun _ => Xaj) fun q5 h => ?_
 refine kP hC true b3 ?_
 refine kO hT hC ?_
 exact Vc.nil kM
 iterate 8 refine kF hC b3 ?_
 refine kP hC false b3 ?_
 refine kO hT hC ?_
 exact Vc.nil kM
 iterate 8 refine kF hC b2 ?_
 refine kP hC false b2 ?_
 refine kO hT hC ?_
 iterate 8 refine kF hC rfl ?_
 iterate 2 refine kO hT hC ?_
 exact Vc.nil kM
 iterate 5 refine kF hC b1 ?_
 refine kP hC false b1 ?_
 refine kO hT hC ?_
 iterate 8 refine kF hC rfl ?_
 iterate 2 refine kO hT hC ?_
 iterate 8 refine kF hC rfl ?_
 iterate 2 refine kO hT hC ?_
 exact Vc.nil kM
 exact Xah kR
def Xz8 (r : (Int × Bool)) : AV := .tup [.sv (.int .i64 r.1), .sv (.bool r.2)]
def Xz7 (r : (Int × Bool)) : Xa1 := []
theorem Ycp {p0 r} (h : Xln p0 = some r) : AC Tryz.prog 133 [.sv (.int .i64 p0)] [] (Xz8 r) (Xz7 r) := by
 refine Xag hT Tryz.func133 rfl fun C hC => ?_
 unfold Xln at h
 refine Xab ?_
 iterate 2 refine kO hT hC ?_
 refine Vc.nil (Xap (Xak (Xab ?_)))
 refine kO hT hC ?_
 refine kC hC [] Tryz.call25 h (fun _ => Xaj) fun q1 h => ?_
 iterate 2 refine kO hT hC ?_
 refine Vc.nil ?_
 refine kS h ?_ ?_ <;> intro b1 h
 refine kt b1 (Xab ?_)
 iterate 2 refine kO hT hC ?_
 exact Vc.nil (Xah (Xgh (Xas kR)))
 refine kf b1 (Xab ?_)
 iterate 3 refine kO hT hC ?_
 refine Vc.nil ?_
 refine kS h ?_ ?_ <;> intro b2 h
 refine kt b2 (Xab ?_)
 iterate 5 refine kO hT hC ?_
 exact Vc.nil (Xah (Xgh (Xas kR)))
 refine kf b2 (Xaf (Xao (Xae (Xab ?_))))
 iterate 4 refine kO hT hC ?_
 exact Vc.nil (Xah kR)
def Ycv (r : (ByteArray × Bool)) : AV := .tup [.sv (.str r.1), .sv (.bool r.2)]
def Ycu (r : (ByteArray × Bool)) : Xa1 := []
theorem Yfj {p0 r} (h : Xm7 p0 = some r) : AC Tryz.prog 108 [.sv (.int .i64 p0)] [] (Ycv r) (Ycu r) := by
 refine Xag hT Tryz.func108 rfl fun C hC => ?_
 unfold Xm7 at h
 refine Xab ?_
 iterate 2 refine kO hT hC ?_
 refine kN ?_
 refine kO hT hC ?_
 refine kC hC [] Tryz.call133 h (fun _ => Ycp) fun q1 h => ?_
 iterate 5 refine kO hT hC ?_
 refine Vc.nil (Xap (Xab ?_))
 iterate 2 refine kO hT hC ?_
 refine Vc.nil ?_
 refine kS h ?_ ?_ <;> intro b1 h
 refine kt b1 (Xab ?_)
 iterate 2 refine kO hT hC ?_
 exact Vc.nil (Xah (Xas kR))
 refine kf b1 (Xaf (Xae (Xab ?_)))
 refine kO hT hC ?_
 refine kC hC [] Tryz.call100 h (fun _ => Xth) fun q2 h => ?_
 iterate 4 refine kO hT hC ?_
 exact Vc.nil (Xah kR)
def Yah (r : Int) : AV := .sv (.int .i64 r)
def Yag (r : Int) : Xa1 := []
theorem Xqy {p0 r} (h : Xjp p0 = some r) : AC Tryz.prog 77 [.sv (.int .i64 p0)] [] (Yah r) (Yag r) := by
 refine Xag hT Tryz.func77 rfl fun C hC => ?_
 unfold Xjp at h
 refine Xab ?_
 refine kO hT hC ?_
 refine kN ?_
 refine kO hT hC ?_
 refine kC hC [] Tryz.call108 h (fun _ => Yfj) fun q1 h => ?_
 iterate 5 refine kO hT hC ?_
 refine kN ?_
 iterate 3 refine kO hT hC ?_
 exact Vc.nil (Xah kR)
def Xu9 (r : (Int × Int × Int)) : AV := .tup [.sv (.int .i64 r.1), .sv (.int .i64 r.2.1), .sv (.int .i64 r.2.2)]
def Xu8 (r : (Int × Int × Int)) : Xa1 := []
theorem Xw5 {p0 p1 p2 p3 p4 r} (h : Xc2 p0 p1 p2 p3 p4 = some r) : AC Tryz.prog 47 [.agg [.sv (.int .i64 p0.Wide), .sv (.int .i64 p0.High), .sv (.str p0.Dots)], .sv (.ints .i64 p1), .sv (.int .i64 p2), .sv (.int .i64 p3), .sv (.int .i64 p4)] [] (Xu9 r) (Xu8 r) := by
 refine Xag hT Tryz.func47 rfl fun C hC => ?_
 unfold Xc2 at h
 refine Xab ?_
 iterate 4 refine kO hT hC ?_
 refine Vc.nil (Xap ?_)
 refine kL [1,2,3,4,5] [80] [_,_,_,_,_] [_] ?_
 refine kA h (fun v1 => ([(38, .sv (.bool v1))], [])) (fun v1 h => ?_) fun v1 h => ?_
 refine Xac ?_
 refine kO hT hC ?_
 refine kC hC [] Tryz.call22 h (fun _ => Xd2) fun q2 h => ?_
 iterate 2 refine kO hT hC ?_
 refine kS h ?_ ?_ <;> intro b1 h
 refine kI hT hC (kn b1) ?_
 refine kE hC (kn b1) [] Tryz.call40 h (fun _ => Xbl) fun q3 h => ?_
 refine kI hT hC (kn b1) ?_
 refine kP hC false (kn b1) ?_
 refine kO hT hC ?_
 refine kS h ?_ ?_ <;> intro b2 h
 refine kI hT hC (kn b2) ?_
 refine kE hC (kn b2) [] Tryz.call25 h (fun _ => Xaj) fun q4 h => ?_
 refine kI hT hC (kn b2) ?_
 refine kP hC false (kn b2) ?_
 refine kO hT hC ?_
 refine kS h ?_ ?_ <;> intro b3 h
 iterate 3 refine kI hT hC (kn b3) ?_
 refine kE hC (kn b3) [] Tryz.call39 h (fun _ => Xet) fun q5 h => ?_
 refine kI hT hC (kn b3) ?_
 refine kP hC false (kn b3) ?_
 exact Vc.nil kM
 iterate 5 refine kF hC (kn b3) ?_
 refine kP hC true (kn b3) ?_
 exact Vc.nil kM
 iterate 3 refine kF hC (kn b2) ?_
 refine kP hC true (kn b2) ?_
 refine kO hT hC ?_
 iterate 5 refine kF hC rfl ?_
 refine kO hT hC ?_
 exact Vc.nil kM
 iterate 3 refine kF hC (kn b1) ?_
 refine kP hC true (kn b1) ?_
 refine kO hT hC ?_
 iterate 3 refine kF hC rfl ?_
 iterate 2 refine kO hT hC ?_
 iterate 5 refine kF hC rfl ?_
 refine kO hT hC ?_
 exact Vc.nil kM
 refine kS h ?_ ?_ <;> intro b4 h
 refine kt b4 (Xab ?_)
 iterate 3 refine kO hT hC ?_
 exact Vc.nil (Xah (Xas kR))
 refine kf b4 (Xaf (Xae (Xab ?_)))
 iterate 3 refine kO hT hC ?_
 refine Vc.nil (Xap (Xab ?_))
 iterate 3 refine kO hT hC ?_
 refine Vc.nil ?_
 refine kL [1,2,3,4,5,13,14,15,16] [80] [_,_,_,_,_,_,_,_,_] [_] ?_
 refine kX h (fun v33 => ([(13, .sv (.int .i64 v33.1)), (14, .sv (.int .i64 v33.2.1)), (15, .sv (.int .i64 v33.2.2.1)), (16, .sv (.int .i64 v33.2.2.2))], [])) (fun v61 => ([(13, .sv (.int .i64 v61.1)), (14, .sv (.int .i64 v61.2.1)), (15, .sv (.int .i64 v61.2.2)), (1, .any), (2, .any), (3, .any), (4, .any), (5, .any), (16, .any)], [(80, none)])) (kW hC []) (fun v33 s h => ?_) fun v61 h => ?_
 unfold Xev at h
 refine Xap (Xab ?_)
 iterate 3 refine kO hT hC ?_
 refine Vc.nil ?_
 refine kS h ?_ ?_ <;> intro b31 h
 refine kt b31 (Xaf (Xae (Xap (Xak (Xab ?_)))))
 iterate 3 refine kO hT hC ?_
 refine Vc.nil ?_
 refine kL [1,2,3,4,5,13,14,15,16,17] [80] [_,_,_,_,_,_,_,_,_,_] [_] ?_
 refine kX h (fun v70 => ([(13, .sv (.int .i64 v70.1)), (14, .sv (.int .i64 v70.2.1)), (15, .sv (.int .i64 v70.2.2.1)), (17, .sv (.int .i64 v70.2.2.2))], [])) (fun v79 => ([(13, .sv (.int .i64 v79.1)), (14, .sv (.int .i64 v79.2.1)), (15, .sv (.int .i64 v79.2.2)), (17, .any)], [])) (kW hC []) (fun v70 s h => ?_) fun v79 h => ?_
 unfold Xci at h
 refine Xap (Xab ?_)
 iterate 3 refine kO hT hC ?_
 refine Vc.nil ?_
 refine kS h ?_ ?_ <;> intro b40 h
 refine kt b40 (Xaf (Xae ?_))
 refine kL [1,2,3,4,5,13,14,15,16,17] [80] [_,_,_,_,_,_,_,_,_,_] [_] ?_
 refine kA h (fun v80 => ([(13, .sv (.int .i64 v80.1)), (14, .sv (.int .i64 v80.2.1)), (15, .sv (.int .i64 v80.2.2))], [])) (fun v80 h => ?_) fun v80 h => ?_
 refine Xak (Xap (Xab ?_))
 iterate 8 refine kO hT hC ?_
 refine kC hC [] Tryz.call76 h (fun _ => Xvg) fun q81 h => ?_
 refine kO hT hC ?_
 refine Vc.nil ?_
 refine kS h ?_ ?_ <;> intro b41 h
 exact kt b41 (Xam (Xau (Yg4 kM)))
 refine kf b41 (Xaf (Xae (Xab ?_)))
 iterate 8 refine kO hT hC ?_
 refine kC hC [(16, 1136)] Tryz.call28 h (fun _ => Xdd) fun q82 h => ?_
 refine kC hC [] Tryz.call46 h (fun _ => Xr1) fun q83 h => ?_
 refine kO hT hC ?_
 refine kC hC [] Tryz.call77 h (fun _ => Xqy) fun q84 h => ?_
 iterate 2 refine kO hT hC ?_
 refine kC hC [] Tryz.call77 h (fun _ => Xqy) fun q85 h => ?_
 iterate 2 refine kO hT hC ?_
 refine Vc.nil ?_
 refine kL [1,2,3,4,5,13,14,15,16,17,18] [80] [_,_,_,_,_,_,_,_,_,_,_] [_] ?_
 refine kA h (fun v86 => ([(85, .sv (.bool v86))], [])) (fun v86 h => ?_) fun v86 h => ?_
 refine Xac ?_
 iterate 3 refine kO hT hC ?_
 refine kS h ?_ ?_ <;> intro b42 h
 iterate 3 refine kF hC b42 ?_
 refine kP hC true b42 ?_
 exact Vc.nil kM
 iterate 3 refine kI hT hC b42 ?_
 refine kP hC false b42 ?_
 exact Vc.nil kM
 refine kS h ?_ ?_ <;> intro b43 h
 refine kt b43 (Xac ?_)
 iterate 6 refine kO hT hC ?_
 exact Vc.nil (Xao kM)
 exact kf b43 (Xaf (Xao kM))
 refine Xac ?_
 iterate 3 refine kO hT hC ?_
 exact Vc.nil kG
 exact kf b40 (Xam (Xau ku))
 refine Xao (Xae (Xac ?_))
 iterate 3 refine kO hT hC ?_
 exact Vc.nil kG
 exact kf b31 (Xam (Xau ku))
 refine Xae (Xab ?_)
 iterate 6 refine kO hT hC ?_
 exact Vc.nil (Xah kR)
def Xtl (r : Bool) : AV := .sv (.bool r)
def Xtk (r : Bool) : Xa1 := []
theorem Xjt {p0 r} (h : Xej p0 = some r) : AC Tryz.prog 109 [.sv (.ints .i64 p0)] [] (Xtl r) (Xtk r) := by
 refine Xag hT Tryz.func109 rfl fun C hC => ?_
 unfold Xej at h
 refine Xab ?_
 refine kO hT hC ?_
 refine kN ?_
 refine kO hT hC ?_
 refine kC hC [] Tryz.call40 h (fun _ => Xbl) fun q1 h => ?_
 refine kO hT hC ?_
 exact Vc.nil (Xah kR)
def Xvk (r : Bool) : AV := .sv (.bool r)
def Xvj (r : Bool) : Xa1 := []
theorem Xxm {p0 r} (h : Xiv p0 = some r) : AC Tryz.prog 78 [.agg [.sv (.int .i64 p0.Kind), .sv (.int .i64 p0.Mode), .sv (.int .i64 p0.Dx), .sv (.int .i64 p0.Dy), .sv (.ints .i64 p0.Levels)]] [] (Xvk r) (Xvj r) := by
 refine Xag hT Tryz.func78 rfl fun C hC => ?_
 unfold Xiv at h
 refine Xab ?_
 iterate 2 refine kO hT hC ?_
 refine Vc.nil (Xap (Xab ?_))
 iterate 2 refine kO hT hC ?_
 refine Vc.nil (Xak (Xab ?_))
 iterate 2 refine kO hT hC ?_
 refine Vc.nil ?_
 refine kS h ?_ ?_ <;> intro b1 h
 refine kt b1 ?_
 refine kL [1,2] [16] [_,_] [_] ?_
 refine kA h (fun v1 => ([(2, .sv (.bool v1)), (1, .any)], [(16, none)])) (fun v1 h => ?_) fun v1 h => ?_
 refine Xac ?_
 iterate 4 refine kO hT hC ?_
 refine kS h ?_ ?_ <;> intro b2 h
 iterate 3 refine kI hT hC b2 ?_
 refine kP hC true b2 ?_
 refine kO hT hC ?_
 refine kS h ?_ ?_ <;> intro b3 h
 iterate 3 refine kI hT hC b3 ?_
 refine kP hC true b3 ?_
 refine kO hT hC ?_
 refine kS h ?_ ?_ <;> intro b4 h
 iterate 4 refine kI hT hC b4 ?_
 refine kP hC true b4 ?_
 refine kO hT hC ?_
 exact Vc.nil kM
 iterate 4 refine kF hC b4 ?_
 refine kP hC false b4 ?_
 refine kO hT hC ?_
 exact Vc.nil kM
 iterate 3 refine kF hC b3 ?_
 refine kP hC false b3 ?_
 refine kO hT hC ?_
 iterate 4 refine kF hC rfl ?_
 iterate 2 refine kO hT hC ?_
 exact Vc.nil kM
 iterate 3 refine kF hC b2 ?_
 refine kP hC false b2 ?_
 refine kO hT hC ?_
 iterate 3 refine kF hC rfl ?_
 iterate 2 refine kO hT hC ?_
 iterate 4 refine kF hC rfl ?_
 iterate 2 refine kO hT hC ?_
 exact Vc.nil kM
 exact Xah (Xgh (Xas kR))
 refine kf b1 (Xab ?_)
 iterate 2 refine kO hT hC ?_
 refine Vc.nil ?_
 refine kS h ?_ ?_ <;> intro b5 h
 refine kt b5 ?_
 refine kL [1,2] [16] [_,_] [_] ?_
 refine kA h (fun v2 => ([(2, .sv (.bool v2)), (1, .any)], [(16, none)])) (fun v2 h => ?_) fun v2 h => ?_
 refine Xac ?_
 iterate 4 refine kO hT hC ?_
 refine kS h ?_ ?_ <;> intro b6 h
 iterate 2 refine kI hT hC b6 ?_
 refine kE hC b6 [] Tryz.call25 h (fun _ => Xaj) fun q3 h => ?_
 refine kP hC true b6 ?_
 refine kO hT hC ?_
 refine kS h ?_ ?_ <;> intro b7 h
 iterate 2 refine kI hT hC b7 ?_
 refine kE hC b7 [] Tryz.call25 h (fun _ => Xaj) fun q4 h => ?_
 refine kP hC true b7 ?_
 refine kO hT hC ?_
 refine kS h ?_ ?_ <;> intro b8 h
 iterate 2 refine kI hT hC b8 ?_
 refine kE hC b8 [] Tryz.call109 h (fun _ => Xjt) fun q5 h => ?_
 refine kP hC true b8 ?_
 refine kO hT hC ?_
 exact Vc.nil kM
 iterate 3 refine kF hC b8 ?_
 refine kP hC false b8 ?_
 refine kO hT hC ?_
 exact Vc.nil kM
 iterate 3 refine kF hC b7 ?_
 refine kP hC false b7 ?_
 refine kO hT hC ?_
 iterate 3 refine kF hC rfl ?_
 iterate 2 refine kO hT hC ?_
 exact Vc.nil kM
 iterate 3 refine kF hC b6 ?_
 refine kP hC false b6 ?_
 refine kO hT hC ?_
 iterate 3 refine kF hC rfl ?_
 iterate 2 refine kO hT hC ?_
 iterate 3 refine kF hC rfl ?_
 iterate 2 refine kO hT hC ?_
 exact Vc.nil kM
 exact Xah (Xgh (Xas kR))
 refine kf b5 (Xab ?_)
 iterate 2 refine kO hT hC ?_
 refine Vc.nil ?_
 refine kS h ?_ ?_ <;> intro b9 h
 refine kt b9 ?_
 refine kL [1,2] [16] [_,_] [_] ?_
 refine kA h (fun v6 => ([(2, .sv (.bool v6)), (1, .any)], [(16, none)])) (fun v6 h => ?_) fun v6 h => ?_
 refine Xac ?_
 iterate 2 refine kO hT hC ?_
 refine kC hC [] Tryz.call25 h (fun _ => Xaj) fun q7 h => ?_
 refine kO hT hC ?_
 refine kS h ?_ ?_ <;> intro b10 h
 iterate 3 refine kI hT hC b10 ?_
 refine kP hC true b10 ?_
 refine kO hT hC ?_
 refine kS h ?_ ?_ <;> intro b11 h
 iterate 3 refine kI hT hC b11 ?_
 refine kP hC true b11 ?_
 refine kO hT hC ?_
 refine kS h ?_ ?_ <;> intro b12 h
 iterate 2 refine kI hT hC b12 ?_
 refine kE hC b12 [] Tryz.call109 h (fun _ => Xjt) fun q8 h => ?_
 refine kP hC true b12 ?_
 refine kO hT hC ?_
 exact Vc.nil kM
 iterate 3 refine kF hC b12 ?_
 refine kP hC false b12 ?_
 refine kO hT hC ?_
 exact Vc.nil kM
 iterate 3 refine kF hC b11 ?_
 refine kP hC false b11 ?_
 refine kO hT hC ?_
 iterate 3 refine kF hC rfl ?_
 iterate 2 refine kO hT hC ?_
 exact Vc.nil kM
 iterate 3 refine kF hC b10 ?_
 refine kP hC false b10 ?_
 refine kO hT hC ?_
 iterate 3 refine kF hC rfl ?_
 iterate 2 refine kO hT hC ?_
 iterate 3 refine kF hC rfl ?_
 iterate 2 refine kO hT hC ?_
 exact Vc.nil kM
 exact Xah (Xgh (Xas kR))
 refine kf b9 (Xaf (Xao (Xae (Xab ?_))))
 refine kO hT hC ?_
 exact Vc.nil (Xah kR)
def Xr0 (r : Bool) : AV := .sv (.bool r)
def Xrz (r : Bool) : Xa1 := []
theorem Xtg {p0 p1 r} (h : Xgm p0 p1 = some r) : AC Tryz.prog 79 [.agg [.sv (.int .i64 p0.Kind), .sv (.int .i64 p0.Mode), .sv (.int .i64 p0.Dx), .sv (.int .i64 p0.Dy), .sv (.ints .i64 p0.Levels)], .agg [.sv (.bool p1.Key), .sv (.int .i64 p1.Qp), .sv (.bool p1.Large), .sv (.bool p1.Exact)]] [] (Xr0 r) (Xrz r) := by
 refine Xag hT Tryz.func79 rfl fun C hC => ?_
 unfold Xgm at h
 refine Xab ?_
 iterate 3 refine kO hT hC ?_
 refine Vc.nil ?_
 refine kL [2,3,4] [32,48] [_,_,_] [_,_] ?_
 refine kA h (fun v1 => ([(4, .sv (.bool v1)), (2, .any), (3, .any)], [(32, none), (48, none)])) (fun v1 h => ?_) fun v1 h => ?_
 refine Xac ?_
 iterate 4 refine kO hT hC ?_
 refine kS h ?_ ?_ <;> intro b1 h
 iterate 3 refine kI hT hC (kn b1) ?_
 refine kP hC false (kn b1) ?_
 refine kO hT hC ?_
 exact Vc.nil kM
 iterate 3 refine kF hC (kn b1) ?_
 refine kP hC true (kn b1) ?_
 refine kO hT hC ?_
 exact Vc.nil kM
 exact Xah kR
def Xtj (r : ((List Int) × Bool)) : AV := .tup [.own 16, .sv (.bool r.2)]
def Xti (r : ((List Int) × Bool)) : Xa1 := [(16, .ints .i64 r.1)]
theorem Xjs {p0 p1 r} (h : Xei p0 p1 = some r) : AC Tryz.prog 110 [.sv (.int .i64 p0), .sv (.ints .i64 p1)] [] (Xtj r) (Xti r) := by
 refine Xag hT Tryz.func110 rfl fun C hC => ?_
 unfold Xei at h
 refine Xab ?_
 iterate 2 refine kO hT hC ?_
 refine Vc.nil (Xap ?_)
 refine kL [0,1] [] [_,_] [] ?_
 refine kA h (fun v1 => ([(22, .sv (.bool v1))], [])) (fun v1 h => ?_) fun v1 h => ?_
 refine Xac ?_
 iterate 3 refine kO hT hC ?_
 refine kS h ?_ ?_ <;> intro b1 h
 iterate 2 refine kI hT hC b1 ?_
 refine kP hC true b1 ?_
 refine kO hT hC ?_
 refine kS h ?_ ?_ <;> intro b2 h
 iterate 6 refine kF hC b2 ?_
 refine kP hC true b2 ?_
 exact Vc.nil kM
 iterate 6 refine kI hT hC b2 ?_
 refine kP hC false b2 ?_
 exact Vc.nil kM
 iterate 2 refine kF hC b1 ?_
 refine kP hC false b1 ?_
 refine kO hT hC ?_
 iterate 6 refine kI hT hC rfl ?_
 refine kO hT hC ?_
 exact Vc.nil kM
 refine kS h ?_ ?_ <;> intro b3 h
 refine kt b3 (Xab ?_)
 iterate 3 refine kO hT hC ?_
 refine Vc.nil (Xah (Xas ?_))
 obtain rfl := kj h
 exact Xch (τ := ⟨[(4, .own 16), (5, .sv (.bool false))], [(16, some (.ints .i64 ([] : List Int)))]⟩) (kW hC [(16, 368)]) rfl ⟨rfl, trivial⟩
 refine kf b3 (Xaf (Xae (Xab ?_)))
 iterate 2 refine kO hT hC ?_
 obtain ⟨hq, h⟩ := Xaw h
 refine Yj5 hT hC rfl rfl rfl rfl ⟨hq.1, hq.2.1, hq.2.2, by decide⟩ ?_
 refine kO hT hC ?_
 refine Vc.nil (Xap (Xab ?_))
 refine kO hT hC ?_
 refine kC hC [(16, 448)] Tryz.call101 h (fun _ => Xm9) fun q2 h => ?_
 iterate 2 refine kO hT hC ?_
 refine Vc.nil ?_
 refine kL [1,6,28,29,30] [416,448] [_,_,_,_,_] [_,_] ?_
 refine kX h (fun v4 => ([(30, .sv (.int .i64 v4.1))], [(416, some (.ints .i64 v4.2))])) (fun v6 => ([(1, .any), (28, .any), (29, .any), (30, .any)], [(416, some (.ints .i64 v6)), (448, none)])) (kW hC []) (fun v4 s h => ?_) fun v6 h => ?_
 unfold Xg7 at h
 refine Xab ?_
 refine kO hT hC ?_
 refine Vc.nil (Xap ?_)
 refine kS h ?_ ?_ <;> intro b6 h
 refine kt b6 (Xaf (Xae (Xap (Xak (Xab ?_)))))
 refine kO hT hC ?_
 iterate 2 refine kQ hT hC h fun h => ?_
 iterate 2 refine kO hT hC ?_
 refine Vc.nil (Xac ?_)
 iterate 4 refine kO hT hC ?_
 refine kQ hT hC h fun h => ?_
 refine kO hT hC ?_
 iterate 2 refine kQ hT hC h fun h => ?_
 refine Vc.nil (Xao (Xae (Xac ?_)))
 iterate 2 refine kO hT hC ?_
 exact Vc.nil kG
 exact kf b6 (Xam (Xau ku))
 refine Xae (Xab ?_)
 iterate 3 refine kO hT hC ?_
 refine Vc.nil (Xah ?_)
 obtain rfl := kj h
 exact Xch (τ := ⟨[(4, .own 16), (5, .sv (.bool true))], [(16, some (.ints .i64 v6))]⟩) (kW hC [(16, 416)]) rfl ⟨rfl, trivial⟩
def Xs3 (r : Int) : AV := .sv (.int .i64 r)
def Xs2 (r : Int) : Xa1 := []
theorem Xvd {p0 p1 r} (h : Xho p0 p1 = some r) : AC Tryz.prog 111 [.sv (.int .i64 p0), .sv (.int .i64 p1)] [] (Xs3 r) (Xs2 r) := by
 refine Xag hT Tryz.func111 rfl fun C hC => ?_
 unfold Xho at h
 refine Xab ?_
 refine kO hT hC ?_
 refine Vc.nil (Xap (Xab ?_))
 refine kO hT hC ?_
 refine kC hC [] Tryz.call25 h (fun _ => Xaj) fun q1 h => ?_
 refine kO hT hC ?_
 refine Vc.nil ?_
 refine kS h ?_ ?_ <;> intro b1 h
 refine kt b1 (Xab ?_)
 refine kO hT hC ?_
 exact Vc.nil (Xah (Xas kR))
 refine kf b1 (Xaf (Xae (Xab ?_)))
 iterate 2 refine kO hT hC ?_
 refine kC hC [] Tryz.call103 h (fun _ => Xq0) fun q2 h => ?_
 iterate 2 refine kO hT hC ?_
 exact Vc.nil (Xah kR)
def Yc1 (r : Int) : AV := .sv (.int .i64 r)
def Yc0 (r : Int) : Xa1 := []
theorem Xn5 {p0 p1 r} (h : Xli p0 p1 = some r) : AC Tryz.prog 137 [.sv (.int .i64 p0), .sv (.int .i64 p1)] [] (Yc1 r) (Yc0 r) := by
 refine Xag hT Tryz.func137 rfl fun C hC => ?_
 unfold Xli at h
 refine Xab ?_
 refine kO hT hC ?_
 refine kN ?_
 iterate 2 refine kO hT hC ?_
 refine kQ hT hC h fun h => ?_
 refine kO hT hC ?_
 refine Vc.nil ?_
 refine kL [0,1,5] [] [_,_,_] [] ?_
 refine kA h (fun v1 => ([(5, .sv (.int .i64 v1)), (0, .any), (1, .any)], [])) (fun v1 h => ?_) fun v1 h => ?_
 refine Xab ?_
 iterate 2 refine kO hT hC ?_
 refine kQ hT hC h fun h => ?_
 refine kO hT hC ?_
 refine Vc.nil ?_
 refine kS h ?_ ?_ <;> intro b1 h
 refine kt b1 (Xac ?_)
 iterate 3 refine kO hT hC ?_
 exact Vc.nil kM
 exact kf b1 (Xaf kM)
 refine Xab ?_
 iterate 2 refine kO hT hC ?_
 exact Vc.nil (Xah kR)
def Xxr (r : ((List Int) × (List Int))) : AV := .own 0
def Xxq (r : ((List Int) × (List Int))) : Xa1 := [(0, .ints .i64 r.2)]
theorem Xpp {p0 r} (h : Xig p0 = some r) : AC Tryz.prog 134 [.own 0] [(0, .ints .i64 p0)] (Xxr r) (Xxq r) := by
 refine Xag hT Tryz.func134 rfl fun C hC => ?_
 unfold Xig at h
 refine Xab ?_
 refine kO hT hC ?_
 refine Vc.nil (Xap (Xab ?_))
 iterate 3 refine kO hT hC ?_
 refine Vc.nil ?_
 refine kL [0,5,6,7] [0] [_,_,_,_] [_] ?_
 refine kX h (fun v3 => ([(7, .sv (.int .i64 v3.1))], [(0, some (.ints .i64 v3.2))])) (fun v6 => ([(5, .any), (6, .any), (7, .any)], [(0, some (.ints .i64 v6))])) (kW hC []) (fun v3 s h => ?_) fun v6 h => ?_
 unfold Xls at h
 refine Xab ?_
 refine kO hT hC ?_
 refine Vc.nil (Xap ?_)
 refine kS h ?_ ?_ <;> intro b3 h
 refine kt b3 (Xaf (Xae (Xap (Xak (Xab ?_)))))
 refine kO hT hC ?_
 iterate 2 refine kQ hT hC h fun h => ?_
 iterate 2 refine kO hT hC ?_
 refine Vc.nil (Xac ?_)
 iterate 4 refine kO hT hC ?_
 refine kC hC [] Tryz.call137 h (fun _ => Xn5) fun q7 h => ?_
 iterate 2 refine kQ hT hC h fun h => ?_
 refine Vc.nil (Xao (Xae (Xac ?_)))
 iterate 2 refine kO hT hC ?_
 exact Vc.nil kG
 exact kf b3 (Xam (Xau ku))
 refine Xae (Xab ?_)
 iterate 2 refine kO hT hC ?_
 refine Vc.nil (Xah ?_)
 obtain rfl := kj h
 exact Xch (Xka.refl _) rfl ⟨rfl, trivial⟩
def Xs0 (r : (List Int)) : AV := .own 16
def Xsz (r : (List Int)) : Xa1 := [(16, .ints .i64 r)]
theorem Xva {p0 r} (h : Xhn p0 = some r) : AC Tryz.prog 112 [.sv (.ints .i64 p0)] [] (Xs0 r) (Xsz r) := by
 refine Xag hT Tryz.func112 rfl fun C hC => ?_
 unfold Xhn at h
 refine Xab ?_
 refine kO hT hC ?_
 refine Vc.nil (Xap (Xab ?_))
 refine kO hT hC ?_
 refine kC hC [] Tryz.call40 h (fun _ => Xbl) fun q1 h => ?_
 refine kO hT hC ?_
 refine Vc.nil ?_
 refine kS h ?_ ?_ <;> intro b1 h
 refine kt b1 (Xab ?_)
 iterate 2 refine kO hT hC ?_
 refine Vc.nil (Xah (Xas ?_))
 obtain rfl := kj h
 exact Xch (τ := ⟨[(2, .own 16)], [(16, some (.ints .i64 ([] : List Int)))]⟩) (kW hC [(16, 96)]) rfl ⟨rfl, trivial⟩
 refine kf b1 (Xaf (Xae (Xab ?_)))
 refine kO hT hC ?_
 refine kC hC [(16, 128)] Tryz.call102 h (fun _ => Xwv) fun q2 h => ?_
 refine kC hC [(0, 128)] Tryz.call134 h (fun _ => Xpp) fun q3 h => ?_
 refine kO hT hC ?_
 refine Vc.nil (Xah ?_)
 obtain rfl := kj h
 exact Xch (τ := ⟨[(2, .own 16)], [(16, some (.ints .i64 q3.2))]⟩) (kW hC [(16, 128)]) rfl ⟨rfl, trivial⟩
def Xxh (r : Int) : AV := .sv (.int .i64 r)
def Xxg (r : Int) : Xa1 := []
theorem Yaf {p0 p1 r} (h : Xko p0 p1 = some r) : AC Tryz.prog 135 [.sv (.int .i64 p0), .sv (.int .i64 p1)] [] (Xxh r) (Xxg r) := by
 refine Xag hT Tryz.func135 rfl fun C hC => ?_
 unfold Xko at h
 refine Xab ?_
 refine kO hT hC ?_
 refine Vc.nil (Xap ?_)
 refine kL [0,1] [] [_,_] [] ?_
 refine kA h (fun v1 => ([(13, .sv (.bool v1))], [])) (fun v1 h => ?_) fun v1 h => ?_
 refine Xac ?_
 refine kO hT hC ?_
 refine kC hC [] Tryz.call25 h (fun _ => Xaj) fun q2 h => ?_
 iterate 2 refine kO hT hC ?_
 refine kS h ?_ ?_ <;> intro b1 h
 refine kI hT hC (kn b1) ?_
 refine kE hC (kn b1) [] Tryz.call25 h (fun _ => Xaj) fun q3 h => ?_
 refine kI hT hC (kn b1) ?_
 refine kP hC false (kn b1) ?_
 exact Vc.nil kM
 iterate 3 refine kF hC (kn b1) ?_
 refine kP hC true (kn b1) ?_
 exact Vc.nil kM
 refine kS h ?_ ?_ <;> intro b2 h
 refine kt b2 (Xab ?_)
 refine kO hT hC ?_
 exact Vc.nil (Xah (Xas kR))
 refine kf b2 (Xaf (Xae (Xab ?_)))
 iterate 9 refine kO hT hC ?_
 refine Vc.nil ?_
 refine Xhg hm ?_
 refine kO hT hC ?_
 refine kQ hT hC h fun h => ?_
 refine kO hT hC ?_
 refine kC hC [] Tryz.call132 h (fun _ => Xqx) fun q4 h => ?_
 iterate 2 refine kQ hT hC h fun h => ?_
 obtain ⟨hq, h⟩ := Xaw h
 refine Ysc hT hC rfl rfl rfl rfl rfl rfl hq ?_
 refine kO hT hC ?_
 iterate 2 refine kQ hT hC h fun h => ?_
 refine kO hT hC ?_
 exact kD (Xah kR)
def Xtb (r : Int) : AV := .sv (.int .i64 r)
def Xta (r : Int) : Xa1 := []
theorem Xvh {p0 p1 p2 r} (h : Xhq p0 p1 p2 = some r) : AC Tryz.prog 113 [.sv (.int .i64 p0), .sv (.int .i64 p1), .sv (.int .i64 p2)] [] (Xtb r) (Xta r) := by
 refine Xag hT Tryz.func113 rfl fun C hC => ?_
 unfold Xhq at h
 refine Xab ?_
 refine kO hT hC ?_
 refine Vc.nil (Xap (Xab ?_))
 refine kO hT hC ?_
 refine kC hC [] Tryz.call25 h (fun _ => Xaj) fun q1 h => ?_
 refine kO hT hC ?_
 refine Vc.nil ?_
 refine kS h ?_ ?_ <;> intro b1 h
 refine kt b1 (Xab ?_)
 refine kO hT hC ?_
 exact Vc.nil (Xah (Xas kR))
 refine kf b1 (Xaf (Xae (Xab ?_)))
 iterate 3 refine kO hT hC ?_
 refine kC hC [] Tryz.call135 h (fun _ => Yaf) fun q2 h => ?_
 iterate 2 refine kO hT hC ?_
 exact Vc.nil (Xah kR)
def Xrq (r : (Int × Int × Int × Int)) : AV := .agg [.sv (.int .i64 r.1), .sv (.int .i64 r.2.1), .sv (.int .i64 r.2.2.1), .sv (.int .i64 r.2.2.2)]
def Xrp (r : (Int × Int × Int × Int)) : Xa1 := []
theorem Xmi {p0 p1 p2 p3 r} (h : Xdi p0 p1 p2 p3 = some r) : AC Tryz.prog 136 [.sv (.int .i64 p0), .sv (.int .i64 p1), .sv (.int .i64 p2), .sv (.int .i64 p3)] [] (Xrq r) (Xrp r) := by
 refine Xag hT Tryz.func136 rfl fun C hC => ?_
 unfold Xdi at h
 refine Xab ?_
 refine kO hT hC ?_
 refine kN ?_
 iterate 7 refine kO hT hC ?_
 refine kC hC [] Tryz.call137 h (fun _ => Xn5) fun q1 h => ?_
 iterate 4 refine kO hT hC ?_
 refine kC hC [] Tryz.call137 h (fun _ => Xn5) fun q2 h => ?_
 iterate 5 refine kO hT hC ?_
 refine kN ?_
 iterate 14 refine kO hT hC ?_
 exact Vc.nil (Xah kR)
def Xjx (r : (List Int)) : AV := .own 16
def Xjw (r : (List Int)) : Xa1 := [(16, .ints .i64 r)]
theorem Xkr {p0 r} (h : Xb4 p0 = some r) : AC Tryz.prog 105 [.sv (.ints .i64 p0), .fn 136 []] [] (Xjx r) (Xjw r) := by
 refine Xag hT Tryz.func105 rfl fun C hC => ?_
 unfold Xb4 at h
 refine Xab ?_
 refine kO hT hC ?_
 refine kN ?_
 refine kO hT hC ?_
 refine kC hC [(16, 208)] Tryz.call131 h (fun _ => Xoq) fun q1 h => ?_
 refine kO hT hC ?_
 refine Vc.nil (Xap (Xab ?_))
 refine kO hT hC ?_
 refine Vc.nil ?_
 refine kL [1,5,6] [208] [_,_,_] [_] ?_
 refine kX h (fun v4 => ([(6, .sv (.int .i64 v4.1))], [(208, some (.ints .i64 v4.2))])) (fun v7 => ([(6, .any)], [(208, some (.ints .i64 v7))])) (kW hC []) (fun v4 s h => ?_) fun v7 h => ?_
 unfold Xfa at h
 refine Xap (Xab ?_)
 iterate 2 refine kO hT hC ?_
 refine Vc.nil ?_
 refine kS h ?_ ?_ <;> intro b3 h
 refine kt b3 (Xaf (Xae (Xap (Xak ?_))))
 refine Xhg hm ?_
 iterate 3 refine kO hT hC ?_
 iterate 2 refine kQ hT hC h fun h => ?_
 iterate 3 refine kO hT hC ?_
 iterate 2 refine kQ hT hC h fun h => ?_
 iterate 3 refine kO hT hC ?_
 iterate 2 refine kQ hT hC h fun h => ?_
 iterate 3 refine kO hT hC ?_
 iterate 2 refine kQ hT hC h fun h => ?_
 refine kC hC [] Tryz.call136 h (fun _ => Xmi) fun q8 h => ?_
 iterate 2 refine kO hT hC ?_
 refine kD ?_
 refine Xdw hm ?_
 iterate 4 refine kO hT hC ?_
 refine kQ hT hC h fun h => ?_
 refine Yr6 hT hC rfl rfl rfl rfl rfl rfl rfl rfl rfl ?_
 obtain ⟨hq, h⟩ := Xaw h
 refine Yp9 hT hC rfl rfl rfl rfl rfl rfl rfl rfl rfl ⟨⟨trivial, hq.1⟩, hq.2⟩ ?_
 refine kD (Xao (Xae (Xac ?_)))
 iterate 3 refine kO hT hC ?_
 exact Vc.nil kG
 exact kf b3 (Xam (Xau ku))
 refine Xae (Xap (Xab ?_))
 refine kO hT hC ?_
 refine Vc.nil ?_
 refine kL [1,5,46] [208] [_,_,_] [_] ?_
 refine kX h (fun v17 => ([(46, .sv (.int .i64 v17.1))], [(208, some (.ints .i64 v17.2))])) (fun v25 => ([(1, .any), (46, .any)], [(208, some (.ints .i64 v25))])) (kW hC []) (fun v17 s h => ?_) fun v25 h => ?_
 unfold Xey at h
 refine Xab ?_
 refine kO hT hC ?_
 refine Vc.nil (Xap ?_)
 refine kS h ?_ ?_ <;> intro b12 h
 refine kt b12 (Xaf (Xae (Xap (Xak (Xab ?_)))))
 iterate 2 refine kO hT hC ?_
 refine Vc.nil ?_
 refine Xhg hm ?_
 iterate 3 refine kO hT hC ?_
 iterate 2 refine kQ hT hC h fun h => ?_
 iterate 3 refine kO hT hC ?_
 iterate 2 refine kQ hT hC h fun h => ?_
 iterate 3 refine kO hT hC ?_
 iterate 2 refine kQ hT hC h fun h => ?_
 iterate 3 refine kO hT hC ?_
 iterate 2 refine kQ hT hC h fun h => ?_
 refine kC hC [] Tryz.call136 h (fun _ => Xmi) fun q26 h => ?_
 iterate 2 refine kO hT hC ?_
 refine kD (Xab ?_)
 iterate 2 refine kO hT hC ?_
 refine Vc.nil ?_
 refine kL [1,5,8,46,70,71] [208] [_,_,_,_,_,_] [_] ?_
 refine kX h (fun v28 => ([(71, .sv (.int .i64 v28.1))], [(208, some (.ints .i64 v28.2))])) (fun v30 => ([(8, .any), (70, .any), (71, .any)], [(208, some (.ints .i64 v30))])) (kW hC []) (fun v28 s h => ?_) fun v30 h => ?_
 unfold Xez at h
 refine Xab ?_
 refine kO hT hC ?_
 refine Vc.nil (Xap ?_)
 refine kS h ?_ ?_ <;> intro b15 h
 refine kt b15 (Xaf (Xae (Xap (Xak (Xab ?_)))))
 refine kO hT hC ?_
 obtain ⟨hq, h⟩ := Xaw h
 refine Ysa hT hC rfl rfl rfl rfl rfl rfl rfl hq ?_
 iterate 2 refine kO hT hC ?_
 refine Vc.nil (Xac ?_)
 iterate 6 refine kO hT hC ?_
 iterate 2 refine kQ hT hC h fun h => ?_
 refine Vc.nil (Xao (Xae (Xac ?_)))
 iterate 2 refine kO hT hC ?_
 exact Vc.nil kG
 exact kf b15 (Xam (Xau ku))
 refine Xao (Xae (Xac ?_))
 iterate 2 refine kO hT hC ?_
 exact Vc.nil kG
 exact kf b12 (Xam (Xau ku))
 refine Xae (Xab ?_)
 iterate 2 refine kO hT hC ?_
 refine Vc.nil (Xah ?_)
 obtain rfl := kj h
 exact Xch (τ := ⟨[(4, .own 16)], [(16, some (.ints .i64 v25))]⟩) (kW hC [(16, 208)]) rfl ⟨rfl, trivial⟩
def Xvc (r : (List Int)) : AV := .own 16
def Xvb (r : (List Int)) : Xa1 := [(16, .ints .i64 r)]
theorem Xxb {p0 r} (h : Xis p0 = some r) : AC Tryz.prog 114 [.sv (.ints .i64 p0)] [] (Xvc r) (Xvb r) := by
 refine Xag hT Tryz.func114 rfl fun C hC => ?_
 unfold Xis at h
 refine Xab ?_
 refine kO hT hC ?_
 refine Vc.nil (Xap (Xab ?_))
 refine kO hT hC ?_
 refine kC hC [] Tryz.call40 h (fun _ => Xbl) fun q1 h => ?_
 refine kO hT hC ?_
 refine Vc.nil ?_
 refine kS h ?_ ?_ <;> intro b1 h
 refine kt b1 (Xab ?_)
 iterate 2 refine kO hT hC ?_
 refine Vc.nil (Xah (Xas ?_))
 obtain rfl := kj h
 exact Xch (τ := ⟨[(2, .own 16)], [(16, some (.ints .i64 ([] : List Int)))]⟩) (kW hC [(16, 96)]) rfl ⟨rfl, trivial⟩
 refine kf b1 (Xaf (Xae (Xab ?_)))
 refine kO hT hC ?_
 refine kC hC [(16, 128)] Tryz.call105 h (fun _ => Xkr) fun q2 h => ?_
 refine kC hC [(0, 128)] Tryz.call134 h (fun _ => Xpp) fun q3 h => ?_
 refine kO hT hC ?_
 refine Vc.nil (Xah ?_)
 obtain rfl := kj h
 exact Xch (τ := ⟨[(2, .own 16)], [(16, some (.ints .i64 q3.2))]⟩) (kW hC [(16, 128)]) rfl ⟨rfl, trivial⟩
def Xru (r : ((List Int) × Bool)) : AV := .tup [.own 16, .sv (.bool r.2)]
def Xrt (r : ((List Int) × Bool)) : Xa1 := [(16, .ints .i64 r.1)]
theorem Xs5 {p0 p1 r} (h : Xgj p0 p1 = some r) : AC Tryz.prog 80 [.sv (.ints .i64 p0), .agg [.sv (.bool p1.Key), .sv (.int .i64 p1.Qp), .sv (.bool p1.Large), .sv (.bool p1.Exact)]] [] (Xru r) (Xrt r) := by
 refine Xag hT Tryz.func80 rfl fun C hC => ?_
 unfold Xgj at h
 refine Xab ?_
 iterate 3 refine kO hT hC ?_
 refine Vc.nil (Xap ?_)
 refine kL [0,3] [48] [_,_] [_] ?_
 refine kA h (fun v1 => ([(26, .sv (.bool v1))], [])) (fun v1 h => ?_) fun v1 h => ?_
 refine Xac ?_
 refine kO hT hC ?_
 refine kC hC [] Tryz.call109 h (fun _ => Xjt) fun q2 h => ?_
 iterate 2 refine kO hT hC ?_
 refine kS h ?_ ?_ <;> intro b1 h
 refine kI hT hC (kn b1) ?_
 refine kE hC (kn b1) [] Tryz.call24 h (fun _ => Xhm) fun q3 h => ?_
 refine kI hT hC (kn b1) ?_
 refine kP hC false (kn b1) ?_
 exact Vc.nil kM
 iterate 3 refine kF hC (kn b1) ?_
 refine kP hC true (kn b1) ?_
 exact Vc.nil kM
 refine kS h ?_ ?_ <;> intro b2 h
 refine kt b2 (Xab ?_)
 iterate 3 refine kO hT hC ?_
 refine Vc.nil (Xah (Xas ?_))
 obtain rfl := kj h
 exact Xch (τ := ⟨[(4, .own 16), (5, .sv (.bool false))], [(16, some (.ints .i64 ([] : List Int)))]⟩) (kW hC [(16, 432)]) rfl ⟨rfl, trivial⟩
 refine kf b2 (Xaf (Xae (Xap (Xab ?_))))
 iterate 2 refine kO hT hC ?_
 refine Vc.nil ?_
 refine kS h ?_ ?_ <;> intro b3 h
 refine kt b3 (Xab ?_)
 refine kO hT hC ?_
 refine kC hC [(16, 496)] Tryz.call110 h (fun _ => Xjs) fun q4 h => ?_
 iterate 4 refine kO hT hC ?_
 refine Vc.nil (Xah (Xas ?_))
 obtain rfl := kj h
 exact Xch (τ := ⟨[(4, .own 16), (5, .sv (.bool q4.2))], [(16, some (.ints .i64 q4.1))]⟩) (kW hC [(16, 496)]) rfl ⟨rfl, trivial⟩
 refine kf b3 (Xaf (Xae (Xap (Xab ?_))))
 iterate 2 refine kO hT hC ?_
 refine Vc.nil ?_
 refine kS h ?_ ?_ <;> intro b4 h
 refine kt b4 (Xab ?_)
 refine kO hT hC ?_
 refine kC hC [(16, 608)] Tryz.call110 h (fun _ => Xjs) fun q5 h => ?_
 iterate 5 refine kO hT hC ?_
 refine Vc.nil (Xap (Xab ?_))
 iterate 3 refine kO hT hC ?_
 refine Vc.nil ?_
 refine kL [3,6,41,42,43] [48,608] [_,_,_,_,_] [_,_] ?_
 refine kX h (fun v8 => ([(43, .sv (.int .i64 v8.1))], [(608, some (.ints .i64 v8.2))])) (fun v11 => ([(3, .any), (41, .any), (42, .any), (43, .any)], [(608, some (.ints .i64 v11)), (48, none)])) (kW hC []) (fun v8 s h => ?_) fun v11 h => ?_
 unfold Xd1 at h
 refine Xab ?_
 refine kO hT hC ?_
 refine Vc.nil (Xap ?_)
 refine kS h ?_ ?_ <;> intro b7 h
 refine kt b7 (Xaf (Xae (Xap (Xak (Xab ?_)))))
 refine kO hT hC ?_
 iterate 2 refine kQ hT hC h fun h => ?_
 iterate 2 refine kO hT hC ?_
 refine Vc.nil (Xac ?_)
 iterate 5 refine kO hT hC ?_
 refine kC hC [] Tryz.call111 h (fun _ => Xvd) fun q12 h => ?_
 iterate 2 refine kQ hT hC h fun h => ?_
 refine Vc.nil (Xao (Xae (Xac ?_)))
 iterate 2 refine kO hT hC ?_
 exact Vc.nil kG
 exact kf b7 (Xam (Xau ku))
 refine Xae (Xab ?_)
 refine kO hT hC ?_
 refine kC hC [(16, 912)] Tryz.call112 h (fun _ => Xva) fun q14 h => ?_
 iterate 2 refine kO hT hC ?_
 refine Vc.nil (Xah (Xas ?_))
 obtain rfl := kj h
 exact Xch (τ := ⟨[(4, .own 16), (5, .sv (.bool true))], [(16, some (.ints .i64 q14))]⟩) (kW hC [(16, 912)]) rfl ⟨rfl, trivial⟩
 refine kf b4 (Xaf (Xae (Xab ?_)))
 obtain ⟨hq, h⟩ := Xaw h
 refine Yj5 hT hC rfl rfl rfl rfl ⟨hq.1, hq.2.1, hq.2.2, by decide⟩ ?_
 refine kO hT hC ?_
 refine Vc.nil (Xap (Xab ?_))
 refine kO hT hC ?_
 refine Vc.nil ?_
 refine kL [0,3,10,59] [48,928] [_,_,_,_] [_,_] ?_
 refine kX h (fun v32 => ([(59, .sv (.int .i64 v32.1))], [(928, some (.ints .i64 v32.2))])) (fun v50 => ([(0, .any), (3, .any), (59, .any)], [(928, some (.ints .i64 v50)), (48, none)])) (kW hC []) (fun v32 s h => ?_) fun v50 h => ?_
 unfold Xh5 at h
 refine Xab ?_
 refine kO hT hC ?_
 refine Vc.nil (Xap ?_)
 refine kS h ?_ ?_ <;> intro b22 h
 refine kt b22 (Xaf (Xae (Xap (Xak (Xab ?_)))))
 iterate 2 refine kO hT hC ?_
 refine kN ?_
 iterate 6 refine kO hT hC ?_
 refine kQ hT hC h fun h => ?_
 refine kC hC [(16, 1120)] Tryz.call110 h (fun _ => Xjs) fun q51 h => ?_
 iterate 5 refine kO hT hC ?_
 refine Vc.nil (Xap (Xab ?_))
 iterate 3 refine kO hT hC ?_
 refine Vc.nil ?_
 refine kL [0,3,10,11,12,59,73,74,75] [48,928,1120] [_,_,_,_,_,_,_,_,_] [_,_,_] ?_
 refine kX h (fun v54 => ([(75, .sv (.int .i64 v54.1))], [(1120, some (.ints .i64 v54.2))])) (fun v57 => ([(73, .any), (74, .any), (75, .any)], [(1120, some (.ints .i64 v57))])) (kW hC []) (fun v54 s h => ?_) fun v57 h => ?_
 unfold Xdj at h
 refine Xab ?_
 refine kO hT hC ?_
 refine Vc.nil (Xap ?_)
 refine kS h ?_ ?_ <;> intro b25 h
 refine kt b25 (Xaf (Xae (Xap (Xak (Xab ?_)))))
 refine kO hT hC ?_
 iterate 2 refine kQ hT hC h fun h => ?_
 iterate 2 refine kO hT hC ?_
 refine Vc.nil (Xac ?_)
 iterate 6 refine kO hT hC ?_
 refine kC hC [] Tryz.call113 h (fun _ => Xvh) fun q58 h => ?_
 iterate 2 refine kQ hT hC h fun h => ?_
 refine Vc.nil (Xao (Xae (Xac ?_)))
 iterate 2 refine kO hT hC ?_
 exact Vc.nil kG
 exact kf b25 (Xam (Xau ku))
 refine Xae (Xab ?_)
 refine kO hT hC ?_
 refine kC hC [(16, 1440)] Tryz.call114 h (fun _ => Xxb) fun q60 h => ?_
 refine kO hT hC ?_
 refine kN ?_
 refine kO hT hC ?_
 refine kC hC [(16, 1472)] Tryz.call69 h (fun _ => Xpo) fun q61 h => ?_
 iterate 2 refine kO hT hC ?_
 refine Vc.nil ?_
 refine kL [0,3,10,16,59,92,93,94] [48,928,1440,1472] [_,_,_,_,_,_,_,_] [_,_,_,_] ?_
 refine kX h (fun v63 => ([(94, .sv (.int .i64 v63.1))], [(928, some (.ints .i64 v63.2))])) (fun v65 => ([(16, .any), (92, .any), (93, .any), (94, .any)], [(928, some (.ints .i64 v65)), (1440, none), (1472, none)])) (kW hC []) (fun v63 s h => ?_) fun v65 h => ?_
 unfold Xfh at h
 refine Xab ?_
 refine kO hT hC ?_
 refine Vc.nil (Xap ?_)
 refine kS h ?_ ?_ <;> intro b28 h
 refine kt b28 (Xaf (Xae (Xap (Xak (Xab ?_)))))
 refine kO hT hC ?_
 iterate 2 refine kQ hT hC h fun h => ?_
 iterate 2 refine kO hT hC ?_
 refine Vc.nil (Xac ?_)
 iterate 4 refine kO hT hC ?_
 iterate 4 refine kQ hT hC h fun h => ?_
 refine Vc.nil (Xao (Xae (Xac ?_)))
 iterate 2 refine kO hT hC ?_
 exact Vc.nil kG
 exact kf b28 (Xam (Xau ku))
 refine Xao (Xae (Xac ?_))
 iterate 2 refine kO hT hC ?_
 exact Vc.nil kG
 exact kf b22 (Xam (Xau ku))
 refine Xae (Xab ?_)
 iterate 3 refine kO hT hC ?_
 refine Vc.nil (Xah ?_)
 obtain rfl := kj h
 exact Xch (τ := ⟨[(4, .own 16), (5, .sv (.bool true))], [(16, some (.ints .i64 v50))]⟩) (kW hC [(16, 928)]) rfl ⟨rfl, trivial⟩
def Yac (r : (List Int)) : AV := .own 16
def Yab (r : (List Int)) : Xa1 := [(16, .ints .i64 r)]
theorem Xqw {p0 p1 r} (h : Xjn p0 p1 = some r) : AC Tryz.prog 81 [.sv (.ints .i64 p0), .sv (.ints .i64 p1)] [] (Yac r) (Yab r) := by
 refine Xag hT Tryz.func81 rfl fun C hC => ?_
 unfold Xjn at h
 refine Xab ?_
 refine kO hT hC ?_
 refine kN ?_
 iterate 2 refine kO hT hC ?_
 refine Vc.nil (Xap ?_)
 refine kL [0,1,5] [128] [_,_,_] [_] ?_
 refine kA h (fun v1 => ([(16, .sv (.bool v1))], [])) (fun v1 h => ?_) fun v1 h => ?_
 refine Xac ?_
 refine kO hT hC ?_
 refine kC hC [] Tryz.call40 h (fun _ => Xbl) fun q2 h => ?_
 iterate 2 refine kO hT hC ?_
 refine kS h ?_ ?_ <;> intro b1 h
 refine kI hT hC (kn b1) ?_
 refine kE hC (kn b1) [] Tryz.call40 h (fun _ => Xbl) fun q3 h => ?_
 refine kI hT hC (kn b1) ?_
 refine kP hC false (kn b1) ?_
 exact Vc.nil kM
 iterate 3 refine kF hC (kn b1) ?_
 refine kP hC true (kn b1) ?_
 exact Vc.nil kM
 refine kS h ?_ ?_ <;> intro b2 h
 refine kt b2 (Xab ?_)
 iterate 2 refine kO hT hC ?_
 refine Vc.nil (Xah (Xas ?_))
 obtain rfl := kj h
 exact Xch (τ := ⟨[(4, .own 16)], [(16, some (.ints .i64 ([] : List Int)))]⟩) (kW hC [(16, 128)]) rfl ⟨rfl, trivial⟩
 refine kf b2 (Xaf (Xae (Xap (Xab ?_))))
 iterate 3 refine kO hT hC ?_
 refine Vc.nil ?_
 refine kL [1,5,18,19,20] [128] [_,_,_,_,_] [_] ?_
 refine kX h (fun v6 => ([(20, .sv (.int .i64 v6.1))], [(128, some (.ints .i64 v6.2))])) (fun v9 => ([(1, .any), (18, .any), (19, .any), (20, .any)], [(128, some (.ints .i64 v9))])) (kW hC []) (fun v6 s h => ?_) fun v9 h => ?_
 unfold Xkc at h
 refine Xab ?_
 refine kO hT hC ?_
 refine Vc.nil (Xap ?_)
 refine kS h ?_ ?_ <;> intro b5 h
 refine kt b5 (Xaf (Xae (Xap (Xak (Xab ?_)))))
 refine kO hT hC ?_
 refine kQ hT hC h fun h => ?_
 iterate 3 refine kO hT hC ?_
 refine Vc.nil (Xac ?_)
 iterate 4 refine kO hT hC ?_
 refine kQ hT hC h fun h => ?_
 iterate 2 refine kO hT hC ?_
 refine kC hC [] Tryz.call74 h (fun _ => Xip) fun q10 h => ?_
 refine kO hT hC ?_
 refine kT hT hC h fun h => ?_
 refine kO hT hC ?_
 refine Vc.nil (Xao (Xae (Xac ?_)))
 iterate 2 refine kO hT hC ?_
 refine Vc.nil ?_
 obtain rfl := kj h
 exact Yci (kW hC [(128, 544)])
 exact kf b5 (Xam (Xau ku))
 refine Xae (Xab ?_)
 iterate 2 refine kO hT hC ?_
 refine Vc.nil (Xah ?_)
 obtain rfl := kj h
 exact Xch (τ := ⟨[(4, .own 16)], [(16, some (.ints .i64 v9))]⟩) (kW hC [(16, 128)]) rfl ⟨rfl, trivial⟩
def Xry (r : ((List Int) × Bool)) : AV := .tup [.own 16, .sv (.bool r.2)]
def Xrx (r : ((List Int) × Bool)) : Xa1 := [(16, .ints .i64 r.1)]
theorem Xtd {p0 p1 p2 p3 p4 p5 p6 p7 r} (h : Xdk p0 p1 p2 p3 p4 p5 p6 p7 = some r) : AC Tryz.prog 48 [.agg [.sv (.int .i64 p0.Wide), .sv (.int .i64 p0.High), .sv (.str p0.Dots)], .agg [.sv (.int .i64 p1.Wide), .sv (.int .i64 p1.High), .sv (.str p1.Dots)], .sv (.int .i64 p2), .sv (.int .i64 p3), .agg [.sv (.bool p4.Key), .sv (.int .i64 p4.Qp), .sv (.bool p4.Large), .sv (.bool p4.Exact)], .sv (.int .i64 p5), .sv (.int .i64 p6), .agg [.sv (.int .i64 p7.Kind), .sv (.int .i64 p7.Mode), .sv (.int .i64 p7.Dx), .sv (.int .i64 p7.Dy), .sv (.ints .i64 p7.Levels)]] [] (Xry r) (Xrx r) := by
 refine Xag hT Tryz.func48 rfl fun C hC => ?_
 unfold Xdk at h
 refine Xab ?_
 iterate 6 refine kO hT hC ?_
 refine Vc.nil (Xap ?_)
 refine kL [2,3,5,6,8,9,12,15] [128,144,192,240] [_,_,_,_,_,_,_,_] [_,_,_,_] ?_
 refine kA h (fun v1 => ([(67, .sv (.bool v1))], [])) (fun v1 h => ?_) fun v1 h => ?_
 refine Xac ?_
 refine kO hT hC ?_
 refine kC hC [] Tryz.call22 h (fun _ => Xd2) fun q2 h => ?_
 iterate 2 refine kO hT hC ?_
 refine kS h ?_ ?_ <;> intro b1 h
 iterate 3 refine kI hT hC (kn b1) ?_
 refine kE hC (kn b1) [] Tryz.call39 h (fun _ => Xet) fun q3 h => ?_
 refine kI hT hC (kn b1) ?_
 refine kP hC false (kn b1) ?_
 refine kO hT hC ?_
 refine kS h ?_ ?_ <;> intro b2 h
 refine kI hT hC (kn b2) ?_
 refine kE hC (kn b2) [] Tryz.call25 h (fun _ => Xaj) fun q4 h => ?_
 refine kI hT hC (kn b2) ?_
 refine kP hC false (kn b2) ?_
 refine kO hT hC ?_
 refine kS h ?_ ?_ <;> intro b3 h
 refine kI hT hC (kn b3) ?_
 refine kE hC (kn b3) [] Tryz.call25 h (fun _ => Xaj) fun q5 h => ?_
 refine kI hT hC (kn b3) ?_
 refine kP hC false (kn b3) ?_
 refine kO hT hC ?_
 refine kS h ?_ ?_ <;> intro b4 h
 refine kI hT hC (kn b4) ?_
 refine kE hC (kn b4) [] Tryz.call78 h (fun _ => Xxm) fun q6 h => ?_
 refine kI hT hC (kn b4) ?_
 refine kP hC false (kn b4) ?_
 refine kO hT hC ?_
 refine kS h ?_ ?_ <;> intro b5 h
 refine kI hT hC (kn b5) ?_
 refine kE hC (kn b5) [] Tryz.call24 h (fun _ => Xhm) fun q7 h => ?_
 refine kI hT hC (kn b5) ?_
 refine kP hC false (kn b5) ?_
 refine kO hT hC ?_
 refine kS h ?_ ?_ <;> intro b6 h
 iterate 2 refine kI hT hC (kn b6) ?_
 refine kE hC (kn b6) [] Tryz.call79 h (fun _ => Xtg) fun q8 h => ?_
 refine kI hT hC (kn b6) ?_
 refine kP hC false (kn b6) ?_
 refine kO hT hC ?_
 refine kS h ?_ ?_ <;> intro b7 h
 iterate 4 refine kI hT hC (kn b7) ?_
 refine kS h ?_ ?_ <;> intro b8 h
 refine kI hT hC b8 ?_
 refine kE hC b8 [] Tryz.call22 h (fun _ => Xd2) fun q9 h => ?_
 refine kI hT hC b8 ?_
 refine Xb0 hC rfl rfl rfl rfl (kn b7) rfl rfl (b := true) b8 rfl rfl rfl trivial ?_
 refine kP hC false (kn b7) ?_
 exact Vc.nil kM
 iterate 3 refine kF hC b8 ?_
 refine Xb0 hC rfl rfl rfl rfl (kn b7) rfl rfl (b := false) b8 rfl rfl rfl trivial ?_
 refine kP hC false (kn b7) ?_
 exact Vc.nil kM
 iterate 4 refine kF hC (kn b7) ?_
 iterate 3 refine Xhh hC rfl rfl rfl rfl rfl rfl ?_
 refine kF hC (kn b7) ?_
 refine kP hC true (kn b7) ?_
 exact Vc.nil kM
 iterate 4 refine kF hC (kn b6) ?_
 refine kP hC true (kn b6) ?_
 refine kO hT hC ?_
 iterate 4 refine kF hC rfl ?_
 iterate 3 refine Xhh hC rfl rfl rfl rfl rfl rfl ?_
 refine kF hC rfl ?_
 refine kO hT hC ?_
 exact Vc.nil kM
 iterate 3 refine kF hC (kn b5) ?_
 refine kP hC true (kn b5) ?_
 refine kO hT hC ?_
 iterate 4 refine kF hC rfl ?_
 iterate 2 refine kO hT hC ?_
 iterate 4 refine kF hC rfl ?_
 iterate 3 refine Xhh hC rfl rfl rfl rfl rfl rfl ?_
 refine kF hC rfl ?_
 refine kO hT hC ?_
 exact Vc.nil kM
 iterate 3 refine kF hC (kn b4) ?_
 refine kP hC true (kn b4) ?_
 refine kO hT hC ?_
 iterate 3 refine kF hC rfl ?_
 iterate 2 refine kO hT hC ?_
 iterate 4 refine kF hC rfl ?_
 iterate 2 refine kO hT hC ?_
 iterate 4 refine kF hC rfl ?_
 iterate 3 refine Xhh hC rfl rfl rfl rfl rfl rfl ?_
 refine kF hC rfl ?_
 refine kO hT hC ?_
 exact Vc.nil kM
 iterate 3 refine kF hC (kn b3) ?_
 refine kP hC true (kn b3) ?_
 refine kO hT hC ?_
 iterate 3 refine kF hC rfl ?_
 iterate 2 refine kO hT hC ?_
 iterate 3 refine kF hC rfl ?_
 iterate 2 refine kO hT hC ?_
 iterate 4 refine kF hC rfl ?_
 iterate 2 refine kO hT hC ?_
 iterate 4 refine kF hC rfl ?_
 iterate 3 refine Xhh hC rfl rfl rfl rfl rfl rfl ?_
 refine kF hC rfl ?_
 refine kO hT hC ?_
 exact Vc.nil kM
 iterate 3 refine kF hC (kn b2) ?_
 refine kP hC true (kn b2) ?_
 refine kO hT hC ?_
 iterate 3 refine kF hC rfl ?_
 iterate 2 refine kO hT hC ?_
 iterate 3 refine kF hC rfl ?_
 iterate 2 refine kO hT hC ?_
 iterate 3 refine kF hC rfl ?_
 iterate 2 refine kO hT hC ?_
 iterate 4 refine kF hC rfl ?_
 iterate 2 refine kO hT hC ?_
 iterate 4 refine kF hC rfl ?_
 iterate 3 refine Xhh hC rfl rfl rfl rfl rfl rfl ?_
 refine kF hC rfl ?_
 refine kO hT hC ?_
 exact Vc.nil kM
 iterate 5 refine kF hC (kn b1) ?_
 refine kP hC true (kn b1) ?_
 refine kO hT hC ?_
 iterate 3 refine kF hC rfl ?_
 iterate 2 refine kO hT hC ?_
 iterate 3 refine kF hC rfl ?_
 iterate 2 refine kO hT hC ?_
 iterate 3 refine kF hC rfl ?_
 iterate 2 refine kO hT hC ?_
 iterate 3 refine kF hC rfl ?_
 iterate 2 refine kO hT hC ?_
 iterate 4 refine kF hC rfl ?_
 iterate 2 refine kO hT hC ?_
 iterate 4 refine kF hC rfl ?_
 iterate 3 refine Xhh hC rfl rfl rfl rfl rfl rfl ?_
 refine kF hC rfl ?_
 refine kO hT hC ?_
 exact Vc.nil kM
 refine kS h ?_ ?_ <;> intro b9 h
 refine kt b9 (Xab ?_)
 iterate 3 refine kO hT hC ?_
 refine Vc.nil (Xah (Xas ?_))
 obtain rfl := kj h
 exact Xch (τ := ⟨[(16, .own 16), (17, .sv (.bool false))], [(16, some (.ints .i64 ([] : List Int)))]⟩) (kW hC [(16, 1088)]) rfl ⟨rfl, trivial⟩
 refine kf b9 (Xaf (Xae (Xap (Xab ?_))))
 iterate 3 refine kO hT hC ?_
 refine Vc.nil ?_
 refine kS h ?_ ?_ <;> intro b10 h
 refine kt b10 (Xab ?_)
 iterate 7 refine kO hT hC ?_
 refine kC hC [(16, 1264)] Tryz.call28 h (fun _ => Xdd) fun q10 h => ?_
 iterate 2 refine kO hT hC ?_
 refine Vc.nil (Xah (Xas ?_))
 obtain rfl := kj h
 exact Xch (τ := ⟨[(16, .own 16), (17, .sv (.bool true))], [(16, some (.ints .i64 q10))]⟩) (kW hC [(16, 1264)]) rfl ⟨rfl, trivial⟩
 refine kf b10 (Xaf (Xae (Xab ?_)))
 iterate 3 refine kO hT hC ?_
 refine kC hC [(16, 1344)] Tryz.call80 h (fun _ => Xs5) fun q11 h => ?_
 iterate 5 refine kO hT hC ?_
 refine Vc.nil (Xap (Xab ?_))
 iterate 3 refine kO hT hC ?_
 refine Vc.nil ?_
 refine kS h ?_ ?_ <;> intro b11 h
 refine kt b11 (Xab ?_)
 iterate 13 refine kO hT hC ?_
 refine kC hC [(16, 1648)] Tryz.call28 h (fun _ => Xdd) fun q12 h => ?_
 refine kO hT hC ?_
 refine kC hC [(16, 1680)] Tryz.call81 h (fun _ => Xqw) fun q13 h => ?_
 iterate 2 refine kO hT hC ?_
 refine Vc.nil (Xah (Xas ?_))
 obtain rfl := kj h
 exact Xch (τ := ⟨[(16, .own 16), (17, .sv (.bool true))], [(16, some (.ints .i64 q13))]⟩) (kW hC [(16, 1680)]) rfl ⟨rfl, trivial⟩
 refine kf b11 (Xaf (Xae (Xab ?_)))
 iterate 3 refine kO hT hC ?_
 refine kC hC [(16, 1760), (17, 1761)] Tryz.call41 h (fun _ => Xph) fun q14 h => ?_
 iterate 6 refine kO hT hC ?_
 refine kN ?_
 iterate 3 refine kO hT hC ?_
 refine kC hC [(16, 1856)] Tryz.call45 h (fun _ => Xlo) fun q15 h => ?_
 refine kO hT hC ?_
 refine kC hC [(16, 1888)] Tryz.call81 h (fun _ => Xqw) fun q16 h => ?_
 iterate 2 refine kO hT hC ?_
 refine Vc.nil (Xah ?_)
 obtain rfl := kj h
 exact Xch (τ := ⟨[(16, .own 16), (17, .sv (.bool true))], [(16, some (.ints .i64 q16))]⟩) (kW hC [(16, 1888)]) rfl ⟨rfl, trivial⟩
def Xtf (r : (Xan × (List Int) × Bool)) : AV := .tup [.agg [.sv (.int .i64 r.1.Kind), .sv (.int .i64 r.1.Mode), .sv (.int .i64 r.1.Dx), .sv (.int .i64 r.1.Dy), .own 16], .own 17, .sv (.bool r.2.2)]
def Xte (r : (Xan × (List Int) × Bool)) : Xa1 := [(16, .ints .i64 r.1.Levels), (17, .ints .i64 r.2.1)]
theorem Xvi {p0 p1 p2 p3 p4 p5 p6 r} (h : Xeh p0 p1 p2 p3 p4 p5 p6 = some r) : AC Tryz.prog 27 [.agg [.sv (.int .i64 p0.Wide), .sv (.int .i64 p0.High), .sv (.str p0.Dots)], .agg [.sv (.int .i64 p1.Wide), .sv (.int .i64 p1.High), .sv (.str p1.Dots)], .sv (.ints .i64 p2), .sv (.int .i64 p3), .sv (.int .i64 p4), .agg [.sv (.bool p5.Key), .sv (.int .i64 p5.Qp), .sv (.bool p5.Large), .sv (.bool p5.Exact)], .sv (.int .i64 p6)] [] (Xtf r) (Xte r) := by
 refine Xag hT Tryz.func27 rfl fun C hC => ?_
 unfold Xeh at h
 refine Xab ?_
 iterate 6 refine kO hT hC ?_
 refine Vc.nil (Xap ?_)
 refine kL [2,3,4,6,7,8,12,14] [112,128,192,224] [_,_,_,_,_,_,_,_] [_,_,_,_] ?_
 refine kA h (fun v1 => ([(51, .sv (.bool v1))], [])) (fun v1 h => ?_) fun v1 h => ?_
 refine Xac ?_
 refine kO hT hC ?_
 refine kC hC [] Tryz.call22 h (fun _ => Xd2) fun q2 h => ?_
 iterate 2 refine kO hT hC ?_
 refine kS h ?_ ?_ <;> intro b1 h
 iterate 3 refine kI hT hC (kn b1) ?_
 refine kE hC (kn b1) [] Tryz.call39 h (fun _ => Xet) fun q3 h => ?_
 refine kI hT hC (kn b1) ?_
 refine kP hC false (kn b1) ?_
 refine kO hT hC ?_
 refine kS h ?_ ?_ <;> intro b2 h
 refine kI hT hC (kn b2) ?_
 refine kE hC (kn b2) [] Tryz.call40 h (fun _ => Xbl) fun q4 h => ?_
 refine kI hT hC (kn b2) ?_
 refine kP hC false (kn b2) ?_
 refine kO hT hC ?_
 refine kS h ?_ ?_ <;> intro b3 h
 refine kI hT hC (kn b3) ?_
 refine kE hC (kn b3) [] Tryz.call24 h (fun _ => Xhm) fun q5 h => ?_
 refine kI hT hC (kn b3) ?_
 refine kP hC false (kn b3) ?_
 refine kO hT hC ?_
 refine kS h ?_ ?_ <;> intro b4 h
 refine kI hT hC (kn b4) ?_
 refine kE hC (kn b4) [] Tryz.call25 h (fun _ => Xaj) fun q6 h => ?_
 refine kI hT hC (kn b4) ?_
 refine kP hC false (kn b4) ?_
 exact Vc.nil kM
 iterate 3 refine kF hC (kn b4) ?_
 refine kP hC true (kn b4) ?_
 exact Vc.nil kM
 iterate 3 refine kF hC (kn b3) ?_
 refine kP hC true (kn b3) ?_
 refine kO hT hC ?_
 iterate 3 refine kF hC rfl ?_
 refine kO hT hC ?_
 exact Vc.nil kM
 iterate 3 refine kF hC (kn b2) ?_
 refine kP hC true (kn b2) ?_
 refine kO hT hC ?_
 iterate 3 refine kF hC rfl ?_
 iterate 2 refine kO hT hC ?_
 iterate 3 refine kF hC rfl ?_
 refine kO hT hC ?_
 exact Vc.nil kM
 iterate 5 refine kF hC (kn b1) ?_
 refine kP hC true (kn b1) ?_
 refine kO hT hC ?_
 iterate 3 refine kF hC rfl ?_
 iterate 2 refine kO hT hC ?_
 iterate 3 refine kF hC rfl ?_
 iterate 2 refine kO hT hC ?_
 iterate 3 refine kF hC rfl ?_
 refine kO hT hC ?_
 exact Vc.nil kM
 refine kS h ?_ ?_ <;> intro b5 h
 refine kt b5 (Xab ?_)
 iterate 5 refine kO hT hC ?_
 refine Vc.nil (Xah (Xas ?_))
 obtain rfl := kj h
 refine Xch (τ := ⟨[(14, .ptr 2000000 0), (15, .own 17), (16, .sv (.bool false))], [(16, some (.ints .i64 [])), (17, some (.ints .i64 ([] : List Int))), (2000000, some (.box [.sv (.int .i64 0), .sv (.int .i64 0), .sv (.int .i64 0), .sv (.int .i64 0), .own 16]))]⟩) ?_ rfl ⟨rfl, rfl, trivial⟩
 refine Xk9 hC 224 4 2817 (.ints .i64 []) rfl rfl rfl rfl rfl trivial ?_
 apply Xes hC [(16, 2817), (17, 848), (2000000, 224)]
 exact co
 rfl
 decide
 rfl
 refine kf b5 (Xaf (Xae (Xap ?_)))
 refine kL [2,3,4,6,7,8,12,14] [112,128,192,224] [_,_,_,_,_,_,_,_] [_,_,_,_] ?_
 refine kA h (fun v7 => ([(75, .sv (.bool v7))], [])) (fun v7 h => ?_) fun v7 h => ?_
 refine Xac ?_
 iterate 4 refine kO hT hC ?_
 refine kS h ?_ ?_ <;> intro b6 h
 iterate 4 refine kF hC (kn b6) ?_
 iterate 5 refine Xhh hC rfl rfl rfl rfl rfl rfl ?_
 iterate 2 refine kF hC (kn b6) ?_
 iterate 5 refine Xhh hC rfl rfl rfl rfl rfl rfl ?_
 refine kF hC (kn b6) ?_
 refine kP hC false (kn b6) ?_
 exact Vc.nil kM
 refine kI hT hC (kn b6) ?_
 refine kE hC (kn b6) [] Tryz.call22 h (fun _ => Xd2) fun q8 h => ?_
 iterate 2 refine kI hT hC (kn b6) ?_
 refine kS h ?_ ?_ <;> intro b7 h
 iterate 5 refine kI hT hC (kn b7) ?_
 refine Xb0 hC rfl rfl rfl rfl (kn b6) rfl rfl (b := false) (kn b7) rfl rfl rfl trivial ?_
 refine kI hT hC (kn b6) ?_
 refine kS h ?_ ?_ <;> intro b8 h
 iterate 5 refine kF hC b8 ?_
 refine Xb0 hC rfl rfl rfl rfl (kn b6) rfl rfl (b := true) b8 rfl rfl rfl trivial ?_
 refine kP hC true (kn b6) ?_
 exact Vc.nil kM
 iterate 5 refine kI hT hC b8 ?_
 refine Xb0 hC rfl rfl rfl rfl (kn b6) rfl rfl (b := false) b8 rfl rfl rfl trivial ?_
 refine kP hC true (kn b6) ?_
 exact Vc.nil kM
 iterate 5 refine kF hC (kn b7) ?_
 refine Xb0 hC rfl rfl rfl rfl (kn b6) rfl rfl (b := true) (kn b7) rfl rfl rfl trivial ?_
 refine kI hT hC (kn b6) ?_
 iterate 5 refine kF hC rfl ?_
 refine Xb0 hC rfl rfl rfl rfl (kn b6) rfl rfl (b := true) rfl rfl rfl rfl trivial ?_
 refine kP hC true (kn b6) ?_
 exact Vc.nil kM
 refine kS h ?_ ?_ <;> intro b9 h
 refine kt b9 (Xab ?_)
 iterate 5 refine kO hT hC ?_
 refine Vc.nil (Xah (Xas ?_))
 obtain rfl := kj h
 refine Xch (τ := ⟨[(14, .ptr 2000000 0), (15, .own 17), (16, .sv (.bool false))], [(16, some (.ints .i64 [])), (17, some (.ints .i64 ([] : List Int))), (2000000, some (.box [.sv (.int .i64 0), .sv (.int .i64 0), .sv (.int .i64 0), .sv (.int .i64 0), .own 16]))]⟩) ?_ rfl ⟨rfl, rfl, trivial⟩
 refine Xk9 hC 224 4 2818 (.ints .i64 []) rfl rfl rfl rfl rfl trivial ?_
 apply Xes hC [(16, 2818), (17, 1232), (2000000, 224)]
 exact co
 rfl
 decide
 rfl
 refine kf b9 (Xaf (Xae (Xab ?_)))
 iterate 3 refine kO hT hC ?_
 refine kC hC [(16, 1312), (17, 1313)] Tryz.call41 h (fun _ => Xph) fun q9 h => ?_
 iterate 6 refine kO hT hC ?_
 refine kN ?_
 iterate 2 refine kO hT hC ?_
 refine kC hC [] Tryz.call42 h (fun _ => Xu7) fun q10 h => ?_
 iterate 5 refine kO hT hC ?_
 refine kN ?_
 iterate 4 refine kO hT hC ?_
 refine Vc.nil ?_
 refine Xhg hm ?_
 iterate 3 refine kO hT hC ?_
 refine kC hC [(16, 1552)] Tryz.call45 h (fun _ => Xlo) fun q11 h => ?_
 refine kC hC [(16, 1568)] Tryz.call44 h (fun _ => Xor) fun q12 h => ?_
 refine kO hT hC ?_
 refine kC hC [(16, 1600)] Tryz.call43 h (fun _ => Xop) fun q13 h => ?_
 iterate 5 refine kO hT hC ?_
 refine kD ?_
 refine kL [2,3,4,6,7,8,12,14,20,21] [112,128,192,224,336,1600] [_,_,_,_,_,_,_,_,_,_] [_,_,_,_,_,_] ?_
 refine kA h (fun v14 => ([(2, .any), (6, .any), (20, .any)], [(336, some (.box [.sv (.int .i64 v14.1), .sv (.int .i64 v14.2.1), .sv (.int .i64 v14.2.2.1), .sv (.int .i64 v14.2.2.2.1), .own 1600])), (1600, some (.ints .i64 v14.2.2.2.2))])) (fun v14 h => ?_) fun v14 h => ?_
 refine Xab ?_
 iterate 3 refine kO hT hC ?_
 refine Vc.nil ?_
 refine kS h ?_ ?_ <;> intro b10 h
 refine kt b10 (Xab ?_)
 iterate 4 refine kO hT hC ?_
 refine kC hC [(16, 1776)] Tryz.call28 h (fun _ => Xdd) fun q15 h => ?_
 refine kC hC [] Tryz.call46 h (fun _ => Xr1) fun q16 h => ?_
 refine kO hT hC ?_
 refine Vc.nil ?_
 refine kS h ?_ ?_ <;> intro b11 h
 refine kt b11 (Xac ?_)
 iterate 2 refine kO hT hC ?_
 refine Vc.nil ?_
 obtain rfl := kj h
 refine Xkt ?_
 refine Xk9 hC 336 4 2819 (.ints .i64 []) rfl rfl rfl rfl rfl trivial ?_
 try dsimp only
 apply Xes hC [(1600, 2819)]
 exact co
 rfl
 decide
 rfl
 refine kf b11 (Xab ?_)
 iterate 5 refine kO hT hC ?_
 refine kC hC [] Tryz.call47 h (fun _ => Xw5) fun q17 h => ?_
 iterate 7 refine kO hT hC ?_
 refine kN ?_
 iterate 3 refine kO hT hC ?_
 refine Vc.nil ?_
 refine kS h ?_ ?_ <;> intro b12 h
 refine kt b12 (Xab ?_)
 iterate 4 refine kO hT hC ?_
 refine Vc.nil ?_
 refine Xhg hm ?_
 iterate 8 refine kO hT hC ?_
 refine kC hC [(16, 2240)] Tryz.call28 h (fun _ => Xdd) fun q18 h => ?_
 refine kC hC [(16, 2256)] Tryz.call44 h (fun _ => Xor) fun q19 h => ?_
 refine kO hT hC ?_
 refine kC hC [(16, 2288)] Tryz.call43 h (fun _ => Xop) fun q20 h => ?_
 iterate 5 refine kO hT hC ?_
 refine kD ?_
 refine kL [3,4,7,8,12,14,21,22,23] [112,128,192,224,336,2288] [_,_,_,_,_,_,_,_,_] [_,_,_,_,_,_] ?_
 refine kA h (fun v21 => ([(157, .sv (.bool v21)), (22, .any), (23, .any)], [])) (fun v21 h => ?_) fun v21 h => ?_
 refine Xac ?_
 iterate 3 refine kO hT hC ?_
 refine kS h ?_ ?_ <;> intro b13 h
 iterate 2 refine kI hT hC b13 ?_
 refine kP hC true b13 ?_
 refine kO hT hC ?_
 refine kS h ?_ ?_ <;> intro b14 h
 iterate 2 refine kI hT hC b14 ?_
 refine kE hC b14 [] Tryz.call40 h (fun _ => Xbl) fun q22 h => ?_
 refine kP hC true b14 ?_
 exact Vc.nil kM
 iterate 3 refine kF hC b14 ?_
 refine kP hC false b14 ?_
 exact Vc.nil kM
 iterate 2 refine kF hC b13 ?_
 refine kP hC false b13 ?_
 refine kO hT hC ?_
 iterate 3 refine kF hC rfl ?_
 refine kO hT hC ?_
 exact Vc.nil kM
 refine kS h ?_ ?_ <;> intro b15 h
 refine kt b15 (Xac ?_)
 iterate 2 refine kO hT hC ?_
 refine Vc.nil ?_
 obtain rfl := kj h
 refine Xkt ?_
 refine Xk9 hC 336 4 2820 (.ints .i64 []) rfl rfl rfl rfl rfl trivial ?_
 try dsimp only
 apply Xes hC [(1600, 2820)]
 exact co
 rfl
 decide
 rfl
 refine kf b15 (Xaf ?_)
 obtain rfl := kj h
 exact Xkt (kW hC [(1600, 2288)])
 exact kf b12 (Xaf kM)
 exact kf b10 (Xaf kM)
 refine Xab ?_
 iterate 6 refine kO hT hC ?_
 refine kC hC [(16, 2656)] Tryz.call48 h (fun _ => Xtd) fun q23 h => ?_
 iterate 5 refine kO hT hC ?_
 refine Vc.nil (Xap (Xab ?_))
 iterate 2 refine kO hT hC ?_
 refine Vc.nil ?_
 refine kS h ?_ ?_ <;> intro b16 h
 refine kt b16 (Xab ?_)
 iterate 5 refine kO hT hC ?_
 refine Vc.nil (Xah (Xas ?_))
 obtain rfl := kj h
 refine Xch (τ := ⟨[(14, .ptr 2000000 0), (15, .own 17), (16, .sv (.bool false))], [(16, some (.ints .i64 [])), (17, some (.ints .i64 ([] : List Int))), (2000000, some (.box [.sv (.int .i64 0), .sv (.int .i64 0), .sv (.int .i64 0), .sv (.int .i64 0), .own 16]))]⟩) ?_ rfl ⟨rfl, rfl, trivial⟩
 refine Xk9 hC 224 4 2821 (.ints .i64 []) rfl rfl rfl rfl rfl trivial ?_
 apply Xes hC [(16, 2821), (17, 2752), (2000000, 224)]
 exact co
 rfl
 decide
 rfl
 refine kf b16 (Xaf (Xae (Xab ?_)))
 iterate 5 refine kO hT hC ?_
 refine Vc.nil (Xah ?_)
 obtain rfl := kj h
 exact Xch (τ := ⟨[(14, .ptr 2000000 0), (15, .own 17), (16, .sv (.bool true))], [(16, some (.ints .i64 v14.2.2.2.2)), (17, some (.ints .i64 q23.1)), (2000000, some (.box [.sv (.int .i64 v14.1), .sv (.int .i64 v14.2.1), .sv (.int .i64 v14.2.2.1), .sv (.int .i64 v14.2.2.2.1), .own 16]))]⟩) (kW hC [(16, 1600), (17, 2656), (2000000, 224)]) rfl ⟨rfl, rfl, trivial⟩
def Yfm (r : (List Int)) : AV := .own 16
def Yfl (r : (List Int)) : Xa1 := [(16, .ints .u8 r)]
theorem Yhp {p0 r} (h : Xtm p0 = some r) : AC Tryz.prog 50 [.agg [.sv (.int .i64 p0.Wide), .sv (.int .i64 p0.High), .sv (.str p0.Dots)]] [] (Yfm r) (Yfl r) := by
 refine Xag hT Tryz.func50 rfl fun C hC => ?_
 unfold Xtm at h
 refine Xab ?_
 iterate 2 refine kO hT hC ?_
 refine kN ?_
 iterate 2 refine kO hT hC ?_
 refine kQ hT hC h fun h => ?_
 refine kO hT hC ?_
 refine Vc.nil (Xah ?_)
 obtain rfl := kj h
 exact Xch (τ := ⟨[(2, .own 16)], [(16, some (.ints .u8 (Xfw p0.Dots)))]⟩) (kW hC [(16, 80)]) rfl ⟨rfl, trivial⟩
def Yht (r : Pic) : AV := .agg [.sv (.int .i64 r.Wide), .sv (.int .i64 r.High), .sv (.str r.Dots)]
def Yhs (r : Pic) : Xa1 := []
theorem Yje {p0 p1 p2 p3 r} (h : Xtp p0 p1 p2 p3 = some r) : AC Tryz.prog 29 [.agg [.sv (.int .i64 p0.Wide), .sv (.int .i64 p0.High), .sv (.str p0.Dots)], .sv (.int .i64 p1), .sv (.int .i64 p2), .sv (.ints .i64 p3)] [] (Yht r) (Yhs r) := by
 refine Xag hT Tryz.func29 rfl fun C hC => ?_
 unfold Xtp at h
 refine Xab ?_
 iterate 2 refine kO hT hC ?_
 refine kN ?_
 refine kO hT hC ?_
 refine kC hC [(16, 208)] Tryz.call50 h (fun _ => Yhp) fun q1 h => ?_
 refine kO hT hC ?_
 refine Vc.nil (Xap (Xab ?_))
 iterate 3 refine kO hT hC ?_
 refine Vc.nil ?_
 refine kL [1,2,4,8,9,14,15,16] [64,128,208] [_,_,_,_,_,_,_,_] [_,_,_] ?_
 refine kX h (fun v3 => ([(16, .sv (.int .i64 v3.1))], [(208, some (.ints .u8 v3.2))])) (fun v5 => ([(1, .any), (2, .any), (14, .any), (15, .any), (16, .any)], [(208, some (.ints .u8 v5))])) (kW hC []) (fun v3 s h => ?_) fun v5 h => ?_
 unfold Xn7 at h
 refine Xab ?_
 refine kO hT hC ?_
 refine Vc.nil (Xap ?_)
 refine kS h ?_ ?_ <;> intro b3 h
 refine kt b3 (Xaf (Xae (Xap (Xak (Xab ?_)))))
 refine kO hT hC ?_
 refine kQ hT hC h fun h => ?_
 iterate 3 refine kO hT hC ?_
 refine Vc.nil (Xac ?_)
 iterate 3 refine kO hT hC ?_
 refine kQ hT hC h fun h => ?_
 iterate 7 refine kO hT hC ?_
 refine kQ hT hC h fun h => ?_
 iterate 3 refine kO hT hC ?_
 iterate 2 refine kQ hT hC h fun h => ?_
 refine Vc.nil (Xao (Xae (Xac ?_)))
 iterate 2 refine kO hT hC ?_
 exact Vc.nil kG
 exact kf b3 (Xam (Xau ku))
 refine Xae (Xab ?_)
 iterate 4 refine kO hT hC ?_
 refine kN ?_
 iterate 2 refine kO hT hC ?_
 exact Vc.nil (Xah kR)
def Xkz (r : ((List Xan) × Pic × Bool)) : AV := .tup [.own 16, .agg [.sv (.int .i64 r.2.1.Wide), .sv (.int .i64 r.2.1.High), .sv (.str r.2.1.Dots)], .sv (.bool r.2.2)]
def Xky (r : ((List Xan) × Pic × Bool)) : Xa1 := [(16, .deep Xbf r.1)]
theorem Xpn {p0 p1 p2 p3 r} (h : Xd6 p0 p1 p2 p3 = some r) : AC Tryz.prog 8 [.agg [.sv (.int .i64 p0.Wide), .sv (.int .i64 p0.High), .sv (.str p0.Dots)], .agg [.sv (.int .i64 p1.Wide), .sv (.int .i64 p1.High), .sv (.str p1.Dots)], .agg [.sv (.bool p2.Key), .sv (.int .i64 p2.Qp), .sv (.bool p2.Large), .sv (.bool p2.Exact)], .sv (.int .i64 p3)] [] (Xkz r) (Xky r) := by
 refine Xag hT Tryz.func8 rfl fun C hC => ?_
 unfold Xd6 at h
 refine Xab ?_
 iterate 6 refine kO hT hC ?_
 refine kN ?_
 refine Yoe hT hC Xbf rfl rfl rfl rfl trivial rfl Xu2 ?_
 refine kO hT hC ?_
 refine Vc.nil (Xap ?_)
 refine kL [3,4,5,6,9,11] [64,80,96,144,288] [_,_,_,_,_,_] [_,_,_,_,_] ?_
 refine kA h (fun v1 => ([(43, .sv (.bool v1))], [])) (fun v1 h => ?_) fun v1 h => ?_
 refine Xac ?_
 refine kO hT hC ?_
 refine kC hC [] Tryz.call22 h (fun _ => Xd2) fun q2 h => ?_
 iterate 2 refine kO hT hC ?_
 refine kS h ?_ ?_ <;> intro b1 h
 iterate 2 refine kI hT hC (kn b1) ?_
 refine kE hC (kn b1) [] Tryz.call23 h (fun _ => Xq3) fun q3 h => ?_
 refine kI hT hC (kn b1) ?_
 refine kP hC false (kn b1) ?_
 refine kO hT hC ?_
 refine kS h ?_ ?_ <;> intro b2 h
 iterate 2 refine kI hT hC (kn b2) ?_
 refine kE hC (kn b2) [] Tryz.call23 h (fun _ => Xq3) fun q4 h => ?_
 refine kI hT hC (kn b2) ?_
 refine kP hC false (kn b2) ?_
 refine kO hT hC ?_
 refine kS h ?_ ?_ <;> intro b3 h
 refine kI hT hC (kn b3) ?_
 refine kE hC (kn b3) [] Tryz.call24 h (fun _ => Xhm) fun q5 h => ?_
 refine kI hT hC (kn b3) ?_
 refine kP hC false (kn b3) ?_
 refine kO hT hC ?_
 refine kS h ?_ ?_ <;> intro b4 h
 refine kI hT hC (kn b4) ?_
 refine kE hC (kn b4) [] Tryz.call25 h (fun _ => Xaj) fun q6 h => ?_
 refine kI hT hC (kn b4) ?_
 refine kP hC false (kn b4) ?_
 exact Vc.nil kM
 iterate 3 refine kF hC (kn b4) ?_
 refine kP hC true (kn b4) ?_
 exact Vc.nil kM
 iterate 3 refine kF hC (kn b3) ?_
 refine kP hC true (kn b3) ?_
 refine kO hT hC ?_
 iterate 3 refine kF hC rfl ?_
 refine kO hT hC ?_
 exact Vc.nil kM
 iterate 4 refine kF hC (kn b2) ?_
 refine kP hC true (kn b2) ?_
 refine kO hT hC ?_
 iterate 3 refine kF hC rfl ?_
 iterate 2 refine kO hT hC ?_
 iterate 3 refine kF hC rfl ?_
 refine kO hT hC ?_
 exact Vc.nil kM
 iterate 4 refine kF hC (kn b1) ?_
 refine kP hC true (kn b1) ?_
 refine kO hT hC ?_
 iterate 4 refine kF hC rfl ?_
 iterate 2 refine kO hT hC ?_
 iterate 3 refine kF hC rfl ?_
 iterate 2 refine kO hT hC ?_
 iterate 3 refine kF hC rfl ?_
 refine kO hT hC ?_
 exact Vc.nil kM
 refine kS h ?_ ?_ <;> intro b5 h
 refine kt b5 (Xab ?_)
 iterate 5 refine kO hT hC ?_
 refine Vc.nil (Xah (Xas ?_))
 obtain rfl := kj h
 exact Xch (τ := ⟨[(8, .own 16), (9, .ptr 2000001 0), (10, .sv (.bool false))], [(16, some (.deep Xbf ([] : List Xan))), (2000001, some (.box [.sv (.int .i64 0), .sv (.int .i64 0), .sv (.str ⟨#[]⟩)]))]⟩) (kW hC [(16, 288), (2000001, 144)]) rfl ⟨rfl, trivial⟩
 refine kf b5 (Xaf (Xae (Xap ?_)))
 refine kL [3,4,5,6,9,11] [64,80,96,144,288] [_,_,_,_,_,_] [_,_,_,_,_] ?_
 refine kA h (fun v7 => ([(67, .sv (.bool v7))], [])) (fun v7 h => ?_) fun v7 h => ?_
 refine Xac ?_
 iterate 4 refine kO hT hC ?_
 refine kS h ?_ ?_ <;> intro b6 h
 iterate 4 refine kF hC (kn b6) ?_
 iterate 5 refine Xhh hC rfl rfl rfl rfl rfl rfl ?_
 iterate 2 refine kF hC (kn b6) ?_
 iterate 5 refine Xhh hC rfl rfl rfl rfl rfl rfl ?_
 refine kF hC (kn b6) ?_
 refine kP hC false (kn b6) ?_
 exact Vc.nil kM
 refine kI hT hC (kn b6) ?_
 refine kE hC (kn b6) [] Tryz.call22 h (fun _ => Xd2) fun q8 h => ?_
 iterate 2 refine kI hT hC (kn b6) ?_
 refine kS h ?_ ?_ <;> intro b7 h
 iterate 5 refine kI hT hC (kn b7) ?_
 refine Xb0 hC rfl rfl rfl rfl (kn b6) rfl rfl (b := false) (kn b7) rfl rfl rfl trivial ?_
 refine kI hT hC (kn b6) ?_
 refine kS h ?_ ?_ <;> intro b8 h
 iterate 5 refine kF hC b8 ?_
 refine Xb0 hC rfl rfl rfl rfl (kn b6) rfl rfl (b := true) b8 rfl rfl rfl trivial ?_
 refine kP hC true (kn b6) ?_
 exact Vc.nil kM
 iterate 5 refine kI hT hC b8 ?_
 refine Xb0 hC rfl rfl rfl rfl (kn b6) rfl rfl (b := false) b8 rfl rfl rfl trivial ?_
 refine kP hC true (kn b6) ?_
 exact Vc.nil kM
 iterate 5 refine kF hC (kn b7) ?_
 refine Xb0 hC rfl rfl rfl rfl (kn b6) rfl rfl (b := true) (kn b7) rfl rfl rfl trivial ?_
 refine kI hT hC (kn b6) ?_
 iterate 5 refine kF hC rfl ?_
 refine Xb0 hC rfl rfl rfl rfl (kn b6) rfl rfl (b := true) rfl rfl rfl rfl trivial ?_
 refine kP hC true (kn b6) ?_
 exact Vc.nil kM
 refine kS h ?_ ?_ <;> intro b9 h
 refine kt b9 (Xab ?_)
 iterate 5 refine kO hT hC ?_
 refine Vc.nil (Xah (Xas ?_))
 obtain rfl := kj h
 exact Xch (τ := ⟨[(8, .own 16), (9, .ptr 2000001 0), (10, .sv (.bool false))], [(16, some (.deep Xbf ([] : List Xan))), (2000001, some (.box [.sv (.int .i64 0), .sv (.int .i64 0), .sv (.str ⟨#[]⟩)]))]⟩) (kW hC [(16, 288), (2000001, 144)]) rfl ⟨rfl, trivial⟩
 refine kf b9 (Xaf (Xae (Xab ?_)))
 iterate 4 refine kO hT hC ?_
 refine kC hC [] Tryz.call26 h (fun _ => Yhn) fun q9 h => ?_
 iterate 2 refine kO hT hC ?_
 refine Vc.nil (Xap (Xab ?_))
 refine kO hT hC ?_
 refine Vc.nil ?_
 refine kL [3,4,5,6,9,11,12,13] [64,80,96,144,192,288] [_,_,_,_,_,_,_,_] [_,_,_,_,_,_] ?_
 obtain ⟨o56, hl, h⟩ := Xa3 h
 refine Xi5 (fun v25 => ([(13, .sv (.int .i64 v25.1))], [(192, some (.box [.sv (.int .i64 v25.2.2.1), .sv (.int .i64 v25.2.2.2.1), .sv (.str v25.2.2.2.2)])), (288, some (.deep Xbf v25.2.1))])) (fun v41 => ([(3, .any), (4, .any), (5, .any), (6, .any), (13, .any)], [(192, some (.box [.sv (.int .i64 v41.2.1), .sv (.int .i64 v41.2.2.1), .sv (.str v41.2.2.2)])), (288, some (.deep Xbf v41.1)), (64, none), (80, none), (96, none)])) (fun r => Xqp C T Tryz.f8.results.toList (Xkz r) (Xky r)) hl ?_ ?_ ?_ ?_
 try dsimp only
 apply Xes hC []
 exact co
 rfl
 decide
 rfl
 intro v25 s hs
 have h := hs
 unfold Xdx at h
 refine Xap (Xab ?_)
 iterate 4 refine kO hT hC ?_
 refine Vc.nil ?_
 refine kS h ?_ ?_ <;> intro b24 h
 refine kt b24 (Xaf (Xae (Xap (Xak (Xab ?_)))))
 refine kO hT hC ?_
 refine Vc.nil ?_
 refine kL [3,4,5,6,9,11,12,13,14] [64,80,96,144,192,288] [_,_,_,_,_,_,_,_,_] [_,_,_,_,_,_] ?_
 obtain ⟨o55, hl, h⟩ := Xa3 h
 refine Xi5 (fun v46 => ([(14, .sv (.int .i64 v46.1))], [(192, some (.box [.sv (.int .i64 v46.2.2.1), .sv (.int .i64 v46.2.2.2.1), .sv (.str v46.2.2.2.2)])), (288, some (.deep Xbf v46.2.1))])) (fun v51 => ([(14, .any)], [(192, some (.box [.sv (.int .i64 v51.2.1), .sv (.int .i64 v51.2.2.1), .sv (.str v51.2.2.2)])), (288, some (.deep Xbf v51.1))])) (fun r => Xqp C T Tryz.f8.results.toList (Xkz r) (Xky r)) hl ?_ ?_ ?_ ?_
 try dsimp only
 apply Xes hC []
 exact co
 rfl
 decide
 rfl
 intro v46 s hs
 have h := hs
 unfold Xdy at h
 refine Xap (Xab ?_)
 iterate 4 refine kO hT hC ?_
 refine Vc.nil ?_
 refine kS h ?_ ?_ <;> intro b29 h
 refine kt b29 (Xaf (Xae (Xap (Xak ?_))))
 refine Xhg hm ?_
 iterate 5 refine kO hT hC ?_
 refine kC hC [(16, 1488)] Tryz.call28 h (fun _ => Xdd) fun q52 h => ?_
 iterate 4 refine kO hT hC ?_
 obtain ⟨q53, hq, h⟩ := Xa3 h
 refine Yoc hC [(16, 1568), (17, 1569)] rfl rfl rfl rfl Tryz.call27 (Xvi hq) rfl (by decide) trivial rfl (.inr ⟨rfl, ⟨trivial, trivial, trivial⟩⟩) rfl ?_
 iterate 8 refine kO hT hC ?_
 refine kD (Xap (Xab ?_))
 iterate 2 refine kO hT hC ?_
 refine Vc.nil ?_
 refine kS h ?_ ?_ <;> intro b30 h
 refine kt b30 (Xab ?_)
 refine Yoe hT hC Xbf rfl rfl rfl rfl trivial rfl Xu2 ?_
 iterate 4 refine kO hT hC ?_
 refine Vc.nil (Xah (Xas (Xgh (Xas ?_))))
 obtain rfl := kj h
 refine Xpa (Xo9 ?_)
 refine Xch (τ := ⟨[(8, .own 16), (9, .ptr 2000001 0), (10, .sv (.bool false))], [(16, some (.deep Xbf ([] : List Xan))), (2000001, some (.box [.sv (.int .i64 0), .sv (.int .i64 0), .sv (.str ⟨#[]⟩)]))]⟩) ?_ rfl ⟨rfl, trivial⟩
 apply Xes hC [(16, 1664), (2000001, 144)]
 exact co
 rfl
 decide
 rfl
 refine kf b30 (Xaf (Xae (Xab ?_)))
 iterate 2 refine kO hT hC ?_
 refine Yr9 hT hC Xbf q53.1 rfl rfl rfl rfl rfl rfl rfl rfl Xu2 rfl rfl ?_
 obtain ⟨hq, h⟩ := Xaw h
 refine Yr7 hT hC (i := 288) (j := 1728) Xbf rfl rfl rfl rfl rfl rfl rfl rfl rfl rfl rfl rfl rfl rfl hq ?_
 refine kO hT hC ?_
 refine Vc.nil (Xac ?_)
 iterate 4 refine kO hT hC ?_
 refine kC hC [] Tryz.call29 h (fun _ => Yje) fun q54 h => ?_
 refine kO hT hC ?_
 refine Vc.nil (Xao (Xae (Xac ?_)))
 iterate 3 refine kO hT hC ?_
 refine Vc.nil ?_
 obtain rfl := kj h
 exact Yci (kW hC [(288, 1744)])
 exact kf b29 (Xam (Xau kb))
 intro v51 e
 subst e
 refine Xao (Xae (Xac ?_))
 iterate 3 refine kO hT hC ?_
 exact Vc.nil kG
 intro r' σ' e hE
 subst e
 obtain rfl := kj h
 refine Xgh (Xas (Xpa (Xo9 ?_)))
 exact hE
 exact kf b24 (Xam (Xau kb))
 intro v41 e
 subst e
 refine Xae ?_
 refine Xhg hm ?_
 iterate 5 refine kO hT hC ?_
 refine kD (Xah ?_)
 obtain rfl := kj h
 exact Xch (τ := ⟨[(8, .own 16), (9, .ptr 2000001 0), (10, .sv (.bool true))], [(16, some (.deep Xbf v41.1)), (2000001, some (.box [.sv (.int .i64 v41.2.1), .sv (.int .i64 v41.2.2.1), .sv (.str v41.2.2.2)]))]⟩) (kW hC [(16, 288), (2000001, 144)]) rfl ⟨rfl, trivial⟩
 intro r' σ' e hE
 subst e
 obtain rfl := kj h
 refine Xas ?_
 exact hE
def Xpu (r : Bool) : AV := .sv (.bool r)
def Xpt (r : Bool) : Xa1 := []
theorem Yc6 {p0 p1 r} (h : Xlw p0 p1 = some r) : AC Tryz.prog 51 [.sv (.ints .i64 p0), .sv (.ints .i64 p1)] [] (Xpu r) (Xpt r) := by
 refine Xag hT Tryz.func51 rfl fun C hC => ?_
 unfold Xlw at h
 refine Xab ?_
 refine kO hT hC ?_
 refine Vc.nil (Xap (Xab ?_))
 iterate 5 refine kO hT hC ?_
 refine Vc.nil ?_
 refine kS h ?_ ?_ <;> intro b1 h
 refine kt b1 (Xab ?_)
 refine kO hT hC ?_
 exact Vc.nil (Xah (Xas kR))
 refine kf b1 (Xaf (Xae (Xap (Xab ?_))))
 refine kO hT hC ?_
 refine Vc.nil ?_
 refine kL [0,1,5] [] [_,_,_] [] ?_
 obtain ⟨o5, hl, h⟩ := Xa3 h
 refine Xi5 (fun v2 => ([(5, .sv (.int .i64 v2))], [])) (fun v4 => ([(0, .any), (1, .any), (5, .any)], [])) (fun r => Xqp C T Tryz.f51.results.toList (Xpu r) (Xpt r)) hl ?_ ?_ ?_ ?_
 apply Xes hC []
 exact co
 rfl
 decide
 rfl
 intro v2 s hs
 have h := hs
 unfold Xhs at h
 refine Xap (Xab ?_)
 iterate 4 refine kO hT hC ?_
 refine Vc.nil ?_
 refine kS h ?_ ?_ <;> intro b6 h
 refine kt b6 (Xaf (Xae (Xap (Xak ?_))))
 refine Xhg hm ?_
 iterate 2 refine kO hT hC ?_
 refine kQ hT hC h fun h => ?_
 iterate 3 refine kO hT hC ?_
 refine kQ hT hC h fun h => ?_
 iterate 2 refine kO hT hC ?_
 refine kD ?_
 refine kS h ?_ ?_ <;> intro b7 h
 refine kt b7 (Xab ?_)
 refine kO hT hC ?_
 refine Vc.nil (Xah (Xgh (Xas ?_)))
 obtain rfl := kj h
 refine Xpa (Xo9 ?_)
 exact Xch (Xka.refl _) rfl trivial
 refine kf b7 (Xaf (Xao (Xae (Xac ?_))))
 iterate 3 refine kO hT hC ?_
 exact Vc.nil kG
 exact kf b6 (Xam (Xau kb))
 intro v4 e
 subst e
 refine Xae (Xab ?_)
 refine kO hT hC ?_
 exact Vc.nil (Xah kR)
 intro r' σ' e hE
 subst e
 obtain rfl := kj h
 refine Xas ?_
 exact hE
def Xvt (r : Bool) : AV := .sv (.bool r)
def Xvs (r : Bool) : Xa1 := []
theorem Xxt {p0 p1 r} (h : Xlc p0 p1 = some r) : AC Tryz.prog 30 [.agg [.sv (.int .i64 p0.Kind), .sv (.int .i64 p0.Mode), .sv (.int .i64 p0.Dx), .sv (.int .i64 p0.Dy), .sv (.ints .i64 p0.Levels)], .agg [.sv (.int .i64 p1.Kind), .sv (.int .i64 p1.Mode), .sv (.int .i64 p1.Dx), .sv (.int .i64 p1.Dy), .sv (.ints .i64 p1.Levels)]] [] (Xvt r) (Xvs r) := by
 refine Xag hT Tryz.func30 rfl fun C hC => ?_
 unfold Xlc at h
 refine Xab ?_
 iterate 3 refine kO hT hC ?_
 refine Vc.nil (Xap (Xab ?_))
 iterate 5 refine kO hT hC ?_
 refine Vc.nil ?_
 refine kS h ?_ ?_ <;> intro b1 h
 refine kt b1 (Xab ?_)
 refine kO hT hC ?_
 exact Vc.nil (Xah (Xas kR))
 refine kf b1 (Xaf (Xae (Xap (Xab ?_))))
 iterate 5 refine kO hT hC ?_
 refine Vc.nil ?_
 refine kS h ?_ ?_ <;> intro b2 h
 refine kt b2 (Xab ?_)
 refine kO hT hC ?_
 exact Vc.nil (Xah (Xas kR))
 refine kf b2 (Xaf (Xae (Xap (Xab ?_))))
 iterate 5 refine kO hT hC ?_
 refine Vc.nil ?_
 refine kS h ?_ ?_ <;> intro b3 h
 refine kt b3 (Xab ?_)
 refine kO hT hC ?_
 exact Vc.nil (Xah (Xas kR))
 refine kf b3 (Xaf (Xae (Xap (Xab ?_))))
 iterate 5 refine kO hT hC ?_
 refine Vc.nil ?_
 refine kS h ?_ ?_ <;> intro b4 h
 refine kt b4 (Xab ?_)
 refine kO hT hC ?_
 exact Vc.nil (Xah (Xas kR))
 refine kf b4 (Xaf (Xae (Xap (Xab ?_))))
 iterate 4 refine kO hT hC ?_
 refine kC hC [] Tryz.call51 h (fun _ => Yc6) fun q1 h => ?_
 refine kO hT hC ?_
 refine Vc.nil ?_
 refine kS h ?_ ?_ <;> intro b5 h
 refine kt b5 (Xab ?_)
 refine kO hT hC ?_
 exact Vc.nil (Xah (Xas kR))
 refine kf b5 (Xaf (Xae (Xab ?_)))
 refine kO hT hC ?_
 exact Vc.nil (Xah kR)
def Xmm (r : Bool) : AV := .sv (.bool r)
def Xml (r : Bool) : Xa1 := []
theorem Xne {p0 p1 r} (h : Xf2 p0 p1 = some r) : AC Tryz.prog 9 [.sv (Xf9.sv p0), .sv (Xf9.sv p1)] [] (Xmm r) (Xml r) := by
 refine Xag hT Tryz.func9 rfl fun C hC => ?_
 unfold Xf2 at h
 refine Xab ?_
 refine kO hT hC ?_
 refine Vc.nil (Xap (Xab ?_))
 iterate 5 refine kO hT hC ?_
 refine Vc.nil ?_
 refine kS h ?_ ?_ <;> intro b1 h
 refine kt b1 (Xab ?_)
 refine kO hT hC ?_
 exact Vc.nil (Xah (Xas kR))
 refine kf b1 (Xaf (Xae (Xap (Xab ?_))))
 refine kO hT hC ?_
 refine Vc.nil ?_
 refine kL [0,1,5] [] [_,_,_] [] ?_
 obtain ⟨o8, hl, h⟩ := Xa3 h
 refine Xi5 (fun v3 => ([(5, .sv (.int .i64 v3))], [])) (fun v6 => ([(0, .any), (1, .any), (5, .any)], [])) (fun r => Xqp C T Tryz.f9.results.toList (Xmm r) (Xml r)) hl ?_ ?_ ?_ ?_
 apply Xes hC []
 exact co
 rfl
 decide
 rfl
 intro v3 s hs
 have h := hs
 unfold Xe0 at h
 refine Xap (Xab ?_)
 iterate 4 refine kO hT hC ?_
 refine Vc.nil ?_
 refine kS h ?_ ?_ <;> intro b6 h
 refine kt b6 (Xaf (Xae (Xap (Xak ?_))))
 refine Xhg hm ?_
 iterate 2 refine kO hT hC ?_
 refine kQ hT hC h fun h => ?_
 iterate 3 refine kO hT hC ?_
 refine kQ hT hC h fun h => ?_
 refine kO hT hC ?_
 refine kC hC [] Tryz.call30 h (fun _ => Xxt) fun q7 h => ?_
 refine kO hT hC ?_
 refine kD ?_
 refine kS h ?_ ?_ <;> intro b7 h
 refine kt b7 (Xab ?_)
 refine kO hT hC ?_
 refine Vc.nil (Xah (Xgh (Xas ?_)))
 obtain rfl := kj h
 refine Xpa (Xo9 ?_)
 exact Xch (Xka.refl _) rfl trivial
 refine kf b7 (Xaf (Xao (Xae (Xac ?_))))
 iterate 3 refine kO hT hC ?_
 exact Vc.nil kG
 exact kf b6 (Xam (Xau kb))
 intro v6 e
 subst e
 refine Xae (Xab ?_)
 refine kO hT hC ?_
 exact Vc.nil (Xah kR)
 intro r' σ' e hE
 subst e
 obtain rfl := kj h
 refine Xas ?_
 exact hE
def Yc8 (r : Bool) : AV := .sv (.bool r)
def Yc7 (r : Bool) : Xa1 := []
theorem Xtv {p0 p1 r} (h : Xlj p0 p1 = some r) : AC Tryz.prog 10 [.agg [.sv (.int .i64 p0.Wide), .sv (.int .i64 p0.High), .sv (.str p0.Dots)], .agg [.sv (.int .i64 p1.Wide), .sv (.int .i64 p1.High), .sv (.str p1.Dots)]] [] (Yc8 r) (Yc7 r) := by
 refine Xag hT Tryz.func10 rfl fun C hC => ?_
 unfold Xlj at h
 refine Xab ?_
 iterate 3 refine kO hT hC ?_
 refine Vc.nil (Xap (Xab ?_))
 iterate 5 refine kO hT hC ?_
 refine Vc.nil ?_
 refine kS h ?_ ?_ <;> intro b1 h
 refine kt b1 (Xab ?_)
 refine kO hT hC ?_
 exact Vc.nil (Xah (Xas kR))
 refine kf b1 (Xaf (Xae (Xap (Xab ?_))))
 iterate 5 refine kO hT hC ?_
 refine Vc.nil ?_
 refine kS h ?_ ?_ <;> intro b2 h
 refine kt b2 (Xab ?_)
 refine kO hT hC ?_
 exact Vc.nil (Xah (Xas kR))
 refine kf b2 (Xaf (Xae (Xap (Xab ?_))))
 iterate 5 refine kO hT hC ?_
 refine Vc.nil ?_
 refine kS h ?_ ?_ <;> intro b3 h
 refine kt b3 (Xab ?_)
 refine kO hT hC ?_
 exact Vc.nil (Xah (Xas kR))
 refine kf b3 (Xaf (Xae (Xab ?_)))
 refine kO hT hC ?_
 exact Vc.nil (Xah kR)
def Xvv (r : (Int × (List Int))) : AV := .sv (.int .i64 r.1)
def Xvu (r : (Int × (List Int))) : Xa1 := [(0, .ints .i64 r.2)]
theorem Xxw {p0 p1 r} (h : Xi2 p0 p1 = some r) : AC Tryz.prog 31 [.own 0, .sv (.int .i64 p1)] [(0, .ints .i64 p0)] (Xvv r) (Xvu r) := by
 refine Xag hT Tryz.func31 rfl fun C hC => ?_
 unfold Xi2 at h
 refine Xab ?_
 refine kO hT hC ?_
 refine Vc.nil (Xap (Xab ?_))
 refine kO hT hC ?_
 refine Vc.nil ?_
 refine kL [0,1,5] [0] [_,_,_] [_] ?_
 refine kX h (fun v2 => ([(1, .sv (.int .i64 v2.1)), (5, .sv (.int .i64 v2.2.1))], [(0, some (.ints .i64 v2.2.2))])) (fun v4 => ([(1, .sv (.int .i64 v4.1)), (0, .any), (5, .any)], [(0, some (.ints .i64 v4.2))])) (kW hC []) (fun v2 s h => ?_) fun v4 h => ?_
 unfold Xfu at h
 refine Xap (Xab ?_)
 iterate 4 refine kO hT hC ?_
 refine Vc.nil ?_
 refine kS h ?_ ?_ <;> intro b3 h
 refine kt b3 (Xaf (Xae (Xap (Xak (Xab ?_)))))
 iterate 3 refine kO hT hC ?_
 iterate 2 refine kQ hT hC h fun h => ?_
 refine Vc.nil (Xac ?_)
 iterate 3 refine kO hT hC ?_
 refine Vc.nil (Xao (Xae (Xac ?_)))
 iterate 3 refine kO hT hC ?_
 exact Vc.nil kG
 exact kf b3 (Xam (Xau ku))
 refine Xae (Xab ?_)
 iterate 2 refine kO hT hC ?_
 refine Vc.nil (Xah ?_)
 obtain rfl := kj h
 exact Xch (Xka.refl _) rfl ⟨rfl, trivial⟩
def Xqs (r : (Int × (List Xan))) : AV := .sv (.int .i64 r.1)
def Xqr (r : (Int × (List Xan))) : Xa1 := [(0, .deep Xbf r.2)]
theorem Xr6 {p0 p1 r} (h : Xfv p0 p1 = some r) : AC Tryz.prog 11 [.own 0, .sv (.int .i64 p1)] [(0, .deep Xbf p0)] (Xqs r) (Xqr r) := by
 refine Xag hT Tryz.func11 rfl fun C hC => ?_
 unfold Xfv at h
 refine Xab ?_
 refine kO hT hC ?_
 refine Vc.nil (Xap (Xab ?_))
 refine kO hT hC ?_
 refine Vc.nil ?_
 refine kL [0,1,5] [0] [_,_,_] [_] ?_
 refine kX h (fun v2 => ([(1, .sv (.int .i64 v2.1)), (5, .sv (.int .i64 v2.2.1))], [(0, some (.deep Xbf v2.2.2))])) (fun v4 => ([(1, .sv (.int .i64 v4.1)), (0, .any), (5, .any)], [(0, some (.deep Xbf v4.2))])) (kW hC []) (fun v2 s h => ?_) fun v4 h => ?_
 unfold Xdn at h
 refine Xap (Xab ?_)
 iterate 2 refine kO hT hC ?_
 refine Yr8 hT hC Xbf rfl rfl rfl rfl rfl rfl rfl rfl rfl rfl ?_
 refine kO hT hC ?_
 refine Vc.nil ?_
 refine kS h ?_ ?_ <;> intro b3 h
 refine kt b3 (Xaf (Xae (Xap (Xak ?_))))
 obtain ⟨hq, h⟩ := Xaw h
 obtain ⟨q4, hq4, h⟩ := Xa3 h
 obtain ⟨k0, i, li⟩ := v2
 have hi : i.toNat < li.length := by have := hq.2; have := hq.1; dsimp only at *; omega
 have hl : ∀ x : Xan, (li.set i.toNat x).length = li.length := fun x => List.length_set
 have hgD : ∀ x : Xan, (li.set i.toNat x).getD i.toNat Xef = x := fun x => by simp [List.getD, hi]
 have hss : ∀ x y : Xan, li.set i.toNat y = (li.set i.toNat x).set i.toNat y := fun x y => (List.set_set ..).symm
 have hqs : ∀ x : Xan, 0 ≤ i ∧ i < ((li.set i.toNat x).length : Int) := fun x => by rw [hl]; exact hq
 have his : ∀ x : Xan, i.toNat < (li.set i.toNat x).length := fun x => by rw [hl]; exact hi
 have hxs : ∀ x : Xan, (li.set i.toNat x)[i.toNat]? = some x := fun x => List.getElem?_set_self hi
 generalize hx0 : li.getD i.toNat Xef = x0 at hq4
 refine Xab ?_
 iterate 3 refine kO hT hC ?_
 refine Yiw hT hC Xbf rfl rfl rfl rfl rfl rfl rfl hq ?_
 refine kO hT hC ?_
 refine Yld hT Xbf (li.set i.toNat ⟨k0, x0.Mode, x0.Dx, x0.Dy, x0.Levels⟩) ⟨k0, x0.Mode, x0.Dx, x0.Dy, x0.Levels⟩ rfl rfl rfl rfl rfl rfl rfl hi rfl (by subst hx0; rfl) (by subst hx0; rfl) ?_
 refine kN ?_
 iterate 3 refine kO hT hC ?_
 refine kN ?_
 iterate 3 refine kO hT hC ?_
 refine Yiw hT hC Xbf rfl rfl rfl rfl rfl rfl rfl (hqs _) ?_
 refine kO hT hC ?_
 refine Yld hT Xbf (li.set i.toNat ⟨k0, (Xaa .i64 (k0 + 1)), x0.Dx, x0.Dy, x0.Levels⟩) ⟨k0, (Xaa .i64 (k0 + 1)), x0.Dx, x0.Dy, x0.Levels⟩ rfl rfl rfl rfl rfl rfl rfl (his _) (hss _ _) (congrArg (fun z => (Xbf.enc z).set 1 (.int .i64 (Xaa .i64 (k0 + 1)))) (hgD ⟨k0, x0.Mode, x0.Dx, x0.Dy, x0.Levels⟩)).symm (congrArg Xbf.sub (hgD ⟨k0, x0.Mode, x0.Dx, x0.Dy, x0.Levels⟩)).symm ?_
 refine kN ?_
 iterate 3 refine kO hT hC ?_
 refine kN ?_
 iterate 3 refine kO hT hC ?_
 refine Yiw hT hC Xbf rfl rfl rfl rfl rfl rfl rfl (hqs _) ?_
 refine kO hT hC ?_
 refine Yld hT Xbf (li.set i.toNat ⟨k0, (Xaa .i64 (k0 + 1)), (Xaa .i64 ((Xaa .i64 (k0 + 1)) + 1)), x0.Dy, x0.Levels⟩) ⟨k0, (Xaa .i64 (k0 + 1)), (Xaa .i64 ((Xaa .i64 (k0 + 1)) + 1)), x0.Dy, x0.Levels⟩ rfl rfl rfl rfl rfl rfl rfl (his _) (hss _ _) (congrArg (fun z => (Xbf.enc z).set 2 (.int .i64 (Xaa .i64 ((Xaa .i64 (k0 + 1)) + 1)))) (hgD ⟨k0, (Xaa .i64 (k0 + 1)), x0.Dx, x0.Dy, x0.Levels⟩)).symm (congrArg Xbf.sub (hgD ⟨k0, (Xaa .i64 (k0 + 1)), x0.Dx, x0.Dy, x0.Levels⟩)).symm ?_
 refine kN ?_
 iterate 3 refine kO hT hC ?_
 refine kN ?_
 iterate 3 refine kO hT hC ?_
 refine Yiw hT hC Xbf rfl rfl rfl rfl rfl rfl rfl (hqs _) ?_
 refine kO hT hC ?_
 refine Yld hT Xbf (li.set i.toNat ⟨k0, (Xaa .i64 (k0 + 1)), (Xaa .i64 ((Xaa .i64 (k0 + 1)) + 1)), (Xaa .i64 ((Xaa .i64 ((Xaa .i64 (k0 + 1)) + 1)) + 1)), x0.Levels⟩) ⟨k0, (Xaa .i64 (k0 + 1)), (Xaa .i64 ((Xaa .i64 (k0 + 1)) + 1)), (Xaa .i64 ((Xaa .i64 ((Xaa .i64 (k0 + 1)) + 1)) + 1)), x0.Levels⟩ rfl rfl rfl rfl rfl rfl rfl (his _) (hss _ _) (congrArg (fun z => (Xbf.enc z).set 3 (.int .i64 (Xaa .i64 ((Xaa .i64 ((Xaa .i64 (k0 + 1)) + 1)) + 1)))) (hgD ⟨k0, (Xaa .i64 (k0 + 1)), (Xaa .i64 ((Xaa .i64 (k0 + 1)) + 1)), x0.Dy, x0.Levels⟩)).symm (congrArg Xbf.sub (hgD ⟨k0, (Xaa .i64 (k0 + 1)), (Xaa .i64 ((Xaa .i64 (k0 + 1)) + 1)), x0.Dy, x0.Levels⟩)).symm ?_
 refine kN ?_
 iterate 3 refine kO hT hC ?_
 refine Vc.nil ?_
 refine Yqg hT hC [_, _, _, _] [_] ?_
 iterate 2 refine kO hT hC ?_
 refine Yiw hT hC Xbf rfl rfl rfl rfl rfl rfl rfl (hqs _) ?_
 refine kO hT hC ?_
 refine Vc.nil ?_
 refine Ymh.mk (c := Xbf) (k' := q4.1) (s' := q4.2) (x := ⟨k0, (Xaa .i64 (k0 + 1)), (Xaa .i64 ((Xaa .i64 (k0 + 1)) + 1)), (Xaa .i64 ((Xaa .i64 ((Xaa .i64 (k0 + 1)) + 1)) + 1)), x0.Levels⟩) (x' := ⟨k0, (Xaa .i64 (k0 + 1)), (Xaa .i64 ((Xaa .i64 (k0 + 1)) + 1)), (Xaa .i64 ((Xaa .i64 ((Xaa .i64 (k0 + 1)) + 1)) + 1)), q4.2⟩) rfl rfl rfl rfl rfl rfl rfl rfl rfl rfl rfl rfl rfl rfl rfl (hxs _) (hss _ _) rfl rfl Tryz.call31 (Xxw hq4) rfl ?_
 refine kO hT hC ?_
 refine Vc.nil (Xao (Xae (Xac ?_)))
 iterate 3 refine kO hT hC ?_
 exact Vc.nil kG
 exact kf b3 (Xam (Xau ku))
 refine Xae (Xab ?_)
 iterate 2 refine kO hT hC ?_
 refine Vc.nil (Xah ?_)
 obtain rfl := kj h
 exact Xch (Xka.refl _) rfl ⟨rfl, trivial⟩
def Xng (r : Int) : AV := .sv (.int .i64 r)
def Xnf (r : Int) : Xa1 := []
theorem Xxu {p0 p1 r} (h : Xi1 p0 p1 = some r) : AC Tryz.prog 32 [.sv (.ints .i64 p0), .sv (.int .i64 p1)] [] (Xng r) (Xnf r) := by
 refine Xag hT Tryz.func32 rfl fun C hC => ?_
 unfold Xi1 at h
 refine Xab ?_
 refine kO hT hC ?_
 refine Vc.nil (Xap (Xab ?_))
 refine kO hT hC ?_
 refine Vc.nil ?_
 refine kL [0,1,5] [] [_,_,_] [] ?_
 obtain ⟨o5, hl, h⟩ := Xa3 h
 refine Xi5 (fun v2 => ([(1, .sv (.int .i64 v2.1)), (5, .sv (.int .i64 v2.2))], [])) (fun v4 => ([(1, .sv (.int .i64 v4)), (0, .any), (5, .any)], [])) (fun r => Xqp C T Tryz.f32.results.toList (Xng r) (Xnf r)) hl ?_ ?_ ?_ ?_
 try dsimp only
 apply Xes hC []
 exact co
 rfl
 decide
 rfl
 intro v2 s hs
 have h := hs
 unfold Xft at h
 refine Xap (Xab ?_)
 iterate 4 refine kO hT hC ?_
 refine Vc.nil ?_
 refine kS h ?_ ?_ <;> intro b5 h
 refine kt b5 (Xaf (Xae (Xap (Xak (Xap (Xab ?_))))))
 iterate 2 refine kO hT hC ?_
 refine kQ hT hC h fun h => ?_
 iterate 3 refine kO hT hC ?_
 refine Vc.nil ?_
 refine kS h ?_ ?_ <;> intro b6 h
 refine kt b6 (Xab ?_)
 refine kO hT hC ?_
 refine Vc.nil (Xah (Xas (Xgh (Xas ?_))))
 obtain rfl := kj h
 refine Xpa (Xo9 ?_)
 exact Xch (Xka.refl _) rfl trivial
 refine kf b6 (Xaf (Xae (Xac ?_)))
 iterate 3 refine kO hT hC ?_
 refine Vc.nil (Xao (Xae (Xac ?_)))
 iterate 3 refine kO hT hC ?_
 exact Vc.nil kG
 exact kf b5 (Xam (Xau kb))
 intro v4 e
 subst e
 refine Xae (Xab ?_)
 iterate 2 refine kO hT hC ?_
 exact Vc.nil (Xah kR)
 intro r' σ' e hE
 subst e
 obtain rfl := kj h
 refine Xas ?_
 exact hE
def Xk8 (r : Int) : AV := .sv (.int .i64 r)
def Xk7 (r : Int) : Xa1 := []
theorem Xlx {p0 p1 r} (h : Xdz p0 p1 = some r) : AC Tryz.prog 12 [.sv (Xf9.sv p0), .sv (.int .i64 p1)] [] (Xk8 r) (Xk7 r) := by
 refine Xag hT Tryz.func12 rfl fun C hC => ?_
 unfold Xdz at h
 refine Xab ?_
 refine kO hT hC ?_
 refine Vc.nil (Xap (Xab ?_))
 refine kO hT hC ?_
 refine Vc.nil ?_
 refine kL [0,1,5] [] [_,_,_] [] ?_
 obtain ⟨o8, hl, h⟩ := Xa3 h
 refine Xi5 (fun v3 => ([(1, .sv (.int .i64 v3.1)), (5, .sv (.int .i64 v3.2))], [])) (fun v6 => ([(1, .sv (.int .i64 v6)), (0, .any), (5, .any)], [])) (fun r => Xqp C T Tryz.f12.results.toList (Xk8 r) (Xk7 r)) hl ?_ ?_ ?_ ?_
 try dsimp only
 apply Xes hC []
 exact co
 rfl
 decide
 rfl
 intro v3 s hs
 have h := hs
 unfold Xdm at h
 refine Xap (Xab ?_)
 iterate 4 refine kO hT hC ?_
 refine Vc.nil ?_
 refine kS h ?_ ?_ <;> intro b13 h
 refine kt b13 (Xaf (Xae (Xap (Xak (Xap (Xab ?_))))))
 iterate 2 refine kO hT hC ?_
 refine kQ hT hC h fun h => ?_
 iterate 4 refine kO hT hC ?_
 refine Vc.nil ?_
 refine kS h ?_ ?_ <;> intro b14 h
 refine kt b14 (Xab ?_)
 refine kO hT hC ?_
 refine Vc.nil (Xah (Xas (Xgh (Xas ?_))))
 obtain rfl := kj h
 refine Xpa (Xo9 ?_)
 exact Xch (Xka.refl _) rfl trivial
 refine kf b14 (Xaf (Xae (Xab ?_)))
 iterate 3 refine kO hT hC ?_
 refine Vc.nil (Xap (Xab ?_))
 iterate 2 refine kO hT hC ?_
 refine kQ hT hC h fun h => ?_
 iterate 4 refine kO hT hC ?_
 refine Vc.nil ?_
 refine kS h ?_ ?_ <;> intro b15 h
 refine kt b15 (Xab ?_)
 refine kO hT hC ?_
 refine Vc.nil (Xah (Xas (Xgh (Xas ?_))))
 obtain rfl := kj h
 refine Xpa (Xo9 ?_)
 exact Xch (Xka.refl _) rfl trivial
 refine kf b15 (Xaf (Xae (Xab ?_)))
 iterate 3 refine kO hT hC ?_
 refine Vc.nil (Xap (Xab ?_))
 iterate 2 refine kO hT hC ?_
 refine kQ hT hC h fun h => ?_
 iterate 4 refine kO hT hC ?_
 refine Vc.nil ?_
 refine kS h ?_ ?_ <;> intro b16 h
 refine kt b16 (Xab ?_)
 refine kO hT hC ?_
 refine Vc.nil (Xah (Xas (Xgh (Xas ?_))))
 obtain rfl := kj h
 refine Xpa (Xo9 ?_)
 exact Xch (Xka.refl _) rfl trivial
 refine kf b16 (Xaf (Xae (Xab ?_)))
 iterate 3 refine kO hT hC ?_
 refine Vc.nil (Xap (Xab ?_))
 iterate 2 refine kO hT hC ?_
 refine kQ hT hC h fun h => ?_
 iterate 4 refine kO hT hC ?_
 refine Vc.nil ?_
 refine kS h ?_ ?_ <;> intro b17 h
 refine kt b17 (Xab ?_)
 refine kO hT hC ?_
 refine Vc.nil (Xah (Xas (Xgh (Xas ?_))))
 obtain rfl := kj h
 refine Xpa (Xo9 ?_)
 exact Xch (Xka.refl _) rfl trivial
 refine kf b17 (Xaf (Xae (Xab ?_)))
 iterate 3 refine kO hT hC ?_
 refine kN ?_
 iterate 2 refine kO hT hC ?_
 refine kQ hT hC h fun h => ?_
 iterate 3 refine kO hT hC ?_
 refine kC hC [] Tryz.call32 h (fun _ => Xxu) fun q7 h => ?_
 refine kO hT hC ?_
 refine kN ?_
 iterate 2 refine kO hT hC ?_
 refine Vc.nil ?_
 refine kS h ?_ ?_ <;> intro b18 h
 refine kt b18 (Xab ?_)
 refine kO hT hC ?_
 refine Vc.nil (Xah (Xgh (Xas ?_)))
 obtain rfl := kj h
 refine Xpa (Xo9 ?_)
 exact Xch (Xka.refl _) rfl trivial
 refine kf b18 (Xaf (Xao (Xae (Xac ?_))))
 iterate 3 refine kO hT hC ?_
 exact Vc.nil kG
 exact kf b13 (Xam (Xau kb))
 intro v6 e
 subst e
 refine Xae (Xab ?_)
 iterate 2 refine kO hT hC ?_
 exact Vc.nil (Xah kR)
 intro r' σ' e hE
 subst e
 obtain rfl := kj h
 refine Xas ?_
 exact hE
def Xoc (r : Bool) : AV := .sv (.bool r)
def Xob (r : Bool) : Xa1 := []
theorem Xo8 {p0 p1 p2 p3 r} (h : Xfm p0 p1 p2 p3 = some r) : AC Tryz.prog 3 [.agg [.sv (.int .i64 p0.Wide), .sv (.int .i64 p0.High), .sv (.str p0.Dots)], .agg [.sv (.int .i64 p1.Wide), .sv (.int .i64 p1.High), .sv (.str p1.Dots)], .agg [.sv (.bool p2.Key), .sv (.int .i64 p2.Qp), .sv (.bool p2.Large), .sv (.bool p2.Exact)], .sv (.int .i64 p3)] [] (Xoc r) (Xob r) := by
 refine Xag hT Tryz.func3 rfl fun C hC => ?_
 unfold Xfm at h
 refine Xab ?_
 iterate 4 refine kO hT hC ?_
 refine kN ?_
 refine kO hT hC ?_
 refine kN ?_
 iterate 2 refine kO hT hC ?_
 refine kC hC [] Tryz.call4 h (fun _ => Xtw) fun q1 h => ?_
 refine kO hT hC ?_
 refine Vc.nil (Xap (Xab ?_))
 iterate 2 refine kO hT hC ?_
 refine Vc.nil ?_
 refine kS h ?_ ?_ <;> intro b1 h
 refine kt b1 (Xab ?_)
 refine kO hT hC ?_
 exact Vc.nil (Xah (Xas kR))
 refine kf b1 (Xaf (Xae (Xab ?_)))
 iterate 2 refine kO hT hC ?_
 refine kC hC [] Tryz.call4 h (fun _ => Xtw) fun q2 h => ?_
 refine kO hT hC ?_
 refine Vc.nil (Xap (Xab ?_))
 iterate 2 refine kO hT hC ?_
 refine Vc.nil ?_
 refine kS h ?_ ?_ <;> intro b2 h
 refine kt b2 (Xab ?_)
 refine kO hT hC ?_
 exact Vc.nil (Xah (Xas kR))
 refine kf b2 (Xaf (Xae ?_))
 refine Xhg hm ?_
 refine kO hT hC ?_
 refine kC hC [] Tryz.call6 h (fun _ => Xha) fun q3 h => ?_
 refine kO hT hC ?_
 refine kC hC [] Tryz.call6 h (fun _ => Xha) fun q4 h => ?_
 refine kO hT hC ?_
 refine kC hC [] Tryz.call7 h (fun _ => Xmw) fun q5 h => ?_
 refine kO hT hC ?_
 refine kC hC [(16, 624)] Tryz.call5 h (fun _ => Yb0) fun q6 h => ?_
 iterate 8 refine kO hT hC ?_
 refine kD ?_
 refine Xhg hm ?_
 refine kO hT hC ?_
 refine kC hC [] Tryz.call6 h (fun _ => Xha) fun q7 h => ?_
 refine kO hT hC ?_
 refine kC hC [] Tryz.call6 h (fun _ => Xha) fun q8 h => ?_
 refine kO hT hC ?_
 refine kC hC [] Tryz.call7 h (fun _ => Xmw) fun q9 h => ?_
 refine kO hT hC ?_
 refine kC hC [(16, 816)] Tryz.call8 h (fun _ => Xpn) fun q10 h => ?_
 iterate 8 refine kO hT hC ?_
 refine kD (Xap ?_)
 refine kL [3,4,5,6,10,11,12,13,14,15] [64,80,96,176,224,624,816] [_,_,_,_,_,_,_,_,_,_] [_,_,_,_,_,_,_] ?_
 refine kA h (fun v11 => ([(69, .sv (.bool v11)), (14, .any), (15, .any)], [(224, none)])) (fun v11 h => ?_) fun v11 h => ?_
 refine Xac ?_
 iterate 2 refine kO hT hC ?_
 refine kC hC [] Tryz.call9 h (fun _ => Xne) fun q12 h => ?_
 iterate 2 refine kO hT hC ?_
 refine kS h ?_ ?_ <;> intro b3 h
 iterate 2 refine kI hT hC (kn b3) ?_
 refine kE hC (kn b3) [] Tryz.call10 h (fun _ => Xtv) fun q13 h => ?_
 refine kI hT hC (kn b3) ?_
 refine kP hC false (kn b3) ?_
 refine kO hT hC ?_
 refine kS h ?_ ?_ <;> intro b4 h
 iterate 3 refine kI hT hC (kn b4) ?_
 refine kP hC false (kn b4) ?_
 exact Vc.nil kM
 iterate 3 refine kF hC (kn b4) ?_
 refine kP hC true (kn b4) ?_
 exact Vc.nil kM
 iterate 4 refine kF hC (kn b3) ?_
 refine kP hC true (kn b3) ?_
 refine kO hT hC ?_
 iterate 3 refine kF hC rfl ?_
 refine kO hT hC ?_
 exact Vc.nil kM
 refine kS h ?_ ?_ <;> intro b5 h
 refine kt b5 (Xab ?_)
 refine kO hT hC ?_
 exact Vc.nil (Xah (Xas kR))
 refine kf b5 (Xaf (Xae (Xab ?_)))
 refine kO hT hC ?_
 refine kN ?_
 iterate 2 refine kO hT hC ?_
 refine kC hC [(0, 816)] Tryz.call11 h (fun _ => Xr6) fun q14 h => ?_
 refine kO hT hC ?_
 refine kN ?_
 refine kO hT hC ?_
 refine kN ?_
 iterate 2 refine kO hT hC ?_
 refine kC hC [] Tryz.call12 h (fun _ => Xlx) fun q15 h => ?_
 refine kO hT hC ?_
 refine Vc.nil (Xap (Xab ?_))
 iterate 2 refine kO hT hC ?_
 refine Vc.nil ?_
 refine kS h ?_ ?_ <;> intro b6 h
 refine kt b6 (Xab ?_)
 refine kO hT hC ?_
 exact Vc.nil (Xah (Xas kR))
 refine kf b6 (Xaf (Xae (Xap (Xab ?_))))
 iterate 3 refine kO hT hC ?_
 refine Vc.nil ?_
 refine kS h ?_ ?_ <;> intro b7 h
 refine kt b7 (Xab ?_)
 refine kO hT hC ?_
 exact Vc.nil (Xah (Xas kR))
 refine kf b7 (Xaf (Xae ?_))
 refine Xhg hm ?_
 refine kO hT hC ?_
 refine kC hC [] Tryz.call6 h (fun _ => Xha) fun q16 h => ?_
 refine kO hT hC ?_
 refine kC hC [] Tryz.call6 h (fun _ => Xha) fun q17 h => ?_
 refine kO hT hC ?_
 refine kC hC [] Tryz.call7 h (fun _ => Xmw) fun q18 h => ?_
 refine kO hT hC ?_
 refine kC hC [(16, 1424)] Tryz.call8 h (fun _ => Xpn) fun q19 h => ?_
 iterate 8 refine kO hT hC ?_
 refine kD (Xap ?_)
 refine kL [10,11,12,13,16,18,19,20] [176,304,624,816,1424] [_,_,_,_,_,_,_,_] [_,_,_,_,_] ?_
 refine kA h (fun v20 => ([(107, .sv (.bool v20)), (10, .any), (11, .any), (12, .any), (18, .any), (19, .any), (20, .any)], [(176, none), (304, none), (624, none), (1424, none)])) (fun v20 h => ?_) fun v20 h => ?_
 refine Xac ?_
 iterate 2 refine kO hT hC ?_
 refine kC hC [] Tryz.call9 h (fun _ => Xne) fun q21 h => ?_
 iterate 2 refine kO hT hC ?_
 refine kS h ?_ ?_ <;> intro b8 h
 iterate 2 refine kI hT hC (kn b8) ?_
 refine kE hC (kn b8) [] Tryz.call10 h (fun _ => Xtv) fun q22 h => ?_
 refine kI hT hC (kn b8) ?_
 refine kP hC false (kn b8) ?_
 refine kO hT hC ?_
 refine kS h ?_ ?_ <;> intro b9 h
 iterate 3 refine kI hT hC (kn b9) ?_
 refine kP hC false (kn b9) ?_
 exact Vc.nil kM
 iterate 3 refine kF hC (kn b9) ?_
 refine kP hC true (kn b9) ?_
 exact Vc.nil kM
 iterate 4 refine kF hC (kn b8) ?_
 refine kP hC true (kn b8) ?_
 refine kO hT hC ?_
 iterate 3 refine kF hC rfl ?_
 refine kO hT hC ?_
 exact Vc.nil kM
 refine kS h ?_ ?_ <;> intro b10 h
 refine kt b10 (Xab ?_)
 refine kO hT hC ?_
 exact Vc.nil (Xah (Xas kR))
 refine kf b10 (Xaf (Xae (Xab ?_)))
 refine kO hT hC ?_
 refine kN ?_
 iterate 2 refine kO hT hC ?_
 refine kC hC [] Tryz.call12 h (fun _ => Xlx) fun q23 h => ?_
 refine kO hT hC ?_
 refine Vc.nil (Xap (Xab ?_))
 iterate 2 refine kO hT hC ?_
 refine Vc.nil ?_
 refine kS h ?_ ?_ <;> intro b11 h
 refine kt b11 (Xab ?_)
 refine kO hT hC ?_
 exact Vc.nil (Xah (Xas kR))
 refine kf b11 (Xaf (Xae (Xap (Xab ?_))))
 iterate 3 refine kO hT hC ?_
 refine Vc.nil ?_
 refine kS h ?_ ?_ <;> intro b12 h
 refine kt b12 (Xab ?_)
 refine kO hT hC ?_
 exact Vc.nil (Xah (Xas kR))
 refine kf b12 (Xaf (Xae (Xab ?_)))
 refine kO hT hC ?_
 exact Vc.nil (Xah kR)
end
end Go.Proofs.YthpkcbplfbokcaaGreat.A
