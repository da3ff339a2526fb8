/- Contracts of the functions that the law FnExactSquareFor reaches, part 1: each comes to what its pure function tells. Written by a program of this session. Conditions: as each statement tells. -/
import Derived.Test.YtlebkepfhdjnmadGreatFFnExactSquareForx0
namespace Go.Proofs.YtlebkepfhdjnmadGreat.A
open Go Go.Proofs Go.Proofs.YtlebkepfhdjnmadGreatAL Go.RowKit
set_option linter.unusedVariables false
set_option linter.unusedSimpArgs false
set_option maxRecDepth 100000
set_option maxHeartbeats 8000000
noncomputable section
def Xwr (r : (List Int)) : AV := .own 16
def Xwq (r : (List Int)) : Xa0 := [(16, .ints .i64 r)]
theorem Xk4 {p0 p1 r} (h : Xfq p0 p1 = some r) : AC Tryz.prog 98 [.sv (.ints .i64 p0), .sv (.ints .i64 p1)] [] (Xwr r) (Xwq r) := by
 refine Xag hT Tryz.func98 rfl fun C hC => ?_
 unfold Xfq at h
 refine Xab ?_
 refine kO hT hC ?_
 refine kN ?_
 iterate 2 refine kO hT hC ?_
 refine Vc.nil (Xao (Xab ?_))
 refine kO hT hC ?_
 refine Vc.nil ?_
 refine kL [0,1,5,6] [112] [_,_,_,_] [_] ?_
 refine kX h (fun v2 => ([(6, .sv (.int .i64 v2.1))], [(112, some (.ints .i64 v2.2))])) (fun v4 => ([(0, .any), (1, .any), (6, .any)], [(112, some (.ints .i64 v4))])) (kW hC []) (fun v2 s h => ?_) fun v4 h => ?_
 unfold Xig at h
 refine Xao (Xab ?_)
 iterate 2 refine kO hT hC ?_
 refine Vc.nil ?_
 refine kS h ?_ ?_ <;> intro b3 h
 refine kt b3 (Xaf (Xad (Xao (Xak ?_))))
 refine Xdf hm ?_
 iterate 3 refine kO hT hC ?_
 refine kQ hT hC h fun h => ?_
 iterate 3 refine kO hT hC ?_
 refine kQ hT hC h fun h => ?_
 iterate 3 refine kO hT hC ?_
 refine kT hT hC h fun h => ?_
 refine kO hT hC ?_
 refine kD (Xan (Xad (Xac ?_)))
 iterate 3 refine kO hT hC ?_
 refine Vc.nil ?_
 obtain rfl := kj h
 exact Yby (kW hC [(112, 368)])
 exact kf b3 (Xam (Xat ku))
 refine Xad (Xab ?_)
 iterate 2 refine kO hT hC ?_
 refine Vc.nil (Xah ?_)
 obtain rfl := kj h
 exact Xcl (τ := ⟨[(4, .own 16)], [(16, some (.ints .i64 v4))]⟩) (kW hC [(16, 112)]) rfl ⟨rfl, trivial⟩
def Xnr (r : Bool) : AV := .sv (.bool r)
def Xnq (r : Bool) : Xa0 := []
theorem Xon {p0 r} (h : Xhg p0 = some r) : AC Tryz.prog 97 [.sv (.ints .i64 p0)] [] (Xnr r) (Xnq r) := by
 refine Xag hT Tryz.func97 rfl fun C hC => ?_
 unfold Xhg at h
 refine Xab ?_
 refine kO hT hC ?_
 refine Vc.nil (Xao (Xab ?_))
 refine kO hT hC ?_
 refine Vc.nil ?_
 refine kL [0,3] [] [_,_] [] ?_
 obtain ⟨o5, hl, h⟩ := Xa4 h
 refine Xlu (fun v2 => ([(3, .sv (.int .i64 v2))], [])) (fun v4 => ([(0, .any), (3, .any)], [])) (fun r => Xuz C T Tryz.f97.results.toList (Xnr r) (Xnq r)) hl ?_ ?_ ?_ ?_
 apply Xfs hC []
 exact co
 rfl
 decide
 rfl
 intro v2 s hs
 have h := hs
 unfold Xfr at h
 refine Xao (Xab ?_)
 iterate 4 refine kO hT hC ?_
 refine Vc.nil ?_
 refine kS h ?_ ?_ <;> intro b5 h
 refine kt b5 (Xaf (Xad (Xao (Xak (Xab ?_)))))
 iterate 2 refine kO hT hC ?_
 refine kQ hT hC h fun h => ?_
 iterate 2 refine kO hT hC ?_
 refine Vc.nil ?_
 refine kS h ?_ ?_ <;> intro b6 h
 refine kt b6 (Xab ?_)
 refine kO hT hC ?_
 refine Vc.nil (Xah (Xii (Xas ?_)))
 obtain rfl := kj h
 refine Yaq (Yap ?_)
 exact Xcl (Xkc.refl _) rfl trivial
 refine kf b6 (Xaf (Xan (Xad (Xac ?_))))
 iterate 3 refine kO hT hC ?_
 exact Vc.nil kG
 exact kf b5 (Xam (Xat kb))
 intro v4 e
 subst e
 refine Xad (Xab ?_)
 refine kO hT hC ?_
 exact Vc.nil (Xah kR)
 intro r' σ' e hE
 subst e
 obtain rfl := kj h
 refine Xas ?_
 exact hE
def Xuf (r : Int) : AV := .sv (.int .i64 r)
def Xue (r : Int) : Xa0 := []
theorem Xj3 {p0 r} (h : Xcp p0 = some r) : AC Tryz.prog 197 [.sv (.int .i64 p0)] [] (Xuf r) (Xue r) := by
 refine Xag hT Tryz.func197 rfl fun C hC => ?_
 unfold Xcp at h
 refine Xab ?_
 refine kO hT hC ?_
 refine Vc.nil (Xao (Xab ?_))
 iterate 2 refine kO hT hC ?_
 refine Vc.nil ?_
 refine kS h ?_ ?_ <;> intro b1 h
 refine kt b1 (Xab ?_)
 iterate 3 refine kO hT hC ?_
 exact Vc.nil (Xah (Xas kR))
 refine kf b1 (Xaf (Xad (Xab ?_)))
 iterate 2 refine kO hT hC ?_
 exact Vc.nil (Xah kR)
def Ya1 (r : Int) : AV := .sv (.int .i64 r)
def Ya0 (r : Int) : Xa0 := []
theorem Xsc {p0 p1 r} (h : Xki p0 p1 = some r) : AC Tryz.prog 147 [.sv (.ints .i64 p0), .sv (.ints .i64 p1)] [] (Ya1 r) (Ya0 r) := by
 refine Xag hT Tryz.func147 rfl fun C hC => ?_
 unfold Xki at h
 refine Xab ?_
 refine kO hT hC ?_
 refine Vc.nil (Xao ?_)
 refine kL [0,1] [] [_,_] [] ?_
 refine kA h (fun v1 => ([(14, .sv (.bool v1))], [])) (fun v1 h => ?_) fun v1 h => ?_
 refine Xac ?_
 refine kO hT hC ?_
 refine kC hC [] Tryz.call150 h (fun _ => Xbk) fun q2 h => ?_
 iterate 2 refine kO hT hC ?_
 refine kS h ?_ ?_ <;> intro b1 h
 refine kI hT hC (kn b1) ?_
 refine kE hC (kn b1) [] Tryz.call150 h (fun _ => Xbk) fun q3 h => ?_
 refine kI hT hC (kn b1) ?_
 refine kP hC false (kn b1) ?_
 exact Vc.nil kM
 iterate 3 refine kF hC (kn b1) ?_
 refine kP hC true (kn b1) ?_
 exact Vc.nil kM
 refine kS h ?_ ?_ <;> intro b2 h
 refine kt b2 (Xab ?_)
 refine kO hT hC ?_
 exact Vc.nil (Xah (Xas kR))
 refine kf b2 (Xaf (Xad (Xab ?_)))
 refine kO hT hC ?_
 refine Vc.nil (Xao (Xab ?_))
 refine kO hT hC ?_
 refine Vc.nil ?_
 refine kL [0,1,5,6] [] [_,_,_,_] [] ?_
 refine kX h (fun v6 => ([(5, .sv (.int .i64 v6.1)), (6, .sv (.int .i64 v6.2))], [])) (fun v9 => ([(5, .sv (.int .i64 v9)), (0, .any), (1, .any), (6, .any)], [])) (kW hC []) (fun v6 s h => ?_) fun v9 h => ?_
 unfold Xh4 at h
 refine Xao (Xab ?_)
 iterate 2 refine kO hT hC ?_
 refine Vc.nil ?_
 refine kS h ?_ ?_ <;> intro b5 h
 refine kt b5 (Xaf (Xad (Xao (Xak ?_))))
 refine Xdf hm ?_
 iterate 3 refine kO hT hC ?_
 refine kQ hT hC h fun h => ?_
 iterate 3 refine kO hT hC ?_
 refine kQ hT hC h fun h => ?_
 iterate 2 refine kO hT hC ?_
 refine kC hC [] Tryz.call197 h (fun _ => Xj3) fun q10 h => ?_
 iterate 2 refine kO hT hC ?_
 refine kD (Xan (Xad (Xac ?_)))
 iterate 3 refine kO hT hC ?_
 exact Vc.nil kG
 exact kf b5 (Xam (Xat ku))
 refine Xad (Xab ?_)
 iterate 2 refine kO hT hC ?_
 exact Vc.nil (Xah kR)
def Ybg (r : ByteArray) : AV := .sv (.str r)
def Ybf (r : ByteArray) : Xa0 := []
theorem Xso {p0 r} (h : Xi3 p0 = some r) : AC Tryz.prog 234 [.sv (.int .i64 p0)] [] (Ybg r) (Ybf r) := by
 refine Xag hT Tryz.func234 rfl fun C hC => ?_
 unfold Xi3 at h
 refine Xab ?_
 refine kO hT hC ?_
 refine kN ?_
 iterate 3 refine kO hT hC ?_
 refine kN ?_
 refine kO hT hC ?_
 refine Vc.nil (Xao ?_)
 refine kL [3,4] [] [_,_] [] ?_
 refine kX h (fun v2 => ([(3, .sv (.int .i64 v2.1)), (4, .sv (.str v2.2))], [])) (fun v4 => ([(4, .sv (.str v4)), (3, .any)], [])) (kW hC []) (fun v2 s h => ?_) fun v4 h => ?_
 unfold Xf8 at h
 refine Xao (Xab ?_)
 iterate 2 refine kO hT hC ?_
 refine Vc.nil ?_
 refine kS h ?_ ?_ <;> intro b3 h
 refine kt b3 (Xaf (Xad (Xak (Xab ?_))))
 refine kO hT hC ?_
 refine kQ hT hC h fun h => ?_
 iterate 5 refine kO hT hC ?_
 refine kQ hT hC h fun h => ?_
 refine kO hT hC ?_
 refine Vc.nil (Xac ?_)
 refine kO hT hC ?_
 refine kQ hT hC h fun h => ?_
 refine kO hT hC ?_
 exact Vc.nil (Xan kG)
 exact kf b3 (Xam (Xat ku))
 refine Xad (Xab ?_)
 iterate 3 refine kO hT hC ?_
 refine kC hC [] Tryz.call139 h (fun _ => Xzh) fun q6 h => ?_
 refine kO hT hC ?_
 refine kQ hT hC h fun h => ?_
 refine kO hT hC ?_
 exact Vc.nil (Xah kR)
def Ya8 (r : (ByteArray × Bool)) : AV := .tup [.sv (.str r.1), .sv (.bool r.2)]
def Ya7 (r : (ByteArray × Bool)) : Xa0 := []
theorem Ydx {p0 r} (h : Xmh p0 = some r) : AC Tryz.prog 198 [.sv (.int .i64 p0)] [] (Ya8 r) (Ya7 r) := by
 refine Xag hT Tryz.func198 rfl fun C hC => ?_
 unfold Xmh at h
 refine Xab ?_
 iterate 2 refine kO hT hC ?_
 refine Vc.nil (Xao (Xab ?_))
 refine kO hT hC ?_
 refine kC hC [] Tryz.call53 h (fun _ => Xal) fun q1 h => ?_
 refine kO hT hC ?_
 refine Vc.nil ?_
 refine kS h ?_ ?_ <;> intro b1 h
 refine kt b1 (Xab ?_)
 iterate 2 refine kO hT hC ?_
 exact Vc.nil (Xah (Xas kR))
 refine kf b1 (Xaf (Xad (Xab ?_)))
 refine kO hT hC ?_
 refine kC hC [] Tryz.call234 h (fun _ => Xso) fun q2 h => ?_
 iterate 2 refine kO hT hC ?_
 exact Vc.nil (Xah kR)
def Xzg (r : Int) : AV := .sv (.int .i64 r)
def Xzf (r : Int) : Xa0 := []
theorem Ya9 {p0 r} (h : Xfn p0 = some r) : AC Tryz.prog 148 [.sv (.int .i64 p0)] [] (Xzg r) (Xzf r) := by
 refine Xag hT Tryz.func148 rfl fun C hC => ?_
 unfold Xfn at h
 refine Xab ?_
 refine kO hT hC ?_
 refine kN ?_
 refine kO hT hC ?_
 refine kC hC [] Tryz.call198 h (fun _ => Ydx) fun q1 h => ?_
 iterate 5 refine kO hT hC ?_
 refine kN ?_
 iterate 3 refine kO hT hC ?_
 exact Vc.nil (Xah kR)
def Xr8 (r : (Int × Int)) : AV := .tup [.sv (.int .i64 r.1), .sv (.int .i64 r.2)]
def Xr7 (r : (Int × Int)) : Xa0 := []
theorem Xtz {p0 p1 r} (h : Xdi p0 p1 = some r) : AC Tryz.prog 101 [.sv (.ints .i64 p0), .agg [.sv (.ints .i64 p1.Above), .sv (.ints .i64 p1.Left), .sv (.int .i64 p1.Corner)]] [] (Xr8 r) (Xr7 r) := by
 refine Xag hT Tryz.func101 rfl fun C hC => ?_
 unfold Xdi at h
 refine Xab ?_
 iterate 3 refine kO hT hC ?_
 refine Vc.nil (Xao ?_)
 refine kL [0,3] [48] [_,_] [_] ?_
 refine kA h (fun v1 => ([(17, .sv (.bool v1))], [])) (fun v1 h => ?_) fun v1 h => ?_
 refine Xac ?_
 refine kO hT hC ?_
 refine kC hC [] Tryz.call146 h (fun _ => Xob) fun q2 h => ?_
 iterate 2 refine kO hT hC ?_
 refine kS h ?_ ?_ <;> intro b1 h
 refine kI hT hC (kn b1) ?_
 refine kE hC (kn b1) [] Tryz.call51 h (fun _ => Xid) fun q3 h => ?_
 refine kI hT hC (kn b1) ?_
 refine kP hC false (kn b1) ?_
 exact Vc.nil kM
 iterate 3 refine kF hC (kn b1) ?_
 refine kP hC true (kn b1) ?_
 exact Vc.nil kM
 refine kS h ?_ ?_ <;> intro b2 h
 refine kt b2 (Xab ?_)
 iterate 2 refine kO hT hC ?_
 exact Vc.nil (Xah (Xas kR))
 refine kf b2 (Xaf (Xad (Xab ?_)))
 refine kO hT hC ?_
 refine kN ?_
 refine kO hT hC ?_
 refine Vc.nil (Xao (Xab ?_))
 refine kO hT hC ?_
 refine Vc.nil ?_
 refine kL [0,3,6,7,8] [48] [_,_,_,_,_] [_] ?_
 refine kX h (fun v16 => ([(6, .sv (.int .i64 v16.1)), (7, .sv (.int .i64 v16.2.1)), (8, .sv (.int .i64 v16.2.2))], [])) (fun v23 => ([(6, .sv (.int .i64 v23.1)), (7, .sv (.int .i64 v23.2)), (0, .any), (3, .any), (8, .any)], [(48, none)])) (kW hC []) (fun v16 s h => ?_) fun v23 h => ?_
 unfold Xb5 at h
 refine Xao (Xab ?_)
 iterate 2 refine kO hT hC ?_
 refine Vc.nil ?_
 refine kS h ?_ ?_ <;> intro b12 h
 refine kt b12 (Xaf (Xad ?_))
 refine kL [0,3,6,7,8] [48] [_,_,_,_,_] [_] ?_
 refine kA h (fun v24 => ([(6, .sv (.int .i64 v24.1)), (7, .sv (.int .i64 v24.2))], [])) (fun v24 h => ?_) fun v24 h => ?_
 refine Xak (Xab ?_)
 iterate 3 refine kO hT hC ?_
 refine kC hC [(16, 400)] Tryz.call104 h (fun _ => Xky) fun q25 h => ?_
 refine kC hC [] Tryz.call147 h (fun _ => Xsc) fun q26 h => ?_
 refine kO hT hC ?_
 refine kC hC [] Tryz.call148 h (fun _ => Ya9) fun q27 h => ?_
 iterate 2 refine kO hT hC ?_
 refine Vc.nil ?_
 refine kL [0,3,6,7,8,9] [48] [_,_,_,_,_,_] [_] ?_
 refine kA h (fun v28 => ([(36, .sv (.bool v28))], [])) (fun v28 h => ?_) fun v28 h => ?_
 refine Xac ?_
 iterate 3 refine kO hT hC ?_
 refine kS h ?_ ?_ <;> intro b13 h
 iterate 3 refine kF hC b13 ?_
 refine kP hC true b13 ?_
 exact Vc.nil kM
 iterate 3 refine kI hT hC b13 ?_
 refine kP hC false b13 ?_
 exact Vc.nil kM
 refine kS h ?_ ?_ <;> intro b14 h
 refine kt b14 (Xab ?_)
 iterate 2 refine kO hT hC ?_
 refine Vc.nil (Xac ?_)
 iterate 2 refine kO hT hC ?_
 exact Vc.nil (Xan kM)
 exact kf b14 (Xaf (Xan kM))
 refine Xac ?_
 iterate 3 refine kO hT hC ?_
 exact Vc.nil kG
 exact kf b12 (Xam (Xat ku))
 refine Xad (Xab ?_)
 iterate 4 refine kO hT hC ?_
 exact Vc.nil (Xah kR)
def Xy0 (r : (Int × Bool)) : AV := .tup [.sv (.int .i64 r.1), .sv (.bool r.2)]
def Xyz (r : (Int × Bool)) : Xa0 := []
theorem Yay {p0 r} (h : Xkw p0 = some r) : AC Tryz.prog 254 [.sv (.int .i64 p0)] [] (Xy0 r) (Xyz r) := by
 refine Xag hT Tryz.func254 rfl fun C hC => ?_
 unfold Xkw at h
 refine Xab ?_
 iterate 2 refine kO hT hC ?_
 refine Vc.nil (Xao (Xab ?_))
 refine kO hT hC ?_
 refine kC hC [] Tryz.call53 h (fun _ => Xal) fun q1 h => ?_
 refine kO hT hC ?_
 refine Vc.nil ?_
 refine kS h ?_ ?_ <;> intro b1 h
 refine kt b1 (Xab ?_)
 iterate 2 refine kO hT hC ?_
 exact Vc.nil (Xah (Xas kR))
 refine kf b1 (Xaf (Xad (Xao (Xab ?_))))
 iterate 2 refine kO hT hC ?_
 refine Vc.nil ?_
 refine kS h ?_ ?_ <;> intro b2 h
 refine kt b2 (Xab ?_)
 iterate 5 refine kO hT hC ?_
 exact Vc.nil (Xah (Xas kR))
 refine kf b2 (Xaf (Xad (Xab ?_)))
 iterate 4 refine kO hT hC ?_
 exact Vc.nil (Xah kR)
def Ybe (r : ByteArray) : AV := .sv (.str r)
def Ybd (r : ByteArray) : Xa0 := []
theorem Ydy {p0 r} (h : Xmi p0 = some r) : AC Tryz.prog 235 [.sv (.int .i64 p0)] [] (Ybe r) (Ybd r) := by
 refine Xag hT Tryz.func235 rfl fun C hC => ?_
 unfold Xmi at h
 refine Xab ?_
 refine kO hT hC ?_
 refine kN ?_
 refine kO hT hC ?_
 refine kC hC [] Tryz.call254 h (fun _ => Yay) fun q1 h => ?_
 iterate 5 refine kO hT hC ?_
 refine kN ?_
 refine kO hT hC ?_
 refine kC hC [] Tryz.call234 h (fun _ => Xso) fun q2 h => ?_
 refine kO hT hC ?_
 exact Vc.nil (Xah kR)
def Ya5 (r : (ByteArray × Bool)) : AV := .tup [.sv (.str r.1), .sv (.bool r.2)]
def Ya4 (r : (ByteArray × Bool)) : Xa0 := []
theorem Ydw {p0 r} (h : Xoy p0 = some r) : AC Tryz.prog 199 [.sv (.int .i64 p0)] [] (Ya5 r) (Ya4 r) := by
 refine Xag hT Tryz.func199 rfl fun C hC => ?_
 unfold Xoy at h
 refine Xab ?_
 iterate 2 refine kO hT hC ?_
 refine Vc.nil (Xao (Xab ?_))
 refine kO hT hC ?_
 refine kC hC [] Tryz.call53 h (fun _ => Xal) fun q1 h => ?_
 refine kO hT hC ?_
 refine Vc.nil ?_
 refine kS h ?_ ?_ <;> intro b1 h
 refine kt b1 (Xab ?_)
 iterate 2 refine kO hT hC ?_
 exact Vc.nil (Xah (Xas kR))
 refine kf b1 (Xaf (Xad (Xab ?_)))
 refine kO hT hC ?_
 refine kC hC [] Tryz.call235 h (fun _ => Ydy) fun q2 h => ?_
 iterate 2 refine kO hT hC ?_
 exact Vc.nil (Xah kR)
def Xy8 (r : Int) : AV := .sv (.int .i64 r)
def Xy7 (r : Int) : Xa0 := []
theorem Xpj {p0 r} (h : Xi1 p0 = some r) : AC Tryz.prog 149 [.sv (.int .i64 p0)] [] (Xy8 r) (Xy7 r) := by
 refine Xag hT Tryz.func149 rfl fun C hC => ?_
 unfold Xi1 at h
 refine Xab ?_
 refine kO hT hC ?_
 refine kN ?_
 refine kO hT hC ?_
 refine kC hC [] Tryz.call199 h (fun _ => Ydw) fun q1 h => ?_
 iterate 5 refine kO hT hC ?_
 refine kN ?_
 iterate 3 refine kO hT hC ?_
 exact Vc.nil (Xah kR)
def Xt2 (r : (Int × Int × Int)) : AV := .tup [.sv (.int .i64 r.1), .sv (.int .i64 r.2.1), .sv (.int .i64 r.2.2)]
def Xt1 (r : (Int × Int × Int)) : Xa0 := []
theorem Xvs {p0 p1 p2 p3 p4 r} (h : Xf4 p0 p1 p2 p3 p4 = some r) : AC Tryz.prog 102 [.agg [.sv (.int .i64 p0.Wide), .sv (.int .i64 p0.High), .sv (.str p0.Dots)], .sv (.ints .i64 p1), .sv (.int .i64 p2), .sv (.int .i64 p3), .sv (.int .i64 p4)] [] (Xt2 r) (Xt1 r) := by
 refine Xag hT Tryz.func102 rfl fun C hC => ?_
 unfold Xf4 at h
 refine Xab ?_
 iterate 4 refine kO hT hC ?_
 refine kN ?_
 refine kO hT hC ?_
 refine kN ?_
 refine kO hT hC ?_
 refine kN ?_
 refine kO hT hC ?_
 refine Vc.nil (Xao ?_)
 refine kL [1,2,3,4,5,13,14,15] [80] [_,_,_,_,_,_,_,_] [_] ?_
 refine kA h (fun v1 => ([(33, .sv (.bool v1))], [])) (fun v1 h => ?_) fun v1 h => ?_
 refine Xac ?_
 refine kO hT hC ?_
 refine kC hC [] Tryz.call51 h (fun _ => Xid) fun q2 h => ?_
 iterate 2 refine kO hT hC ?_
 refine kS h ?_ ?_ <;> intro b1 h
 refine kI hT hC (kn b1) ?_
 refine kE hC (kn b1) [] Tryz.call53 h (fun _ => Xal) fun q3 h => ?_
 refine kI hT hC (kn b1) ?_
 refine kP hC false (kn b1) ?_
 refine kO hT hC ?_
 refine kS h ?_ ?_ <;> intro b2 h
 iterate 3 refine kI hT hC (kn b2) ?_
 refine kE hC (kn b2) [] Tryz.call50 h (fun _ => Xie) fun q4 h => ?_
 refine kI hT hC (kn b2) ?_
 refine kP hC false (kn b2) ?_
 exact Vc.nil kM
 iterate 5 refine kF hC (kn b2) ?_
 refine kP hC true (kn b2) ?_
 exact Vc.nil kM
 iterate 3 refine kF hC (kn b1) ?_
 refine kP hC true (kn b1) ?_
 refine kO hT hC ?_
 iterate 5 refine kF hC rfl ?_
 refine kO hT hC ?_
 exact Vc.nil kM
 refine kS h ?_ ?_ <;> intro b3 h
 refine kt b3 (Xab ?_)
 iterate 3 refine kO hT hC ?_
 exact Vc.nil (Xah (Xas kR))
 refine kf b3 (Xaf (Xad (Xao (Xab ?_))))
 iterate 3 refine kO hT hC ?_
 refine Vc.nil ?_
 refine kL [1,2,3,4,5,13,14,15,16] [80] [_,_,_,_,_,_,_,_,_] [_] ?_
 refine kX h (fun v32 => ([(13, .sv (.int .i64 v32.1)), (14, .sv (.int .i64 v32.2.1)), (15, .sv (.int .i64 v32.2.2.1)), (16, .sv (.int .i64 v32.2.2.2))], [])) (fun v60 => ([(13, .sv (.int .i64 v60.1)), (14, .sv (.int .i64 v60.2.1)), (15, .sv (.int .i64 v60.2.2)), (1, .any), (2, .any), (3, .any), (4, .any), (5, .any), (16, .any)], [(80, none)])) (kW hC []) (fun v32 s h => ?_) fun v60 h => ?_
 unfold Xf5 at h
 refine Xao (Xab ?_)
 iterate 3 refine kO hT hC ?_
 refine Vc.nil ?_
 refine kS h ?_ ?_ <;> intro b30 h
 refine kt b30 (Xaf (Xad (Xao (Xak (Xab ?_)))))
 iterate 3 refine kO hT hC ?_
 refine Vc.nil ?_
 refine kL [1,2,3,4,5,13,14,15,16,17] [80] [_,_,_,_,_,_,_,_,_,_] [_] ?_
 refine kX h (fun v69 => ([(13, .sv (.int .i64 v69.1)), (14, .sv (.int .i64 v69.2.1)), (15, .sv (.int .i64 v69.2.2.1)), (17, .sv (.int .i64 v69.2.2.2))], [])) (fun v78 => ([(13, .sv (.int .i64 v78.1)), (14, .sv (.int .i64 v78.2.1)), (15, .sv (.int .i64 v78.2.2)), (17, .any)], [])) (kW hC []) (fun v69 s h => ?_) fun v78 h => ?_
 unfold Xf6 at h
 refine Xao (Xab ?_)
 iterate 3 refine kO hT hC ?_
 refine Vc.nil ?_
 refine kS h ?_ ?_ <;> intro b39 h
 refine kt b39 (Xaf (Xad ?_))
 refine kL [1,2,3,4,5,13,14,15,16,17] [80] [_,_,_,_,_,_,_,_,_,_] [_] ?_
 refine kA h (fun v79 => ([(13, .sv (.int .i64 v79.1)), (14, .sv (.int .i64 v79.2.1)), (15, .sv (.int .i64 v79.2.2))], [])) (fun v79 h => ?_) fun v79 h => ?_
 refine Xak (Xao (Xab ?_))
 iterate 7 refine kO hT hC ?_
 refine kC hC [] Tryz.call86 h (fun _ => Xml) fun q80 h => ?_
 refine kO hT hC ?_
 refine Vc.nil ?_
 refine kS h ?_ ?_ <;> intro b40 h
 exact kt b40 (Xam (Xat (Yed kM)))
 refine kf b40 (Xaf (Xad (Xab ?_)))
 iterate 8 refine kO hT hC ?_
 refine kC hC [(16, 1040)] Tryz.call99 h (fun _ => Xh0) fun q81 h => ?_
 refine kC hC [] Tryz.call147 h (fun _ => Xsc) fun q82 h => ?_
 refine kO hT hC ?_
 refine kC hC [] Tryz.call149 h (fun _ => Xpj) fun q83 h => ?_
 iterate 2 refine kO hT hC ?_
 refine kC hC [] Tryz.call149 h (fun _ => Xpj) fun q84 h => ?_
 iterate 2 refine kO hT hC ?_
 refine Vc.nil ?_
 refine kL [1,2,3,4,5,13,14,15,16,17,18] [80] [_,_,_,_,_,_,_,_,_,_,_] [_] ?_
 refine kA h (fun v85 => ([(79, .sv (.bool v85))], [])) (fun v85 h => ?_) fun v85 h => ?_
 refine Xac ?_
 iterate 3 refine kO hT hC ?_
 refine kS h ?_ ?_ <;> intro b41 h
 iterate 3 refine kF hC b41 ?_
 refine kP hC true b41 ?_
 exact Vc.nil kM
 iterate 3 refine kI hT hC b41 ?_
 refine kP hC false b41 ?_
 exact Vc.nil kM
 refine kS h ?_ ?_ <;> intro b42 h
 refine kt b42 (Xab ?_)
 iterate 2 refine kO hT hC ?_
 refine kN ?_
 iterate 2 refine kO hT hC ?_
 refine Vc.nil (Xac ?_)
 iterate 2 refine kO hT hC ?_
 exact Vc.nil (Xan kM)
 exact kf b42 (Xaf (Xan kM))
 refine Xac ?_
 iterate 3 refine kO hT hC ?_
 exact Vc.nil kG
 exact kf b39 (Xam (Xat ku))
 refine Xan (Xad (Xac ?_))
 iterate 3 refine kO hT hC ?_
 exact Vc.nil kG
 exact kf b30 (Xam (Xat ku))
 refine Xad (Xab ?_)
 iterate 6 refine kO hT hC ?_
 exact Vc.nil (Xah kR)
def Xv7 (r : ((List Int) × Bool)) : AV := .tup [.own 16, .sv (.bool r.2)]
def Xv6 (r : ((List Int) × Bool)) : Xa0 := [(16, .ints .i64 r.1)]
theorem Xk2 {p0 p1 r} (h : Xdd p0 p1 = some r) : AC Tryz.prog 151 [.sv (.int .i64 p0), .sv (.ints .i64 p1)] [] (Xv7 r) (Xv6 r) := by
 refine Xag hT Tryz.func151 rfl fun C hC => ?_
 unfold Xdd at h
 refine Xab ?_
 iterate 2 refine kO hT hC ?_
 refine kN ?_
 iterate 2 refine kO hT hC ?_
 refine Vc.nil (Xao ?_)
 refine kL [0,1,6] [128] [_,_,_] [_] ?_
 refine kA h (fun v1 => ([(22, .sv (.bool v1))], [])) (fun v1 h => ?_) fun v1 h => ?_
 refine Xac ?_
 iterate 3 refine kO hT hC ?_
 refine kS h ?_ ?_ <;> intro b1 h
 iterate 2 refine kI hT hC b1 ?_
 refine kP hC true b1 ?_
 refine kO hT hC ?_
 refine kS h ?_ ?_ <;> intro b2 h
 iterate 6 refine kF hC b2 ?_
 refine kP hC true b2 ?_
 exact Vc.nil kM
 iterate 6 refine kI hT hC b2 ?_
 refine kP hC false b2 ?_
 exact Vc.nil kM
 iterate 2 refine kF hC b1 ?_
 refine kP hC false b1 ?_
 refine kO hT hC ?_
 iterate 6 refine kI hT hC rfl ?_
 refine kO hT hC ?_
 exact Vc.nil kM
 refine kS h ?_ ?_ <;> intro b3 h
 refine kt b3 (Xab ?_)
 iterate 3 refine kO hT hC ?_
 refine Vc.nil (Xah (Xas ?_))
 obtain rfl := kj h
 exact Xcl (τ := ⟨[(4, .own 16), (5, .sv (.bool false))], [(16, some (.ints .i64 ([] : List Int)))]⟩) (kW hC [(16, 128)]) rfl ⟨rfl, trivial⟩
 refine kf b3 (Xaf (Xad (Xao (Xab ?_))))
 refine kO hT hC ?_
 refine Vc.nil ?_
 refine kL [0,1,6,7] [128] [_,_,_,_] [_] ?_
 refine kX h (fun v4 => ([(7, .sv (.int .i64 v4.1))], [(128, some (.ints .i64 v4.2))])) (fun v7 => ([(0, .any), (1, .any), (7, .any)], [(128, some (.ints .i64 v7))])) (kW hC []) (fun v4 s h => ?_) fun v7 h => ?_
 unfold Xce at h
 refine Xao (Xab ?_)
 iterate 5 refine kO hT hC ?_
 refine Vc.nil ?_
 refine kS h ?_ ?_ <;> intro b6 h
 refine kt b6 (Xaf (Xad (Xao (Xak (Xac ?_)))))
 iterate 4 refine kO hT hC ?_
 refine kC hC [] Tryz.call200 h (fun _ => Xpi) fun q8 h => ?_
 refine kQ hT hC h fun h => ?_
 iterate 2 refine kO hT hC ?_
 refine kT hT hC h fun h => ?_
 refine kO hT hC ?_
 refine Vc.nil (Xan (Xad (Xac ?_)))
 iterate 3 refine kO hT hC ?_
 refine Vc.nil ?_
 obtain rfl := kj h
 exact Yby (kW hC [(128, 624)])
 exact kf b6 (Xam (Xat ku))
 refine Xad (Xab ?_)
 iterate 3 refine kO hT hC ?_
 refine Vc.nil (Xah ?_)
 obtain rfl := kj h
 exact Xcl (τ := ⟨[(4, .own 16), (5, .sv (.bool true))], [(16, some (.ints .i64 v7))]⟩) (kW hC [(16, 128)]) rfl ⟨rfl, trivial⟩
def Yax (r : (List Int)) : AV := .own 16
def Yaw (r : (List Int)) : Xa0 := [(16, .ints .i64 r)]
theorem Ydt {p0 r} (h : Xiz p0 = some r) : AC Tryz.prog 152 [.sv (.ints .i64 p0)] [] (Yax r) (Yaw r) := by
 refine Xag hT Tryz.func152 rfl fun C hC => ?_
 unfold Xiz at h
 refine Xab ?_
 refine kO hT hC ?_
 refine Vc.nil (Xao (Xab ?_))
 refine kO hT hC ?_
 refine kC hC [] Tryz.call150 h (fun _ => Xbk) fun q1 h => ?_
 refine kO hT hC ?_
 refine Vc.nil ?_
 refine kS h ?_ ?_ <;> intro b1 h
 refine kt b1 (Xab ?_)
 iterate 2 refine kO hT hC ?_
 refine Vc.nil (Xah (Xas ?_))
 obtain rfl := kj h
 exact Xcl (τ := ⟨[(2, .own 16)], [(16, some (.ints .i64 ([] : List Int)))]⟩) (kW hC [(16, 96)]) rfl ⟨rfl, trivial⟩
 refine kf b1 (Xaf (Xad (Xab ?_)))
 refine kO hT hC ?_
 refine kC hC [(16, 128)] Tryz.call201 h (fun _ => Xoh) fun q2 h => ?_
 refine kO hT hC ?_
 refine Vc.nil (Xah ?_)
 obtain rfl := kj h
 exact Xcl (τ := ⟨[(2, .own 16)], [(16, some (.ints .i64 q2))]⟩) (kW hC [(16, 128)]) rfl ⟨rfl, trivial⟩
def Xsq (r : Int) : AV := .sv (.int .i64 r)
def Xsp (r : Int) : Xa0 := []
theorem Xmj {p0 p1 r} (h : Xdo p0 p1 = some r) : AC Tryz.prog 203 [.sv (.int .i64 p0), .sv (.int .i64 p1)] [] (Xsq r) (Xsp r) := by
 refine Xag hT Tryz.func203 rfl fun C hC => ?_
 unfold Xdo at h
 refine Xab ?_
 refine kO hT hC ?_
 refine Vc.nil (Xao (Xab ?_))
 iterate 2 refine kO hT hC ?_
 refine Vc.nil ?_
 refine kS h ?_ ?_ <;> intro b1 h
 refine kt b1 (Xab ?_)
 iterate 3 refine kO hT hC ?_
 exact Vc.nil (Xah (Xas kR))
 refine kf b1 (Xaf (Xad (Xab ?_)))
 iterate 2 refine kO hT hC ?_
 exact Vc.nil (Xah kR)
def Xqj (r : Int) : AV := .sv (.int .i64 r)
def Xqi (r : Int) : Xa0 := []
theorem Xsf {p0 p1 r} (h : Xcz p0 p1 = some r) : AC Tryz.prog 153 [.sv (.int .i64 p0), .sv (.int .i64 p1)] [] (Xqj r) (Xqi r) := by
 refine Xag hT Tryz.func153 rfl fun C hC => ?_
 unfold Xcz at h
 refine Xab ?_
 refine kO hT hC ?_
 refine Vc.nil (Xao ?_)
 refine kL [0,1] [] [_,_] [] ?_
 refine kA h (fun v1 => ([(13, .sv (.bool v1))], [])) (fun v1 h => ?_) fun v1 h => ?_
 refine Xac ?_
 refine kO hT hC ?_
 refine kC hC [] Tryz.call53 h (fun _ => Xal) fun q2 h => ?_
 iterate 2 refine kO hT hC ?_
 refine kS h ?_ ?_ <;> intro b1 h
 refine kI hT hC (kn b1) ?_
 refine kE hC (kn b1) [] Tryz.call53 h (fun _ => Xal) fun q3 h => ?_
 refine kI hT hC (kn b1) ?_
 refine kP hC false (kn b1) ?_
 exact Vc.nil kM
 iterate 3 refine kF hC (kn b1) ?_
 refine kP hC true (kn b1) ?_
 exact Vc.nil kM
 refine kS h ?_ ?_ <;> intro b2 h
 refine kt b2 (Xab ?_)
 refine kO hT hC ?_
 exact Vc.nil (Xah (Xas kR))
 refine kf b2 (Xaf (Xad (Xab ?_)))
 refine kO hT hC ?_
 refine kC hC [] Tryz.call202 h (fun _ => Xpo) fun q4 h => ?_
 refine kO hT hC ?_
 refine kN ?_
 iterate 2 refine kO hT hC ?_
 refine kC hC [] Tryz.call197 h (fun _ => Xj3) fun q5 h => ?_
 refine kO hT hC ?_
 refine kQ hT hC h fun h => ?_
 iterate 2 refine kO hT hC ?_
 refine kQ hT hC h fun h => ?_
 refine kC hC [] Tryz.call203 h (fun _ => Xmj) fun q6 h => ?_
 refine kO hT hC ?_
 exact Vc.nil (Xah kR)
def Xqr (r : (List Int)) : AV := .own 16
def Xqq (r : (List Int)) : Xa0 := [(16, .ints .i64 r)]
theorem Xsv {p0 p1 r} (h : Xc2 p0 p1 = some r) : AC Tryz.prog 155 [.sv (.ints .i64 p0), .sv (.int .i64 p1)] [] (Xqr r) (Xqq r) := by
 refine Xag hT Tryz.func155 rfl fun C hC => ?_
 unfold Xc2 at h
 refine Xab ?_
 refine kO hT hC ?_
 refine kN ?_
 iterate 2 refine kO hT hC ?_
 refine Vc.nil (Xao (Xab ?_))
 refine kO hT hC ?_
 refine Vc.nil ?_
 refine kL [0,1,5,6] [112] [_,_,_,_] [_] ?_
 refine kX h (fun v2 => ([(6, .sv (.int .i64 v2.1))], [(112, some (.ints .i64 v2.2))])) (fun v4 => ([(0, .any), (1, .any), (6, .any)], [(112, some (.ints .i64 v4))])) (kW hC []) (fun v2 s h => ?_) fun v4 h => ?_
 unfold Xbb at h
 refine Xao (Xab ?_)
 iterate 2 refine kO hT hC ?_
 refine Vc.nil ?_
 refine kS h ?_ ?_ <;> intro b3 h
 refine kt b3 (Xaf (Xad (Xao (Xak (Xac ?_)))))
 iterate 3 refine kO hT hC ?_
 refine kQ hT hC h fun h => ?_
 iterate 2 refine kO hT hC ?_
 refine kQ hT hC h fun h => ?_
 iterate 3 refine kO hT hC ?_
 refine kQ hT hC h fun h => ?_
 iterate 3 refine kO hT hC ?_
 refine kQ hT hC h fun h => ?_
 refine kO hT hC ?_
 refine kQ hT hC h fun h => ?_
 iterate 2 refine kO hT hC ?_
 refine kT hT hC h fun h => ?_
 refine kO hT hC ?_
 refine Vc.nil (Xan (Xad (Xac ?_)))
 iterate 3 refine kO hT hC ?_
 refine Vc.nil ?_
 obtain rfl := kj h
 exact Yby (kW hC [(112, 496)])
 exact kf b3 (Xam (Xat ku))
 refine Xad (Xab ?_)
 iterate 2 refine kO hT hC ?_
 refine Vc.nil (Xah ?_)
 obtain rfl := kj h
 exact Xcl (τ := ⟨[(4, .own 16)], [(16, some (.ints .i64 v4))]⟩) (kW hC [(16, 112)]) rfl ⟨rfl, trivial⟩
def Xwl (r : (List Int)) : AV := .own 16
def Xwk (r : (List Int)) : Xa0 := [(16, .ints .i64 r)]
theorem Xoe {p0 r} (h : Xea p0 = some r) : AC Tryz.prog 205 [.sv (.ints .i64 p0)] [] (Xwl r) (Xwk r) := by
 refine Xag hT Tryz.func205 rfl fun C hC => ?_
 unfold Xea at h
 refine Xab ?_
 refine kO hT hC ?_
 refine kN ?_
 iterate 2 refine kO hT hC ?_
 refine Vc.nil (Xao (Xab ?_))
 refine kO hT hC ?_
 refine Vc.nil ?_
 refine kL [0,3,4] [144] [_,_,_] [_] ?_
 refine kX h (fun v2 => ([(4, .sv (.int .i64 v2.1))], [(144, some (.ints .i64 v2.2))])) (fun v4 => ([(0, .any), (4, .any)], [(144, some (.ints .i64 v4))])) (kW hC []) (fun v2 s h => ?_) fun v4 h => ?_
 unfold Xcg at h
 refine Xao (Xab ?_)
 iterate 2 refine kO hT hC ?_
 refine Vc.nil ?_
 refine kS h ?_ ?_ <;> intro b3 h
 refine kt b3 (Xaf (Xad (Xao (Xak (Xab ?_)))))
 iterate 3 refine kO hT hC ?_
 refine kQ hT hC h fun h => ?_
 iterate 2 refine kO hT hC ?_
 refine kN ?_
 iterate 4 refine kO hT hC ?_
 refine kQ hT hC h fun h => ?_
 iterate 2 refine kO hT hC ?_
 refine kN ?_
 iterate 4 refine kO hT hC ?_
 refine kQ hT hC h fun h => ?_
 iterate 2 refine kO hT hC ?_
 refine kN ?_
 iterate 4 refine kO hT hC ?_
 refine kQ hT hC h fun h => ?_
 iterate 2 refine kO hT hC ?_
 refine Vc.nil (Xac ?_)
 iterate 34 refine kO hT hC ?_
 refine kT hT hC h fun h => ?_
 refine kO hT hC ?_
 refine Vc.nil (Xan (Xad (Xac ?_)))
 iterate 3 refine kO hT hC ?_
 refine Vc.nil ?_
 obtain rfl := kj h
 exact Yby (kW hC [(144, 1136)])
 exact kf b3 (Xam (Xat ku))
 refine Xad (Xab ?_)
 iterate 2 refine kO hT hC ?_
 refine Vc.nil (Xah ?_)
 obtain rfl := kj h
 exact Xcl (τ := ⟨[(2, .own 16)], [(16, some (.ints .i64 v4))]⟩) (kW hC [(16, 144)]) rfl ⟨rfl, trivial⟩
def Ydv (r : (List Int)) : AV := .own 16
def Ydu (r : (List Int)) : Xa0 := [(16, .ints .i64 r)]
theorem Yfp {p0 r} (h : Xkx p0 = some r) : AC Tryz.prog 154 [.sv (.ints .i64 p0)] [] (Ydv r) (Ydu r) := by
 refine Xag hT Tryz.func154 rfl fun C hC => ?_
 unfold Xkx at h
 refine Xab ?_
 refine kO hT hC ?_
 refine Vc.nil (Xao (Xab ?_))
 refine kO hT hC ?_
 refine kC hC [] Tryz.call150 h (fun _ => Xbk) fun q1 h => ?_
 refine kO hT hC ?_
 refine Vc.nil ?_
 refine kS h ?_ ?_ <;> intro b1 h
 refine kt b1 (Xab ?_)
 iterate 2 refine kO hT hC ?_
 refine Vc.nil (Xah (Xas ?_))
 obtain rfl := kj h
 exact Xcl (τ := ⟨[(2, .own 16)], [(16, some (.ints .i64 ([] : List Int)))]⟩) (kW hC [(16, 96)]) rfl ⟨rfl, trivial⟩
 refine kf b1 (Xaf (Xad (Xab ?_)))
 refine kO hT hC ?_
 refine kC hC [(16, 128)] Tryz.call205 h (fun _ => Xoe) fun q2 h => ?_
 refine kC hC [(16, 144)] Tryz.call204 h (fun _ => Xia) fun q3 h => ?_
 refine kC hC [(16, 160)] Tryz.call205 h (fun _ => Xoe) fun q4 h => ?_
 refine kC hC [(16, 176)] Tryz.call204 h (fun _ => Xia) fun q5 h => ?_
 refine kO hT hC ?_
 refine Vc.nil (Xah ?_)
 obtain rfl := kj h
 exact Xcl (τ := ⟨[(2, .own 16)], [(16, some (.ints .i64 q5))]⟩) (kW hC [(16, 176)]) rfl ⟨rfl, trivial⟩
def Xv9 (r : Int) : AV := .sv (.int .i64 r)
def Xv8 (r : Int) : Xa0 := []
theorem Xy9 {p0 p1 r} (h : Xfk p0 p1 = some r) : AC Tryz.prog 206 [.sv (.int .i64 p0), .sv (.int .i64 p1)] [] (Xv9 r) (Xv8 r) := by
 refine Xag hT Tryz.func206 rfl fun C hC => ?_
 unfold Xfk at h
 refine Xab ?_
 refine kO hT hC ?_
 refine kN ?_
 refine kO hT hC ?_
 refine kC hC [] Tryz.call238 h (fun _ => Xph) fun q1 h => ?_
 refine kO hT hC ?_
 refine Vc.nil (Xao ?_)
 refine kL [0,5] [] [_,_] [] ?_
 refine kA h (fun v2 => ([(14, .sv (.bool v2))], [])) (fun v2 h => ?_) fun v2 h => ?_
 refine Xac ?_
 refine kO hT hC ?_
 refine kC hC [] Tryz.call53 h (fun _ => Xal) fun q3 h => ?_
 iterate 2 refine kO hT hC ?_
 refine kS h ?_ ?_ <;> intro b1 h
 iterate 2 refine kI hT hC (kn b1) ?_
 refine kP hC false (kn b1) ?_
 exact Vc.nil kM
 iterate 2 refine kF hC (kn b1) ?_
 refine kP hC true (kn b1) ?_
 exact Vc.nil kM
 refine kS h ?_ ?_ <;> intro b2 h
 refine kt b2 (Xab ?_)
 refine kO hT hC ?_
 exact Vc.nil (Xah (Xas kR))
 refine kf b2 (Xaf (Xad (Xao (Xab ?_))))
 refine kO hT hC ?_
 refine kQ hT hC h fun h => ?_
 refine Vc.nil (Xak (Xab ?_))
 iterate 2 refine kO hT hC ?_
 refine Vc.nil ?_
 refine kS h ?_ ?_ <;> intro b3 h
 refine kt b3 (Xab ?_)
 refine kO hT hC ?_
 refine kC hC [] Tryz.call239 h (fun _ => Xa8) fun q4 h => ?_
 refine kO hT hC ?_
 exact Vc.nil (Xah (Xii (Xas kR)))
 refine kf b3 (Xab ?_)
 iterate 2 refine kO hT hC ?_
 refine Vc.nil ?_
 refine kS h ?_ ?_ <;> intro b4 h
 refine kt b4 (Xab ?_)
 refine kO hT hC ?_
 refine kC hC [] Tryz.call239 h (fun _ => Xa8) fun q5 h => ?_
 refine kO hT hC ?_
 exact Vc.nil (Xah (Xii (Xas kR)))
 refine kf b4 (Xab ?_)
 iterate 2 refine kO hT hC ?_
 refine Vc.nil ?_
 refine kS h ?_ ?_ <;> intro b5 h
 refine kt b5 (Xab ?_)
 refine kO hT hC ?_
 refine kC hC [] Tryz.call239 h (fun _ => Xa8) fun q6 h => ?_
 refine kO hT hC ?_
 exact Vc.nil (Xah (Xii (Xas kR)))
 refine kf b5 (Xab ?_)
 iterate 2 refine kO hT hC ?_
 refine Vc.nil ?_
 refine kS h ?_ ?_ <;> intro b6 h
 refine kt b6 (Xab ?_)
 refine kO hT hC ?_
 refine kC hC [] Tryz.call239 h (fun _ => Xa8) fun q7 h => ?_
 refine kO hT hC ?_
 exact Vc.nil (Xah (Xii (Xas kR)))
 refine kf b6 (Xab ?_)
 iterate 2 refine kO hT hC ?_
 refine Vc.nil ?_
 refine kS h ?_ ?_ <;> intro b7 h
 refine kt b7 (Xab ?_)
 refine kO hT hC ?_
 refine kC hC [] Tryz.call239 h (fun _ => Xa8) fun q8 h => ?_
 refine kO hT hC ?_
 exact Vc.nil (Xah (Xii (Xas kR)))
 refine kf b7 (Xaf (Xan (Xad (Xab ?_))))
 refine kO hT hC ?_
 refine kC hC [] Tryz.call239 h (fun _ => Xa8) fun q9 h => ?_
 refine kO hT hC ?_
 exact Vc.nil (Xah kR)
def Xqn (r : Int) : AV := .sv (.int .i64 r)
def Xqm (r : Int) : Xa0 := []
theorem Xsi {p0 p1 p2 r} (h : Xc1 p0 p1 p2 = some r) : AC Tryz.prog 156 [.sv (.int .i64 p0), .sv (.int .i64 p1), .sv (.int .i64 p2)] [] (Xqn r) (Xqm r) := by
 refine Xag hT Tryz.func156 rfl fun C hC => ?_
 unfold Xc1 at h
 refine Xab ?_
 refine kO hT hC ?_
 refine Vc.nil (Xao ?_)
 refine kL [0,1,2] [] [_,_,_] [] ?_
 refine kA h (fun v1 => ([(20, .sv (.bool v1))], [])) (fun v1 h => ?_) fun v1 h => ?_
 refine Xac ?_
 refine kO hT hC ?_
 refine kC hC [] Tryz.call53 h (fun _ => Xal) fun q2 h => ?_
 iterate 2 refine kO hT hC ?_
 refine kS h ?_ ?_ <;> intro b1 h
 refine kI hT hC (kn b1) ?_
 refine kE hC (kn b1) [] Tryz.call53 h (fun _ => Xal) fun q3 h => ?_
 refine kI hT hC (kn b1) ?_
 refine kP hC false (kn b1) ?_
 refine kO hT hC ?_
 refine kS h ?_ ?_ <;> intro b2 h
 refine kI hT hC (kn b2) ?_
 refine kE hC (kn b2) [] Tryz.call53 h (fun _ => Xal) fun q4 h => ?_
 refine kI hT hC (kn b2) ?_
 refine kP hC false (kn b2) ?_
 exact Vc.nil kM
 iterate 3 refine kF hC (kn b2) ?_
 refine kP hC true (kn b2) ?_
 exact Vc.nil kM
 iterate 3 refine kF hC (kn b1) ?_
 refine kP hC true (kn b1) ?_
 refine kO hT hC ?_
 iterate 3 refine kF hC rfl ?_
 refine kO hT hC ?_
 exact Vc.nil kM
 refine kS h ?_ ?_ <;> intro b3 h
 refine kt b3 (Xab ?_)
 refine kO hT hC ?_
 exact Vc.nil (Xah (Xas kR))
 refine kf b3 (Xaf (Xad (Xab ?_)))
 refine kO hT hC ?_
 refine kQ hT hC h fun h => ?_
 iterate 2 refine kO hT hC ?_
 refine kQ hT hC h fun h => ?_
 refine kO hT hC ?_
 refine kN ?_
 iterate 2 refine kO hT hC ?_
 refine kC hC [] Tryz.call197 h (fun _ => Xj3) fun q5 h => ?_
 iterate 2 refine kO hT hC ?_
 refine kC hC [] Tryz.call206 h (fun _ => Xy9) fun q6 h => ?_
 iterate 2 refine kO hT hC ?_
 refine kQ hT hC h fun h => ?_
 iterate 2 refine kO hT hC ?_
 refine kQ hT hC h fun h => ?_
 refine kC hC [] Tryz.call203 h (fun _ => Xmj) fun q7 h => ?_
 refine kO hT hC ?_
 exact Vc.nil (Xah kR)
def Xt9 (r : ((List Int) × Bool)) : AV := .tup [.own 16, .sv (.bool r.2)]
def Xt8 (r : ((List Int) × Bool)) : Xa0 := [(16, .ints .i64 r.1)]
theorem Xng {p0 p1 r} (h : Xbu p0 p1 = some r) : AC Tryz.prog 103 [.sv (.ints .i64 p0), .agg [.sv (.bool p1.Key), .sv (.int .i64 p1.Qp), .sv (.bool p1.Large), .sv (.bool p1.Exact)]] [] (Xt9 r) (Xt8 r) := by
 refine Xag hT Tryz.func103 rfl fun C hC => ?_
 unfold Xbu at h
 refine Xab ?_
 iterate 3 refine kO hT hC ?_
 refine Vc.nil (Xao ?_)
 refine kL [0,3] [48] [_,_] [_] ?_
 refine kA h (fun v1 => ([(21, .sv (.bool v1))], [])) (fun v1 h => ?_) fun v1 h => ?_
 refine Xac ?_
 refine kO hT hC ?_
 refine kC hC [] Tryz.call52 h (fun _ => Xjf) fun q2 h => ?_
 iterate 2 refine kO hT hC ?_
 refine kS h ?_ ?_ <;> intro b1 h
 refine kI hT hC (kn b1) ?_
 refine kE hC (kn b1) [] Tryz.call150 h (fun _ => Xbk) fun q3 h => ?_
 refine kI hT hC (kn b1) ?_
 refine kP hC false (kn b1) ?_
 exact Vc.nil kM
 iterate 3 refine kF hC (kn b1) ?_
 refine kP hC true (kn b1) ?_
 exact Vc.nil kM
 refine kS h ?_ ?_ <;> intro b2 h
 refine kt b2 (Xab ?_)
 iterate 3 refine kO hT hC ?_
 refine Vc.nil (Xah (Xas ?_))
 obtain rfl := kj h
 exact Xcl (τ := ⟨[(4, .own 16), (5, .sv (.bool false))], [(16, some (.ints .i64 ([] : List Int)))]⟩) (kW hC [(16, 352)]) rfl ⟨rfl, trivial⟩
 refine kf b2 (Xaf (Xad (Xao (Xab ?_))))
 iterate 2 refine kO hT hC ?_
 refine Vc.nil ?_
 refine kS h ?_ ?_ <;> intro b3 h
 refine kt b3 (Xab ?_)
 refine kO hT hC ?_
 refine kC hC [(16, 416)] Tryz.call151 h (fun _ => Xk2) fun q4 h => ?_
 iterate 4 refine kO hT hC ?_
 refine Vc.nil (Xah (Xas ?_))
 obtain rfl := kj h
 exact Xcl (τ := ⟨[(4, .own 16), (5, .sv (.bool q4.2))], [(16, some (.ints .i64 q4.1))]⟩) (kW hC [(16, 416)]) rfl ⟨rfl, trivial⟩
 refine kf b3 (Xaf (Xad (Xao (Xab ?_))))
 iterate 2 refine kO hT hC ?_
 refine Vc.nil ?_
 refine kS h ?_ ?_ <;> intro b4 h
 refine kt b4 (Xab ?_)
 refine kO hT hC ?_
 refine kC hC [(16, 512)] Tryz.call152 h (fun _ => Ydt) fun q5 h => ?_
 refine kO hT hC ?_
 refine Vc.nil (Xao (Xab ?_))
 refine kO hT hC ?_
 refine Vc.nil ?_
 refine kL [3,6,7] [48,512] [_,_,_] [_,_] ?_
 refine kX h (fun v8 => ([(7, .sv (.int .i64 v8.1))], [(512, some (.ints .i64 v8.2))])) (fun v11 => ([(3, .any), (7, .any)], [(512, some (.ints .i64 v11)), (48, none)])) (kW hC []) (fun v8 s h => ?_) fun v11 h => ?_
 unfold Xbe at h
 refine Xao (Xab ?_)
 iterate 2 refine kO hT hC ?_
 refine Vc.nil ?_
 refine kS h ?_ ?_ <;> intro b7 h
 refine kt b7 (Xaf (Xad (Xao (Xak ?_))))
 refine Xdf hm ?_
 iterate 4 refine kO hT hC ?_
 iterate 2 refine kQ hT hC h fun h => ?_
 iterate 2 refine kO hT hC ?_
 refine kC hC [] Tryz.call153 h (fun _ => Xsf) fun q12 h => ?_
 iterate 2 refine kQ hT hC h fun h => ?_
 refine kD (Xan (Xad (Xac ?_)))
 iterate 3 refine kO hT hC ?_
 exact Vc.nil kG
 exact kf b7 (Xam (Xat ku))
 refine Xad (Xab ?_)
 refine kO hT hC ?_
 refine kC hC [(16, 768)] Tryz.call151 h (fun _ => Xk2) fun q14 h => ?_
 iterate 4 refine kO hT hC ?_
 refine Vc.nil (Xah (Xas ?_))
 obtain rfl := kj h
 exact Xcl (τ := ⟨[(4, .own 16), (5, .sv (.bool q14.2))], [(16, some (.ints .i64 q14.1))]⟩) (kW hC [(16, 768)]) rfl ⟨rfl, trivial⟩
 refine kf b4 (Xaf (Xad (Xab ?_)))
 iterate 2 refine kO hT hC ?_
 refine Vc.nil (Xao (Xab ?_))
 refine kO hT hC ?_
 refine Vc.nil ?_
 refine kL [0,3,8,9] [48,816] [_,_,_,_] [_,_] ?_
 refine kX h (fun v27 => ([(9, .sv (.int .i64 v27.1))], [(816, some (.ints .i64 v27.2))])) (fun v40 => ([(0, .any), (3, .any), (9, .any)], [(816, some (.ints .i64 v40)), (48, none)])) (kW hC []) (fun v27 s h => ?_) fun v40 h => ?_
 unfold Xb6 at h
 refine Xao (Xab ?_)
 iterate 2 refine kO hT hC ?_
 refine Vc.nil ?_
 refine kS h ?_ ?_ <;> intro b16 h
 refine kt b16 (Xaf (Xad (Xao (Xak (Xab ?_)))))
 iterate 2 refine kO hT hC ?_
 refine kC hC [(16, 928)] Tryz.call155 h (fun _ => Xsv) fun q41 h => ?_
 refine kC hC [(16, 944)] Tryz.call154 h (fun _ => Yfp) fun q42 h => ?_
 refine kO hT hC ?_
 refine Vc.nil (Xao (Xab ?_))
 refine kO hT hC ?_
 refine Vc.nil ?_
 refine kL [0,3,8,9,10,11] [48,816,944] [_,_,_,_,_,_] [_,_,_] ?_
 refine kX h (fun v45 => ([(11, .sv (.int .i64 v45.1))], [(944, some (.ints .i64 v45.2))])) (fun v48 => ([(11, .any)], [(944, some (.ints .i64 v48))])) (kW hC []) (fun v45 s h => ?_) fun v48 h => ?_
 unfold Xa9 at h
 refine Xao (Xab ?_)
 iterate 2 refine kO hT hC ?_
 refine Vc.nil ?_
 refine kS h ?_ ?_ <;> intro b19 h
 refine kt b19 (Xaf (Xad (Xao (Xak ?_))))
 refine Xdf hm ?_
 iterate 4 refine kO hT hC ?_
 iterate 2 refine kQ hT hC h fun h => ?_
 iterate 3 refine kO hT hC ?_
 refine kC hC [] Tryz.call156 h (fun _ => Xsi) fun q49 h => ?_
 iterate 2 refine kQ hT hC h fun h => ?_
 refine kD (Xan (Xad (Xac ?_)))
 iterate 3 refine kO hT hC ?_
 exact Vc.nil kG
 exact kf b19 (Xam (Xat ku))
 refine Xad (Xab ?_)
 refine kO hT hC ?_
 refine kC hC [(16, 1232)] Tryz.call151 h (fun _ => Xk2) fun q51 h => ?_
 iterate 5 refine kO hT hC ?_
 refine Vc.nil (Xac ?_)
 iterate 2 refine kO hT hC ?_
 refine kT hT hC h fun h => ?_
 refine kO hT hC ?_
 refine Vc.nil (Xan (Xad (Xac ?_)))
 iterate 3 refine kO hT hC ?_
 refine Vc.nil ?_
 obtain rfl := kj h
 exact Yby (kW hC [(816, 1312)])
 exact kf b16 (Xam (Xat ku))
 refine Xad (Xab ?_)
 iterate 3 refine kO hT hC ?_
 refine Vc.nil (Xah ?_)
 obtain rfl := kj h
 exact Xcl (τ := ⟨[(4, .own 16), (5, .sv (.bool true))], [(16, some (.ints .i64 v40))]⟩) (kW hC [(16, 816)]) rfl ⟨rfl, trivial⟩
def Xsx (r : Xba) : AV := .agg [.sv (.int .i64 r.Kind), .sv (.int .i64 r.Mode), .sv (.int .i64 r.Dx), .sv (.int .i64 r.Dy), .own 16]
def Xsw (r : Xba) : Xa0 := [(16, .ints .i64 r.Levels)]
theorem Xui {p0 p1 p2 p3 p4 p5 p6 r} (h : Xgr p0 p1 p2 p3 p4 p5 p6 = some r) : AC Tryz.prog 55 [.agg [.sv (.int .i64 p0.Wide), .sv (.int .i64 p0.High), .sv (.str p0.Dots)], .agg [.sv (.int .i64 p1.Wide), .sv (.int .i64 p1.High), .sv (.str p1.Dots)], .sv (.ints .i64 p2), .sv (.int .i64 p3), .sv (.int .i64 p4), .agg [.sv (.bool p5.Key), .sv (.int .i64 p5.Qp), .sv (.bool p5.Large), .sv (.bool p5.Exact)], .sv (.int .i64 p6)] [] (Xsx r) (Xsw r) := by
 refine Xag hT Tryz.func55 rfl fun C hC => ?_
 unfold Xgr at h
 refine Xab ?_
 iterate 4 refine kO hT hC ?_
 refine Vc.nil (Xao ?_)
 refine kL [2,3,4,6,7,8,12,14] [112,128,192,224] [_,_,_,_,_,_,_,_] [_,_,_,_] ?_
 refine kA h (fun v1 => ([(37, .sv (.bool v1))], [])) (fun v1 h => ?_) fun v1 h => ?_
 refine Xac ?_
 iterate 4 refine kO hT hC ?_
 refine kS h ?_ ?_ <;> intro b1 h
 iterate 7 refine kF hC (kn b1) ?_
 refine kP hC false (kn b1) ?_
 exact Vc.nil kM
 iterate 4 refine kI hT hC (kn b1) ?_
 refine kE hC (kn b1) [(16, 544)] Tryz.call99 h (fun _ => Xh0) fun q2 h => ?_
 refine kE hC (kn b1) [(16, 560)] Tryz.call98 h (fun _ => Xk4) fun q3 h => ?_
 refine kE hC (kn b1) [] Tryz.call97 h (fun _ => Xon) fun q4 h => ?_
 refine kP hC true (kn b1) ?_
 exact Vc.nil kM
 refine kS h ?_ ?_ <;> intro b2 h
 refine kt b2 (Xab ?_)
 iterate 2 refine kO hT hC ?_
 refine Vc.nil (Xah (Xas ?_))
 obtain rfl := kj h
 refine Xcl (τ := ⟨[(14, .ptr 2000000 0)], [(16, some (.ints .i64 [])), (2000000, some (.box [.sv (.int .i64 0), .sv (.int .i64 0), .sv (.int .i64 0), .sv (.int .i64 0), .own 16]))]⟩) ?_ rfl ⟨rfl, trivial⟩
 refine Xj6 hC 224 4 1793 (.ints .i64 []) rfl rfl rfl rfl rfl trivial ?_
 apply Xfs hC [(16, 1793), (2000000, 224)]
 exact co
 rfl
 decide
 rfl
 refine kf b2 (Xaf (Xad (Xab ?_)))
 iterate 3 refine kO hT hC ?_
 refine kC hC [(16, 688), (17, 689)] Tryz.call100 h (fun _ => Xn9) fun q5 h => ?_
 iterate 6 refine kO hT hC ?_
 refine kN ?_
 iterate 2 refine kO hT hC ?_
 refine kC hC [] Tryz.call101 h (fun _ => Xtz) fun q6 h => ?_
 iterate 5 refine kO hT hC ?_
 refine Vc.nil ?_
 refine kL [2,3,4,6,8,12,14,15,17,18] [128,192,224,240,688,689] [_,_,_,_,_,_,_,_,_,_] [_,_,_,_,_,_] ?_
 refine Ygv h (fun (v7 : Unit) => ([(3, .any), (4, .any), (6, .any), (8, .any), (18, .any)], [(128, none)])) (fun v7 h => ?_) (fun h => ?_)
 refine Xjq hm ?_
 iterate 3 refine kO hT hC ?_
 refine kC hC [(16, 1632)] Tryz.call104 h (fun _ => Xky) fun q14 h => ?_
 refine kC hC [(16, 1648)] Tryz.call98 h (fun _ => Xk4) fun q15 h => ?_
 refine kO hT hC ?_
 refine kC hC [(16, 1680)] Tryz.call103 h (fun _ => Xng) fun q16 h => ?_
 iterate 5 refine kO hT hC ?_
 refine kD (Xab ?_)
 iterate 4 refine kO hT hC ?_
 refine Vc.nil (Xah ?_)
 obtain rfl := kj h
 exact Xcl (τ := ⟨[(14, .ptr 2000000 0)], [(16, some (.ints .i64 q16.1)), (2000000, some (.box [.sv (.int .i64 2), .sv (.int .i64 q6.1), .sv (.int .i64 0), .sv (.int .i64 0), .own 16]))]⟩) (kW hC [(16, 1680), (2000000, 224)]) rfl ⟨rfl, trivial⟩
 refine Xab ?_
 iterate 3 refine kO hT hC ?_
 refine Vc.nil ?_
 refine kS h ?_ ?_ <;> intro b3 h
 refine kt b3 (Xab ?_)
 iterate 5 refine kO hT hC ?_
 refine kC hC [] Tryz.call102 h (fun _ => Xvs) fun q8 h => ?_
 iterate 7 refine kO hT hC ?_
 refine kN ?_
 iterate 3 refine kO hT hC ?_
 refine Vc.nil ?_
 refine kS h ?_ ?_ <;> intro b4 h
 refine kt b4 ?_
 refine Xjq hm ?_
 iterate 8 refine kO hT hC ?_
 refine kC hC [(16, 1232)] Tryz.call99 h (fun _ => Xh0) fun q9 h => ?_
 refine kC hC [(16, 1248)] Tryz.call98 h (fun _ => Xk4) fun q10 h => ?_
 refine kO hT hC ?_
 refine kC hC [(16, 1280)] Tryz.call103 h (fun _ => Xng) fun q11 h => ?_
 iterate 5 refine kO hT hC ?_
 refine kD (Xao ?_)
 refine kL [14,19,20,22] [224,1280] [_,_,_,_] [_,_] ?_
 refine kA h (fun v12 => ([(92, .sv (.bool v12))], [])) (fun v12 h => ?_) fun v12 h => ?_
 refine Xac ?_
 iterate 3 refine kO hT hC ?_
 refine kS h ?_ ?_ <;> intro b5 h
 iterate 2 refine kI hT hC b5 ?_
 refine kP hC true b5 ?_
 refine kO hT hC ?_
 refine kS h ?_ ?_ <;> intro b6 h
 refine kI hT hC b6 ?_
 refine kE hC b6 [] Tryz.call97 h (fun _ => Xon) fun q13 h => ?_
 refine kP hC true b6 ?_
 exact Vc.nil kM
 iterate 2 refine kF hC b6 ?_
 refine kP hC false b6 ?_
 exact Vc.nil kM
 iterate 2 refine kF hC b5 ?_
 refine kP hC false b5 ?_
 refine kO hT hC ?_
 iterate 2 refine kF hC rfl ?_
 refine kO hT hC ?_
 exact Vc.nil kM
 refine kS h ?_ ?_ <;> intro b7 h
 refine kt b7 (Xab ?_)
 iterate 2 refine kO hT hC ?_
 refine Vc.nil (Xah (Xas (Ymh ?_)))
 obtain rfl := kj h
 refine Xcl (τ := ⟨[(14, .ptr 2000000 0)], [(16, some (.ints .i64 [])), (2000000, some (.box [.sv (.int .i64 0), .sv (.int .i64 0), .sv (.int .i64 0), .sv (.int .i64 0), .own 16]))]⟩) ?_ rfl ⟨rfl, trivial⟩
 refine Xj6 hC 224 4 1794 (.ints .i64 []) rfl rfl rfl rfl rfl trivial ?_
 apply Xfs hC [(16, 1794), (2000000, 224)]
 exact co
 rfl
 decide
 rfl
 refine kf b7 (Xaf (Xad (Xab ?_)))
 iterate 5 refine kO hT hC ?_
 refine Vc.nil (Xah (Ymh ?_))
 obtain rfl := kj h
 exact Xcl (τ := ⟨[(14, .ptr 2000000 0)], [(16, some (.ints .i64 q11.1)), (2000000, some (.box [.sv (.int .i64 1), .sv (.int .i64 0), .sv (.int .i64 q8.1), .sv (.int .i64 q8.2.1), .own 16]))]⟩) (kW hC [(16, 1280), (2000000, 224)]) rfl ⟨rfl, trivial⟩
 refine kf b4 (Xaf ?_)
 exact Yg5 () h (kW hC [])
 refine kf b3 (Xaf ?_)
 exact Yg5 () h (kW hC [])
def Xsl (r : (Xba × (List Int) × Bool)) : AV := .tup [.agg [.sv (.int .i64 r.1.Kind), .sv (.int .i64 r.1.Mode), .sv (.int .i64 r.1.Dx), .sv (.int .i64 r.1.Dy), .own 16], .own 17, .sv (.bool r.2.2)]
def Xsk (r : (Xba × (List Int) × Bool)) : Xa0 := [(16, .ints .i64 r.1.Levels), (17, .ints .i64 r.2.1)]
theorem Xub {p0 p1 p2 p3 p4 p5 p6 r} (h : Xbr p0 p1 p2 p3 p4 p5 p6 = some r) : AC Tryz.prog 16 [.agg [.sv (.int .i64 p0.Wide), .sv (.int .i64 p0.High), .sv (.str p0.Dots)], .agg [.sv (.int .i64 p1.Wide), .sv (.int .i64 p1.High), .sv (.str p1.Dots)], .sv (.ints .i64 p2), .sv (.int .i64 p3), .sv (.int .i64 p4), .agg [.sv (.bool p5.Key), .sv (.int .i64 p5.Qp), .sv (.bool p5.Large), .sv (.bool p5.Exact)], .sv (.int .i64 p6)] [] (Xsl r) (Xsk r) := by
 refine Xag hT Tryz.func16 rfl fun C hC => ?_
 unfold Xbr at h
 refine Xab ?_
 iterate 6 refine kO hT hC ?_
 refine Vc.nil (Xao ?_)
 refine kL [2,3,4,6,7,8,12,14] [112,128,192,224] [_,_,_,_,_,_,_,_] [_,_,_,_] ?_
 refine kA h (fun v1 => ([(50, .sv (.bool v1))], [])) (fun v1 h => ?_) fun v1 h => ?_
 refine Xac ?_
 iterate 3 refine kO hT hC ?_
 refine kC hC [] Tryz.call50 h (fun _ => Xie) fun q2 h => ?_
 iterate 2 refine kO hT hC ?_
 refine kS h ?_ ?_ <;> intro b1 h
 refine kI hT hC (kn b1) ?_
 refine kE hC (kn b1) [] Tryz.call51 h (fun _ => Xid) fun q3 h => ?_
 refine kI hT hC (kn b1) ?_
 refine kP hC false (kn b1) ?_
 refine kO hT hC ?_
 refine kS h ?_ ?_ <;> intro b2 h
 refine kI hT hC (kn b2) ?_
 refine kE hC (kn b2) [] Tryz.call52 h (fun _ => Xjf) fun q4 h => ?_
 refine kI hT hC (kn b2) ?_
 refine kP hC false (kn b2) ?_
 refine kO hT hC ?_
 refine kS h ?_ ?_ <;> intro b3 h
 refine kI hT hC (kn b3) ?_
 refine kE hC (kn b3) [] Tryz.call53 h (fun _ => Xal) fun q5 h => ?_
 refine kI hT hC (kn b3) ?_
 refine kP hC false (kn b3) ?_
 refine kO hT hC ?_
 refine kS h ?_ ?_ <;> intro b4 h
 iterate 4 refine kI hT hC (kn b4) ?_
 refine kS h ?_ ?_ <;> intro b5 h
 iterate 4 refine kF hC (kn b5) ?_
 refine Xd5 hC rfl rfl rfl rfl (kn b4) rfl rfl (b := false) (kn b5) rfl rfl rfl trivial ?_
 refine kP hC false (kn b4) ?_
 exact Vc.nil kM
 iterate 2 refine kI hT hC (kn b5) ?_
 refine kE hC (kn b5) [] Tryz.call54 h (fun _ => Xzo) fun q6 h => ?_
 refine kI hT hC (kn b5) ?_
 refine Xd5 hC rfl rfl rfl rfl (kn b4) rfl rfl (b := true) (kn b5) rfl rfl rfl trivial ?_
 refine kP hC false (kn b4) ?_
 exact Vc.nil kM
 iterate 4 refine kF hC (kn b4) ?_
 iterate 4 refine Xk6 hC rfl rfl rfl rfl rfl rfl ?_
 refine kF hC (kn b4) ?_
 refine kP hC true (kn b4) ?_
 exact Vc.nil kM
 iterate 3 refine kF hC (kn b3) ?_
 refine kP hC true (kn b3) ?_
 refine kO hT hC ?_
 iterate 4 refine kF hC rfl ?_
 iterate 4 refine Xk6 hC rfl rfl rfl rfl rfl rfl ?_
 refine kF hC rfl ?_
 refine kO hT hC ?_
 exact Vc.nil kM
 iterate 3 refine kF hC (kn b2) ?_
 refine kP hC true (kn b2) ?_
 refine kO hT hC ?_
 iterate 3 refine kF hC rfl ?_
 iterate 2 refine kO hT hC ?_
 iterate 4 refine kF hC rfl ?_
 iterate 4 refine Xk6 hC rfl rfl rfl rfl rfl rfl ?_
 refine kF hC rfl ?_
 refine kO hT hC ?_
 exact Vc.nil kM
 iterate 3 refine kF hC (kn b1) ?_
 refine kP hC true (kn b1) ?_
 refine kO hT hC ?_
 iterate 3 refine kF hC rfl ?_
 iterate 2 refine kO hT hC ?_
 iterate 3 refine kF hC rfl ?_
 iterate 2 refine kO hT hC ?_
 iterate 4 refine kF hC rfl ?_
 iterate 4 refine Xk6 hC rfl rfl rfl rfl rfl rfl ?_
 refine kF hC rfl ?_
 refine kO hT hC ?_
 exact Vc.nil kM
 refine kS h ?_ ?_ <;> intro b6 h
 refine kt b6 (Xab ?_)
 iterate 5 refine kO hT hC ?_
 refine Vc.nil (Xah (Xas ?_))
 obtain rfl := kj h
 refine Xcl (τ := ⟨[(14, .ptr 2000000 0), (15, .own 17), (16, .sv (.bool false))], [(16, some (.ints .i64 [])), (17, some (.ints .i64 ([] : List Int))), (2000000, some (.box [.sv (.int .i64 0), .sv (.int .i64 0), .sv (.int .i64 0), .sv (.int .i64 0), .own 16]))]⟩) ?_ rfl ⟨rfl, rfl, trivial⟩
 refine Xj6 hC 224 4 1185 (.ints .i64 []) rfl rfl rfl rfl rfl trivial ?_
 apply Xfs hC [(16, 1185), (17, 832), (2000000, 224)]
 exact co
 rfl
 decide
 rfl
 refine kf b6 (Xaf (Xad (Xab ?_)))
 iterate 7 refine kO hT hC ?_
 refine kC hC [(16, 960)] Tryz.call55 h (fun _ => Xui) fun q7 h => ?_
 iterate 2 refine kO hT hC ?_
 refine kN ?_
 iterate 6 refine kO hT hC ?_
 refine kC hC [(16, 1088)] Tryz.call56 h (fun _ => Xsj) fun q8 h => ?_
 iterate 5 refine kO hT hC ?_
 refine kN ?_
 iterate 5 refine kO hT hC ?_
 refine Vc.nil (Xah ?_)
 obtain rfl := kj h
 exact Xcl (τ := ⟨[(14, .ptr 2000000 0), (15, .own 17), (16, .sv (.bool true))], [(16, some (.ints .i64 q7.Levels)), (17, some (.ints .i64 q8.1)), (2000000, some (.box [.sv (.int .i64 q7.Kind), .sv (.int .i64 q7.Mode), .sv (.int .i64 q7.Dx), .sv (.int .i64 q7.Dy), .own 16]))]⟩) (kW hC [(16, 960), (17, 1088), (2000000, 224)]) rfl ⟨rfl, rfl, trivial⟩
def Yc0 (r : Int) : AV := .sv (.int .i64 r)
def Ycz (r : Int) : Xa0 := []
theorem Xn4 {p0 r} (h : Xjk p0 = some r) : AC Tryz.prog 120 [.sv (.int .i64 p0)] [] (Yc0 r) (Ycz r) := by
 refine Xag hT Tryz.func120 rfl fun C hC => ?_
 unfold Xjk at h
 refine Xab ?_
 refine kO hT hC ?_
 refine kN ?_
 iterate 5 refine kO hT hC ?_
 exact Vc.nil (Xah kR)
def Yex (r : Int) : AV := .sv (.int .i64 r)
def Yew (r : Int) : Xa0 := []
theorem Xp8 {p0 p1 r} (h : Xlc p0 p1 = some r) : AC Tryz.prog 67 [.sv (.ints .i64 p0), .sv (.ints .i64 p1)] [] (Yex r) (Yew r) := by
 refine Xag hT Tryz.func67 rfl fun C hC => ?_
 unfold Xlc at h
 refine Xab ?_
 refine kO hT hC ?_
 refine kN ?_
 refine kO hT hC ?_
 refine Vc.nil (Xao (Xab ?_))
 iterate 3 refine kO hT hC ?_
 refine Vc.nil ?_
 refine kL [1,5,8,9,10] [] [_,_,_,_,_] [] ?_
 refine kX h (fun v3 => ([(5, .sv (.int .i64 v3.1)), (10, .sv (.int .i64 v3.2))], [])) (fun v6 => ([(5, .sv (.int .i64 v6)), (1, .any), (8, .any), (9, .any), (10, .any)], [])) (kW hC []) (fun v3 s h => ?_) fun v6 h => ?_
 unfold Xko at h
 refine Xab ?_
 refine kO hT hC ?_
 refine Vc.nil (Xao ?_)
 refine kS h ?_ ?_ <;> intro b3 h
 refine kt b3 (Xaf (Xad (Xao (Xak (Xab ?_)))))
 refine kO hT hC ?_
 refine kQ hT hC h fun h => ?_
 iterate 3 refine kO hT hC ?_
 refine Vc.nil (Xac ?_)
 iterate 4 refine kO hT hC ?_
 refine kQ hT hC h fun h => ?_
 iterate 2 refine kO hT hC ?_
 refine kC hC [] Tryz.call120 h (fun _ => Xn4) fun q7 h => ?_
 iterate 2 refine kO hT hC ?_
 refine Vc.nil (Xan (Xad (Xac ?_)))
 iterate 2 refine kO hT hC ?_
 exact Vc.nil kG
 exact kf b3 (Xam (Xat ku))
 refine Xad (Xab ?_)
 iterate 2 refine kO hT hC ?_
 exact Vc.nil (Xah kR)
def Xrr (r : Int) : AV := .sv (.int .i64 r)
def Xrq (r : Int) : Xa0 := []
theorem Xtn {p0 r} (h : Xja p0 = some r) : AC Tryz.prog 241 [.sv (.int .i64 p0)] [] (Xrr r) (Xrq r) := by
 refine Xag hT Tryz.func241 rfl fun C hC => ?_
 unfold Xja at h
 refine Xab ?_
 refine kO hT hC ?_
 refine kN ?_
 refine kO hT hC ?_
 refine Vc.nil (Xao ?_)
 refine kL [0,3] [] [_,_] [] ?_
 refine kX h (fun v2 => ([(0, .sv (.int .i64 v2.1)), (3, .sv (.int .i64 v2.2))], [])) (fun v4 => ([(3, .sv (.int .i64 v4)), (0, .any)], [])) (kW hC []) (fun v2 s h => ?_) fun v4 h => ?_
 unfold Xb1 at h
 refine Xao (Xab ?_)
 iterate 2 refine kO hT hC ?_
 refine Vc.nil ?_
 refine kS h ?_ ?_ <;> intro b3 h
 refine kt b3 (Xaf (Xad (Xao (Xak (Xac ?_)))))
 iterate 3 refine kO hT hC ?_
 refine Vc.nil (Xan (Xad (Xac ?_)))
 refine kO hT hC ?_
 refine kQ hT hC h fun h => ?_
 refine kO hT hC ?_
 exact Vc.nil kG
 exact kf b3 (Xam (Xat ku))
 refine Xad (Xab ?_)
 iterate 2 refine kO hT hC ?_
 exact Vc.nil (Xah kR)
def Yag (r : ByteArray) : AV := .sv (.str r)
def Yaf (r : ByteArray) : Xa0 := []
theorem Ycx {p0 p1 r} (h : Xl5 p0 p1 = some r) : AC Tryz.prog 240 [.sv (.int .i64 p0), .sv (.int .i64 p1)] [] (Yag r) (Yaf r) := by
 refine Xag hT Tryz.func240 rfl fun C hC => ?_
 unfold Xl5 at h
 refine Xab ?_
 refine kO hT hC ?_
 refine kN ?_
 refine kO hT hC ?_
 obtain ⟨hq, h⟩ := Xau h
 refine Yhw hT hC rfl rfl rfl rfl ⟨hq.1, hq.2.1, hq.2.2, by decide⟩ ?_
 refine kO hT hC ?_
 refine Vc.nil (Xao (Xab ?_))
 iterate 3 refine kO hT hC ?_
 refine Vc.nil ?_
 refine kL [0,5,6] [128] [_,_,_] [_] ?_
 refine kX h (fun v2 => ([(0, .sv (.int .i64 v2.1)), (6, .sv (.int .i64 v2.2.1))], [(128, some (.ints .u8 v2.2.2))])) (fun v4 => ([(0, .any), (6, .any)], [(128, some (.ints .u8 v4))])) (kW hC []) (fun v2 s h => ?_) fun v4 h => ?_
 unfold Xhs at h
 refine Xao (Xab ?_)
 iterate 2 refine kO hT hC ?_
 refine Vc.nil ?_
 refine kS h ?_ ?_ <;> intro b3 h
 refine kt b3 (Xaf (Xad (Xao (Xak (Xab ?_)))))
 iterate 6 refine kO hT hC ?_
 iterate 2 refine kQ hT hC h fun h => ?_
 refine Vc.nil (Xac ?_)
 refine kO hT hC ?_
 refine kQ hT hC h fun h => ?_
 refine kO hT hC ?_
 refine Vc.nil (Xan (Xad (Xac ?_)))
 iterate 3 refine kO hT hC ?_
 exact Vc.nil kG
 exact kf b3 (Xam (Xat ku))
 refine Xad (Xab ?_)
 iterate 3 refine kO hT hC ?_
 exact Vc.nil (Xah kR)
def Yf8 (r : ByteArray) : AV := .sv (.str r)
def Yf7 (r : ByteArray) : Xa0 := []
theorem Yh9 {p0 r} (h : Xtr p0 = some r) : AC Tryz.prog 210 [.sv (.int .i64 p0)] [] (Yf8 r) (Yf7 r) := by
 refine Xag hT Tryz.func210 rfl fun C hC => ?_
 unfold Xtr at h
 refine Xab ?_
 refine kO hT hC ?_
 refine kN ?_
 iterate 4 refine kO hT hC ?_
 refine kC hC [] Tryz.call241 h (fun _ => Xtn) fun q1 h => ?_
 iterate 2 refine kO hT hC ?_
 refine kC hC [] Tryz.call240 h (fun _ => Ycx) fun q2 h => ?_
 refine kO hT hC ?_
 exact Vc.nil (Xah kR)
def Yab (r : (ByteArray × Bool)) : AV := .tup [.sv (.str r.1), .sv (.bool r.2)]
def Yaa (r : (ByteArray × Bool)) : Xa0 := []
theorem Xrl {p0 r} (h : Xkf p0 = some r) : AC Tryz.prog 165 [.sv (.int .i64 p0)] [] (Yab r) (Yaa r) := by
 refine Xag hT Tryz.func165 rfl fun C hC => ?_
 unfold Xkf at h
 refine Xab ?_
 iterate 2 refine kO hT hC ?_
 refine Vc.nil (Xao (Xab ?_))
 refine kO hT hC ?_
 refine kC hC [] Tryz.call61 h (fun _ => Xaj) fun q1 h => ?_
 refine kO hT hC ?_
 refine Vc.nil ?_
 refine kS h ?_ ?_ <;> intro b1 h
 refine kt b1 (Xab ?_)
 iterate 2 refine kO hT hC ?_
 exact Vc.nil (Xah (Xas kR))
 refine kf b1 (Xaf (Xad (Xab ?_)))
 refine kO hT hC ?_
 refine kC hC [] Tryz.call210 h (fun _ => Yh9) fun q2 h => ?_
 iterate 2 refine kO hT hC ?_
 exact Vc.nil (Xah kR)
def Xx2 (r : Int) : AV := .sv (.int .i64 r)
def Xx1 (r : Int) : Xa0 := []
theorem Yac {p0 r} (h : Xio p0 = some r) : AC Tryz.prog 110 [.sv (.int .i64 p0)] [] (Xx2 r) (Xx1 r) := by
 refine Xag hT Tryz.func110 rfl fun C hC => ?_
 unfold Xio at h
 refine Xab ?_
 refine kO hT hC ?_
 refine kN ?_
 refine kO hT hC ?_
 refine kC hC [] Tryz.call165 h (fun _ => Xrl) fun q1 h => ?_
 iterate 5 refine kO hT hC ?_
 refine kN ?_
 iterate 3 refine kO hT hC ?_
 exact Vc.nil (Xah kR)
def Xq2 (r : (Int × Int)) : AV := .tup [.sv (.int .i64 r.1), .sv (.int .i64 r.2)]
def Xq1 (r : (Int × Int)) : Xa0 := []
theorem Xs8 {p0 p1 r} (h : Xge p0 p1 = some r) : AC Tryz.prog 63 [.sv (.ints .i64 p0), .agg [.sv (.ints .i64 p1.Above), .sv (.ints .i64 p1.Left), .sv (.int .i64 p1.Corner)]] [] (Xq2 r) (Xq1 r) := by
 refine Xag hT Tryz.func63 rfl fun C hC => ?_
 unfold Xge at h
 refine Xab ?_
 iterate 3 refine kO hT hC ?_
 refine Vc.nil (Xao ?_)
 refine kL [0,3] [48] [_,_] [_] ?_
 refine kA h (fun v1 => ([(17, .sv (.bool v1))], [])) (fun v1 h => ?_) fun v1 h => ?_
 refine Xac ?_
 refine kO hT hC ?_
 refine kC hC [] Tryz.call109 h (fun _ => Xny) fun q2 h => ?_
 iterate 2 refine kO hT hC ?_
 refine kS h ?_ ?_ <;> intro b1 h
 refine kI hT hC (kn b1) ?_
 refine kE hC (kn b1) [] Tryz.call59 h (fun _ => Xbf) fun q3 h => ?_
 refine kI hT hC (kn b1) ?_
 refine kP hC false (kn b1) ?_
 exact Vc.nil kM
 iterate 3 refine kF hC (kn b1) ?_
 refine kP hC true (kn b1) ?_
 exact Vc.nil kM
 refine kS h ?_ ?_ <;> intro b2 h
 refine kt b2 (Xab ?_)
 iterate 2 refine kO hT hC ?_
 exact Vc.nil (Xah (Xas kR))
 refine kf b2 (Xaf (Xad (Xab ?_)))
 iterate 2 refine kO hT hC ?_
 refine Vc.nil (Xao (Xab ?_))
 refine kO hT hC ?_
 refine Vc.nil ?_
 refine kL [0,3,6,7,8] [48] [_,_,_,_,_] [_] ?_
 refine kX h (fun v16 => ([(6, .sv (.int .i64 v16.1)), (7, .sv (.int .i64 v16.2.1)), (8, .sv (.int .i64 v16.2.2))], [])) (fun v23 => ([(6, .sv (.int .i64 v23.1)), (7, .sv (.int .i64 v23.2)), (0, .any), (3, .any), (8, .any)], [(48, none)])) (kW hC []) (fun v16 s h => ?_) fun v23 h => ?_
 unfold Xfu at h
 refine Xao (Xab ?_)
 iterate 2 refine kO hT hC ?_
 refine Vc.nil ?_
 refine kS h ?_ ?_ <;> intro b12 h
 refine kt b12 (Xaf (Xad ?_))
 refine kL [0,3,6,7,8] [48] [_,_,_,_,_] [_] ?_
 refine kA h (fun v24 => ([(6, .sv (.int .i64 v24.1)), (7, .sv (.int .i64 v24.2))], [])) (fun v24 h => ?_) fun v24 h => ?_
 refine Xak (Xab ?_)
 iterate 3 refine kO hT hC ?_
 refine kC hC [(16, 400)] Tryz.call66 h (fun _ => Xkm) fun q25 h => ?_
 refine kC hC [] Tryz.call67 h (fun _ => Xp8) fun q26 h => ?_
 refine kO hT hC ?_
 refine kC hC [] Tryz.call110 h (fun _ => Yac) fun q27 h => ?_
 iterate 2 refine kO hT hC ?_
 refine Vc.nil ?_
 refine kL [0,3,6,7,8,9] [48] [_,_,_,_,_,_] [_] ?_
 refine kA h (fun v28 => ([(36, .sv (.bool v28))], [])) (fun v28 h => ?_) fun v28 h => ?_
 refine Xac ?_
 iterate 3 refine kO hT hC ?_
 refine kS h ?_ ?_ <;> intro b13 h
 iterate 3 refine kF hC b13 ?_
 refine kP hC true b13 ?_
 exact Vc.nil kM
 iterate 3 refine kI hT hC b13 ?_
 refine kP hC false b13 ?_
 exact Vc.nil kM
 refine kS h ?_ ?_ <;> intro b14 h
 refine kt b14 (Xac ?_)
 iterate 4 refine kO hT hC ?_
 exact Vc.nil (Xan kM)
 exact kf b14 (Xaf (Xan kM))
 refine Xac ?_
 iterate 3 refine kO hT hC ?_
 exact Vc.nil kG
 exact kf b12 (Xam (Xat ku))
 refine Xad (Xab ?_)
 iterate 4 refine kO hT hC ?_
 exact Vc.nil (Xah kR)
def Xtq (r : (List Int)) : AV := .own 16
def Xtp (r : (List Int)) : Xa0 := [(16, .ints .i64 r)]
theorem Xnd {p0 p1 r} (h : Xee p0 p1 = some r) : AC Tryz.prog 65 [.sv (.ints .i64 p0), .sv (.ints .i64 p1)] [] (Xtq r) (Xtp r) := by
 refine Xag hT Tryz.func65 rfl fun C hC => ?_
 unfold Xee at h
 refine Xab ?_
 refine kO hT hC ?_
 refine kN ?_
 iterate 2 refine kO hT hC ?_
 refine Vc.nil (Xao (Xab ?_))
 iterate 3 refine kO hT hC ?_
 refine Vc.nil ?_
 refine kL [1,5,9,10,11] [128] [_,_,_,_,_] [_] ?_
 refine kX h (fun v2 => ([(11, .sv (.int .i64 v2.1))], [(128, some (.ints .i64 v2.2))])) (fun v4 => ([(1, .any), (9, .any), (10, .any), (11, .any)], [(128, some (.ints .i64 v4))])) (kW hC []) (fun v2 s h => ?_) fun v4 h => ?_
 unfold Xgt at h
 refine Xab ?_
 refine kO hT hC ?_
 refine Vc.nil (Xao ?_)
 refine kS h ?_ ?_ <;> intro b3 h
 refine kt b3 (Xaf (Xad (Xao (Xak (Xab ?_)))))
 refine kO hT hC ?_
 refine kQ hT hC h fun h => ?_
 iterate 3 refine kO hT hC ?_
 refine Vc.nil (Xac ?_)
 iterate 4 refine kO hT hC ?_
 refine kQ hT hC h fun h => ?_
 iterate 3 refine kO hT hC ?_
 refine kT hT hC h fun h => ?_
 refine kO hT hC ?_
 refine Vc.nil (Xan (Xad (Xac ?_)))
 iterate 2 refine kO hT hC ?_
 refine Vc.nil ?_
 obtain rfl := kj h
 exact Yby (kW hC [(128, 384)])
 exact kf b3 (Xam (Xat ku))
 refine Xad (Xab ?_)
 iterate 2 refine kO hT hC ?_
 refine Vc.nil (Xah ?_)
 obtain rfl := kj h
 exact Xcl (τ := ⟨[(4, .own 16)], [(16, some (.ints .i64 v4))]⟩) (kW hC [(16, 128)]) rfl ⟨rfl, trivial⟩
def Xvg (r : ((List Int) × Bool)) : AV := .tup [.own 16, .sv (.bool r.2)]
def Xvf (r : ((List Int) × Bool)) : Xa0 := [(16, .ints .i64 r.1)]
theorem Xkn {p0 p1 r} (h : Xe6 p0 p1 = some r) : AC Tryz.prog 111 [.sv (.int .i64 p0), .sv (.ints .i64 p1)] [] (Xvg r) (Xvf r) := by
 refine Xag hT Tryz.func111 rfl fun C hC => ?_
 unfold Xe6 at h
 refine Xab ?_
 iterate 2 refine kO hT hC ?_
 refine kN ?_
 iterate 2 refine kO hT hC ?_
 refine Vc.nil (Xao ?_)
 refine kL [0,1,6] [144] [_,_,_] [_] ?_
 refine kA h (fun v1 => ([(23, .sv (.bool v1))], [])) (fun v1 h => ?_) fun v1 h => ?_
 refine Xac ?_
 iterate 3 refine kO hT hC ?_
 refine kS h ?_ ?_ <;> intro b1 h
 iterate 2 refine kI hT hC b1 ?_
 refine kP hC true b1 ?_
 refine kO hT hC ?_
 refine kS h ?_ ?_ <;> intro b2 h
 iterate 6 refine kF hC b2 ?_
 refine kP hC true b2 ?_
 exact Vc.nil kM
 iterate 6 refine kI hT hC b2 ?_
 refine kP hC false b2 ?_
 exact Vc.nil kM
 iterate 2 refine kF hC b1 ?_
 refine kP hC false b1 ?_
 refine kO hT hC ?_
 iterate 6 refine kI hT hC rfl ?_
 refine kO hT hC ?_
 exact Vc.nil kM
 refine kS h ?_ ?_ <;> intro b3 h
 refine kt b3 (Xab ?_)
 iterate 3 refine kO hT hC ?_
 refine Vc.nil (Xah (Xas ?_))
 obtain rfl := kj h
 exact Xcl (τ := ⟨[(4, .own 16), (5, .sv (.bool false))], [(16, some (.ints .i64 ([] : List Int)))]⟩) (kW hC [(16, 144)]) rfl ⟨rfl, trivial⟩
 refine kf b3 (Xaf (Xad (Xao (Xab ?_))))
 refine kO hT hC ?_
 refine kC hC [(16, 416)] Tryz.call166 h (fun _ => Xl3) fun q2 h => ?_
 iterate 2 refine kO hT hC ?_
 refine Vc.nil ?_
 refine kL [1,6,26,27,28] [144,416] [_,_,_,_,_] [_,_] ?_
 refine kX h (fun v4 => ([(28, .sv (.int .i64 v4.1))], [(144, some (.ints .i64 v4.2))])) (fun v6 => ([(1, .any), (26, .any), (27, .any), (28, .any)], [(144, some (.ints .i64 v6)), (416, none)])) (kW hC []) (fun v4 s h => ?_) fun v6 h => ?_
 unfold Xhn at h
 refine Xab ?_
 refine kO hT hC ?_
 refine Vc.nil (Xao ?_)
 refine kS h ?_ ?_ <;> intro b6 h
 refine kt b6 (Xaf (Xad (Xao (Xak (Xab ?_)))))
 iterate 2 refine kQ hT hC h fun h => ?_
 refine kO hT hC ?_
 refine Vc.nil (Xac ?_)
 iterate 3 refine kO hT hC ?_
 refine kQ hT hC h fun h => ?_
 iterate 2 refine kO hT hC ?_
 refine kT hT hC h fun h => ?_
 refine kO hT hC ?_
 refine Vc.nil (Xan (Xad (Xac ?_)))
 iterate 2 refine kO hT hC ?_
 refine Vc.nil ?_
 obtain rfl := kj h
 exact Yby (kW hC [(144, 608)])
 exact kf b6 (Xam (Xat ku))
 refine Xad (Xab ?_)
 iterate 3 refine kO hT hC ?_
 refine Vc.nil (Xah ?_)
 obtain rfl := kj h
 exact Xcl (τ := ⟨[(4, .own 16), (5, .sv (.bool true))], [(16, some (.ints .i64 v6))]⟩) (kW hC [(16, 144)]) rfl ⟨rfl, trivial⟩
def Xz1 (r : (List Int)) : AV := .own 16
def Xz0 (r : (List Int)) : Xa0 := [(16, .ints .i64 r)]
theorem Ycr {p0 r} (h : Xlz p0 = some r) : AC Tryz.prog 112 [.sv (.ints .i64 p0)] [] (Xz1 r) (Xz0 r) := by
 refine Xag hT Tryz.func112 rfl fun C hC => ?_
 unfold Xlz at h
 refine Xab ?_
 refine kO hT hC ?_
 refine Vc.nil (Xao (Xab ?_))
 refine kO hT hC ?_
 refine kC hC [] Tryz.call59 h (fun _ => Xbf) fun q1 h => ?_
 refine kO hT hC ?_
 refine Vc.nil ?_
 refine kS h ?_ ?_ <;> intro b1 h
 refine kt b1 (Xab ?_)
 iterate 2 refine kO hT hC ?_
 refine Vc.nil (Xah (Xas ?_))
 obtain rfl := kj h
 exact Xcl (τ := ⟨[(2, .own 16)], [(16, some (.ints .i64 ([] : List Int)))]⟩) (kW hC [(16, 96)]) rfl ⟨rfl, trivial⟩
 refine kf b1 (Xaf (Xad (Xab ?_)))
 refine kO hT hC ?_
 refine kC hC [(16, 128)] Tryz.call167 h (fun _ => Xur) fun q2 h => ?_
 refine kO hT hC ?_
 refine Vc.nil (Xah ?_)
 obtain rfl := kj h
 exact Xcl (τ := ⟨[(2, .own 16)], [(16, some (.ints .i64 q2))]⟩) (kW hC [(16, 128)]) rfl ⟨rfl, trivial⟩
def Xx7 (r : Int) : AV := .sv (.int .i64 r)
def Xx6 (r : Int) : Xa0 := []
theorem Xpb {p0 p1 r} (h : Xkr p0 p1 = some r) : AC Tryz.prog 169 [.sv (.int .i64 p0), .sv (.int .i64 p1)] [] (Xx7 r) (Xx6 r) := by
 refine Xag hT Tryz.func169 rfl fun C hC => ?_
 unfold Xkr at h
 refine Xab ?_
 refine kO hT hC ?_
 refine Vc.nil (Xao (Xab ?_))
 iterate 2 refine kO hT hC ?_
 refine Vc.nil ?_
 refine kS h ?_ ?_ <;> intro b1 h
 refine kt b1 (Xab ?_)
 iterate 3 refine kO hT hC ?_
 exact Vc.nil (Xah (Xas kR))
 refine kf b1 (Xaf (Xad (Xab ?_)))
 iterate 2 refine kO hT hC ?_
 exact Vc.nil (Xah kR)
def Xpz (r : Int) : AV := .sv (.int .i64 r)
def Xpy (r : Int) : Xa0 := []
theorem Xq8 {p0 p1 r} (h : Xe4 p0 p1 = some r) : AC Tryz.prog 113 [.sv (.int .i64 p0), .sv (.int .i64 p1)] [] (Xpz r) (Xpy r) := by
 refine Xag hT Tryz.func113 rfl fun C hC => ?_
 unfold Xe4 at h
 refine Xab ?_
 refine kO hT hC ?_
 refine Vc.nil (Xao ?_)
 refine kL [0,1] [] [_,_] [] ?_
 refine kA h (fun v1 => ([(13, .sv (.bool v1))], [])) (fun v1 h => ?_) fun v1 h => ?_
 refine Xac ?_
 refine kO hT hC ?_
 refine kC hC [] Tryz.call61 h (fun _ => Xaj) fun q2 h => ?_
 iterate 2 refine kO hT hC ?_
 refine kS h ?_ ?_ <;> intro b1 h
 refine kI hT hC (kn b1) ?_
 refine kE hC (kn b1) [] Tryz.call61 h (fun _ => Xaj) fun q3 h => ?_
 refine kI hT hC (kn b1) ?_
 refine kP hC false (kn b1) ?_
 exact Vc.nil kM
 iterate 3 refine kF hC (kn b1) ?_
 refine kP hC true (kn b1) ?_
 exact Vc.nil kM
 refine kS h ?_ ?_ <;> intro b2 h
 refine kt b2 (Xab ?_)
 refine kO hT hC ?_
 exact Vc.nil (Xah (Xas kR))
 refine kf b2 (Xaf (Xad (Xab ?_)))
 refine kO hT hC ?_
 refine kC hC [] Tryz.call168 h (fun _ => Xo7) fun q4 h => ?_
 refine kO hT hC ?_
 refine kN ?_
 refine kO hT hC ?_
 refine kC hC [] Tryz.call120 h (fun _ => Xn4) fun q5 h => ?_
 refine kO hT hC ?_
 refine kQ hT hC h fun h => ?_
 iterate 2 refine kO hT hC ?_
 refine kQ hT hC h fun h => ?_
 refine kO hT hC ?_
 refine kC hC [] Tryz.call169 h (fun _ => Xpb) fun q6 h => ?_
 refine kO hT hC ?_
 exact Vc.nil (Xah kR)
def Xxo (r : (Int × Int × Int × Int)) : AV := .agg [.sv (.int .i64 r.1), .sv (.int .i64 r.2.1), .sv (.int .i64 r.2.2.1), .sv (.int .i64 r.2.2.2)]
def Xxn (r : (Int × Int × Int × Int)) : Xa0 := []
theorem Xo2 {p0 p1 p2 p3 r} (h : Xij p0 p1 p2 p3 = some r) : AC Tryz.prog 171 [.sv (.int .i64 p0), .sv (.int .i64 p1), .sv (.int .i64 p2), .sv (.int .i64 p3)] [] (Xxo r) (Xxn r) := by
 refine Xag hT Tryz.func171 rfl fun C hC => ?_
 unfold Xij at h
 refine Xab ?_
 refine kO hT hC ?_
 refine kN ?_
 iterate 34 refine kO hT hC ?_
 exact Vc.nil (Xah kR)
def Xkt (r : (List Int)) : AV := .own 16
def Xks (r : (List Int)) : Xa0 := [(16, .ints .i64 r)]
theorem Xk7 {p0 r} (h : Xco p0 = some r) : AC Tryz.prog 170 [.sv (.ints .i64 p0), .fn 171 []] [] (Xkt r) (Xks r) := by
 refine Xag hT Tryz.func170 rfl fun C hC => ?_
 unfold Xco at h
 refine Xab ?_
 refine kO hT hC ?_
 refine kN ?_
 refine kO hT hC ?_
 refine kC hC [(16, 208)] Tryz.call212 h (fun _ => Xnc) fun q1 h => ?_
 refine kO hT hC ?_
 refine Vc.nil (Xao (Xab ?_))
 refine kO hT hC ?_
 refine Vc.nil ?_
 refine kL [1,5,6] [208] [_,_,_] [_] ?_
 refine kX h (fun v4 => ([(6, .sv (.int .i64 v4.1))], [(208, some (.ints .i64 v4.2))])) (fun v7 => ([(6, .any)], [(208, some (.ints .i64 v7))])) (kW hC []) (fun v4 s h => ?_) fun v7 h => ?_
 unfold Xf9 at h
 refine Xao (Xab ?_)
 iterate 2 refine kO hT hC ?_
 refine Vc.nil ?_
 refine kS h ?_ ?_ <;> intro b3 h
 refine kt b3 (Xaf (Xad (Xao (Xak ?_))))
 refine Xjq hm ?_
 iterate 3 refine kO hT hC ?_
 iterate 2 refine kQ hT hC h fun h => ?_
 iterate 3 refine kO hT hC ?_
 iterate 2 refine kQ hT hC h fun h => ?_
 iterate 3 refine kO hT hC ?_
 iterate 2 refine kQ hT hC h fun h => ?_
 iterate 3 refine kO hT hC ?_
 iterate 2 refine kQ hT hC h fun h => ?_
 refine kC hC [] Tryz.call171 h (fun _ => Xo2) fun q8 h => ?_
 iterate 2 refine kO hT hC ?_
 refine kD ?_
 refine Xdf hm ?_
 iterate 4 refine kO hT hC ?_
 refine kQ hT hC h fun h => ?_
 refine Ynu hT hC rfl rfl rfl rfl rfl rfl rfl rfl rfl ?_
 obtain ⟨hq, h⟩ := Xau h
 refine Yl4 hT hC rfl rfl rfl rfl rfl rfl rfl rfl rfl ⟨⟨trivial, hq.1⟩, hq.2⟩ ?_
 refine kD (Xan (Xad (Xac ?_)))
 iterate 3 refine kO hT hC ?_
 exact Vc.nil kG
 exact kf b3 (Xam (Xat ku))
 refine Xad (Xao (Xab ?_))
 refine kO hT hC ?_
 refine Vc.nil ?_
 refine kL [1,5,46] [208] [_,_,_] [_] ?_
 refine kX h (fun v17 => ([(46, .sv (.int .i64 v17.1))], [(208, some (.ints .i64 v17.2))])) (fun v25 => ([(1, .any), (46, .any)], [(208, some (.ints .i64 v25))])) (kW hC []) (fun v17 s h => ?_) fun v25 h => ?_
 unfold Xe9 at h
 refine Xab ?_
 refine kO hT hC ?_
 refine Vc.nil (Xao ?_)
 refine kS h ?_ ?_ <;> intro b12 h
 refine kt b12 (Xaf (Xad (Xao (Xak (Xab ?_)))))
 iterate 2 refine kO hT hC ?_
 refine Vc.nil ?_
 refine Xjq hm ?_
 iterate 3 refine kO hT hC ?_
 iterate 2 refine kQ hT hC h fun h => ?_
 iterate 3 refine kO hT hC ?_
 iterate 2 refine kQ hT hC h fun h => ?_
 iterate 3 refine kO hT hC ?_
 iterate 2 refine kQ hT hC h fun h => ?_
 iterate 3 refine kO hT hC ?_
 iterate 2 refine kQ hT hC h fun h => ?_
 refine kC hC [] Tryz.call171 h (fun _ => Xo2) fun q26 h => ?_
 iterate 2 refine kO hT hC ?_
 refine kD (Xab ?_)
 iterate 2 refine kO hT hC ?_
 refine Vc.nil ?_
 refine kL [1,5,8,46,70,71] [208] [_,_,_,_,_,_] [_] ?_
 refine kX h (fun v28 => ([(71, .sv (.int .i64 v28.1))], [(208, some (.ints .i64 v28.2))])) (fun v30 => ([(8, .any), (70, .any), (71, .any)], [(208, some (.ints .i64 v30))])) (kW hC []) (fun v28 s h => ?_) fun v30 h => ?_
 unfold Xfa at h
 refine Xab ?_
 refine kO hT hC ?_
 refine Vc.nil (Xao ?_)
 refine kS h ?_ ?_ <;> intro b15 h
 refine kt b15 (Xaf (Xad (Xao (Xak (Xab ?_)))))
 refine kO hT hC ?_
 obtain ⟨hq, h⟩ := Xau h
 refine Ynv hT hC rfl rfl rfl rfl rfl rfl rfl hq ?_
 iterate 2 refine kO hT hC ?_
 refine Vc.nil (Xac ?_)
 iterate 6 refine kO hT hC ?_
 iterate 2 refine kQ hT hC h fun h => ?_
 refine Vc.nil (Xan (Xad (Xac ?_)))
 iterate 2 refine kO hT hC ?_
 exact Vc.nil kG
 exact kf b15 (Xam (Xat ku))
 refine Xan (Xad (Xac ?_))
 iterate 2 refine kO hT hC ?_
 exact Vc.nil kG
 exact kf b12 (Xam (Xat ku))
 refine Xad (Xab ?_)
 iterate 2 refine kO hT hC ?_
 refine Vc.nil (Xah ?_)
 obtain rfl := kj h
 exact Xcl (τ := ⟨[(4, .own 16)], [(16, some (.ints .i64 v25))]⟩) (kW hC [(16, 208)]) rfl ⟨rfl, trivial⟩
def Yct (r : (List Int)) : AV := .own 16
def Ycs (r : (List Int)) : Xa0 := [(16, .ints .i64 r)]
theorem Yev {p0 r} (h : Xnz p0 = some r) : AC Tryz.prog 115 [.sv (.ints .i64 p0)] [] (Yct r) (Ycs r) := by
 refine Xag hT Tryz.func115 rfl fun C hC => ?_
 unfold Xnz at h
 refine Xab ?_
 refine kO hT hC ?_
 refine Vc.nil (Xao (Xab ?_))
 refine kO hT hC ?_
 refine kC hC [] Tryz.call59 h (fun _ => Xbf) fun q1 h => ?_
 refine kO hT hC ?_
 refine Vc.nil ?_
 refine kS h ?_ ?_ <;> intro b1 h
 refine kt b1 (Xab ?_)
 iterate 2 refine kO hT hC ?_
 refine Vc.nil (Xah (Xas ?_))
 obtain rfl := kj h
 exact Xcl (τ := ⟨[(2, .own 16)], [(16, some (.ints .i64 ([] : List Int)))]⟩) (kW hC [(16, 96)]) rfl ⟨rfl, trivial⟩
 refine kf b1 (Xaf (Xad (Xab ?_)))
 refine kO hT hC ?_
 refine kC hC [(16, 128)] Tryz.call170 h (fun _ => Xk7) fun q2 h => ?_
 refine kO hT hC ?_
 refine Vc.nil (Xah ?_)
 obtain rfl := kj h
 exact Xcl (τ := ⟨[(2, .own 16)], [(16, some (.ints .i64 q2))]⟩) (kW hC [(16, 128)]) rfl ⟨rfl, trivial⟩
def Xvi (r : Int) : AV := .sv (.int .i64 r)
def Xvh (r : Int) : Xa0 := []
theorem Xxw {p0 p1 r} (h : Xjj p0 p1 = some r) : AC Tryz.prog 172 [.sv (.int .i64 p0), .sv (.int .i64 p1)] [] (Xvi r) (Xvh r) := by
 refine Xag hT Tryz.func172 rfl fun C hC => ?_
 unfold Xjj at h
 refine Xab ?_
 refine kO hT hC ?_
 refine Vc.nil (Xao ?_)
 refine kL [0,1] [] [_,_] [] ?_
 refine kA h (fun v1 => ([(13, .sv (.bool v1))], [])) (fun v1 h => ?_) fun v1 h => ?_
 refine Xac ?_
 refine kO hT hC ?_
 refine kC hC [] Tryz.call61 h (fun _ => Xaj) fun q2 h => ?_
 iterate 2 refine kO hT hC ?_
 refine kS h ?_ ?_ <;> intro b1 h
 refine kI hT hC (kn b1) ?_
 refine kE hC (kn b1) [] Tryz.call61 h (fun _ => Xaj) fun q3 h => ?_
 refine kI hT hC (kn b1) ?_
 refine kP hC false (kn b1) ?_
 exact Vc.nil kM
 iterate 3 refine kF hC (kn b1) ?_
 refine kP hC true (kn b1) ?_
 exact Vc.nil kM
 refine kS h ?_ ?_ <;> intro b2 h
 refine kt b2 (Xab ?_)
 refine kO hT hC ?_
 exact Vc.nil (Xah (Xas kR))
 refine kf b2 (Xaf (Xad (Xab ?_)))
 iterate 9 refine kO hT hC ?_
 refine Vc.nil ?_
 refine Xjq hm ?_
 refine kO hT hC ?_
 refine kQ hT hC h fun h => ?_
 refine kO hT hC ?_
 refine kC hC [] Tryz.call213 h (fun _ => Xo4) fun q4 h => ?_
 iterate 2 refine kQ hT hC h fun h => ?_
 obtain ⟨hq, h⟩ := Xau h
 refine Ynx hT hC rfl rfl rfl rfl rfl rfl hq ?_
 refine kO hT hC ?_
 exact kD (Xah kR)
def Xp3 (r : Int) : AV := .sv (.int .i64 r)
def Xp2 (r : Int) : Xa0 := []
theorem Xrg {p0 p1 p2 r} (h : Xe7 p0 p1 p2 = some r) : AC Tryz.prog 116 [.sv (.int .i64 p0), .sv (.int .i64 p1), .sv (.int .i64 p2)] [] (Xp3 r) (Xp2 r) := by
 refine Xag hT Tryz.func116 rfl fun C hC => ?_
 unfold Xe7 at h
 refine Xab ?_
 refine kO hT hC ?_
 refine Vc.nil (Xao ?_)
 refine kL [0,1,2] [] [_,_,_] [] ?_
 refine kA h (fun v1 => ([(20, .sv (.bool v1))], [])) (fun v1 h => ?_) fun v1 h => ?_
 refine Xac ?_
 refine kO hT hC ?_
 refine kC hC [] Tryz.call61 h (fun _ => Xaj) fun q2 h => ?_
 iterate 2 refine kO hT hC ?_
 refine kS h ?_ ?_ <;> intro b1 h
 refine kI hT hC (kn b1) ?_
 refine kE hC (kn b1) [] Tryz.call61 h (fun _ => Xaj) fun q3 h => ?_
 refine kI hT hC (kn b1) ?_
 refine kP hC false (kn b1) ?_
 refine kO hT hC ?_
 refine kS h ?_ ?_ <;> intro b2 h
 refine kI hT hC (kn b2) ?_
 refine kE hC (kn b2) [] Tryz.call61 h (fun _ => Xaj) fun q4 h => ?_
 refine kI hT hC (kn b2) ?_
 refine kP hC false (kn b2) ?_
 exact Vc.nil kM
 iterate 3 refine kF hC (kn b2) ?_
 refine kP hC true (kn b2) ?_
 exact Vc.nil kM
 iterate 3 refine kF hC (kn b1) ?_
 refine kP hC true (kn b1) ?_
 refine kO hT hC ?_
 iterate 3 refine kF hC rfl ?_
 refine kO hT hC ?_
 exact Vc.nil kM
 refine kS h ?_ ?_ <;> intro b3 h
 refine kt b3 (Xab ?_)
 refine kO hT hC ?_
 exact Vc.nil (Xah (Xas kR))
 refine kf b3 (Xaf (Xad (Xab ?_)))
 refine kO hT hC ?_
 refine kQ hT hC h fun h => ?_
 refine kO hT hC ?_
 refine kQ hT hC h fun h => ?_
 refine kO hT hC ?_
 refine kN ?_
 refine kO hT hC ?_
 refine kC hC [] Tryz.call120 h (fun _ => Xn4) fun q5 h => ?_
 iterate 2 refine kO hT hC ?_
 refine kC hC [] Tryz.call172 h (fun _ => Xxw) fun q6 h => ?_
 iterate 2 refine kO hT hC ?_
 refine kQ hT hC h fun h => ?_
 iterate 2 refine kO hT hC ?_
 refine kQ hT hC h fun h => ?_
 refine kO hT hC ?_
 refine kC hC [] Tryz.call169 h (fun _ => Xpb) fun q7 h => ?_
 refine kO hT hC ?_
 exact Vc.nil (Xah kR)
def Xtg (r : ((List Int) × Bool)) : AV := .tup [.own 16, .sv (.bool r.2)]
def Xtf (r : ((List Int) × Bool)) : Xa0 := [(16, .ints .i64 r.1)]
theorem Xnb {p0 p1 r} (h : Xed p0 p1 = some r) : AC Tryz.prog 64 [.sv (.ints .i64 p0), .agg [.sv (.bool p1.Key), .sv (.int .i64 p1.Qp), .sv (.bool p1.Large), .sv (.bool p1.Exact)]] [] (Xtg r) (Xtf r) := by
 refine Xag hT Tryz.func64 rfl fun C hC => ?_
 unfold Xed at h
 refine Xab ?_
 iterate 3 refine kO hT hC ?_
 refine Vc.nil (Xao ?_)
 refine kL [0,3] [48] [_,_] [_] ?_
 refine kA h (fun v1 => ([(26, .sv (.bool v1))], [])) (fun v1 h => ?_) fun v1 h => ?_
 refine Xac ?_
 refine kO hT hC ?_
 refine kC hC [] Tryz.call59 h (fun _ => Xbf) fun q2 h => ?_
 iterate 2 refine kO hT hC ?_
 refine kS h ?_ ?_ <;> intro b1 h
 refine kI hT hC (kn b1) ?_
 refine kE hC (kn b1) [] Tryz.call60 h (fun _ => Xi7) fun q3 h => ?_
 refine kI hT hC (kn b1) ?_
 refine kP hC false (kn b1) ?_
 exact Vc.nil kM
 iterate 3 refine kF hC (kn b1) ?_
 refine kP hC true (kn b1) ?_
 exact Vc.nil kM
 refine kS h ?_ ?_ <;> intro b2 h
 refine kt b2 (Xab ?_)
 iterate 3 refine kO hT hC ?_
 refine Vc.nil (Xah (Xas ?_))
 obtain rfl := kj h
 exact Xcl (τ := ⟨[(4, .own 16), (5, .sv (.bool false))], [(16, some (.ints .i64 ([] : List Int)))]⟩) (kW hC [(16, 432)]) rfl ⟨rfl, trivial⟩
 refine kf b2 (Xaf (Xad (Xao (Xab ?_))))
 iterate 2 refine kO hT hC ?_
 refine Vc.nil ?_
 refine kS h ?_ ?_ <;> intro b3 h
 refine kt b3 (Xab ?_)
 refine kO hT hC ?_
 refine kC hC [(16, 496)] Tryz.call111 h (fun _ => Xkn) fun q4 h => ?_
 iterate 4 refine kO hT hC ?_
 refine Vc.nil (Xah (Xas ?_))
 obtain rfl := kj h
 exact Xcl (τ := ⟨[(4, .own 16), (5, .sv (.bool q4.2))], [(16, some (.ints .i64 q4.1))]⟩) (kW hC [(16, 496)]) rfl ⟨rfl, trivial⟩
 refine kf b3 (Xaf (Xad (Xao (Xab ?_))))
 iterate 2 refine kO hT hC ?_
 refine Vc.nil ?_
 refine kS h ?_ ?_ <;> intro b4 h
 refine kt b4 (Xab ?_)
 refine kO hT hC ?_
 refine kC hC [(16, 592)] Tryz.call112 h (fun _ => Ycr) fun q5 h => ?_
 refine kO hT hC ?_
 refine Vc.nil (Xao (Xab ?_))
 iterate 3 refine kO hT hC ?_
 refine Vc.nil ?_
 refine kL [3,6,38,39,40] [48,592] [_,_,_,_,_] [_,_] ?_
 refine kX h (fun v8 => ([(40, .sv (.int .i64 v8.1))], [(592, some (.ints .i64 v8.2))])) (fun v11 => ([(3, .any), (38, .any), (39, .any), (40, .any)], [(592, some (.ints .i64 v11)), (48, none)])) (kW hC []) (fun v8 s h => ?_) fun v11 h => ?_
 unfold Xgs at h
 refine Xab ?_
 refine kO hT hC ?_
 refine Vc.nil (Xao ?_)
 refine kS h ?_ ?_ <;> intro b7 h
 refine kt b7 (Xaf (Xad (Xao (Xak (Xab ?_)))))
 refine kO hT hC ?_
 iterate 2 refine kQ hT hC h fun h => ?_
 iterate 2 refine kO hT hC ?_
 refine Vc.nil (Xac ?_)
 iterate 5 refine kO hT hC ?_
 refine kC hC [] Tryz.call113 h (fun _ => Xq8) fun q12 h => ?_
 iterate 2 refine kQ hT hC h fun h => ?_
 refine Vc.nil (Xan (Xad (Xac ?_)))
 iterate 2 refine kO hT hC ?_
 exact Vc.nil kG
 exact kf b7 (Xam (Xat ku))
 refine Xad (Xab ?_)
 refine kO hT hC ?_
 refine kC hC [(16, 864)] Tryz.call111 h (fun _ => Xkn) fun q14 h => ?_
 iterate 4 refine kO hT hC ?_
 refine Vc.nil (Xah (Xas ?_))
 obtain rfl := kj h
 exact Xcl (τ := ⟨[(4, .own 16), (5, .sv (.bool q14.2))], [(16, some (.ints .i64 q14.1))]⟩) (kW hC [(16, 864)]) rfl ⟨rfl, trivial⟩
 refine kf b4 (Xaf (Xad (Xab ?_)))
 iterate 2 refine kO hT hC ?_
 refine Vc.nil (Xao (Xab ?_))
 refine kO hT hC ?_
 refine Vc.nil ?_
 refine kL [0,3,9,58] [48,912] [_,_,_,_] [_,_] ?_
 refine kX h (fun v32 => ([(58, .sv (.int .i64 v32.1))], [(912, some (.ints .i64 v32.2))])) (fun v50 => ([(0, .any), (3, .any), (58, .any)], [(912, some (.ints .i64 v50)), (48, none)])) (kW hC []) (fun v32 s h => ?_) fun v50 h => ?_
 unfold Xil at h
 refine Xab ?_
 refine kO hT hC ?_
 refine Vc.nil (Xao ?_)
 refine kS h ?_ ?_ <;> intro b22 h
 refine kt b22 (Xaf (Xad (Xao (Xak (Xab ?_)))))
 iterate 2 refine kO hT hC ?_
 refine kN ?_
 iterate 2 refine kO hT hC ?_
 refine Vc.nil (Xao (Xab ?_))
 refine kO hT hC ?_
 refine kC hC [(16, 1008)] Tryz.call114 h (fun _ => Xn2) fun q51 h => ?_
 iterate 2 refine kO hT hC ?_
 refine Vc.nil ?_
 refine kL [0,3,9,11,58,63,64,65] [48,912,976,1008] [_,_,_,_,_,_,_,_] [_,_,_,_] ?_
 refine kX h (fun v53 => ([(65, .sv (.int .i64 v53.1))], [(976, some (.ints .i64 v53.2))])) (fun v55 => ([(63, .any), (64, .any), (65, .any)], [(976, some (.ints .i64 v55)), (1008, none)])) (kW hC []) (fun v53 s h => ?_) fun v55 h => ?_
 unfold Xdt at h
 refine Xab ?_
 refine kO hT hC ?_
 refine Vc.nil (Xao ?_)
 refine kS h ?_ ?_ <;> intro b25 h
 refine kt b25 (Xaf (Xad (Xao (Xak (Xab ?_)))))
 iterate 2 refine kQ hT hC h fun h => ?_
 refine kO hT hC ?_
 refine Vc.nil (Xac ?_)
 iterate 3 refine kO hT hC ?_
 refine kQ hT hC h fun h => ?_
 iterate 2 refine kO hT hC ?_
 refine kT hT hC h fun h => ?_
 refine kO hT hC ?_
 refine Vc.nil (Xan (Xad (Xac ?_)))
 iterate 2 refine kO hT hC ?_
 refine Vc.nil ?_
 obtain rfl := kj h
 exact Yby (kW hC [(976, 1200)])
 exact kf b25 (Xam (Xat ku))
 refine Xad (Xab ?_)
 refine kO hT hC ?_
 refine kC hC [(16, 1248)] Tryz.call115 h (fun _ => Yev) fun q57 h => ?_
 refine kO hT hC ?_
 refine Vc.nil (Xao (Xab ?_))
 iterate 3 refine kO hT hC ?_
 refine Vc.nil ?_
 refine kL [0,3,9,14,58,79,80,81] [48,912,1248] [_,_,_,_,_,_,_,_] [_,_,_] ?_
 refine kX h (fun v60 => ([(81, .sv (.int .i64 v60.1))], [(1248, some (.ints .i64 v60.2))])) (fun v63 => ([(79, .any), (80, .any), (81, .any)], [(1248, some (.ints .i64 v63))])) (kW hC []) (fun v60 s h => ?_) fun v63 h => ?_
 unfold Xfv at h
 refine Xab ?_
 refine kO hT hC ?_
 refine Vc.nil (Xao ?_)
 refine kS h ?_ ?_ <;> intro b28 h
 refine kt b28 (Xaf (Xad (Xao (Xak (Xab ?_)))))
 refine kO hT hC ?_
 iterate 2 refine kQ hT hC h fun h => ?_
 iterate 2 refine kO hT hC ?_
 refine Vc.nil (Xac ?_)
 iterate 6 refine kO hT hC ?_
 refine kC hC [] Tryz.call116 h (fun _ => Xrg) fun q64 h => ?_
 iterate 2 refine kQ hT hC h fun h => ?_
 refine Vc.nil (Xan (Xad (Xac ?_)))
 iterate 2 refine kO hT hC ?_
 exact Vc.nil kG
 exact kf b28 (Xam (Xat ku))
 refine Xad (Xab ?_)
 refine kO hT hC ?_
 refine kC hC [(16, 1552)] Tryz.call111 h (fun _ => Xkn) fun q66 h => ?_
 iterate 5 refine kO hT hC ?_
 refine Vc.nil (Xac ?_)
 iterate 2 refine kO hT hC ?_
 refine kT hT hC h fun h => ?_
 refine kO hT hC ?_
 refine Vc.nil (Xan (Xad (Xac ?_)))
 iterate 2 refine kO hT hC ?_
 refine Vc.nil ?_
 obtain rfl := kj h
 exact Yby (kW hC [(912, 1632)])
 exact kf b22 (Xam (Xat ku))
 refine Xad (Xab ?_)
 iterate 3 refine kO hT hC ?_
 refine Vc.nil (Xah ?_)
 obtain rfl := kj h
 exact Xcl (τ := ⟨[(4, .own 16), (5, .sv (.bool true))], [(16, some (.ints .i64 v50))]⟩) (kW hC [(16, 912)]) rfl ⟨rfl, trivial⟩
def Xxm (r : (Int × Bool)) : AV := .tup [.sv (.int .i64 r.1), .sv (.bool r.2)]
def Xxl (r : (Int × Bool)) : Xa0 := []
theorem Xz2 {p0 r} (h : Xkl p0 = some r) : AC Tryz.prog 214 [.sv (.int .i64 p0)] [] (Xxm r) (Xxl r) := by
 refine Xag hT Tryz.func214 rfl fun C hC => ?_
 unfold Xkl at h
 refine Xab ?_
 iterate 2 refine kO hT hC ?_
 refine Vc.nil (Xao (Xak (Xab ?_)))
 refine kO hT hC ?_
 refine kC hC [] Tryz.call61 h (fun _ => Xaj) fun q1 h => ?_
 iterate 2 refine kO hT hC ?_
 refine Vc.nil ?_
 refine kS h ?_ ?_ <;> intro b1 h
 refine kt b1 (Xab ?_)
 iterate 2 refine kO hT hC ?_
 exact Vc.nil (Xah (Xii (Xas kR)))
 refine kf b1 (Xab ?_)
 iterate 3 refine kO hT hC ?_
 refine Vc.nil ?_
 refine kS h ?_ ?_ <;> intro b2 h
 refine kt b2 (Xab ?_)
 iterate 5 refine kO hT hC ?_
 exact Vc.nil (Xah (Xii (Xas kR)))
 refine kf b2 (Xaf (Xan (Xad (Xab ?_))))
 iterate 4 refine kO hT hC ?_
 exact Vc.nil (Xah kR)
def Xz8 (r : (ByteArray × Bool)) : AV := .tup [.sv (.str r.1), .sv (.bool r.2)]
def Xz7 (r : (ByteArray × Bool)) : Xa0 := []
theorem Ycu {p0 r} (h : Xl0 p0 = some r) : AC Tryz.prog 173 [.sv (.int .i64 p0)] [] (Xz8 r) (Xz7 r) := by
 refine Xag hT Tryz.func173 rfl fun C hC => ?_
 unfold Xl0 at h
 refine Xab ?_
 iterate 2 refine kO hT hC ?_
 refine kN ?_
 refine kO hT hC ?_
 refine kC hC [] Tryz.call214 h (fun _ => Xz2) fun q1 h => ?_
 iterate 5 refine kO hT hC ?_
 refine Vc.nil (Xao (Xab ?_))
 iterate 2 refine kO hT hC ?_
 refine Vc.nil ?_
 refine kS h ?_ ?_ <;> intro b1 h
 refine kt b1 (Xab ?_)
 iterate 2 refine kO hT hC ?_
 exact Vc.nil (Xah (Xas kR))
 refine kf b1 (Xaf (Xad (Xab ?_)))
 refine kO hT hC ?_
 refine kC hC [] Tryz.call165 h (fun _ => Xrl) fun q2 h => ?_
 iterate 4 refine kO hT hC ?_
 exact Vc.nil (Xah kR)
def Xxv (r : Int) : AV := .sv (.int .i64 r)
def Xxu (r : Int) : Xa0 := []
theorem Xo5 {p0 r} (h : Xim p0 = some r) : AC Tryz.prog 121 [.sv (.int .i64 p0)] [] (Xxv r) (Xxu r) := by
 refine Xag hT Tryz.func121 rfl fun C hC => ?_
 unfold Xim at h
 refine Xab ?_
 refine kO hT hC ?_
 refine kN ?_
 refine kO hT hC ?_
 refine kC hC [] Tryz.call173 h (fun _ => Ycu) fun q1 h => ?_
 iterate 5 refine kO hT hC ?_
 refine kN ?_
 iterate 3 refine kO hT hC ?_
 exact Vc.nil (Xah kR)
def Xta (r : (Int × Int × Int)) : AV := .tup [.sv (.int .i64 r.1), .sv (.int .i64 r.2.1), .sv (.int .i64 r.2.2)]
def Xs9 (r : (Int × Int × Int)) : Xa0 := []
theorem Xu2 {p0 p1 p2 p3 p4 r} (h : Xcm p0 p1 p2 p3 p4 = some r) : AC Tryz.prog 69 [.agg [.sv (.int .i64 p0.Wide), .sv (.int .i64 p0.High), .sv (.str p0.Dots)], .sv (.ints .i64 p1), .sv (.int .i64 p2), .sv (.int .i64 p3), .sv (.int .i64 p4)] [] (Xta r) (Xs9 r) := by
 refine Xag hT Tryz.func69 rfl fun C hC => ?_
 unfold Xcm at h
 refine Xab ?_
 iterate 4 refine kO hT hC ?_
 refine Vc.nil (Xao ?_)
 refine kL [1,2,3,4,5] [80] [_,_,_,_,_] [_] ?_
 refine kA h (fun v1 => ([(38, .sv (.bool v1))], [])) (fun v1 h => ?_) fun v1 h => ?_
 refine Xac ?_
 refine kO hT hC ?_
 refine kC hC [] Tryz.call57 h (fun _ => Xfw) fun q2 h => ?_
 iterate 2 refine kO hT hC ?_
 refine kS h ?_ ?_ <;> intro b1 h
 refine kI hT hC (kn b1) ?_
 refine kE hC (kn b1) [] Tryz.call59 h (fun _ => Xbf) fun q3 h => ?_
 refine kI hT hC (kn b1) ?_
 refine kP hC false (kn b1) ?_
 refine kO hT hC ?_
 refine kS h ?_ ?_ <;> intro b2 h
 refine kI hT hC (kn b2) ?_
 refine kE hC (kn b2) [] Tryz.call61 h (fun _ => Xaj) fun q4 h => ?_
 refine kI hT hC (kn b2) ?_
 refine kP hC false (kn b2) ?_
 refine kO hT hC ?_
 refine kS h ?_ ?_ <;> intro b3 h
 iterate 3 refine kI hT hC (kn b3) ?_
 refine kE hC (kn b3) [] Tryz.call58 h (fun _ => Xdq) fun q5 h => ?_
 refine kI hT hC (kn b3) ?_
 refine kP hC false (kn b3) ?_
 exact Vc.nil kM
 iterate 5 refine kF hC (kn b3) ?_
 refine kP hC true (kn b3) ?_
 exact Vc.nil kM
 iterate 3 refine kF hC (kn b2) ?_
 refine kP hC true (kn b2) ?_
 refine kO hT hC ?_
 iterate 5 refine kF hC rfl ?_
 refine kO hT hC ?_
 exact Vc.nil kM
 iterate 3 refine kF hC (kn b1) ?_
 refine kP hC true (kn b1) ?_
 refine kO hT hC ?_
 iterate 3 refine kF hC rfl ?_
 iterate 2 refine kO hT hC ?_
 iterate 5 refine kF hC rfl ?_
 refine kO hT hC ?_
 exact Vc.nil kM
 refine kS h ?_ ?_ <;> intro b4 h
 refine kt b4 (Xab ?_)
 iterate 3 refine kO hT hC ?_
 exact Vc.nil (Xah (Xas kR))
 refine kf b4 (Xaf (Xad (Xab ?_)))
 iterate 3 refine kO hT hC ?_
 refine Vc.nil (Xao (Xab ?_))
 iterate 3 refine kO hT hC ?_
 refine Vc.nil ?_
 refine kL [1,2,3,4,5,13,14,15,16] [80] [_,_,_,_,_,_,_,_,_] [_] ?_
 refine kX h (fun v33 => ([(13, .sv (.int .i64 v33.1)), (14, .sv (.int .i64 v33.2.1)), (15, .sv (.int .i64 v33.2.2.1)), (16, .sv (.int .i64 v33.2.2.2))], [])) (fun v61 => ([(13, .sv (.int .i64 v61.1)), (14, .sv (.int .i64 v61.2.1)), (15, .sv (.int .i64 v61.2.2)), (1, .any), (2, .any), (3, .any), (4, .any), (5, .any), (16, .any)], [(80, none)])) (kW hC []) (fun v33 s h => ?_) fun v61 h => ?_
 unfold Xdr at h
 refine Xao (Xab ?_)
 iterate 3 refine kO hT hC ?_
 refine Vc.nil ?_
 refine kS h ?_ ?_ <;> intro b31 h
 refine kt b31 (Xaf (Xad (Xao (Xak (Xab ?_)))))
 iterate 3 refine kO hT hC ?_
 refine Vc.nil ?_
 refine kL [1,2,3,4,5,13,14,15,16,17] [80] [_,_,_,_,_,_,_,_,_,_] [_] ?_
 refine kX h (fun v70 => ([(13, .sv (.int .i64 v70.1)), (14, .sv (.int .i64 v70.2.1)), (15, .sv (.int .i64 v70.2.2.1)), (17, .sv (.int .i64 v70.2.2.2))], [])) (fun v79 => ([(13, .sv (.int .i64 v79.1)), (14, .sv (.int .i64 v79.2.1)), (15, .sv (.int .i64 v79.2.2)), (17, .any)], [])) (kW hC []) (fun v70 s h => ?_) fun v79 h => ?_
 unfold Xb0 at h
 refine Xao (Xab ?_)
 iterate 3 refine kO hT hC ?_
 refine Vc.nil ?_
 refine kS h ?_ ?_ <;> intro b40 h
 refine kt b40 (Xaf (Xad ?_))
 refine kL [1,2,3,4,5,13,14,15,16,17] [80] [_,_,_,_,_,_,_,_,_,_] [_] ?_
 refine kA h (fun v80 => ([(13, .sv (.int .i64 v80.1)), (14, .sv (.int .i64 v80.2.1)), (15, .sv (.int .i64 v80.2.2))], [])) (fun v80 h => ?_) fun v80 h => ?_
 refine Xak (Xao (Xab ?_))
 iterate 8 refine kO hT hC ?_
 refine kC hC [] Tryz.call92 h (fun _ => Xth) fun q81 h => ?_
 refine kO hT hC ?_
 refine Vc.nil ?_
 refine kS h ?_ ?_ <;> intro b41 h
 exact kt b41 (Xam (Xat (Yed kM)))
 refine kf b41 (Xaf (Xad (Xab ?_)))
 iterate 8 refine kO hT hC ?_
 refine kC hC [(16, 1136)] Tryz.call68 h (fun _ => Xdv) fun q82 h => ?_
 refine kC hC [] Tryz.call67 h (fun _ => Xp8) fun q83 h => ?_
 refine kO hT hC ?_
 refine kC hC [] Tryz.call121 h (fun _ => Xo5) fun q84 h => ?_
 iterate 2 refine kO hT hC ?_
 refine kC hC [] Tryz.call121 h (fun _ => Xo5) fun q85 h => ?_
 iterate 2 refine kO hT hC ?_
 refine Vc.nil ?_
 refine kL [1,2,3,4,5,13,14,15,16,17,18] [80] [_,_,_,_,_,_,_,_,_,_,_] [_] ?_
 refine kA h (fun v86 => ([(85, .sv (.bool v86))], [])) (fun v86 h => ?_) fun v86 h => ?_
 refine Xac ?_
 iterate 3 refine kO hT hC ?_
 refine kS h ?_ ?_ <;> intro b42 h
 iterate 3 refine kF hC b42 ?_
 refine kP hC true b42 ?_
 exact Vc.nil kM
 iterate 3 refine kI hT hC b42 ?_
 refine kP hC false b42 ?_
 exact Vc.nil kM
 refine kS h ?_ ?_ <;> intro b43 h
 refine kt b43 (Xac ?_)
 iterate 6 refine kO hT hC ?_
 exact Vc.nil (Xan kM)
 exact kf b43 (Xaf (Xan kM))
 refine Xac ?_
 iterate 3 refine kO hT hC ?_
 exact Vc.nil kG
 exact kf b40 (Xam (Xat ku))
 refine Xan (Xad (Xac ?_))
 iterate 3 refine kO hT hC ?_
 exact Vc.nil kG
 exact kf b31 (Xam (Xat ku))
 refine Xad (Xab ?_)
 iterate 6 refine kO hT hC ?_
 exact Vc.nil (Xah kR)
def Xrj (r : (Xba × (List Int) × Bool)) : AV := .tup [.agg [.sv (.int .i64 r.1.Kind), .sv (.int .i64 r.1.Mode), .sv (.int .i64 r.1.Dx), .sv (.int .i64 r.1.Dy), .own 16], .own 17, .sv (.bool r.2.2)]
def Xri (r : (Xba × (List Int) × Bool)) : Xa0 := [(16, .ints .i64 r.1.Levels), (17, .ints .i64 r.2.1)]
theorem Xl1 {p0 p1 p2 p3 p4 p5 p6 r} (h : Xbj p0 p1 p2 p3 p4 p5 p6 = some r) : AC Tryz.prog 19 [.agg [.sv (.int .i64 p0.Wide), .sv (.int .i64 p0.High), .sv (.str p0.Dots)], .agg [.sv (.int .i64 p1.Wide), .sv (.int .i64 p1.High), .sv (.str p1.Dots)], .sv (.ints .i64 p2), .sv (.int .i64 p3), .sv (.int .i64 p4), .agg [.sv (.bool p5.Key), .sv (.int .i64 p5.Qp), .sv (.bool p5.Large), .sv (.bool p5.Exact)], .sv (.int .i64 p6)] [] (Xrj r) (Xri r) := by
 refine Xag hT Tryz.func19 rfl fun C hC => ?_
 unfold Xbj at h
 refine Xab ?_
 iterate 6 refine kO hT hC ?_
 refine Vc.nil (Xao ?_)
 refine kL [2,3,4,6,7,8,12,14] [112,128,192,224] [_,_,_,_,_,_,_,_] [_,_,_,_] ?_
 refine kA h (fun v1 => ([(51, .sv (.bool v1))], [])) (fun v1 h => ?_) fun v1 h => ?_
 refine Xac ?_
 refine kO hT hC ?_
 refine kC hC [] Tryz.call57 h (fun _ => Xfw) fun q2 h => ?_
 iterate 2 refine kO hT hC ?_
 refine kS h ?_ ?_ <;> intro b1 h
 iterate 3 refine kI hT hC (kn b1) ?_
 refine kE hC (kn b1) [] Tryz.call58 h (fun _ => Xdq) fun q3 h => ?_
 refine kI hT hC (kn b1) ?_
 refine kP hC false (kn b1) ?_
 refine kO hT hC ?_
 refine kS h ?_ ?_ <;> intro b2 h
 refine kI hT hC (kn b2) ?_
 refine kE hC (kn b2) [] Tryz.call59 h (fun _ => Xbf) fun q4 h => ?_
 refine kI hT hC (kn b2) ?_
 refine kP hC false (kn b2) ?_
 refine kO hT hC ?_
 refine kS h ?_ ?_ <;> intro b3 h
 refine kI hT hC (kn b3) ?_
 refine kE hC (kn b3) [] Tryz.call60 h (fun _ => Xi7) fun q5 h => ?_
 refine kI hT hC (kn b3) ?_
 refine kP hC false (kn b3) ?_
 refine kO hT hC ?_
 refine kS h ?_ ?_ <;> intro b4 h
 refine kI hT hC (kn b4) ?_
 refine kE hC (kn b4) [] Tryz.call61 h (fun _ => Xaj) fun q6 h => ?_
 refine kI hT hC (kn b4) ?_
 refine kP hC false (kn b4) ?_
 exact Vc.nil kM
 iterate 3 refine kF hC (kn b4) ?_
 refine kP hC true (kn b4) ?_
 exact Vc.nil kM
 iterate 3 refine kF hC (kn b3) ?_
 refine kP hC true (kn b3) ?_
 refine kO hT hC ?_
 iterate 3 refine kF hC rfl ?_
 refine kO hT hC ?_
 exact Vc.nil kM
 iterate 3 refine kF hC (kn b2) ?_
 refine kP hC true (kn b2) ?_
 refine kO hT hC ?_
 iterate 3 refine kF hC rfl ?_
 iterate 2 refine kO hT hC ?_
 iterate 3 refine kF hC rfl ?_
 refine kO hT hC ?_
 exact Vc.nil kM
 iterate 5 refine kF hC (kn b1) ?_
 refine kP hC true (kn b1) ?_
 refine kO hT hC ?_
 iterate 3 refine kF hC rfl ?_
 iterate 2 refine kO hT hC ?_
 iterate 3 refine kF hC rfl ?_
 iterate 2 refine kO hT hC ?_
 iterate 3 refine kF hC rfl ?_
 refine kO hT hC ?_
 exact Vc.nil kM
 refine kS h ?_ ?_ <;> intro b5 h
 refine kt b5 (Xab ?_)
 iterate 5 refine kO hT hC ?_
 refine Vc.nil (Xah (Xas ?_))
 obtain rfl := kj h
 refine Xcl (τ := ⟨[(14, .ptr 2000000 0), (15, .own 17), (16, .sv (.bool false))], [(16, some (.ints .i64 [])), (17, some (.ints .i64 ([] : List Int))), (2000000, some (.box [.sv (.int .i64 0), .sv (.int .i64 0), .sv (.int .i64 0), .sv (.int .i64 0), .own 16]))]⟩) ?_ rfl ⟨rfl, rfl, trivial⟩
 refine Xj6 hC 224 4 2817 (.ints .i64 []) rfl rfl rfl rfl rfl trivial ?_
 apply Xfs hC [(16, 2817), (17, 848), (2000000, 224)]
 exact co
 rfl
 decide
 rfl
 refine kf b5 (Xaf (Xad (Xao ?_)))
 refine kL [2,3,4,6,7,8,12,14] [112,128,192,224] [_,_,_,_,_,_,_,_] [_,_,_,_] ?_
 refine kA h (fun v7 => ([(75, .sv (.bool v7))], [])) (fun v7 h => ?_) fun v7 h => ?_
 refine Xac ?_
 iterate 4 refine kO hT hC ?_
 refine kS h ?_ ?_ <;> intro b6 h
 iterate 4 refine kF hC (kn b6) ?_
 iterate 5 refine Xk6 hC rfl rfl rfl rfl rfl rfl ?_
 iterate 2 refine kF hC (kn b6) ?_
 iterate 5 refine Xk6 hC rfl rfl rfl rfl rfl rfl ?_
 refine kF hC (kn b6) ?_
 refine kP hC false (kn b6) ?_
 exact Vc.nil kM
 refine kI hT hC (kn b6) ?_
 refine kE hC (kn b6) [] Tryz.call57 h (fun _ => Xfw) fun q8 h => ?_
 iterate 2 refine kI hT hC (kn b6) ?_
 refine kS h ?_ ?_ <;> intro b7 h
 iterate 5 refine kI hT hC (kn b7) ?_
 refine Xd5 hC rfl rfl rfl rfl (kn b6) rfl rfl (b := false) (kn b7) rfl rfl rfl trivial ?_
 refine kI hT hC (kn b6) ?_
 refine kS h ?_ ?_ <;> intro b8 h
 iterate 5 refine kF hC b8 ?_
 refine Xd5 hC rfl rfl rfl rfl (kn b6) rfl rfl (b := true) b8 rfl rfl rfl trivial ?_
 refine kP hC true (kn b6) ?_
 exact Vc.nil kM
 iterate 5 refine kI hT hC b8 ?_
 refine Xd5 hC rfl rfl rfl rfl (kn b6) rfl rfl (b := false) b8 rfl rfl rfl trivial ?_
 refine kP hC true (kn b6) ?_
 exact Vc.nil kM
 iterate 5 refine kF hC (kn b7) ?_
 refine Xd5 hC rfl rfl rfl rfl (kn b6) rfl rfl (b := true) (kn b7) rfl rfl rfl trivial ?_
 refine kI hT hC (kn b6) ?_
 iterate 5 refine kF hC rfl ?_
 refine Xd5 hC rfl rfl rfl rfl (kn b6) rfl rfl (b := true) rfl rfl rfl rfl trivial ?_
 refine kP hC true (kn b6) ?_
 exact Vc.nil kM
 refine kS h ?_ ?_ <;> intro b9 h
 refine kt b9 (Xab ?_)
 iterate 5 refine kO hT hC ?_
 refine Vc.nil (Xah (Xas ?_))
 obtain rfl := kj h
 refine Xcl (τ := ⟨[(14, .ptr 2000000 0), (15, .own 17), (16, .sv (.bool false))], [(16, some (.ints .i64 [])), (17, some (.ints .i64 ([] : List Int))), (2000000, some (.box [.sv (.int .i64 0), .sv (.int .i64 0), .sv (.int .i64 0), .sv (.int .i64 0), .own 16]))]⟩) ?_ rfl ⟨rfl, rfl, trivial⟩
 refine Xj6 hC 224 4 2818 (.ints .i64 []) rfl rfl rfl rfl rfl trivial ?_
 apply Xfs hC [(16, 2818), (17, 1232), (2000000, 224)]
 exact co
 rfl
 decide
 rfl
 refine kf b9 (Xaf (Xad (Xab ?_)))
 iterate 3 refine kO hT hC ?_
 refine kC hC [(16, 1312), (17, 1313)] Tryz.call62 h (fun _ => Xnx) fun q9 h => ?_
 iterate 6 refine kO hT hC ?_
 refine kN ?_
 iterate 2 refine kO hT hC ?_
 refine kC hC [] Tryz.call63 h (fun _ => Xs8) fun q10 h => ?_
 iterate 5 refine kO hT hC ?_
 refine kN ?_
 iterate 4 refine kO hT hC ?_
 refine Vc.nil ?_
 refine Xjq hm ?_
 iterate 3 refine kO hT hC ?_
 refine kC hC [(16, 1552)] Tryz.call66 h (fun _ => Xkm) fun q11 h => ?_
 refine kC hC [(16, 1568)] Tryz.call65 h (fun _ => Xnd) fun q12 h => ?_
 refine kO hT hC ?_
 refine kC hC [(16, 1600)] Tryz.call64 h (fun _ => Xnb) fun q13 h => ?_
 iterate 5 refine kO hT hC ?_
 refine kD ?_
 refine kL [2,3,4,6,7,8,12,14,20,21] [112,128,192,224,336,1600] [_,_,_,_,_,_,_,_,_,_] [_,_,_,_,_,_] ?_
 refine kA h (fun v14 => ([(2, .any), (6, .any), (20, .any)], [(336, some (.box [.sv (.int .i64 v14.1), .sv (.int .i64 v14.2.1), .sv (.int .i64 v14.2.2.1), .sv (.int .i64 v14.2.2.2.1), .own 1600])), (1600, some (.ints .i64 v14.2.2.2.2))])) (fun v14 h => ?_) fun v14 h => ?_
 refine Xab ?_
 iterate 3 refine kO hT hC ?_
 refine Vc.nil ?_
 refine kS h ?_ ?_ <;> intro b10 h
 refine kt b10 (Xab ?_)
 iterate 4 refine kO hT hC ?_
 refine kC hC [(16, 1776)] Tryz.call68 h (fun _ => Xdv) fun q15 h => ?_
 refine kC hC [] Tryz.call67 h (fun _ => Xp8) fun q16 h => ?_
 refine kO hT hC ?_
 refine Vc.nil ?_
 refine kS h ?_ ?_ <;> intro b11 h
 refine kt b11 (Xac ?_)
 iterate 2 refine kO hT hC ?_
 refine Vc.nil ?_
 obtain rfl := kj h
 refine Xjo ?_
 refine Xj6 hC 336 4 2819 (.ints .i64 []) rfl rfl rfl rfl rfl trivial ?_
 try dsimp only
 apply Xfs hC [(1600, 2819)]
 exact co
 rfl
 decide
 rfl
 refine kf b11 (Xab ?_)
 iterate 5 refine kO hT hC ?_
 refine kC hC [] Tryz.call69 h (fun _ => Xu2) fun q17 h => ?_
 iterate 7 refine kO hT hC ?_
 refine kN ?_
 iterate 3 refine kO hT hC ?_
 refine Vc.nil ?_
 refine kS h ?_ ?_ <;> intro b12 h
 refine kt b12 (Xab ?_)
 iterate 4 refine kO hT hC ?_
 refine Vc.nil ?_
 refine Xjq hm ?_
 iterate 8 refine kO hT hC ?_
 refine kC hC [(16, 2240)] Tryz.call68 h (fun _ => Xdv) fun q18 h => ?_
 refine kC hC [(16, 2256)] Tryz.call65 h (fun _ => Xnd) fun q19 h => ?_
 refine kO hT hC ?_
 refine kC hC [(16, 2288)] Tryz.call64 h (fun _ => Xnb) fun q20 h => ?_
 iterate 5 refine kO hT hC ?_
 refine kD ?_
 refine kL [3,4,7,8,12,14,21,22,23] [112,128,192,224,336,2288] [_,_,_,_,_,_,_,_,_] [_,_,_,_,_,_] ?_
 refine kA h (fun v21 => ([(157, .sv (.bool v21)), (22, .any), (23, .any)], [])) (fun v21 h => ?_) fun v21 h => ?_
 refine Xac ?_
 iterate 3 refine kO hT hC ?_
 refine kS h ?_ ?_ <;> intro b13 h
 iterate 2 refine kI hT hC b13 ?_
 refine kP hC true b13 ?_
 refine kO hT hC ?_
 refine kS h ?_ ?_ <;> intro b14 h
 iterate 2 refine kI hT hC b14 ?_
 refine kE hC b14 [] Tryz.call59 h (fun _ => Xbf) fun q22 h => ?_
 refine kP hC true b14 ?_
 exact Vc.nil kM
 iterate 3 refine kF hC b14 ?_
 refine kP hC false b14 ?_
 exact Vc.nil kM
 iterate 2 refine kF hC b13 ?_
 refine kP hC false b13 ?_
 refine kO hT hC ?_
 iterate 3 refine kF hC rfl ?_
 refine kO hT hC ?_
 exact Vc.nil kM
 refine kS h ?_ ?_ <;> intro b15 h
 refine kt b15 (Xac ?_)
 iterate 2 refine kO hT hC ?_
 refine Vc.nil ?_
 obtain rfl := kj h
 refine Xjo ?_
 refine Xj6 hC 336 4 2820 (.ints .i64 []) rfl rfl rfl rfl rfl trivial ?_
 try dsimp only
 apply Xfs hC [(1600, 2820)]
 exact co
 rfl
 decide
 rfl
 refine kf b15 (Xaf ?_)
 obtain rfl := kj h
 exact Xjo (kW hC [(1600, 2288)])
 exact kf b12 (Xaf kM)
 exact kf b10 (Xaf kM)
 refine Xab ?_
 iterate 6 refine kO hT hC ?_
 refine kC hC [(16, 2656)] Tryz.call70 h (fun _ => Xrh) fun q23 h => ?_
 iterate 5 refine kO hT hC ?_
 refine Vc.nil (Xao (Xab ?_))
 iterate 2 refine kO hT hC ?_
 refine Vc.nil ?_
 refine kS h ?_ ?_ <;> intro b16 h
 refine kt b16 (Xab ?_)
 iterate 5 refine kO hT hC ?_
 refine Vc.nil (Xah (Xas ?_))
 obtain rfl := kj h
 refine Xcl (τ := ⟨[(14, .ptr 2000000 0), (15, .own 17), (16, .sv (.bool false))], [(16, some (.ints .i64 [])), (17, some (.ints .i64 ([] : List Int))), (2000000, some (.box [.sv (.int .i64 0), .sv (.int .i64 0), .sv (.int .i64 0), .sv (.int .i64 0), .own 16]))]⟩) ?_ rfl ⟨rfl, rfl, trivial⟩
 refine Xj6 hC 224 4 2821 (.ints .i64 []) rfl rfl rfl rfl rfl trivial ?_
 apply Xfs hC [(16, 2821), (17, 2752), (2000000, 224)]
 exact co
 rfl
 decide
 rfl
 refine kf b16 (Xaf (Xad (Xab ?_)))
 iterate 5 refine kO hT hC ?_
 refine Vc.nil (Xah ?_)
 obtain rfl := kj h
 exact Xcl (τ := ⟨[(14, .ptr 2000000 0), (15, .own 17), (16, .sv (.bool true))], [(16, some (.ints .i64 v14.2.2.2.2)), (17, some (.ints .i64 q23.1)), (2000000, some (.box [.sv (.int .i64 v14.1), .sv (.int .i64 v14.2.1), .sv (.int .i64 v14.2.2.1), .sv (.int .i64 v14.2.2.2.1), .own 16]))]⟩) (kW hC [(16, 1600), (17, 2656), (2000000, 224)]) rfl ⟨rfl, rfl, trivial⟩
def Xn7 (r : Bool) : AV := .sv (.bool r)
def Xn6 (r : Bool) : Xa0 := []
theorem Xgl {p0 p1 r} (h : Xef p0 p1 = some r) : AC Tryz.prog 21 [.sv (.ints .i64 p0), .sv (.ints .i64 p1)] [] (Xn7 r) (Xn6 r) := by
 refine Xag hT Tryz.func21 rfl fun C hC => ?_
 unfold Xef at h
 refine Xab ?_
 refine kO hT hC ?_
 refine Vc.nil (Xao (Xab ?_))
 iterate 5 refine kO hT hC ?_
 refine Vc.nil ?_
 refine kS h ?_ ?_ <;> intro b1 h
 refine kt b1 (Xab ?_)
 refine kO hT hC ?_
 exact Vc.nil (Xah (Xas kR))
 refine kf b1 (Xaf (Xad (Xao (Xab ?_))))
 refine kO hT hC ?_
 refine Vc.nil ?_
 refine kL [0,1,5] [] [_,_,_] [] ?_
 obtain ⟨o5, hl, h⟩ := Xa4 h
 refine Xlu (fun v2 => ([(5, .sv (.int .i64 v2))], [])) (fun v4 => ([(0, .any), (1, .any), (5, .any)], [])) (fun r => Xuz C T Tryz.f21.results.toList (Xn7 r) (Xn6 r)) hl ?_ ?_ ?_ ?_
 apply Xfs hC []
 exact co
 rfl
 decide
 rfl
 intro v2 s hs
 have h := hs
 unfold Xgm at h
 refine Xao (Xab ?_)
 iterate 4 refine kO hT hC ?_
 refine Vc.nil ?_
 refine kS h ?_ ?_ <;> intro b6 h
 refine kt b6 (Xaf (Xad (Xao (Xak ?_))))
 refine Xjq hm ?_
 iterate 2 refine kO hT hC ?_
 refine kQ hT hC h fun h => ?_
 iterate 3 refine kO hT hC ?_
 refine kQ hT hC h fun h => ?_
 iterate 2 refine kO hT hC ?_
 refine kD ?_
 refine kS h ?_ ?_ <;> intro b7 h
 refine kt b7 (Xab ?_)
 refine kO hT hC ?_
 refine Vc.nil (Xah (Xii (Xas ?_)))
 obtain rfl := kj h
 refine Yaq (Yap ?_)
 exact Xcl (Xkc.refl _) rfl trivial
 refine kf b7 (Xaf (Xan (Xad (Xac ?_))))
 iterate 3 refine kO hT hC ?_
 exact Vc.nil kG
 exact kf b6 (Xam (Xat kb))
 intro v4 e
 subst e
 refine Xad (Xab ?_)
 refine kO hT hC ?_
 exact Vc.nil (Xah kR)
 intro r' σ' e hE
 subst e
 obtain rfl := kj h
 refine Xas ?_
 exact hE
def Xtt (r : Bool) : AV := .sv (.bool r)
def Xts (r : Bool) : Xa0 := []
theorem Xjx {p0 p1 r} (h : Xeg p0 p1 = some r) : AC Tryz.prog 20 [.agg [.sv (.int .i64 p0.Kind), .sv (.int .i64 p0.Mode), .sv (.int .i64 p0.Dx), .sv (.int .i64 p0.Dy), .sv (.ints .i64 p0.Levels)], .agg [.sv (.int .i64 p1.Kind), .sv (.int .i64 p1.Mode), .sv (.int .i64 p1.Dx), .sv (.int .i64 p1.Dy), .sv (.ints .i64 p1.Levels)]] [] (Xtt r) (Xts r) := by
 refine Xag hT Tryz.func20 rfl fun C hC => ?_
 unfold Xeg at h
 refine Xab ?_
 iterate 3 refine kO hT hC ?_
 refine Vc.nil (Xao (Xab ?_))
 iterate 5 refine kO hT hC ?_
 refine Vc.nil ?_
 refine kS h ?_ ?_ <;> intro b1 h
 refine kt b1 (Xab ?_)
 refine kO hT hC ?_
 exact Vc.nil (Xah (Xas kR))
 refine kf b1 (Xaf (Xad (Xao (Xab ?_))))
 iterate 5 refine kO hT hC ?_
 refine Vc.nil ?_
 refine kS h ?_ ?_ <;> intro b2 h
 refine kt b2 (Xab ?_)
 refine kO hT hC ?_
 exact Vc.nil (Xah (Xas kR))
 refine kf b2 (Xaf (Xad (Xao (Xab ?_))))
 iterate 5 refine kO hT hC ?_
 refine Vc.nil ?_
 refine kS h ?_ ?_ <;> intro b3 h
 refine kt b3 (Xab ?_)
 refine kO hT hC ?_
 exact Vc.nil (Xah (Xas kR))
 refine kf b3 (Xaf (Xad (Xao (Xab ?_))))
 iterate 5 refine kO hT hC ?_
 refine Vc.nil ?_
 refine kS h ?_ ?_ <;> intro b4 h
 refine kt b4 (Xab ?_)
 refine kO hT hC ?_
 exact Vc.nil (Xah (Xas kR))
 refine kf b4 (Xaf (Xad (Xao (Xab ?_))))
 iterate 4 refine kO hT hC ?_
 refine kC hC [] Tryz.call21 h (fun _ => Xgl) fun q1 h => ?_
 refine kO hT hC ?_
 refine Vc.nil ?_
 refine kS h ?_ ?_ <;> intro b5 h
 refine kt b5 (Xab ?_)
 refine kO hT hC ?_
 exact Vc.nil (Xah (Xas kR))
 refine kf b5 (Xaf (Xad (Xab ?_)))
 refine kO hT hC ?_
 exact Vc.nil (Xah kR)
def Xtv (r : (Int × (List Int))) : AV := .sv (.int .i64 r.1)
def Xtu (r : (Int × (List Int))) : Xa0 := [(0, .ints .i64 r.2)]
theorem Xj0 {p0 p1 r} (h : Xei p0 p1 = some r) : AC Tryz.prog 22 [.own 0, .sv (.int .i64 p1)] [(0, .ints .i64 p0)] (Xtv r) (Xtu r) := by
 refine Xag hT Tryz.func22 rfl fun C hC => ?_
 unfold Xei at h
 refine Xab ?_
 refine kO hT hC ?_
 refine Vc.nil (Xao (Xab ?_))
 refine kO hT hC ?_
 refine Vc.nil ?_
 refine kL [0,1,5] [0] [_,_,_] [_] ?_
 refine kX h (fun v2 => ([(1, .sv (.int .i64 v2.1)), (5, .sv (.int .i64 v2.2.1))], [(0, some (.ints .i64 v2.2.2))])) (fun v4 => ([(1, .sv (.int .i64 v4.1)), (0, .any), (5, .any)], [(0, some (.ints .i64 v4.2))])) (kW hC []) (fun v2 s h => ?_) fun v4 h => ?_
 unfold Xep at h
 refine Xao (Xab ?_)
 iterate 4 refine kO hT hC ?_
 refine Vc.nil ?_
 refine kS h ?_ ?_ <;> intro b3 h
 refine kt b3 (Xaf (Xad (Xao (Xak (Xab ?_)))))
 iterate 3 refine kO hT hC ?_
 iterate 2 refine kQ hT hC h fun h => ?_
 refine Vc.nil (Xac ?_)
 iterate 3 refine kO hT hC ?_
 refine Vc.nil (Xan (Xad (Xac ?_)))
 iterate 3 refine kO hT hC ?_
 exact Vc.nil kG
 exact kf b3 (Xam (Xat ku))
 refine Xad (Xab ?_)
 iterate 2 refine kO hT hC ?_
 refine Vc.nil (Xah ?_)
 obtain rfl := kj h
 exact Xcl (Xkc.refl _) rfl ⟨rfl, trivial⟩
def Xqe (r : (Int × Xba)) : AV := .sv (.int .i64 r.1)
def Xqd (r : (Int × Xba)) : Xa0 := [(2, .ints .i64 r.2.Levels)]
theorem Xry {p0 p1 r} (h : Xhv p0 p1 = some r) : AC Tryz.prog 23 [.agg [.sv (.int .i64 p0.Kind), .sv (.int .i64 p0.Mode), .sv (.int .i64 p0.Dx), .sv (.int .i64 p0.Dy), .own 2], .sv (.int .i64 p1)] [(2, .ints .i64 p0.Levels)] (Xqe r) (Xqd r) := by
 refine Xag hT Tryz.func23 rfl fun C hC => ?_
 unfold Xhv at h
 refine Xab ?_
 iterate 2 refine kO hT hC ?_
 refine kN ?_
 iterate 3 refine kO hT hC ?_
 refine kC hC [(0, 2)] Tryz.call22 h (fun _ => Xj0) fun q1 h => ?_
 refine kO hT hC ?_
 refine kN ?_
 iterate 2 refine kO hT hC ?_
 refine Vc.nil (Xah ?_)
 obtain rfl := kj h
 exact Xcl (Xkc.refl _) rfl ⟨rfl, trivial⟩
def Xma (r : Int) : AV := .sv (.int .i64 r)
def Xl9 (r : Int) : Xa0 := []
theorem Xjy {p0 p1 r} (h : Xeh p0 p1 = some r) : AC Tryz.prog 25 [.sv (.ints .i64 p0), .sv (.int .i64 p1)] [] (Xma r) (Xl9 r) := by
 refine Xag hT Tryz.func25 rfl fun C hC => ?_
 unfold Xeh at h
 refine Xab ?_
 refine kO hT hC ?_
 refine Vc.nil (Xao (Xab ?_))
 refine kO hT hC ?_
 refine Vc.nil ?_
 refine kL [0,1,5] [] [_,_,_] [] ?_
 obtain ⟨o5, hl, h⟩ := Xa4 h
 refine Xlu (fun v2 => ([(1, .sv (.int .i64 v2.1)), (5, .sv (.int .i64 v2.2))], [])) (fun v4 => ([(1, .sv (.int .i64 v4)), (0, .any), (5, .any)], [])) (fun r => Xuz C T Tryz.f25.results.toList (Xma r) (Xl9 r)) hl ?_ ?_ ?_ ?_
 try dsimp only
 apply Xfs hC []
 exact co
 rfl
 decide
 rfl
 intro v2 s hs
 have h := hs
 unfold Xeo at h
 refine Xao (Xab ?_)
 iterate 4 refine kO hT hC ?_
 refine Vc.nil ?_
 refine kS h ?_ ?_ <;> intro b5 h
 refine kt b5 (Xaf (Xad (Xao (Xak (Xao (Xab ?_))))))
 iterate 2 refine kO hT hC ?_
 refine kQ hT hC h fun h => ?_
 iterate 3 refine kO hT hC ?_
 refine Vc.nil ?_
 refine kS h ?_ ?_ <;> intro b6 h
 refine kt b6 (Xab ?_)
 refine kO hT hC ?_
 refine Vc.nil (Xah (Xas (Xii (Xas ?_))))
 obtain rfl := kj h
 refine Yaq (Yap ?_)
 exact Xcl (Xkc.refl _) rfl trivial
 refine kf b6 (Xaf (Xad (Xac ?_)))
 iterate 3 refine kO hT hC ?_
 refine Vc.nil (Xan (Xad (Xac ?_)))
 iterate 3 refine kO hT hC ?_
 exact Vc.nil kG
 exact kf b5 (Xam (Xat kb))
 intro v4 e
 subst e
 refine Xad (Xab ?_)
 iterate 2 refine kO hT hC ?_
 exact Vc.nil (Xah kR)
 intro r' σ' e hE
 subst e
 obtain rfl := kj h
 refine Xas ?_
 exact hE
def Xqc (r : Int) : AV := .sv (.int .i64 r)
def Xqb (r : Int) : Xa0 := []
theorem Xle {p0 p1 r} (h : Xfb p0 p1 = some r) : AC Tryz.prog 24 [.agg [.sv (.int .i64 p0.Kind), .sv (.int .i64 p0.Mode), .sv (.int .i64 p0.Dx), .sv (.int .i64 p0.Dy), .sv (.ints .i64 p0.Levels)], .sv (.int .i64 p1)] [] (Xqc r) (Xqb r) := by
 refine Xag hT Tryz.func24 rfl fun C hC => ?_
 unfold Xfb at h
 refine Xab ?_
 iterate 2 refine kO hT hC ?_
 refine kN ?_
 iterate 3 refine kO hT hC ?_
 refine kC hC [] Tryz.call25 h (fun _ => Xjy) fun q1 h => ?_
 refine kO hT hC ?_
 refine Vc.nil (Xao (Xab ?_))
 iterate 2 refine kO hT hC ?_
 refine Vc.nil ?_
 refine kS h ?_ ?_ <;> intro b1 h
 refine kt b1 (Xab ?_)
 refine kO hT hC ?_
 exact Vc.nil (Xah (Xas kR))
 refine kf b1 (Xaf (Xad (Xab ?_)))
 iterate 2 refine kO hT hC ?_
 exact Vc.nil (Xah kR)
def Xlq (r : Bool) : AV := .sv (.bool r)
def Xlp (r : Bool) : Xa0 := []
theorem Xl8 {p0 p1 p2 p3 p4 p5 p6 r} (h : Xda p0 p1 p2 p3 p4 p5 p6 = some r) : AC Tryz.prog 4 [.agg [.sv (.int .i64 p0.Wide), .sv (.int .i64 p0.High), .sv (.str p0.Dots)], .agg [.sv (.int .i64 p1.Wide), .sv (.int .i64 p1.High), .sv (.str p1.Dots)], .sv (.ints .i64 p2), .sv (.int .i64 p3), .sv (.int .i64 p4), .agg [.sv (.bool p5.Key), .sv (.int .i64 p5.Qp), .sv (.bool p5.Large), .sv (.bool p5.Exact)], .sv (.int .i64 p6)] [] (Xlq r) (Xlp r) := by
 refine Xag hT Tryz.func4 rfl fun C hC => ?_
 unfold Xda at h
 refine Xab ?_
 iterate 4 refine kO hT hC ?_
 refine Vc.nil (Xao (Xab ?_))
 iterate 3 refine kO hT hC ?_
 refine Vc.nil ?_
 refine kS h ?_ ?_ <;> intro b1 h
 refine kt b1 (Xab ?_)
 refine kO hT hC ?_
 exact Vc.nil (Xah (Xas kR))
 refine kf b1 (Xaf (Xad (Xab ?_)))
 refine kO hT hC ?_
 refine kN ?_
 iterate 2 refine kO hT hC ?_
 refine kC hC [] Tryz.call7 h (fun _ => Xrz) fun q1 h => ?_
 refine kO hT hC ?_
 refine Vc.nil (Xao (Xab ?_))
 iterate 2 refine kO hT hC ?_
 refine Vc.nil ?_
 refine kS h ?_ ?_ <;> intro b2 h
 refine kt b2 (Xab ?_)
 refine kO hT hC ?_
 exact Vc.nil (Xah (Xas kR))
 refine kf b2 (Xaf (Xad (Xab ?_)))
 iterate 2 refine kO hT hC ?_
 refine kC hC [] Tryz.call7 h (fun _ => Xrz) fun q2 h => ?_
 refine kO hT hC ?_
 refine Vc.nil (Xao (Xab ?_))
 iterate 2 refine kO hT hC ?_
 refine Vc.nil ?_
 refine kS h ?_ ?_ <;> intro b3 h
 refine kt b3 (Xab ?_)
 refine kO hT hC ?_
 exact Vc.nil (Xah (Xas kR))
 refine kf b3 (Xaf (Xad ?_))
 refine Xjq hm ?_
 refine kO hT hC ?_
 refine kC hC [] Tryz.call10 h (fun _ => Xf1) fun q3 h => ?_
 refine kO hT hC ?_
 refine kC hC [] Tryz.call10 h (fun _ => Xf1) fun q4 h => ?_
 refine kO hT hC ?_
 refine kC hC [(16, 768)] Tryz.call17 h (fun _ => Xjb) fun q5 h => ?_
 iterate 3 refine kO hT hC ?_
 refine kC hC [] Tryz.call18 h (fun _ => Xlr) fun q6 h => ?_
 refine kO hT hC ?_
 obtain ⟨q7, hq, h⟩ := Xa4 h
 refine Yhv hC [(16, 864), (17, 865)] rfl rfl rfl rfl Tryz.call16 (Xub hq) rfl (by decide) trivial rfl (.inr ⟨rfl, ⟨trivial, trivial, trivial⟩⟩) rfl ?_
 iterate 8 refine kO hT hC ?_
 refine kD (Xab ?_)
 refine kO hT hC ?_
 refine kC hC [(16, 944)] Tryz.call17 h (fun _ => Xjb) fun q8 h => ?_
 refine kO hT hC ?_
 refine Vc.nil ?_
 refine Xjq hm ?_
 refine kO hT hC ?_
 refine kC hC [] Tryz.call10 h (fun _ => Xf1) fun q9 h => ?_
 refine kO hT hC ?_
 refine kC hC [] Tryz.call10 h (fun _ => Xf1) fun q10 h => ?_
 iterate 4 refine kO hT hC ?_
 refine kC hC [] Tryz.call18 h (fun _ => Xlr) fun q11 h => ?_
 refine kO hT hC ?_
 obtain ⟨q12, hq, h⟩ := Xa4 h
 refine Yhv hC [(16, 1136), (17, 1137)] rfl rfl rfl rfl Tryz.call19 (Xl1 hq) rfl (by decide) trivial rfl (.inr ⟨rfl, ⟨trivial, trivial, trivial⟩⟩) rfl ?_
 iterate 8 refine kO hT hC ?_
 refine kD (Xao ?_)
 refine kL [2,3,4,6,7,8,12,16,17,18,19,20,21,22] [112,128,192,256,320,864,865,944,1136,1137] [_,_,_,_,_,_,_,_,_,_,_,_,_,_] [_,_,_,_,_,_,_,_,_,_] ?_
 refine kA h (fun v13 => ([(89, .sv (.bool v13))], [])) (fun v13 h => ?_) fun v13 h => ?_
 refine Xac ?_
 iterate 2 refine kO hT hC ?_
 refine kC hC [] Tryz.call20 h (fun _ => Xjx) fun q14 h => ?_
 iterate 2 refine kO hT hC ?_
 refine kS h ?_ ?_ <;> intro b4 h
 iterate 2 refine kI hT hC (kn b4) ?_
 refine kE hC (kn b4) [] Tryz.call21 h (fun _ => Xgl) fun q15 h => ?_
 refine kI hT hC (kn b4) ?_
 refine kP hC false (kn b4) ?_
 refine kO hT hC ?_
 refine kS h ?_ ?_ <;> intro b5 h
 iterate 3 refine kI hT hC (kn b5) ?_
 refine kP hC false (kn b5) ?_
 exact Vc.nil kM
 iterate 3 refine kF hC (kn b5) ?_
 refine kP hC true (kn b5) ?_
 exact Vc.nil kM
 iterate 4 refine kF hC (kn b4) ?_
 refine kP hC true (kn b4) ?_
 refine kO hT hC ?_
 iterate 3 refine kF hC rfl ?_
 refine kO hT hC ?_
 exact Vc.nil kM
 refine kS h ?_ ?_ <;> intro b6 h
 refine kt b6 (Xab ?_)
 refine kO hT hC ?_
 exact Vc.nil (Xah (Xas kR))
 refine kf b6 (Xaf (Xad (Xao (Xab ?_))))
 iterate 2 refine kO hT hC ?_
 refine kC hC [(16, 1472)] Tryz.call17 h (fun _ => Xjb) fun q16 h => ?_
 refine kC hC [] Tryz.call21 h (fun _ => Xgl) fun q17 h => ?_
 refine kO hT hC ?_
 refine Vc.nil ?_
 refine kS h ?_ ?_ <;> intro b7 h
 refine kt b7 (Xab ?_)
 refine kO hT hC ?_
 exact Vc.nil (Xah (Xas kR))
 refine kf b7 (Xaf (Xad (Xab ?_)))
 refine kO hT hC ?_
 refine kN ?_
 iterate 2 refine kO hT hC ?_
 refine kC hC [(0, 944)] Tryz.call22 h (fun _ => Xj0) fun q18 h => ?_
 refine kO hT hC ?_
 refine Vc.nil (Xao ?_)
 refine kL [2,3,4,6,7,8,12,16,17,18,20,21,22,23] [112,128,192,256,320,864,865,1136,1137] [_,_,_,_,_,_,_,_,_,_,_,_,_,_] [_,_,_,_,_,_,_,_,_] ?_
 refine kA h (fun v19 => ([(116, .sv (.bool v19)), (22, .any), (23, .any)], [])) (fun v19 h => ?_) fun v19 h => ?_
 refine Xac ?_
 iterate 3 refine kO hT hC ?_
 refine kS h ?_ ?_ <;> intro b8 h
 iterate 4 refine kF hC b8 ?_
 refine kP hC true b8 ?_
 refine kO hT hC ?_
 iterate 4 refine kF hC rfl ?_
 iterate 2 refine kO hT hC ?_
 iterate 3 refine kF hC rfl ?_
 refine kO hT hC ?_
 exact Vc.nil kM
 iterate 2 refine kI hT hC b8 ?_
 refine kE hC b8 [] Tryz.call20 h (fun _ => Xjx) fun q20 h => ?_
 refine kI hT hC b8 ?_
 refine kP hC false b8 ?_
 refine kO hT hC ?_
 refine kS h ?_ ?_ <;> intro b9 h
 iterate 2 refine kI hT hC (kn b9) ?_
 refine kE hC (kn b9) [] Tryz.call21 h (fun _ => Xgl) fun q21 h => ?_
 refine kI hT hC (kn b9) ?_
 refine kP hC false (kn b9) ?_
 refine kO hT hC ?_
 refine kS h ?_ ?_ <;> intro b10 h
 iterate 3 refine kI hT hC (kn b10) ?_
 refine kP hC false (kn b10) ?_
 exact Vc.nil kM
 iterate 3 refine kF hC (kn b10) ?_
 refine kP hC true (kn b10) ?_
 exact Vc.nil kM
 iterate 4 refine kF hC (kn b9) ?_
 refine kP hC true (kn b9) ?_
 refine kO hT hC ?_
 iterate 3 refine kF hC rfl ?_
 refine kO hT hC ?_
 exact Vc.nil kM
 refine kS h ?_ ?_ <;> intro b11 h
 refine kt b11 (Xab ?_)
 refine kO hT hC ?_
 exact Vc.nil (Xah (Xas kR))
 refine kf b11 (Xaf (Xad (Xab ?_)))
 refine kO hT hC ?_
 refine kN ?_
 iterate 2 refine kO hT hC ?_
 refine kC hC [(2, 1136)] Tryz.call23 h (fun _ => Xry) fun q22 h => ?_
 refine kO hT hC ?_
 refine kN ?_
 iterate 2 refine kO hT hC ?_
 refine kC hC [(0, 1137)] Tryz.call22 h (fun _ => Xj0) fun q23 h => ?_
 refine kO hT hC ?_
 refine kN ?_
 refine kO hT hC ?_
 refine kN ?_
 iterate 2 refine kO hT hC ?_
 refine kC hC [] Tryz.call24 h (fun _ => Xle) fun q24 h => ?_
 refine kO hT hC ?_
 refine Vc.nil (Xao (Xab ?_))
 iterate 2 refine kO hT hC ?_
 refine Vc.nil ?_
 refine kS h ?_ ?_ <;> intro b12 h
 refine kt b12 (Xab ?_)
 refine kO hT hC ?_
 exact Vc.nil (Xah (Xas kR))
 refine kf b12 (Xaf (Xad (Xab ?_)))
 iterate 2 refine kO hT hC ?_
 refine kC hC [] Tryz.call25 h (fun _ => Xjy) fun q25 h => ?_
 refine kO hT hC ?_
 refine Vc.nil (Xao (Xab ?_))
 iterate 2 refine kO hT hC ?_
 refine Vc.nil ?_
 refine kS h ?_ ?_ <;> intro b13 h
 refine kt b13 (Xab ?_)
 refine kO hT hC ?_
 exact Vc.nil (Xah (Xas kR))
 refine kf b13 (Xaf (Xad (Xao (Xab ?_))))
 iterate 3 refine kO hT hC ?_
 refine Vc.nil ?_
 refine kS h ?_ ?_ <;> intro b14 h
 refine kt b14 (Xab ?_)
 refine kO hT hC ?_
 exact Vc.nil (Xah (Xas kR))
 refine kf b14 (Xaf (Xad ?_))
 refine Xjq hm ?_
 refine kO hT hC ?_
 refine kC hC [] Tryz.call10 h (fun _ => Xf1) fun q26 h => ?_
 refine kO hT hC ?_
 refine kC hC [] Tryz.call10 h (fun _ => Xf1) fun q27 h => ?_
 refine kO hT hC ?_
 refine kC hC [(16, 2272)] Tryz.call17 h (fun _ => Xjb) fun q28 h => ?_
 iterate 3 refine kO hT hC ?_
 refine kC hC [] Tryz.call18 h (fun _ => Xlr) fun q29 h => ?_
 refine kO hT hC ?_
 obtain ⟨q30, hq, h⟩ := Xa4 h
 refine Yhv hC [(16, 2368), (17, 2369)] rfl rfl rfl rfl Tryz.call19 (Xl1 hq) rfl (by decide) trivial rfl (.inr ⟨rfl, ⟨trivial, trivial, trivial⟩⟩) rfl ?_
 iterate 8 refine kO hT hC ?_
 refine kD (Xao ?_)
 refine kL [16,17,18,20,21,24,26,27,28] [256,320,416,864,865,1136,1137,2368,2369] [_,_,_,_,_,_,_,_,_] [_,_,_,_,_,_,_,_,_] ?_
 refine kA h (fun v31 => ([(166, .sv (.bool v31)), (16, .any), (17, .any), (18, .any), (26, .any), (27, .any), (28, .any)], [(256, none), (416, none), (864, none), (865, none), (2368, none), (2369, none)])) (fun v31 h => ?_) fun v31 h => ?_
 refine Xac ?_
 iterate 2 refine kO hT hC ?_
 refine kC hC [] Tryz.call20 h (fun _ => Xjx) fun q32 h => ?_
 iterate 2 refine kO hT hC ?_
 refine kS h ?_ ?_ <;> intro b15 h
 iterate 2 refine kI hT hC (kn b15) ?_
 refine kE hC (kn b15) [] Tryz.call21 h (fun _ => Xgl) fun q33 h => ?_
 refine kI hT hC (kn b15) ?_
 refine kP hC false (kn b15) ?_
 refine kO hT hC ?_
 refine kS h ?_ ?_ <;> intro b16 h
 iterate 3 refine kI hT hC (kn b16) ?_
 refine kP hC false (kn b16) ?_
 exact Vc.nil kM
 iterate 3 refine kF hC (kn b16) ?_
 refine kP hC true (kn b16) ?_
 exact Vc.nil kM
 iterate 4 refine kF hC (kn b15) ?_
 refine kP hC true (kn b15) ?_
 refine kO hT hC ?_
 iterate 3 refine kF hC rfl ?_
 refine kO hT hC ?_
 exact Vc.nil kM
 refine kS h ?_ ?_ <;> intro b17 h
 refine kt b17 (Xab ?_)
 refine kO hT hC ?_
 exact Vc.nil (Xah (Xas kR))
 refine kf b17 (Xaf (Xad (Xab ?_)))
 refine kO hT hC ?_
 refine kN ?_
 iterate 2 refine kO hT hC ?_
 refine kC hC [] Tryz.call24 h (fun _ => Xle) fun q34 h => ?_
 refine kO hT hC ?_
 refine Vc.nil (Xao (Xab ?_))
 iterate 2 refine kO hT hC ?_
 refine Vc.nil ?_
 refine kS h ?_ ?_ <;> intro b18 h
 refine kt b18 (Xab ?_)
 refine kO hT hC ?_
 exact Vc.nil (Xah (Xas kR))
 refine kf b18 (Xaf (Xad (Xab ?_)))
 iterate 2 refine kO hT hC ?_
 refine kC hC [] Tryz.call25 h (fun _ => Xjy) fun q35 h => ?_
 refine kO hT hC ?_
 refine Vc.nil (Xao (Xab ?_))
 iterate 2 refine kO hT hC ?_
 refine Vc.nil ?_
 refine kS h ?_ ?_ <;> intro b19 h
 refine kt b19 (Xab ?_)
 refine kO hT hC ?_
 exact Vc.nil (Xah (Xas kR))
 refine kf b19 (Xaf (Xad (Xao (Xab ?_))))
 iterate 3 refine kO hT hC ?_
 refine Vc.nil ?_
 refine kS h ?_ ?_ <;> intro b20 h
 refine kt b20 (Xab ?_)
 refine kO hT hC ?_
 exact Vc.nil (Xah (Xas kR))
 refine kf b20 (Xaf (Xad (Xab ?_)))
 refine kO hT hC ?_
 exact Vc.nil (Xah kR)
end
end Go.Proofs.YtlebkepfhdjnmadGreat.A
