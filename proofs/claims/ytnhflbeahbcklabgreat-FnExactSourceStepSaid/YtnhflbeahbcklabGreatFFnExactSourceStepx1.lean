/- Contracts of the functions that the law FnExactSourceStep reaches, part 1: each comes to what its pure function tells. Written by a program of this session. Conditions: as each statement tells. -/
import Derived.Test.YtnhflbeahbcklabGreatFFnExactSourceStepx0
namespace Go.Proofs.YtnhflbeahbcklabGreat.A
open Go Go.Proofs Go.Proofs.YtnhflbeahbcklabGreatAL Go.RowKit
set_option linter.unusedVariables false
set_option linter.unusedSimpArgs false
set_option maxRecDepth 100000
set_option maxHeartbeats 2000000
noncomputable section
def Ygc (r : ((List Int) × Bool)) : AV := .tup [.own 16, .sv (.bool r.2)]
def Ygb (r : ((List Int) × Bool)) : Xax := [(16, .ints .i64 r.1)]
theorem Xpc {p0 p1 r} (h : Xhr p0 p1 = some r) : AC Tryz.prog 237 [.sv (.int .i64 p0), .sv (.ints .i64 p1)] [] (Ygc r) (Ygb r) := by
 refine Xaf hT Tryz.func237 rfl fun C hC => ?_
 unfold Xhr at h
 refine Xab ?_
 iterate 2 refine kO hT hC ?_
 refine kN ?_
 iterate 2 refine kO hT hC ?_
 refine Vc.nil (Xam ?_)
 refine kL [0,1,6] [144] [_,_,_] [_] ?_
 refine kA h (fun v1 => ([(23, .sv (.bool v1))], [])) (fun v1 h => ?_) fun v1 h => ?_
 refine Xac ?_
 iterate 3 refine kO hT hC ?_
 refine kS h ?_ ?_ <;> intro b1 h
 iterate 2 refine kI hT hC b1 ?_
 refine kP hC true b1 ?_
 refine kO hT hC ?_
 refine kS h ?_ ?_ <;> intro b2 h
 iterate 6 refine kF hC b2 ?_
 refine kP hC true b2 ?_
 exact Vc.nil kM
 iterate 6 refine kI hT hC b2 ?_
 refine kP hC false b2 ?_
 exact Vc.nil kM
 iterate 2 refine kF hC b1 ?_
 refine kP hC false b1 ?_
 refine kO hT hC ?_
 iterate 6 refine kI hT hC rfl ?_
 refine kO hT hC ?_
 exact Vc.nil kM
 refine kS h ?_ ?_ <;> intro b3 h
 refine kt b3 (Xab ?_)
 iterate 3 refine kO hT hC ?_
 refine Vc.nil (Xah (Xaq ?_))
 obtain rfl := kj h
 exact Xby (τ := ⟨[(4, .own 16), (5, .sv (.bool false))], [(16, some (.ints .i64 ([] : List Int)))]⟩) (kW hC [(16, 144)]) rfl ⟨rfl, trivial⟩
 refine kf b3 (Xag (Xae (Xam (Xab ?_))))
 refine kO hT hC ?_
 refine kC hC [(16, 416)] Tryz.call266 h (fun _ => Xrx) fun q2 h => ?_
 iterate 2 refine kO hT hC ?_
 refine Vc.nil ?_
 refine kL [1,6,26,27,28] [144,416] [_,_,_,_,_] [_,_] ?_
 refine kX h (fun v4 => ([(28, .sv (.int .i64 v4.1))], [(144, some (.ints .i64 v4.2))])) (fun v6 => ([(1, .any), (26, .any), (27, .any), (28, .any)], [(144, some (.ints .i64 v6)), (416, none)])) (kW hC []) (fun v4 s h => ?_) fun v6 h => ?_
 unfold Xlg at h
 refine Xab ?_
 refine kO hT hC ?_
 refine Vc.nil (Xam ?_)
 refine kS h ?_ ?_ <;> intro b6 h
 refine kt b6 (Xag (Xae (Xam (Xak (Xab ?_)))))
 iterate 2 refine kQ hT hC h fun h => ?_
 refine kO hT hC ?_
 refine Vc.nil (Xac ?_)
 iterate 3 refine kO hT hC ?_
 refine kQ hT hC h fun h => ?_
 iterate 2 refine kO hT hC ?_
 refine kT hT hC h fun h => ?_
 refine kO hT hC ?_
 refine Vc.nil (Xap (Xae (Xac ?_)))
 iterate 2 refine kO hT hC ?_
 refine Vc.nil ?_
 obtain rfl := kj h
 exact Yd2 (kW hC [(144, 608)])
 exact kf b6 (Xan (Xat ku))
 refine Xae (Xab ?_)
 iterate 3 refine kO hT hC ?_
 refine Vc.nil (Xah ?_)
 obtain rfl := kj h
 exact Xby (τ := ⟨[(4, .own 16), (5, .sv (.bool true))], [(16, some (.ints .i64 v6))]⟩) (kW hC [(16, 144)]) rfl ⟨rfl, trivial⟩
def Ynv (r : (List Int)) : AV := .own 16
def Ynu (r : (List Int)) : Xax := [(16, .ints .i64 r)]
theorem Yrx {p0 r} (h : Xrp p0 = some r) : AC Tryz.prog 238 [.sv (.ints .i64 p0)] [] (Ynv r) (Ynu r) := by
 refine Xaf hT Tryz.func238 rfl fun C hC => ?_
 unfold Xrp at h
 refine Xab ?_
 refine kO hT hC ?_
 refine Vc.nil (Xam (Xab ?_))
 refine kO hT hC ?_
 refine kC hC [] Tryz.call197 h (fun _ => Xbx) fun q1 h => ?_
 refine kO hT hC ?_
 refine Vc.nil ?_
 refine kS h ?_ ?_ <;> intro b1 h
 refine kt b1 (Xab ?_)
 iterate 2 refine kO hT hC ?_
 refine Vc.nil (Xah (Xaq ?_))
 obtain rfl := kj h
 exact Xby (τ := ⟨[(2, .own 16)], [(16, some (.ints .i64 ([] : List Int)))]⟩) (kW hC [(16, 96)]) rfl ⟨rfl, trivial⟩
 refine kf b1 (Xag (Xae (Xab ?_)))
 refine kO hT hC ?_
 refine kC hC [(16, 128)] Tryz.call267 h (fun _ => Yff) fun q2 h => ?_
 refine kO hT hC ?_
 refine Vc.nil (Xah ?_)
 obtain rfl := kj h
 exact Xby (τ := ⟨[(2, .own 16)], [(16, some (.ints .i64 q2))]⟩) (kW hC [(16, 128)]) rfl ⟨rfl, trivial⟩
def Ykv (r : Int) : AV := .sv (.int .i64 r)
def Yku (r : Int) : Xax := []
theorem Xxe {p0 p1 r} (h : Xpk p0 p1 = some r) : AC Tryz.prog 269 [.sv (.int .i64 p0), .sv (.int .i64 p1)] [] (Ykv r) (Yku r) := by
 refine Xaf hT Tryz.func269 rfl fun C hC => ?_
 unfold Xpk at h
 refine Xab ?_
 refine kO hT hC ?_
 refine Vc.nil (Xam (Xab ?_))
 iterate 2 refine kO hT hC ?_
 refine Vc.nil ?_
 refine kS h ?_ ?_ <;> intro b1 h
 refine kt b1 (Xab ?_)
 iterate 3 refine kO hT hC ?_
 exact Vc.nil (Xah (Xaq kR))
 refine kf b1 (Xag (Xae (Xab ?_)))
 iterate 2 refine kO hT hC ?_
 exact Vc.nil (Xah kR)
def Xyf (r : Int) : AV := .sv (.int .i64 r)
def Xye (r : Int) : Xax := []
theorem Xz9 {p0 p1 r} (h : Xhp p0 p1 = some r) : AC Tryz.prog 239 [.sv (.int .i64 p0), .sv (.int .i64 p1)] [] (Xyf r) (Xye r) := by
 refine Xaf hT Tryz.func239 rfl fun C hC => ?_
 unfold Xhp at h
 refine Xab ?_
 refine kO hT hC ?_
 refine Vc.nil (Xam ?_)
 refine kL [0,1] [] [_,_] [] ?_
 refine kA h (fun v1 => ([(13, .sv (.bool v1))], [])) (fun v1 h => ?_) fun v1 h => ?_
 refine Xac ?_
 refine kO hT hC ?_
 refine kC hC [] Tryz.call116 h (fun _ => Xai) fun q2 h => ?_
 iterate 2 refine kO hT hC ?_
 refine kS h ?_ ?_ <;> intro b1 h
 refine kI hT hC (kn b1) ?_
 refine kE hC (kn b1) [] Tryz.call116 h (fun _ => Xai) fun q3 h => ?_
 refine kI hT hC (kn b1) ?_
 refine kP hC false (kn b1) ?_
 exact Vc.nil kM
 iterate 3 refine kF hC (kn b1) ?_
 refine kP hC true (kn b1) ?_
 exact Vc.nil kM
 refine kS h ?_ ?_ <;> intro b2 h
 refine kt b2 (Xab ?_)
 refine kO hT hC ?_
 exact Vc.nil (Xah (Xaq kR))
 refine kf b2 (Xag (Xae (Xab ?_)))
 refine kO hT hC ?_
 refine kC hC [] Tryz.call268 h (fun _ => Xw8) fun q4 h => ?_
 refine kO hT hC ?_
 refine kN ?_
 refine kO hT hC ?_
 refine kC hC [] Tryz.call244 h (fun _ => Xuz) fun q5 h => ?_
 refine kO hT hC ?_
 refine kQ hT hC h fun h => ?_
 iterate 2 refine kO hT hC ?_
 refine kQ hT hC h fun h => ?_
 refine kO hT hC ?_
 refine kC hC [] Tryz.call269 h (fun _ => Xxe) fun q6 h => ?_
 refine kO hT hC ?_
 exact Vc.nil (Xah kR)
def Yjo (r : (Int × Int × Int × Int)) : AV := .agg [.sv (.int .i64 r.1), .sv (.int .i64 r.2.1), .sv (.int .i64 r.2.2.1), .sv (.int .i64 r.2.2.2)]
def Yjn (r : (Int × Int × Int × Int)) : Xax := []
theorem Xw0 {p0 p1 p2 p3 r} (h : Xmi p0 p1 p2 p3 = some r) : AC Tryz.prog 271 [.sv (.int .i64 p0), .sv (.int .i64 p1), .sv (.int .i64 p2), .sv (.int .i64 p3)] [] (Yjo r) (Yjn r) := by
 refine Xaf hT Tryz.func271 rfl fun C hC => ?_
 unfold Xmi at h
 refine Xab ?_
 refine kO hT hC ?_
 refine kN ?_
 iterate 34 refine kO hT hC ?_
 exact Vc.nil (Xah kR)
def Xpm (r : (List Int)) : AV := .own 16
def Xpl (r : (List Int)) : Xax := [(16, .ints .i64 r)]
theorem Xqf {p0 r} (h : Xdv p0 = some r) : AC Tryz.prog 270 [.sv (.ints .i64 p0), .fn 271 []] [] (Xpm r) (Xpl r) := by
 refine Xaf hT Tryz.func270 rfl fun C hC => ?_
 unfold Xdv at h
 refine Xab ?_
 refine kO hT hC ?_
 refine kN ?_
 refine kO hT hC ?_
 refine kC hC [(16, 208)] Tryz.call146 h (fun _ => Xj0) fun q1 h => ?_
 refine kO hT hC ?_
 refine Vc.nil (Xam (Xab ?_))
 refine kO hT hC ?_
 refine Vc.nil ?_
 refine kL [1,5,6] [208] [_,_,_] [_] ?_
 refine kX h (fun v4 => ([(6, .sv (.int .i64 v4.1))], [(208, some (.ints .i64 v4.2))])) (fun v7 => ([(6, .any)], [(208, some (.ints .i64 v7))])) (kW hC []) (fun v4 s h => ?_) fun v7 h => ?_
 unfold Xi6 at h
 refine Xam (Xab ?_)
 iterate 2 refine kO hT hC ?_
 refine Vc.nil ?_
 refine kS h ?_ ?_ <;> intro b3 h
 refine kt b3 (Xag (Xae (Xam (Xak ?_))))
 refine Xbs hm ?_
 iterate 3 refine kO hT hC ?_
 iterate 2 refine kQ hT hC h fun h => ?_
 iterate 3 refine kO hT hC ?_
 iterate 2 refine kQ hT hC h fun h => ?_
 iterate 3 refine kO hT hC ?_
 iterate 2 refine kQ hT hC h fun h => ?_
 iterate 3 refine kO hT hC ?_
 iterate 2 refine kQ hT hC h fun h => ?_
 refine kC hC [] Tryz.call271 h (fun _ => Xw0) fun q8 h => ?_
 iterate 2 refine kO hT hC ?_
 refine kD ?_
 refine Xb4 hm ?_
 iterate 4 refine kO hT hC ?_
 refine kQ hT hC h fun h => ?_
 refine Zgj hT hC rfl rfl rfl rfl rfl rfl rfl rfl rfl ?_
 obtain ⟨hq, h⟩ := Xaw h
 refine Zd4 hT hC rfl rfl rfl rfl rfl rfl rfl rfl rfl ⟨⟨trivial, hq.1⟩, hq.2⟩ ?_
 refine kD (Xap (Xae (Xac ?_)))
 iterate 3 refine kO hT hC ?_
 exact Vc.nil kG
 exact kf b3 (Xan (Xat ku))
 refine Xae (Xam (Xab ?_))
 refine kO hT hC ?_
 refine Vc.nil ?_
 refine kL [1,5,46] [208] [_,_,_] [_] ?_
 refine kX h (fun v17 => ([(46, .sv (.int .i64 v17.1))], [(208, some (.ints .i64 v17.2))])) (fun v25 => ([(1, .any), (46, .any)], [(208, some (.ints .i64 v25))])) (kW hC []) (fun v17 s h => ?_) fun v25 h => ?_
 unfold Xhx at h
 refine Xab ?_
 refine kO hT hC ?_
 refine Vc.nil (Xam ?_)
 refine kS h ?_ ?_ <;> intro b12 h
 refine kt b12 (Xag (Xae (Xam (Xak (Xab ?_)))))
 iterate 2 refine kO hT hC ?_
 refine Vc.nil ?_
 refine Xbs hm ?_
 iterate 3 refine kO hT hC ?_
 iterate 2 refine kQ hT hC h fun h => ?_
 iterate 3 refine kO hT hC ?_
 iterate 2 refine kQ hT hC h fun h => ?_
 iterate 3 refine kO hT hC ?_
 iterate 2 refine kQ hT hC h fun h => ?_
 iterate 3 refine kO hT hC ?_
 iterate 2 refine kQ hT hC h fun h => ?_
 refine kC hC [] Tryz.call271 h (fun _ => Xw0) fun q26 h => ?_
 iterate 2 refine kO hT hC ?_
 refine kD (Xab ?_)
 iterate 2 refine kO hT hC ?_
 refine Vc.nil ?_
 refine kL [1,5,8,46,70,71] [208] [_,_,_,_,_,_] [_] ?_
 refine kX h (fun v28 => ([(71, .sv (.int .i64 v28.1))], [(208, some (.ints .i64 v28.2))])) (fun v30 => ([(8, .any), (70, .any), (71, .any)], [(208, some (.ints .i64 v30))])) (kW hC []) (fun v28 s h => ?_) fun v30 h => ?_
 unfold Xhy at h
 refine Xab ?_
 refine kO hT hC ?_
 refine Vc.nil (Xam ?_)
 refine kS h ?_ ?_ <;> intro b15 h
 refine kt b15 (Xag (Xae (Xam (Xak (Xab ?_)))))
 refine kO hT hC ?_
 obtain ⟨hq, h⟩ := Xaw h
 refine Zgk hT hC rfl rfl rfl rfl rfl rfl rfl hq ?_
 iterate 2 refine kO hT hC ?_
 refine Vc.nil (Xac ?_)
 iterate 6 refine kO hT hC ?_
 iterate 2 refine kQ hT hC h fun h => ?_
 refine Vc.nil (Xap (Xae (Xac ?_)))
 iterate 2 refine kO hT hC ?_
 exact Vc.nil kG
 exact kf b15 (Xan (Xat ku))
 refine Xap (Xae (Xac ?_))
 iterate 2 refine kO hT hC ?_
 exact Vc.nil kG
 exact kf b12 (Xan (Xat ku))
 refine Xae (Xab ?_)
 iterate 2 refine kO hT hC ?_
 refine Vc.nil (Xah ?_)
 obtain rfl := kj h
 exact Xby (τ := ⟨[(4, .own 16)], [(16, some (.ints .i64 v25))]⟩) (kW hC [(16, 208)]) rfl ⟨rfl, trivial⟩
def Yrz (r : (List Int)) : AV := .own 16
def Yry (r : (List Int)) : Xax := [(16, .ints .i64 r)]
theorem Yur {p0 r} (h : Xuo p0 = some r) : AC Tryz.prog 241 [.sv (.ints .i64 p0)] [] (Yrz r) (Yry r) := by
 refine Xaf hT Tryz.func241 rfl fun C hC => ?_
 unfold Xuo at h
 refine Xab ?_
 refine kO hT hC ?_
 refine Vc.nil (Xam (Xab ?_))
 refine kO hT hC ?_
 refine kC hC [] Tryz.call197 h (fun _ => Xbx) fun q1 h => ?_
 refine kO hT hC ?_
 refine Vc.nil ?_
 refine kS h ?_ ?_ <;> intro b1 h
 refine kt b1 (Xab ?_)
 iterate 2 refine kO hT hC ?_
 refine Vc.nil (Xah (Xaq ?_))
 obtain rfl := kj h
 exact Xby (τ := ⟨[(2, .own 16)], [(16, some (.ints .i64 ([] : List Int)))]⟩) (kW hC [(16, 96)]) rfl ⟨rfl, trivial⟩
 refine kf b1 (Xag (Xae (Xab ?_)))
 refine kO hT hC ?_
 refine kC hC [(16, 128)] Tryz.call270 h (fun _ => Xqf) fun q2 h => ?_
 refine kO hT hC ?_
 refine Vc.nil (Xah ?_)
 obtain rfl := kj h
 exact Xby (τ := ⟨[(2, .own 16)], [(16, some (.ints .i64 q2))]⟩) (kW hC [(16, 128)]) rfl ⟨rfl, trivial⟩
def Yge (r : Int) : AV := .sv (.int .i64 r)
def Ygd (r : Int) : Xax := []
theorem Yj8 {p0 p1 r} (h : Xns p0 p1 = some r) : AC Tryz.prog 272 [.sv (.int .i64 p0), .sv (.int .i64 p1)] [] (Yge r) (Ygd r) := by
 refine Xaf hT Tryz.func272 rfl fun C hC => ?_
 unfold Xns at h
 refine Xab ?_
 refine kO hT hC ?_
 refine Vc.nil (Xam ?_)
 refine kL [0,1] [] [_,_] [] ?_
 refine kA h (fun v1 => ([(13, .sv (.bool v1))], [])) (fun v1 h => ?_) fun v1 h => ?_
 refine Xac ?_
 refine kO hT hC ?_
 refine kC hC [] Tryz.call116 h (fun _ => Xai) fun q2 h => ?_
 iterate 2 refine kO hT hC ?_
 refine kS h ?_ ?_ <;> intro b1 h
 refine kI hT hC (kn b1) ?_
 refine kE hC (kn b1) [] Tryz.call116 h (fun _ => Xai) fun q3 h => ?_
 refine kI hT hC (kn b1) ?_
 refine kP hC false (kn b1) ?_
 exact Vc.nil kM
 iterate 3 refine kF hC (kn b1) ?_
 refine kP hC true (kn b1) ?_
 exact Vc.nil kM
 refine kS h ?_ ?_ <;> intro b2 h
 refine kt b2 (Xab ?_)
 refine kO hT hC ?_
 exact Vc.nil (Xah (Xaq kR))
 refine kf b2 (Xag (Xae (Xab ?_)))
 iterate 9 refine kO hT hC ?_
 refine Vc.nil ?_
 refine Xbs hm ?_
 refine kO hT hC ?_
 refine kQ hT hC h fun h => ?_
 refine kO hT hC ?_
 refine kC hC [] Tryz.call299 h (fun _ => Xw3) fun q4 h => ?_
 iterate 2 refine kQ hT hC h fun h => ?_
 obtain ⟨hq, h⟩ := Xaw h
 refine Zgm hT hC rfl rfl rfl rfl rfl rfl hq ?_
 refine kO hT hC ?_
 exact kD (Xah kR)
def Xyj (r : Int) : AV := .sv (.int .i64 r)
def Xyi (r : Int) : Xax := []
theorem Yah {p0 p1 p2 r} (h : Xht p0 p1 p2 = some r) : AC Tryz.prog 242 [.sv (.int .i64 p0), .sv (.int .i64 p1), .sv (.int .i64 p2)] [] (Xyj r) (Xyi r) := by
 refine Xaf hT Tryz.func242 rfl fun C hC => ?_
 unfold Xht at h
 refine Xab ?_
 refine kO hT hC ?_
 refine Vc.nil (Xam ?_)
 refine kL [0,1,2] [] [_,_,_] [] ?_
 refine kA h (fun v1 => ([(20, .sv (.bool v1))], [])) (fun v1 h => ?_) fun v1 h => ?_
 refine Xac ?_
 refine kO hT hC ?_
 refine kC hC [] Tryz.call116 h (fun _ => Xai) fun q2 h => ?_
 iterate 2 refine kO hT hC ?_
 refine kS h ?_ ?_ <;> intro b1 h
 refine kI hT hC (kn b1) ?_
 refine kE hC (kn b1) [] Tryz.call116 h (fun _ => Xai) fun q3 h => ?_
 refine kI hT hC (kn b1) ?_
 refine kP hC false (kn b1) ?_
 refine kO hT hC ?_
 refine kS h ?_ ?_ <;> intro b2 h
 refine kI hT hC (kn b2) ?_
 refine kE hC (kn b2) [] Tryz.call116 h (fun _ => Xai) fun q4 h => ?_
 refine kI hT hC (kn b2) ?_
 refine kP hC false (kn b2) ?_
 exact Vc.nil kM
 iterate 3 refine kF hC (kn b2) ?_
 refine kP hC true (kn b2) ?_
 exact Vc.nil kM
 iterate 3 refine kF hC (kn b1) ?_
 refine kP hC true (kn b1) ?_
 refine kO hT hC ?_
 iterate 3 refine kF hC rfl ?_
 refine kO hT hC ?_
 exact Vc.nil kM
 refine kS h ?_ ?_ <;> intro b3 h
 refine kt b3 (Xab ?_)
 refine kO hT hC ?_
 exact Vc.nil (Xah (Xaq kR))
 refine kf b3 (Xag (Xae (Xab ?_)))
 refine kO hT hC ?_
 refine kQ hT hC h fun h => ?_
 refine kO hT hC ?_
 refine kQ hT hC h fun h => ?_
 refine kO hT hC ?_
 refine kN ?_
 refine kO hT hC ?_
 refine kC hC [] Tryz.call244 h (fun _ => Xuz) fun q5 h => ?_
 iterate 2 refine kO hT hC ?_
 refine kC hC [] Tryz.call272 h (fun _ => Yj8) fun q6 h => ?_
 iterate 2 refine kO hT hC ?_
 refine kQ hT hC h fun h => ?_
 iterate 2 refine kO hT hC ?_
 refine kQ hT hC h fun h => ?_
 refine kO hT hC ?_
 refine kC hC [] Tryz.call269 h (fun _ => Xxe) fun q7 h => ?_
 refine kO hT hC ?_
 exact Vc.nil (Xah kR)
def Yc2 (r : ((List Int) × Bool)) : AV := .tup [.own 16, .sv (.bool r.2)]
def Yc1 (r : ((List Int) × Bool)) : Xax := [(16, .ints .i64 r.1)]
theorem Xti {p0 p1 r} (h : Xgq p0 p1 = some r) : AC Tryz.prog 200 [.sv (.ints .i64 p0), .agg [.sv (.bool p1.Key), .sv (.int .i64 p1.Qp), .sv (.bool p1.Large), .sv (.bool p1.Exact)]] [] (Yc2 r) (Yc1 r) := by
 refine Xaf hT Tryz.func200 rfl fun C hC => ?_
 unfold Xgq at h
 refine Xab ?_
 iterate 3 refine kO hT hC ?_
 refine Vc.nil (Xam ?_)
 refine kL [0,3] [48] [_,_] [_] ?_
 refine kA h (fun v1 => ([(26, .sv (.bool v1))], [])) (fun v1 h => ?_) fun v1 h => ?_
 refine Xac ?_
 refine kO hT hC ?_
 refine kC hC [] Tryz.call197 h (fun _ => Xbx) fun q2 h => ?_
 iterate 2 refine kO hT hC ?_
 refine kS h ?_ ?_ <;> intro b1 h
 refine kI hT hC (kn b1) ?_
 refine kE hC (kn b1) [] Tryz.call127 h (fun _ => Xhb) fun q3 h => ?_
 refine kI hT hC (kn b1) ?_
 refine kP hC false (kn b1) ?_
 exact Vc.nil kM
 iterate 3 refine kF hC (kn b1) ?_
 refine kP hC true (kn b1) ?_
 exact Vc.nil kM
 refine kS h ?_ ?_ <;> intro b2 h
 refine kt b2 (Xab ?_)
 iterate 3 refine kO hT hC ?_
 refine Vc.nil (Xah (Xaq ?_))
 obtain rfl := kj h
 exact Xby (τ := ⟨[(4, .own 16), (5, .sv (.bool false))], [(16, some (.ints .i64 ([] : List Int)))]⟩) (kW hC [(16, 432)]) rfl ⟨rfl, trivial⟩
 refine kf b2 (Xag (Xae (Xam (Xab ?_))))
 iterate 2 refine kO hT hC ?_
 refine Vc.nil ?_
 refine kS h ?_ ?_ <;> intro b3 h
 refine kt b3 (Xab ?_)
 refine kO hT hC ?_
 refine kC hC [(16, 496)] Tryz.call237 h (fun _ => Xpc) fun q4 h => ?_
 iterate 4 refine kO hT hC ?_
 refine Vc.nil (Xah (Xaq ?_))
 obtain rfl := kj h
 exact Xby (τ := ⟨[(4, .own 16), (5, .sv (.bool q4.2))], [(16, some (.ints .i64 q4.1))]⟩) (kW hC [(16, 496)]) rfl ⟨rfl, trivial⟩
 refine kf b3 (Xag (Xae (Xam (Xab ?_))))
 iterate 2 refine kO hT hC ?_
 refine Vc.nil ?_
 refine kS h ?_ ?_ <;> intro b4 h
 refine kt b4 (Xab ?_)
 refine kO hT hC ?_
 refine kC hC [(16, 592)] Tryz.call238 h (fun _ => Yrx) fun q5 h => ?_
 refine kO hT hC ?_
 refine Vc.nil (Xam (Xab ?_))
 iterate 3 refine kO hT hC ?_
 refine Vc.nil ?_
 refine kL [3,6,38,39,40] [48,592] [_,_,_,_,_] [_,_] ?_
 refine kX h (fun v8 => ([(40, .sv (.int .i64 v8.1))], [(592, some (.ints .i64 v8.2))])) (fun v11 => ([(3, .any), (38, .any), (39, .any), (40, .any)], [(592, some (.ints .i64 v11)), (48, none)])) (kW hC []) (fun v8 s h => ?_) fun v11 h => ?_
 unfold Xjz at h
 refine Xab ?_
 refine kO hT hC ?_
 refine Vc.nil (Xam ?_)
 refine kS h ?_ ?_ <;> intro b7 h
 refine kt b7 (Xag (Xae (Xam (Xak (Xab ?_)))))
 refine kO hT hC ?_
 iterate 2 refine kQ hT hC h fun h => ?_
 iterate 2 refine kO hT hC ?_
 refine Vc.nil (Xac ?_)
 iterate 5 refine kO hT hC ?_
 refine kC hC [] Tryz.call239 h (fun _ => Xz9) fun q12 h => ?_
 iterate 2 refine kQ hT hC h fun h => ?_
 refine Vc.nil (Xap (Xae (Xac ?_)))
 iterate 2 refine kO hT hC ?_
 exact Vc.nil kG
 exact kf b7 (Xan (Xat ku))
 refine Xae (Xab ?_)
 refine kO hT hC ?_
 refine kC hC [(16, 864)] Tryz.call237 h (fun _ => Xpc) fun q14 h => ?_
 iterate 4 refine kO hT hC ?_
 refine Vc.nil (Xah (Xaq ?_))
 obtain rfl := kj h
 exact Xby (τ := ⟨[(4, .own 16), (5, .sv (.bool q14.2))], [(16, some (.ints .i64 q14.1))]⟩) (kW hC [(16, 864)]) rfl ⟨rfl, trivial⟩
 refine kf b4 (Xag (Xae (Xab ?_)))
 iterate 2 refine kO hT hC ?_
 refine Vc.nil (Xam (Xab ?_))
 refine kO hT hC ?_
 refine Vc.nil ?_
 refine kL [0,3,9,58] [48,912] [_,_,_,_] [_,_] ?_
 refine kX h (fun v32 => ([(58, .sv (.int .i64 v32.1))], [(912, some (.ints .i64 v32.2))])) (fun v50 => ([(0, .any), (3, .any), (58, .any)], [(912, some (.ints .i64 v50)), (48, none)])) (kW hC []) (fun v32 s h => ?_) fun v50 h => ?_
 unfold Xmk at h
 refine Xab ?_
 refine kO hT hC ?_
 refine Vc.nil (Xam ?_)
 refine kS h ?_ ?_ <;> intro b22 h
 refine kt b22 (Xag (Xae (Xam (Xak (Xab ?_)))))
 iterate 2 refine kO hT hC ?_
 refine kN ?_
 iterate 2 refine kO hT hC ?_
 refine Vc.nil (Xam (Xab ?_))
 refine kO hT hC ?_
 refine kC hC [(16, 1008)] Tryz.call240 h (fun _ => Xuv) fun q51 h => ?_
 iterate 2 refine kO hT hC ?_
 refine Vc.nil ?_
 refine kL [0,3,9,11,58,63,64,65] [48,912,976,1008] [_,_,_,_,_,_,_,_] [_,_,_,_] ?_
 refine kX h (fun v53 => ([(65, .sv (.int .i64 v53.1))], [(976, some (.ints .i64 v53.2))])) (fun v55 => ([(63, .any), (64, .any), (65, .any)], [(976, some (.ints .i64 v55)), (1008, none)])) (kW hC []) (fun v53 s h => ?_) fun v55 h => ?_
 unfold Xfz at h
 refine Xab ?_
 refine kO hT hC ?_
 refine Vc.nil (Xam ?_)
 refine kS h ?_ ?_ <;> intro b25 h
 refine kt b25 (Xag (Xae (Xam (Xak (Xab ?_)))))
 iterate 2 refine kQ hT hC h fun h => ?_
 refine kO hT hC ?_
 refine Vc.nil (Xac ?_)
 iterate 3 refine kO hT hC ?_
 refine kQ hT hC h fun h => ?_
 iterate 2 refine kO hT hC ?_
 refine kT hT hC h fun h => ?_
 refine kO hT hC ?_
 refine Vc.nil (Xap (Xae (Xac ?_)))
 iterate 2 refine kO hT hC ?_
 refine Vc.nil ?_
 obtain rfl := kj h
 exact Yd2 (kW hC [(976, 1200)])
 exact kf b25 (Xan (Xat ku))
 refine Xae (Xab ?_)
 refine kO hT hC ?_
 refine kC hC [(16, 1248)] Tryz.call241 h (fun _ => Yur) fun q57 h => ?_
 refine kO hT hC ?_
 refine Vc.nil (Xam (Xab ?_))
 iterate 3 refine kO hT hC ?_
 refine Vc.nil ?_
 refine kL [0,3,9,14,58,79,80,81] [48,912,1248] [_,_,_,_,_,_,_,_] [_,_,_] ?_
 refine kX h (fun v60 => ([(81, .sv (.int .i64 v60.1))], [(1248, some (.ints .i64 v60.2))])) (fun v63 => ([(79, .any), (80, .any), (81, .any)], [(1248, some (.ints .i64 v63))])) (kW hC []) (fun v60 s h => ?_) fun v63 h => ?_
 unfold Xir at h
 refine Xab ?_
 refine kO hT hC ?_
 refine Vc.nil (Xam ?_)
 refine kS h ?_ ?_ <;> intro b28 h
 refine kt b28 (Xag (Xae (Xam (Xak (Xab ?_)))))
 refine kO hT hC ?_
 iterate 2 refine kQ hT hC h fun h => ?_
 iterate 2 refine kO hT hC ?_
 refine Vc.nil (Xac ?_)
 iterate 6 refine kO hT hC ?_
 refine kC hC [] Tryz.call242 h (fun _ => Yah) fun q64 h => ?_
 iterate 2 refine kQ hT hC h fun h => ?_
 refine Vc.nil (Xap (Xae (Xac ?_)))
 iterate 2 refine kO hT hC ?_
 exact Vc.nil kG
 exact kf b28 (Xan (Xat ku))
 refine Xae (Xab ?_)
 refine kO hT hC ?_
 refine kC hC [(16, 1552)] Tryz.call237 h (fun _ => Xpc) fun q66 h => ?_
 iterate 5 refine kO hT hC ?_
 refine Vc.nil (Xac ?_)
 iterate 2 refine kO hT hC ?_
 refine kT hT hC h fun h => ?_
 refine kO hT hC ?_
 refine Vc.nil (Xap (Xae (Xac ?_)))
 iterate 2 refine kO hT hC ?_
 refine Vc.nil ?_
 obtain rfl := kj h
 exact Yd2 (kW hC [(912, 1632)])
 exact kf b22 (Xan (Xat ku))
 refine Xae (Xab ?_)
 iterate 3 refine kO hT hC ?_
 refine Vc.nil (Xah ?_)
 obtain rfl := kj h
 exact Xby (τ := ⟨[(4, .own 16), (5, .sv (.bool true))], [(16, some (.ints .i64 v50))]⟩) (kW hC [(16, 912)]) rfl ⟨rfl, trivial⟩
def Yjm (r : (Int × Bool)) : AV := .tup [.sv (.int .i64 r.1), .sv (.bool r.2)]
def Yjl (r : (Int × Bool)) : Xax := []
theorem Xwy {p0 r} (h : Xmh p0 = some r) : AC Tryz.prog 208 [.sv (.int .i64 p0)] [] (Yjm r) (Yjl r) := by
 refine Xaf hT Tryz.func208 rfl fun C hC => ?_
 unfold Xmh at h
 refine Xab ?_
 iterate 2 refine kO hT hC ?_
 refine Vc.nil (Xam (Xak (Xab ?_)))
 refine kO hT hC ?_
 refine kC hC [] Tryz.call116 h (fun _ => Xai) fun q1 h => ?_
 iterate 2 refine kO hT hC ?_
 refine Vc.nil ?_
 refine kS h ?_ ?_ <;> intro b1 h
 refine kt b1 (Xab ?_)
 iterate 2 refine kO hT hC ?_
 exact Vc.nil (Xah (Xer (Xaq kR)))
 refine kf b1 (Xab ?_)
 iterate 3 refine kO hT hC ?_
 refine Vc.nil ?_
 refine kS h ?_ ?_ <;> intro b2 h
 refine kt b2 (Xab ?_)
 iterate 5 refine kO hT hC ?_
 exact Vc.nil (Xah (Xer (Xaq kR)))
 refine kf b2 (Xag (Xap (Xae (Xab ?_))))
 iterate 4 refine kO hT hC ?_
 exact Vc.nil (Xah kR)
def Yn9 (r : (ByteArray × Bool)) : AV := .tup [.sv (.str r.1), .sv (.bool r.2)]
def Yn8 (r : (ByteArray × Bool)) : Xax := []
theorem Xop {p0 r} (h : Xkp p0 = some r) : AC Tryz.prog 133 [.sv (.int .i64 p0)] [] (Yn9 r) (Yn8 r) := by
 refine Xaf hT Tryz.func133 rfl fun C hC => ?_
 unfold Xkp at h
 refine Xab ?_
 iterate 2 refine kO hT hC ?_
 refine kN ?_
 refine kO hT hC ?_
 refine kC hC [] Tryz.call208 h (fun _ => Xwy) fun q1 h => ?_
 iterate 5 refine kO hT hC ?_
 refine Vc.nil (Xam (Xab ?_))
 iterate 2 refine kO hT hC ?_
 refine Vc.nil ?_
 refine kS h ?_ ?_ <;> intro b1 h
 refine kt b1 (Xab ?_)
 iterate 2 refine kO hT hC ?_
 exact Vc.nil (Xah (Xaq kR))
 refine kf b1 (Xag (Xae (Xab ?_)))
 refine kO hT hC ?_
 refine kC hC [] Tryz.call209 h (fun _ => Yaq) fun q2 h => ?_
 iterate 4 refine kO hT hC ?_
 exact Vc.nil (Xah kR)
def Yj5 (r : Int) : AV := .sv (.int .i64 r)
def Yj4 (r : Int) : Xax := []
theorem Xw6 {p0 r} (h : Xmm p0 = some r) : AC Tryz.prog 245 [.sv (.int .i64 p0)] [] (Yj5 r) (Yj4 r) := by
 refine Xaf hT Tryz.func245 rfl fun C hC => ?_
 unfold Xmm at h
 refine Xab ?_
 refine kO hT hC ?_
 refine kN ?_
 refine kO hT hC ?_
 refine kC hC [] Tryz.call133 h (fun _ => Xop) fun q1 h => ?_
 iterate 5 refine kO hT hC ?_
 refine kN ?_
 iterate 3 refine kO hT hC ?_
 exact Vc.nil (Xah kR)
def Ycw (r : (Int × Int × Int)) : AV := .tup [.sv (.int .i64 r.1), .sv (.int .i64 r.2.1), .sv (.int .i64 r.2.2)]
def Ycv (r : (Int × Int × Int)) : Xax := []
theorem Yfs {p0 p1 p2 p3 p4 r} (h : Xdr p0 p1 p2 p3 p4 = some r) : AC Tryz.prog 204 [.agg [.sv (.int .i64 p0.Wide), .sv (.int .i64 p0.High), .sv (.str p0.Dots)], .sv (.ints .i64 p1), .sv (.int .i64 p2), .sv (.int .i64 p3), .sv (.int .i64 p4)] [] (Ycw r) (Ycv r) := by
 refine Xaf hT Tryz.func204 rfl fun C hC => ?_
 unfold Xdr at h
 refine Xab ?_
 iterate 4 refine kO hT hC ?_
 refine Vc.nil (Xam ?_)
 refine kL [1,2,3,4,5] [80] [_,_,_,_,_] [_] ?_
 refine kA h (fun v1 => ([(38, .sv (.bool v1))], [])) (fun v1 h => ?_) fun v1 h => ?_
 refine Xac ?_
 refine kO hT hC ?_
 refine kC hC [] Tryz.call47 h (fun _ => Xds) fun q2 h => ?_
 iterate 2 refine kO hT hC ?_
 refine kS h ?_ ?_ <;> intro b1 h
 refine kI hT hC (kn b1) ?_
 refine kE hC (kn b1) [] Tryz.call197 h (fun _ => Xbx) fun q3 h => ?_
 refine kI hT hC (kn b1) ?_
 refine kP hC false (kn b1) ?_
 refine kO hT hC ?_
 refine kS h ?_ ?_ <;> intro b2 h
 refine kI hT hC (kn b2) ?_
 refine kE hC (kn b2) [] Tryz.call116 h (fun _ => Xai) fun q4 h => ?_
 refine kI hT hC (kn b2) ?_
 refine kP hC false (kn b2) ?_
 refine kO hT hC ?_
 refine kS h ?_ ?_ <;> intro b3 h
 iterate 3 refine kI hT hC (kn b3) ?_
 refine kE hC (kn b3) [] Tryz.call196 h (fun _ => Xft) fun q5 h => ?_
 refine kI hT hC (kn b3) ?_
 refine kP hC false (kn b3) ?_
 exact Vc.nil kM
 iterate 5 refine kF hC (kn b3) ?_
 refine kP hC true (kn b3) ?_
 exact Vc.nil kM
 iterate 3 refine kF hC (kn b2) ?_
 refine kP hC true (kn b2) ?_
 refine kO hT hC ?_
 iterate 5 refine kF hC rfl ?_
 refine kO hT hC ?_
 exact Vc.nil kM
 iterate 3 refine kF hC (kn b1) ?_
 refine kP hC true (kn b1) ?_
 refine kO hT hC ?_
 iterate 3 refine kF hC rfl ?_
 iterate 2 refine kO hT hC ?_
 iterate 5 refine kF hC rfl ?_
 refine kO hT hC ?_
 exact Vc.nil kM
 refine kS h ?_ ?_ <;> intro b4 h
 refine kt b4 (Xab ?_)
 iterate 3 refine kO hT hC ?_
 exact Vc.nil (Xah (Xaq kR))
 refine kf b4 (Xag (Xae (Xab ?_)))
 iterate 3 refine kO hT hC ?_
 refine Vc.nil (Xam (Xab ?_))
 iterate 3 refine kO hT hC ?_
 refine Vc.nil ?_
 refine kL [1,2,3,4,5,13,14,15,16] [80] [_,_,_,_,_,_,_,_,_] [_] ?_
 refine kX h (fun v33 => ([(13, .sv (.int .i64 v33.1)), (14, .sv (.int .i64 v33.2.1)), (15, .sv (.int .i64 v33.2.2.1)), (16, .sv (.int .i64 v33.2.2.2))], [])) (fun v61 => ([(13, .sv (.int .i64 v61.1)), (14, .sv (.int .i64 v61.2.1)), (15, .sv (.int .i64 v61.2.2)), (1, .any), (2, .any), (3, .any), (4, .any), (5, .any), (16, .any)], [(80, none)])) (kW hC []) (fun v33 s h => ?_) fun v61 h => ?_
 unfold Xfw at h
 refine Xam (Xab ?_)
 iterate 3 refine kO hT hC ?_
 refine Vc.nil ?_
 refine kS h ?_ ?_ <;> intro b31 h
 refine kt b31 (Xag (Xae (Xam (Xak (Xab ?_)))))
 iterate 3 refine kO hT hC ?_
 refine Vc.nil ?_
 refine kL [1,2,3,4,5,13,14,15,16,17] [80] [_,_,_,_,_,_,_,_,_,_] [_] ?_
 refine kX h (fun v70 => ([(13, .sv (.int .i64 v70.1)), (14, .sv (.int .i64 v70.2.1)), (15, .sv (.int .i64 v70.2.2.1)), (17, .sv (.int .i64 v70.2.2.2))], [])) (fun v79 => ([(13, .sv (.int .i64 v79.1)), (14, .sv (.int .i64 v79.2.1)), (15, .sv (.int .i64 v79.2.2)), (17, .any)], [])) (kW hC []) (fun v70 s h => ?_) fun v79 h => ?_
 unfold Xcw at h
 refine Xam (Xab ?_)
 iterate 3 refine kO hT hC ?_
 refine Vc.nil ?_
 refine kS h ?_ ?_ <;> intro b40 h
 refine kt b40 (Xag (Xae ?_))
 refine kL [1,2,3,4,5,13,14,15,16,17] [80] [_,_,_,_,_,_,_,_,_,_] [_] ?_
 refine kA h (fun v80 => ([(13, .sv (.int .i64 v80.1)), (14, .sv (.int .i64 v80.2.1)), (15, .sv (.int .i64 v80.2.2))], [])) (fun v80 h => ?_) fun v80 h => ?_
 refine Xak (Xam (Xab ?_))
 iterate 8 refine kO hT hC ?_
 refine kC hC [] Tryz.call233 h (fun _ => Yc3) fun q81 h => ?_
 refine kO hT hC ?_
 refine Vc.nil ?_
 refine kS h ?_ ?_ <;> intro b41 h
 exact kt b41 (Xan (Xat (Yja kM)))
 refine kf b41 (Xag (Xae (Xab ?_)))
 iterate 8 refine kO hT hC ?_
 refine kC hC [(16, 1136)] Tryz.call130 h (fun _ => Xd5) fun q82 h => ?_
 refine kC hC [] Tryz.call203 h (fun _ => Xyu) fun q83 h => ?_
 refine kO hT hC ?_
 refine kC hC [] Tryz.call245 h (fun _ => Xw6) fun q84 h => ?_
 iterate 2 refine kO hT hC ?_
 refine kC hC [] Tryz.call245 h (fun _ => Xw6) fun q85 h => ?_
 iterate 2 refine kO hT hC ?_
 refine Vc.nil ?_
 refine kL [1,2,3,4,5,13,14,15,16,17,18] [80] [_,_,_,_,_,_,_,_,_,_,_] [_] ?_
 refine kA h (fun v86 => ([(85, .sv (.bool v86))], [])) (fun v86 h => ?_) fun v86 h => ?_
 refine Xac ?_
 iterate 3 refine kO hT hC ?_
 refine kS h ?_ ?_ <;> intro b42 h
 iterate 3 refine kF hC b42 ?_
 refine kP hC true b42 ?_
 exact Vc.nil kM
 iterate 3 refine kI hT hC b42 ?_
 refine kP hC false b42 ?_
 exact Vc.nil kM
 refine kS h ?_ ?_ <;> intro b43 h
 refine kt b43 (Xac ?_)
 iterate 6 refine kO hT hC ?_
 exact Vc.nil (Xap kM)
 exact kf b43 (Xag (Xap kM))
 refine Xac ?_
 iterate 3 refine kO hT hC ?_
 exact Vc.nil kG
 exact kf b40 (Xan (Xat ku))
 refine Xap (Xae (Xac ?_))
 iterate 3 refine kO hT hC ?_
 exact Vc.nil kG
 exact kf b31 (Xan (Xat ku))
 refine Xae (Xab ?_)
 iterate 6 refine kO hT hC ?_
 exact Vc.nil (Xah kR)
def Yam (r : (Xau × (List Int) × Bool)) : AV := .tup [.agg [.sv (.int .i64 r.1.Kind), .sv (.int .i64 r.1.Mode), .sv (.int .i64 r.1.Dx), .sv (.int .i64 r.1.Dy), .own 16], .own 17, .sv (.bool r.2.2)]
def Yal (r : (Xau × (List Int) × Bool)) : Xax := [(16, .ints .i64 r.1.Levels), (17, .ints .i64 r.2.1)]
theorem Ydb {p0 p1 p2 p3 p4 p5 p6 r} (h : Xfg p0 p1 p2 p3 p4 p5 p6 = some r) : AC Tryz.prog 129 [.agg [.sv (.int .i64 p0.Wide), .sv (.int .i64 p0.High), .sv (.str p0.Dots)], .agg [.sv (.int .i64 p1.Wide), .sv (.int .i64 p1.High), .sv (.str p1.Dots)], .sv (.ints .i64 p2), .sv (.int .i64 p3), .sv (.int .i64 p4), .agg [.sv (.bool p5.Key), .sv (.int .i64 p5.Qp), .sv (.bool p5.Large), .sv (.bool p5.Exact)], .sv (.int .i64 p6)] [] (Yam r) (Yal r) := by
 refine Xaf hT Tryz.func129 rfl fun C hC => ?_
 unfold Xfg at h
 refine Xab ?_
 iterate 6 refine kO hT hC ?_
 refine Vc.nil (Xam ?_)
 refine kL [2,3,4,6,7,8,12,14] [112,128,192,224] [_,_,_,_,_,_,_,_] [_,_,_,_] ?_
 refine kA h (fun v1 => ([(51, .sv (.bool v1))], [])) (fun v1 h => ?_) fun v1 h => ?_
 refine Xac ?_
 refine kO hT hC ?_
 refine kC hC [] Tryz.call47 h (fun _ => Xds) fun q2 h => ?_
 iterate 2 refine kO hT hC ?_
 refine kS h ?_ ?_ <;> intro b1 h
 iterate 3 refine kI hT hC (kn b1) ?_
 refine kE hC (kn b1) [] Tryz.call196 h (fun _ => Xft) fun q3 h => ?_
 refine kI hT hC (kn b1) ?_
 refine kP hC false (kn b1) ?_
 refine kO hT hC ?_
 refine kS h ?_ ?_ <;> intro b2 h
 refine kI hT hC (kn b2) ?_
 refine kE hC (kn b2) [] Tryz.call197 h (fun _ => Xbx) fun q4 h => ?_
 refine kI hT hC (kn b2) ?_
 refine kP hC false (kn b2) ?_
 refine kO hT hC ?_
 refine kS h ?_ ?_ <;> intro b3 h
 refine kI hT hC (kn b3) ?_
 refine kE hC (kn b3) [] Tryz.call127 h (fun _ => Xhb) fun q5 h => ?_
 refine kI hT hC (kn b3) ?_
 refine kP hC false (kn b3) ?_
 refine kO hT hC ?_
 refine kS h ?_ ?_ <;> intro b4 h
 refine kI hT hC (kn b4) ?_
 refine kE hC (kn b4) [] Tryz.call116 h (fun _ => Xai) fun q6 h => ?_
 refine kI hT hC (kn b4) ?_
 refine kP hC false (kn b4) ?_
 exact Vc.nil kM
 iterate 3 refine kF hC (kn b4) ?_
 refine kP hC true (kn b4) ?_
 exact Vc.nil kM
 iterate 3 refine kF hC (kn b3) ?_
 refine kP hC true (kn b3) ?_
 refine kO hT hC ?_
 iterate 3 refine kF hC rfl ?_
 refine kO hT hC ?_
 exact Vc.nil kM
 iterate 3 refine kF hC (kn b2) ?_
 refine kP hC true (kn b2) ?_
 refine kO hT hC ?_
 iterate 3 refine kF hC rfl ?_
 iterate 2 refine kO hT hC ?_
 iterate 3 refine kF hC rfl ?_
 refine kO hT hC ?_
 exact Vc.nil kM
 iterate 5 refine kF hC (kn b1) ?_
 refine kP hC true (kn b1) ?_
 refine kO hT hC ?_
 iterate 3 refine kF hC rfl ?_
 iterate 2 refine kO hT hC ?_
 iterate 3 refine kF hC rfl ?_
 iterate 2 refine kO hT hC ?_
 iterate 3 refine kF hC rfl ?_
 refine kO hT hC ?_
 exact Vc.nil kM
 refine kS h ?_ ?_ <;> intro b5 h
 refine kt b5 (Xab ?_)
 iterate 5 refine kO hT hC ?_
 refine Vc.nil (Xah (Xaq ?_))
 obtain rfl := kj h
 refine Xby (τ := ⟨[(14, .ptr 2000000 0), (15, .own 17), (16, .sv (.bool false))], [(16, some (.ints .i64 [])), (17, some (.ints .i64 ([] : List Int))), (2000000, some (.box [.sv (.int .i64 0), .sv (.int .i64 0), .sv (.int .i64 0), .sv (.int .i64 0), .own 16]))]⟩) ?_ rfl ⟨rfl, rfl, trivial⟩
 refine Xol hC 224 4 2817 (.ints .i64 []) rfl rfl rfl rfl rfl trivial ?_
 apply Xdo hC [(16, 2817), (17, 848), (2000000, 224)]
 exact co
 rfl
 decide
 rfl
 refine kf b5 (Xag (Xae (Xam ?_)))
 refine kL [2,3,4,6,7,8,12,14] [112,128,192,224] [_,_,_,_,_,_,_,_] [_,_,_,_] ?_
 refine kA h (fun v7 => ([(75, .sv (.bool v7))], [])) (fun v7 h => ?_) fun v7 h => ?_
 refine Xac ?_
 iterate 4 refine kO hT hC ?_
 refine kS h ?_ ?_ <;> intro b6 h
 iterate 4 refine kF hC (kn b6) ?_
 iterate 5 refine Xd4 hC rfl rfl rfl rfl rfl rfl ?_
 iterate 2 refine kF hC (kn b6) ?_
 iterate 5 refine Xd4 hC rfl rfl rfl rfl rfl rfl ?_
 refine kF hC (kn b6) ?_
 refine kP hC false (kn b6) ?_
 exact Vc.nil kM
 refine kI hT hC (kn b6) ?_
 refine kE hC (kn b6) [] Tryz.call47 h (fun _ => Xds) fun q8 h => ?_
 iterate 2 refine kI hT hC (kn b6) ?_
 refine kS h ?_ ?_ <;> intro b7 h
 iterate 5 refine kI hT hC (kn b7) ?_
 refine Xa6 hC rfl rfl rfl rfl (kn b6) rfl rfl (b := false) (kn b7) rfl rfl rfl trivial ?_
 refine kI hT hC (kn b6) ?_
 refine kS h ?_ ?_ <;> intro b8 h
 iterate 5 refine kF hC b8 ?_
 refine Xa6 hC rfl rfl rfl rfl (kn b6) rfl rfl (b := true) b8 rfl rfl rfl trivial ?_
 refine kP hC true (kn b6) ?_
 exact Vc.nil kM
 iterate 5 refine kI hT hC b8 ?_
 refine Xa6 hC rfl rfl rfl rfl (kn b6) rfl rfl (b := false) b8 rfl rfl rfl trivial ?_
 refine kP hC true (kn b6) ?_
 exact Vc.nil kM
 iterate 5 refine kF hC (kn b7) ?_
 refine Xa6 hC rfl rfl rfl rfl (kn b6) rfl rfl (b := true) (kn b7) rfl rfl rfl trivial ?_
 refine kI hT hC (kn b6) ?_
 iterate 5 refine kF hC rfl ?_
 refine Xa6 hC rfl rfl rfl rfl (kn b6) rfl rfl (b := true) rfl rfl rfl rfl trivial ?_
 refine kP hC true (kn b6) ?_
 exact Vc.nil kM
 refine kS h ?_ ?_ <;> intro b9 h
 refine kt b9 (Xab ?_)
 iterate 5 refine kO hT hC ?_
 refine Vc.nil (Xah (Xaq ?_))
 obtain rfl := kj h
 refine Xby (τ := ⟨[(14, .ptr 2000000 0), (15, .own 17), (16, .sv (.bool false))], [(16, some (.ints .i64 [])), (17, some (.ints .i64 ([] : List Int))), (2000000, some (.box [.sv (.int .i64 0), .sv (.int .i64 0), .sv (.int .i64 0), .sv (.int .i64 0), .own 16]))]⟩) ?_ rfl ⟨rfl, rfl, trivial⟩
 refine Xol hC 224 4 2818 (.ints .i64 []) rfl rfl rfl rfl rfl trivial ?_
 apply Xdo hC [(16, 2818), (17, 1232), (2000000, 224)]
 exact co
 rfl
 decide
 rfl
 refine kf b9 (Xag (Xae (Xab ?_)))
 iterate 3 refine kO hT hC ?_
 refine kC hC [(16, 1312), (17, 1313)] Tryz.call198 h (fun _ => Xum) fun q9 h => ?_
 iterate 6 refine kO hT hC ?_
 refine kN ?_
 iterate 2 refine kO hT hC ?_
 refine kC hC [] Tryz.call199 h (fun _ => Ycu) fun q10 h => ?_
 iterate 5 refine kO hT hC ?_
 refine kN ?_
 iterate 4 refine kO hT hC ?_
 refine Vc.nil ?_
 refine Xbs hm ?_
 iterate 3 refine kO hT hC ?_
 refine kC hC [(16, 1552)] Tryz.call202 h (fun _ => Xo8) fun q11 h => ?_
 refine kC hC [(16, 1568)] Tryz.call201 h (fun _ => Xtn) fun q12 h => ?_
 refine kO hT hC ?_
 refine kC hC [(16, 1600)] Tryz.call200 h (fun _ => Xti) fun q13 h => ?_
 iterate 5 refine kO hT hC ?_
 refine kD ?_
 refine kL [2,3,4,6,7,8,12,14,20,21] [112,128,192,224,336,1600] [_,_,_,_,_,_,_,_,_,_] [_,_,_,_,_,_] ?_
 refine kA h (fun v14 => ([(2, .any), (6, .any), (20, .any)], [(336, some (.box [.sv (.int .i64 v14.1), .sv (.int .i64 v14.2.1), .sv (.int .i64 v14.2.2.1), .sv (.int .i64 v14.2.2.2.1), .own 1600])), (1600, some (.ints .i64 v14.2.2.2.2))])) (fun v14 h => ?_) fun v14 h => ?_
 refine Xab ?_
 iterate 3 refine kO hT hC ?_
 refine Vc.nil ?_
 refine kS h ?_ ?_ <;> intro b10 h
 refine kt b10 (Xab ?_)
 iterate 4 refine kO hT hC ?_
 refine kC hC [(16, 1776)] Tryz.call130 h (fun _ => Xd5) fun q15 h => ?_
 refine kC hC [] Tryz.call203 h (fun _ => Xyu) fun q16 h => ?_
 refine kO hT hC ?_
 refine Vc.nil ?_
 refine kS h ?_ ?_ <;> intro b11 h
 refine kt b11 (Xac ?_)
 iterate 2 refine kO hT hC ?_
 refine Vc.nil ?_
 obtain rfl := kj h
 refine Xhz ?_
 refine Xol hC 336 4 2819 (.ints .i64 []) rfl rfl rfl rfl rfl trivial ?_
 try dsimp only
 apply Xdo hC [(1600, 2819)]
 exact co
 rfl
 decide
 rfl
 refine kf b11 (Xab ?_)
 iterate 5 refine kO hT hC ?_
 refine kC hC [] Tryz.call204 h (fun _ => Yfs) fun q17 h => ?_
 iterate 7 refine kO hT hC ?_
 refine kN ?_
 iterate 3 refine kO hT hC ?_
 refine Vc.nil ?_
 refine kS h ?_ ?_ <;> intro b12 h
 refine kt b12 (Xab ?_)
 iterate 4 refine kO hT hC ?_
 refine Vc.nil ?_
 refine Xbs hm ?_
 iterate 8 refine kO hT hC ?_
 refine kC hC [(16, 2240)] Tryz.call130 h (fun _ => Xd5) fun q18 h => ?_
 refine kC hC [(16, 2256)] Tryz.call201 h (fun _ => Xtn) fun q19 h => ?_
 refine kO hT hC ?_
 refine kC hC [(16, 2288)] Tryz.call200 h (fun _ => Xti) fun q20 h => ?_
 iterate 5 refine kO hT hC ?_
 refine kD ?_
 refine kL [3,4,7,8,12,14,21,22,23] [112,128,192,224,336,2288] [_,_,_,_,_,_,_,_,_] [_,_,_,_,_,_] ?_
 refine kA h (fun v21 => ([(157, .sv (.bool v21)), (22, .any), (23, .any)], [])) (fun v21 h => ?_) fun v21 h => ?_
 refine Xac ?_
 iterate 3 refine kO hT hC ?_
 refine kS h ?_ ?_ <;> intro b13 h
 iterate 2 refine kI hT hC b13 ?_
 refine kP hC true b13 ?_
 refine kO hT hC ?_
 refine kS h ?_ ?_ <;> intro b14 h
 iterate 2 refine kI hT hC b14 ?_
 refine kE hC b14 [] Tryz.call197 h (fun _ => Xbx) fun q22 h => ?_
 refine kP hC true b14 ?_
 exact Vc.nil kM
 iterate 3 refine kF hC b14 ?_
 refine kP hC false b14 ?_
 exact Vc.nil kM
 iterate 2 refine kF hC b13 ?_
 refine kP hC false b13 ?_
 refine kO hT hC ?_
 iterate 3 refine kF hC rfl ?_
 refine kO hT hC ?_
 exact Vc.nil kM
 refine kS h ?_ ?_ <;> intro b15 h
 refine kt b15 (Xac ?_)
 iterate 2 refine kO hT hC ?_
 refine Vc.nil ?_
 obtain rfl := kj h
 refine Xhz ?_
 refine Xol hC 336 4 2820 (.ints .i64 []) rfl rfl rfl rfl rfl trivial ?_
 try dsimp only
 apply Xdo hC [(1600, 2820)]
 exact co
 rfl
 decide
 rfl
 refine kf b15 (Xag ?_)
 obtain rfl := kj h
 exact Xhz (kW hC [(1600, 2288)])
 exact kf b12 (Xag kM)
 exact kf b10 (Xag kM)
 refine Xab ?_
 iterate 6 refine kO hT hC ?_
 refine kC hC [(16, 2656)] Tryz.call205 h (fun _ => Yak) fun q23 h => ?_
 iterate 5 refine kO hT hC ?_
 refine Vc.nil (Xam (Xab ?_))
 iterate 2 refine kO hT hC ?_
 refine Vc.nil ?_
 refine kS h ?_ ?_ <;> intro b16 h
 refine kt b16 (Xab ?_)
 iterate 5 refine kO hT hC ?_
 refine Vc.nil (Xah (Xaq ?_))
 obtain rfl := kj h
 refine Xby (τ := ⟨[(14, .ptr 2000000 0), (15, .own 17), (16, .sv (.bool false))], [(16, some (.ints .i64 [])), (17, some (.ints .i64 ([] : List Int))), (2000000, some (.box [.sv (.int .i64 0), .sv (.int .i64 0), .sv (.int .i64 0), .sv (.int .i64 0), .own 16]))]⟩) ?_ rfl ⟨rfl, rfl, trivial⟩
 refine Xol hC 224 4 2821 (.ints .i64 []) rfl rfl rfl rfl rfl trivial ?_
 apply Xdo hC [(16, 2821), (17, 2752), (2000000, 224)]
 exact co
 rfl
 decide
 rfl
 refine kf b16 (Xag (Xae (Xab ?_)))
 iterate 5 refine kO hT hC ?_
 refine Vc.nil (Xah ?_)
 obtain rfl := kj h
 exact Xby (τ := ⟨[(14, .ptr 2000000 0), (15, .own 17), (16, .sv (.bool true))], [(16, some (.ints .i64 v14.2.2.2.2)), (17, some (.ints .i64 q23.1)), (2000000, some (.box [.sv (.int .i64 v14.1), .sv (.int .i64 v14.2.1), .sv (.int .i64 v14.2.2.1), .sv (.int .i64 v14.2.2.2.1), .own 16]))]⟩) (kW hC [(16, 1600), (17, 2656), (2000000, 224)]) rfl ⟨rfl, rfl, trivial⟩
def Xn8 (r : ((List Xau) × Pic × Bool)) : AV := .tup [.own 16, .agg [.sv (.int .i64 r.2.1.Wide), .sv (.int .i64 r.2.1.High), .sv (.str r.2.1.Dots)], .sv (.bool r.2.2)]
def Xn7 (r : ((List Xau) × Pic × Bool)) : Xax := [(16, .row Xda r.1)]
theorem Ykf {p0 p1 p2 p3 r} (h : Xkr p0 p1 p2 p3 = some r) : AC Tryz.prog 61 [.agg [.sv (.int .i64 p0.Wide), .sv (.int .i64 p0.High), .sv (.str p0.Dots)], .agg [.sv (.int .i64 p1.Wide), .sv (.int .i64 p1.High), .sv (.str p1.Dots)], .agg [.sv (.bool p2.Key), .sv (.int .i64 p2.Qp), .sv (.bool p2.Large), .sv (.bool p2.Exact)], .sv (.int .i64 p3)] [] (Xn8 r) (Xn7 r) := by
 refine Xaf hT Tryz.func61 rfl fun C hC => ?_
 unfold Xkr at h
 refine Xab ?_
 iterate 6 refine kO hT hC ?_
 refine kN ?_
 iterate 2 refine kO hT hC ?_
 refine Vc.nil (Xam ?_)
 refine kL [3,4,5,6,9,11] [64,80,96,144,288] [_,_,_,_,_,_] [_,_,_,_,_] ?_
 refine kA h (fun v1 => ([(43, .sv (.bool v1))], [])) (fun v1 h => ?_) fun v1 h => ?_
 refine Xac ?_
 refine kO hT hC ?_
 refine kC hC [] Tryz.call47 h (fun _ => Xds) fun q2 h => ?_
 iterate 2 refine kO hT hC ?_
 refine kS h ?_ ?_ <;> intro b1 h
 iterate 2 refine kI hT hC (kn b1) ?_
 refine kE hC (kn b1) [] Tryz.call126 h (fun _ => Xxb) fun q3 h => ?_
 refine kI hT hC (kn b1) ?_
 refine kP hC false (kn b1) ?_
 refine kO hT hC ?_
 refine kS h ?_ ?_ <;> intro b2 h
 iterate 2 refine kI hT hC (kn b2) ?_
 refine kE hC (kn b2) [] Tryz.call126 h (fun _ => Xxb) fun q4 h => ?_
 refine kI hT hC (kn b2) ?_
 refine kP hC false (kn b2) ?_
 refine kO hT hC ?_
 refine kS h ?_ ?_ <;> intro b3 h
 refine kI hT hC (kn b3) ?_
 refine kE hC (kn b3) [] Tryz.call127 h (fun _ => Xhb) fun q5 h => ?_
 refine kI hT hC (kn b3) ?_
 refine kP hC false (kn b3) ?_
 refine kO hT hC ?_
 refine kS h ?_ ?_ <;> intro b4 h
 refine kI hT hC (kn b4) ?_
 refine kE hC (kn b4) [] Tryz.call116 h (fun _ => Xai) fun q6 h => ?_
 refine kI hT hC (kn b4) ?_
 refine kP hC false (kn b4) ?_
 exact Vc.nil kM
 iterate 3 refine kF hC (kn b4) ?_
 refine kP hC true (kn b4) ?_
 exact Vc.nil kM
 iterate 3 refine kF hC (kn b3) ?_
 refine kP hC true (kn b3) ?_
 refine kO hT hC ?_
 iterate 3 refine kF hC rfl ?_
 refine kO hT hC ?_
 exact Vc.nil kM
 iterate 4 refine kF hC (kn b2) ?_
 refine kP hC true (kn b2) ?_
 refine kO hT hC ?_
 iterate 3 refine kF hC rfl ?_
 iterate 2 refine kO hT hC ?_
 iterate 3 refine kF hC rfl ?_
 refine kO hT hC ?_
 exact Vc.nil kM
 iterate 4 refine kF hC (kn b1) ?_
 refine kP hC true (kn b1) ?_
 refine kO hT hC ?_
 iterate 4 refine kF hC rfl ?_
 iterate 2 refine kO hT hC ?_
 iterate 3 refine kF hC rfl ?_
 iterate 2 refine kO hT hC ?_
 iterate 3 refine kF hC rfl ?_
 refine kO hT hC ?_
 exact Vc.nil kM
 refine kS h ?_ ?_ <;> intro b5 h
 refine kt b5 (Xab ?_)
 iterate 5 refine kO hT hC ?_
 refine Vc.nil (Xah (Xaq ?_))
 obtain rfl := kj h
 exact Xby (τ := ⟨[(8, .own 16), (9, .ptr 2000001 0), (10, .sv (.bool false))], [(16, some (.row Xda ([] : List Xau))), (2000001, some (.box [.sv (.int .i64 0), .sv (.int .i64 0), .sv (.str ⟨#[]⟩)]))]⟩) (kW hC [(16, 288), (2000001, 144)]) rfl ⟨rfl, trivial⟩
 refine kf b5 (Xag (Xae (Xam ?_)))
 refine kL [3,4,5,6,9,11] [64,80,96,144,288] [_,_,_,_,_,_] [_,_,_,_,_] ?_
 refine kA h (fun v7 => ([(67, .sv (.bool v7))], [])) (fun v7 h => ?_) fun v7 h => ?_
 refine Xac ?_
 iterate 4 refine kO hT hC ?_
 refine kS h ?_ ?_ <;> intro b6 h
 iterate 4 refine kF hC (kn b6) ?_
 iterate 5 refine Xd4 hC rfl rfl rfl rfl rfl rfl ?_
 iterate 2 refine kF hC (kn b6) ?_
 iterate 5 refine Xd4 hC rfl rfl rfl rfl rfl rfl ?_
 refine kF hC (kn b6) ?_
 refine kP hC false (kn b6) ?_
 exact Vc.nil kM
 refine kI hT hC (kn b6) ?_
 refine kE hC (kn b6) [] Tryz.call47 h (fun _ => Xds) fun q8 h => ?_
 iterate 2 refine kI hT hC (kn b6) ?_
 refine kS h ?_ ?_ <;> intro b7 h
 iterate 5 refine kI hT hC (kn b7) ?_
 refine Xa6 hC rfl rfl rfl rfl (kn b6) rfl rfl (b := false) (kn b7) rfl rfl rfl trivial ?_
 refine kI hT hC (kn b6) ?_
 refine kS h ?_ ?_ <;> intro b8 h
 iterate 5 refine kF hC b8 ?_
 refine Xa6 hC rfl rfl rfl rfl (kn b6) rfl rfl (b := true) b8 rfl rfl rfl trivial ?_
 refine kP hC true (kn b6) ?_
 exact Vc.nil kM
 iterate 5 refine kI hT hC b8 ?_
 refine Xa6 hC rfl rfl rfl rfl (kn b6) rfl rfl (b := false) b8 rfl rfl rfl trivial ?_
 refine kP hC true (kn b6) ?_
 exact Vc.nil kM
 iterate 5 refine kF hC (kn b7) ?_
 refine Xa6 hC rfl rfl rfl rfl (kn b6) rfl rfl (b := true) (kn b7) rfl rfl rfl trivial ?_
 refine kI hT hC (kn b6) ?_
 iterate 5 refine kF hC rfl ?_
 refine Xa6 hC rfl rfl rfl rfl (kn b6) rfl rfl (b := true) rfl rfl rfl rfl trivial ?_
 refine kP hC true (kn b6) ?_
 exact Vc.nil kM
 refine kS h ?_ ?_ <;> intro b9 h
 refine kt b9 (Xab ?_)
 iterate 5 refine kO hT hC ?_
 refine Vc.nil (Xah (Xaq ?_))
 obtain rfl := kj h
 exact Xby (τ := ⟨[(8, .own 16), (9, .ptr 2000001 0), (10, .sv (.bool false))], [(16, some (.row Xda ([] : List Xau))), (2000001, some (.box [.sv (.int .i64 0), .sv (.int .i64 0), .sv (.str ⟨#[]⟩)]))]⟩) (kW hC [(16, 288), (2000001, 144)]) rfl ⟨rfl, trivial⟩
 refine kf b9 (Xag (Xae (Xab ?_)))
 iterate 4 refine kO hT hC ?_
 refine kC hC [] Tryz.call128 h (fun _ => Yus) fun q9 h => ?_
 iterate 2 refine kO hT hC ?_
 refine Vc.nil (Xam (Xab ?_))
 refine kO hT hC ?_
 refine Vc.nil ?_
 refine kL [3,4,5,6,9,11,12,13] [64,80,96,144,192,288] [_,_,_,_,_,_,_,_] [_,_,_,_,_,_] ?_
 obtain ⟨o56, hl, h⟩ := Xa3 h
 refine Xf9 (fun v25 => ([(13, .sv (.int .i64 v25.1))], [(192, some (.box [.sv (.int .i64 v25.2.2.1), .sv (.int .i64 v25.2.2.2.1), .sv (.str v25.2.2.2.2)])), (288, some (.row Xda v25.2.1))])) (fun v41 => ([(3, .any), (4, .any), (5, .any), (6, .any), (13, .any)], [(192, some (.box [.sv (.int .i64 v41.2.1), .sv (.int .i64 v41.2.2.1), .sv (.str v41.2.2.2)])), (288, some (.row Xda v41.1)), (64, none), (80, none), (96, none)])) (fun r => Xqe C T Tryz.f61.results.toList (Xn8 r) (Xn7 r)) hl ?_ ?_ ?_ ?_
 try dsimp only
 apply Xdo hC []
 exact co
 rfl
 decide
 rfl
 intro v25 s hs
 have h := hs
 unfold Xet at h
 refine Xam (Xab ?_)
 iterate 4 refine kO hT hC ?_
 refine Vc.nil ?_
 refine kS h ?_ ?_ <;> intro b24 h
 refine kt b24 (Xag (Xae (Xam (Xak (Xab ?_)))))
 refine kO hT hC ?_
 refine Vc.nil ?_
 refine kL [3,4,5,6,9,11,12,13,14] [64,80,96,144,192,288] [_,_,_,_,_,_,_,_,_] [_,_,_,_,_,_] ?_
 obtain ⟨o55, hl, h⟩ := Xa3 h
 refine Xf9 (fun v46 => ([(14, .sv (.int .i64 v46.1))], [(192, some (.box [.sv (.int .i64 v46.2.2.1), .sv (.int .i64 v46.2.2.2.1), .sv (.str v46.2.2.2.2)])), (288, some (.row Xda v46.2.1))])) (fun v51 => ([(14, .any)], [(192, some (.box [.sv (.int .i64 v51.2.1), .sv (.int .i64 v51.2.2.1), .sv (.str v51.2.2.2)])), (288, some (.row Xda v51.1))])) (fun r => Xqe C T Tryz.f61.results.toList (Xn8 r) (Xn7 r)) hl ?_ ?_ ?_ ?_
 try dsimp only
 apply Xdo hC []
 exact co
 rfl
 decide
 rfl
 intro v46 s hs
 have h := hs
 unfold Xeu at h
 refine Xam (Xab ?_)
 iterate 4 refine kO hT hC ?_
 refine Vc.nil ?_
 refine kS h ?_ ?_ <;> intro b29 h
 refine kt b29 (Xag (Xae (Xam (Xak ?_))))
 refine Xbs hm ?_
 iterate 5 refine kO hT hC ?_
 refine kC hC [(16, 1488)] Tryz.call130 h (fun _ => Xd5) fun q52 h => ?_
 iterate 4 refine kO hT hC ?_
 obtain ⟨q53, hq, h⟩ := Xa3 h
 refine Yrf hC [(16, 1568), (17, 1569)] rfl rfl rfl rfl Tryz.call129 (Ydb hq) rfl (by decide) trivial rfl (.inr ⟨rfl, ⟨trivial, trivial, trivial⟩⟩) rfl ?_
 iterate 8 refine kO hT hC ?_
 refine kD (Xam (Xab ?_))
 iterate 2 refine kO hT hC ?_
 refine Vc.nil ?_
 refine kS h ?_ ?_ <;> intro b30 h
 refine kt b30 (Xab ?_)
 iterate 5 refine kO hT hC ?_
 refine Vc.nil (Xah (Xaq (Xer (Xaq ?_))))
 obtain rfl := kj h
 refine Xrb (Xra ?_)
 refine Xby (τ := ⟨[(8, .own 16), (9, .ptr 2000001 0), (10, .sv (.bool false))], [(16, some (.row Xda ([] : List Xau))), (2000001, some (.box [.sv (.int .i64 0), .sv (.int .i64 0), .sv (.str ⟨#[]⟩)]))]⟩) ?_ rfl ⟨rfl, trivial⟩
 apply Xdo hC [(16, 1664), (2000001, 144)]
 exact co
 rfl
 decide
 rfl
 refine kf b30 (Xag (Xae (Xab ?_)))
 iterate 3 refine kO hT hC ?_
 obtain ⟨hq, h⟩ := Xaw h
 refine Yqs hT hC rfl rfl rfl rfl ⟨fun _ _ => rfl, by rw [Xv6]; exact hq⟩ ?_
 rw [Xv6]
 refine kO hT hC ?_
 refine Vc.nil (Xac ?_)
 iterate 4 refine kO hT hC ?_
 refine kC hC [] Tryz.call131 h (fun _ => Ywl) fun q54 h => ?_
 refine kO hT hC ?_
 refine Vc.nil (Xap (Xae (Xac ?_)))
 iterate 3 refine kO hT hC ?_
 refine Vc.nil ?_
 obtain rfl := kj h
 exact Yd2 (kW hC [(288, 1744)])
 exact kf b29 (Xan (Xat kb))
 intro v51 e
 subst e
 refine Xap (Xae (Xac ?_))
 iterate 3 refine kO hT hC ?_
 exact Vc.nil kG
 intro r' σ' e hE
 subst e
 obtain rfl := kj h
 refine Xer (Xaq (Xrb (Xra ?_)))
 exact hE
 exact kf b24 (Xan (Xat kb))
 intro v41 e
 subst e
 refine Xae ?_
 refine Xbs hm ?_
 iterate 5 refine kO hT hC ?_
 refine kD (Xah ?_)
 obtain rfl := kj h
 exact Xby (τ := ⟨[(8, .own 16), (9, .ptr 2000001 0), (10, .sv (.bool true))], [(16, some (.row Xda v41.1)), (2000001, some (.box [.sv (.int .i64 v41.2.1), .sv (.int .i64 v41.2.2.1), .sv (.str v41.2.2.2)]))]⟩) (kW hC [(16, 288), (2000001, 144)]) rfl ⟨rfl, trivial⟩
 intro r' σ' e hE
 subst e
 obtain rfl := kj h
 refine Xaq ?_
 exact hE
def Yf2 (r : (ByteArray × Bool)) : AV := .tup [.sv (.str r.1), .sv (.bool r.2)]
def Yf1 (r : (ByteArray × Bool)) : Xax := []
theorem Yjr {p0 p1 p2 r} (h : Xnq p0 p1 p2 = some r) : AC Tryz.prog 62 [.agg [.sv (.int .i64 p0.Level), .sv (.int .i64 p0.Bits), .sv (.ints .i64 p0.Cols), .sv (.ints .i64 p0.Rows)], .agg [.sv (.int .i64 p1.Qp), .sv (.bool p1.Large), .sv (.bool p1.Exact), .sv (.bool p1.Confined)], .agg [.sv (.int .i64 p2.Tile), .sv (.int .i64 p2.Frame), .sv (.int .i64 p2.Qp)]] [] (Yf2 r) (Yf1 r) := by
 refine Xaf hT Tryz.func62 rfl fun C hC => ?_
 unfold Xnq at h
 refine Xab ?_
 iterate 5 refine kO hT hC ?_
 refine Vc.nil (Xam (Xab ?_))
 iterate 3 refine kO hT hC ?_
 refine kC hC [] Tryz.call132 h (fun _ => Ynx) fun q1 h => ?_
 refine kO hT hC ?_
 refine Vc.nil ?_
 refine kS h ?_ ?_ <;> intro b1 h
 refine kt b1 (Xab ?_)
 iterate 2 refine kO hT hC ?_
 exact Vc.nil (Xah (Xaq kR))
 refine kf b1 (Xag (Xae (Xab ?_)))
 iterate 5 refine kO hT hC ?_
 refine kC hC [] Tryz.call133 h (fun _ => Xop) fun q2 h => ?_
 iterate 5 refine kO hT hC ?_
 refine Vc.nil ?_
 refine Xbs hm ?_
 iterate 2 refine kO hT hC ?_
 refine kC hC [] Tryz.call134 h (fun _ => Xhf) fun q3 h => ?_
 iterate 4 refine kO hT hC ?_
 refine kC hC [] Tryz.call135 h (fun _ => Xot) fun q4 h => ?_
 refine kQ hT hC h fun h => ?_
 refine kO hT hC ?_
 refine kQ hT hC h fun h => ?_
 iterate 2 refine kO hT hC ?_
 exact kD (Xah kR)
def Ysb (r : (List Int)) : AV := .own 16
def Ysa (r : (List Int)) : Xax := [(16, .ints .u8 r)]
theorem Yfd {p0 r} (h : Xrw p0 = some r) : AC Tryz.prog 249 [.sv (.ints .i64 p0)] [] (Ysb r) (Ysa r) := by
 refine Xaf hT Tryz.func249 rfl fun C hC => ?_
 unfold Xrw at h
 refine Xab ?_
 refine kO hT hC ?_
 refine kN ?_
 iterate 2 refine kO hT hC ?_
 refine kN ?_
 refine kO hT hC ?_
 refine Vc.nil (Xam (Xab ?_))
 iterate 3 refine kO hT hC ?_
 refine Vc.nil ?_
 refine kL [0,3,4,13,14,15] [192] [_,_,_,_,_,_] [_] ?_
 refine kX h (fun v3 => ([(4, .sv (.int .i64 v3.1)), (15, .sv (.int .i64 v3.2))], [])) (fun v6 => ([(4, .sv (.int .i64 v6)), (13, .any), (14, .any), (15, .any)], [])) (kW hC []) (fun v3 s h => ?_) fun v6 h => ?_
 unfold Xku at h
 refine Xab ?_
 refine kO hT hC ?_
 refine Vc.nil (Xam ?_)
 refine kS h ?_ ?_ <;> intro b5 h
 refine kt b5 (Xag (Xae ?_))
 refine kL [0,3,4,13,14,15] [192] [_,_,_,_,_,_] [_] ?_
 refine kA h (fun v7 => ([(4, .sv (.int .i64 v7))], [])) (fun v7 h => ?_) fun v7 h => ?_
 refine Xak (Xab ?_)
 refine kQ hT hC h fun h => ?_
 iterate 2 refine kO hT hC ?_
 refine kN ?_
 iterate 2 refine kO hT hC ?_
 refine Vc.nil ?_
 refine kS h ?_ ?_ <;> intro b6 h
 refine kt b6 (Xac ?_)
 iterate 3 refine kO hT hC ?_
 exact Vc.nil (Xap kM)
 exact kf b6 (Xag (Xap kM))
 refine Xac ?_
 iterate 2 refine kO hT hC ?_
 exact Vc.nil kG
 exact kf b5 (Xan (Xat ku))
 refine Xae (Xab ?_)
 iterate 2 refine kO hT hC ?_
 refine kC hC [] Tryz.call134 h (fun _ => Xhf) fun q9 h => ?_
 refine kT hT hC h fun h => ?_
 refine kO hT hC ?_
 refine kN ?_
 refine kO hT hC ?_
 refine Vc.nil (Xam (Xab ?_))
 iterate 3 refine kO hT hC ?_
 refine Vc.nil ?_
 refine kL [3,7,28,29,30] [432] [_,_,_,_,_] [_] ?_
 refine kX h (fun v15 => ([(7, .sv (.int .i64 v15.1)), (30, .sv (.int .i64 v15.2.1))], [(432, some (.ints .u8 v15.2.2))])) (fun v21 => ([(7, .any), (28, .any), (29, .any), (30, .any)], [(432, some (.ints .u8 v21))])) (kW hC []) (fun v15 s h => ?_) fun v21 h => ?_
 unfold Xkv at h
 refine Xab ?_
 refine kO hT hC ?_
 refine Vc.nil (Xam ?_)
 refine kS h ?_ ?_ <;> intro b11 h
 refine kt b11 (Xag (Xae ?_))
 refine kL [3,7,28,29,30] [432] [_,_,_,_,_] [_] ?_
 refine kA h (fun v22 => ([(7, .sv (.int .i64 v22.1))], [(432, some (.ints .u8 v22.2))])) (fun v22 h => ?_) fun v22 h => ?_
 refine Xak (Xab ?_)
 refine kQ hT hC h fun h => ?_
 iterate 2 refine kO hT hC ?_
 refine Vc.nil (Xam (Xab ?_))
 iterate 2 refine kO hT hC ?_
 refine Vc.nil ?_
 refine kS h ?_ ?_ <;> intro b12 h
 refine kt b12 (Xab ?_)
 iterate 3 refine kO hT hC ?_
 exact Vc.nil (Xan (Xat (Yja kM)))
 refine kf b12 (Xag (Xae (Xab ?_)))
 refine kO hT hC ?_
 refine kC hC [] Tryz.call208 h (fun _ => Xwy) fun q23 h => ?_
 iterate 5 refine kO hT hC ?_
 refine kN ?_
 iterate 2 refine kO hT hC ?_
 refine kC hC [] Tryz.call134 h (fun _ => Xhf) fun q24 h => ?_
 refine kT hT hC h fun h => ?_
 refine kO hT hC ?_
 refine kC hC [] Tryz.call134 h (fun _ => Xhf) fun q25 h => ?_
 refine kT hT hC h fun h => ?_
 refine kO hT hC ?_
 refine Vc.nil (Xac ?_)
 refine kO hT hC ?_
 refine Vc.nil (Xap ?_)
 obtain rfl := kj h
 exact Xhz (kW hC [(432, 784)])
 refine Xac ?_
 iterate 2 refine kO hT hC ?_
 exact Vc.nil kG
 exact kf b11 (Xan (Xat ku))
 refine Xae (Xab ?_)
 iterate 2 refine kO hT hC ?_
 refine Vc.nil (Xah ?_)
 obtain rfl := kj h
 exact Xby (τ := ⟨[(2, .own 16)], [(16, some (.ints .u8 v21))]⟩) (kW hC [(16, 432)]) rfl ⟨rfl, trivial⟩
def Yaz (r : (List Int)) : AV := .own 16
def Yay (r : (List Int)) : Xax := [(16, .ints .u8 r)]
theorem Xru {p0 p1 r} (h : Xhd p0 p1 = some r) : AC Tryz.prog 213 [.sv (.ints .i64 p0), .agg [.sv (.bool p1.Key), .sv (.int .i64 p1.Qp), .sv (.bool p1.Large), .sv (.bool p1.Exact)]] [] (Yaz r) (Yay r) := by
 refine Xaf hT Tryz.func213 rfl fun C hC => ?_
 unfold Xhd at h
 refine Xab ?_
 iterate 2 refine kO hT hC ?_
 refine Vc.nil (Xam ?_)
 refine kL [0,3] [48] [_,_] [_] ?_
 refine kA h (fun v1 => ([(12, .sv (.bool v1)), (3, .any)], [(48, none)])) (fun v1 h => ?_) fun v1 h => ?_
 refine Xac ?_
 iterate 3 refine kO hT hC ?_
 refine kS h ?_ ?_ <;> intro b1 h
 iterate 2 refine kF hC b1 ?_
 refine kP hC true b1 ?_
 exact Vc.nil kM
 iterate 2 refine kI hT hC b1 ?_
 refine kP hC false b1 ?_
 exact Vc.nil kM
 refine kS h ?_ ?_ <;> intro b2 h
 refine kt b2 (Xab ?_)
 refine kO hT hC ?_
 refine kC hC [(16, 224)] Tryz.call249 h (fun _ => Yfd) fun q2 h => ?_
 refine kO hT hC ?_
 refine Vc.nil (Xah (Xaq ?_))
 obtain rfl := kj h
 exact Xby (τ := ⟨[(4, .own 16)], [(16, some (.ints .u8 q2))]⟩) (kW hC [(16, 224)]) rfl ⟨rfl, trivial⟩
 refine kf b2 (Xag (Xae (Xab ?_)))
 iterate 2 refine kO hT hC ?_
 refine Vc.nil (Xam (Xab ?_))
 refine kO hT hC ?_
 refine Vc.nil ?_
 refine kL [0,5,16] [240] [_,_,_] [_] ?_
 refine kX h (fun v5 => ([(16, .sv (.int .i64 v5.1))], [(240, some (.ints .u8 v5.2))])) (fun v8 => ([(0, .any), (16, .any)], [(240, some (.ints .u8 v8))])) (kW hC []) (fun v5 s h => ?_) fun v8 h => ?_
 unfold Xcz at h
 refine Xab ?_
 refine kO hT hC ?_
 refine Vc.nil (Xam ?_)
 refine kS h ?_ ?_ <;> intro b5 h
 refine kt b5 (Xag (Xae (Xam (Xak (Xab ?_)))))
 iterate 2 refine kO hT hC ?_
 refine Vc.nil (Xac ?_)
 iterate 7 refine kO hT hC ?_
 refine kQ hT hC h fun h => ?_
 refine kC hC [(16, 432)] Tryz.call249 h (fun _ => Yfd) fun q9 h => ?_
 refine kT hT hC h fun h => ?_
 refine kO hT hC ?_
 refine Vc.nil (Xap (Xae (Xac ?_)))
 iterate 2 refine kO hT hC ?_
 refine Vc.nil ?_
 obtain rfl := kj h
 exact Yd2 (kW hC [(240, 448)])
 exact kf b5 (Xan (Xat ku))
 refine Xae (Xab ?_)
 iterate 2 refine kO hT hC ?_
 refine Vc.nil (Xah ?_)
 obtain rfl := kj h
 exact Xby (τ := ⟨[(4, .own 16)], [(16, some (.ints .u8 v8))]⟩) (kW hC [(16, 240)]) rfl ⟨rfl, trivial⟩
def Yao (r : (ByteArray × Bool)) : AV := .tup [.sv (.str r.1), .sv (.bool r.2)]
def Yan (r : (ByteArray × Bool)) : Xax := []
theorem Yde {p0 p1 r} (h : Xjj p0 p1 = some r) : AC Tryz.prog 136 [.agg [.sv (.int .i64 p0.Kind), .sv (.int .i64 p0.Mode), .sv (.int .i64 p0.Dx), .sv (.int .i64 p0.Dy), .sv (.ints .i64 p0.Levels)], .agg [.sv (.bool p1.Key), .sv (.int .i64 p1.Qp), .sv (.bool p1.Large), .sv (.bool p1.Exact)]] [] (Yao r) (Yan r) := by
 refine Xaf hT Tryz.func136 rfl fun C hC => ?_
 unfold Xjj at h
 refine Xab ?_
 iterate 4 refine kO hT hC ?_
 refine Vc.nil (Xam ?_)
 refine kL [2,3] [32,48] [_,_] [_,_] ?_
 refine kA h (fun v1 => ([(24, .sv (.bool v1))], [])) (fun v1 h => ?_) fun v1 h => ?_
 refine Xac ?_
 refine kO hT hC ?_
 refine kC hC [] Tryz.call211 h (fun _ => Xtj) fun q2 h => ?_
 iterate 2 refine kO hT hC ?_
 refine kS h ?_ ?_ <;> intro b1 h
 refine kI hT hC (kn b1) ?_
 refine kE hC (kn b1) [] Tryz.call127 h (fun _ => Xhb) fun q3 h => ?_
 refine kI hT hC (kn b1) ?_
 refine kP hC false (kn b1) ?_
 refine kO hT hC ?_
 refine kS h ?_ ?_ <;> intro b2 h
 iterate 2 refine kI hT hC (kn b2) ?_
 refine kE hC (kn b2) [] Tryz.call212 h (fun _ => Xqm) fun q4 h => ?_
 refine kI hT hC (kn b2) ?_
 refine kP hC false (kn b2) ?_
 exact Vc.nil kM
 iterate 4 refine kF hC (kn b2) ?_
 refine kP hC true (kn b2) ?_
 exact Vc.nil kM
 iterate 3 refine kF hC (kn b1) ?_
 refine kP hC true (kn b1) ?_
 refine kO hT hC ?_
 iterate 4 refine kF hC rfl ?_
 refine kO hT hC ?_
 exact Vc.nil kM
 refine kS h ?_ ?_ <;> intro b3 h
 refine kt b3 (Xab ?_)
 iterate 2 refine kO hT hC ?_
 exact Vc.nil (Xah (Xaq kR))
 refine kf b3 (Xag (Xae (Xab ?_)))
 iterate 2 refine kO hT hC ?_
 refine Vc.nil ?_
 refine kL [2,3,6] [32,48,400] [_,_,_] [_,_,_] ?_
 refine kA h (fun v5 => ([], [(400, some (.ints .u8 v5))])) (fun v5 h => ?_) fun v5 h => ?_
 refine Xab ?_
 iterate 3 refine kO hT hC ?_
 refine Vc.nil ?_
 refine kS h ?_ ?_ <;> intro b4 h
 refine kt b4 (Xac ?_)
 iterate 3 refine kO hT hC ?_
 refine kC hC [] Tryz.call134 h (fun _ => Xhf) fun q6 h => ?_
 refine kT hT hC h fun h => ?_
 refine kO hT hC ?_
 refine Vc.nil ?_
 obtain rfl := kj h
 exact Xhz (kW hC [(400, 528)])
 exact kf b4 (Xag kM)
 refine kL [2,3,6] [32,48,400] [_,_,_] [_,_,_] ?_
 refine kA h (fun v7 => ([(2, .any), (3, .any)], [(400, some (.ints .u8 v7)), (32, none), (48, none)])) (fun v7 h => ?_) fun v7 h => ?_
 refine Xab ?_
 iterate 2 refine kO hT hC ?_
 refine Vc.nil (Xak (Xab ?_))
 iterate 2 refine kO hT hC ?_
 refine Vc.nil ?_
 refine kS h ?_ ?_ <;> intro b5 h
 refine kt b5 (Xab ?_)
 iterate 2 refine kO hT hC ?_
 refine kC hC [] Tryz.call133 h (fun _ => Xop) fun q8 h => ?_
 iterate 5 refine kO hT hC ?_
 refine kN ?_
 iterate 2 refine kO hT hC ?_
 refine kC hC [] Tryz.call133 h (fun _ => Xop) fun q9 h => ?_
 iterate 5 refine kO hT hC ?_
 refine Vc.nil ?_
 refine Xb4 hm ?_
 iterate 2 refine kO hT hC ?_
 refine kT hT hC h fun h => ?_
 refine kO hT hC ?_
 refine kT hT hC h fun h => ?_
 iterate 3 refine kO hT hC ?_
 refine kC hC [(16, 928)] Tryz.call213 h (fun _ => Xru) fun q10 h => ?_
 refine kT hT hC h fun h => ?_
 refine kO hT hC ?_
 refine kD (Xap ?_)
 obtain rfl := kj h
 exact Xhz (kW hC [(400, 944)])
 refine kf b5 (Xab ?_)
 iterate 2 refine kO hT hC ?_
 refine Vc.nil ?_
 refine kS h ?_ ?_ <;> intro b6 h
 refine kt b6 ?_
 refine Xb4 hm ?_
 iterate 3 refine kO hT hC ?_
 refine kC hC [] Tryz.call134 h (fun _ => Xhf) fun q11 h => ?_
 refine kT hT hC h fun h => ?_
 iterate 3 refine kO hT hC ?_
 refine kC hC [(16, 1120)] Tryz.call213 h (fun _ => Xru) fun q12 h => ?_
 refine kT hT hC h fun h => ?_
 refine kO hT hC ?_
 refine kD (Xap ?_)
 obtain rfl := kj h
 exact Xhz (kW hC [(400, 1136)])
 exact kf b6 (Xag (Xap kM))
 refine Xab ?_
 iterate 4 refine kO hT hC ?_
 exact Vc.nil (Xah kR)
def Xtm (r : (ByteArray × Bool)) : AV := .tup [.sv (.str r.1), .sv (.bool r.2)]
def Xtl (r : (ByteArray × Bool)) : Xax := []
theorem Ykg {p0 p1 r} (h : Xks p0 p1 = some r) : AC Tryz.prog 63 [.sv (Xda.sv p0), .agg [.sv (.bool p1.Key), .sv (.int .i64 p1.Qp), .sv (.bool p1.Large), .sv (.bool p1.Exact)]] [] (Xtm r) (Xtl r) := by
 refine Xaf hT Tryz.func63 rfl fun C hC => ?_
 unfold Xks at h
 refine Xab ?_
 iterate 3 refine kO hT hC ?_
 refine Vc.nil (Xam (Xab ?_))
 iterate 2 refine kO hT hC ?_
 refine kC hC [] Tryz.call116 h (fun _ => Xai) fun q1 h => ?_
 refine kO hT hC ?_
 refine Vc.nil ?_
 refine kS h ?_ ?_ <;> intro b1 h
 refine kt b1 (Xab ?_)
 iterate 2 refine kO hT hC ?_
 exact Vc.nil (Xah (Xaq kR))
 refine kf b1 (Xag (Xae (Xab ?_)))
 iterate 2 refine kO hT hC ?_
 refine Vc.nil (Xam (Xab ?_))
 iterate 3 refine kO hT hC ?_
 refine Vc.nil ?_
 refine kL [3,6,16,17,18] [48,240] [_,_,_,_,_] [_,_] ?_
 obtain ⟨o9, hl, h⟩ := Xa3 h
 refine Xf9 (fun v4 => ([(18, .sv (.int .i64 v4.1))], [(240, some (.ints .u8 v4.2))])) (fun v7 => ([(3, .any), (16, .any), (17, .any), (18, .any)], [(240, some (.ints .u8 v7)), (48, none)])) (fun r => Xqe C T Tryz.f63.results.toList (Xtm r) (Xtl r)) hl ?_ ?_ ?_ ?_
 try dsimp only
 apply Xdo hC []
 exact co
 rfl
 decide
 rfl
 intro v4 s hs
 have h := hs
 unfold Xf0 at h
 refine Xab ?_
 refine kO hT hC ?_
 refine Vc.nil (Xam ?_)
 refine kS h ?_ ?_ <;> intro b6 h
 refine kt b6 (Xag (Xae (Xam (Xak (Xab ?_)))))
 refine kQ hT hC h fun h => ?_
 iterate 3 refine kO hT hC ?_
 refine kN ?_
 iterate 2 refine kO hT hC ?_
 refine kC hC [] Tryz.call136 h (fun _ => Yde) fun q8 h => ?_
 iterate 5 refine kO hT hC ?_
 refine Vc.nil (Xam (Xab ?_))
 iterate 2 refine kO hT hC ?_
 refine Vc.nil ?_
 refine kS h ?_ ?_ <;> intro b7 h
 refine kt b7 (Xab ?_)
 iterate 2 refine kO hT hC ?_
 refine Vc.nil (Xah (Xaq (Xer (Xaq ?_))))
 obtain rfl := kj h
 refine Xrb (Xra ?_)
 exact Xby (Xmd.refl _) rfl trivial
 refine kf b7 (Xag (Xae (Xac ?_)))
 iterate 2 refine kO hT hC ?_
 refine kT hT hC h fun h => ?_
 refine kO hT hC ?_
 refine Vc.nil (Xap (Xae (Xac ?_)))
 iterate 2 refine kO hT hC ?_
 refine Vc.nil ?_
 obtain rfl := kj h
 exact Yd2 (kW hC [(240, 512)])
 exact kf b6 (Xan (Xat kb))
 intro v7 e
 subst e
 refine Xae (Xab ?_)
 iterate 4 refine kO hT hC ?_
 exact Vc.nil (Xah kR)
 intro r' σ' e hE
 subst e
 obtain rfl := kj h
 refine Xaq ?_
 exact hE
def Yj7 (r : (ByteArray × Bool)) : AV := .tup [.sv (.str r.1), .sv (.bool r.2)]
def Yj6 (r : (ByteArray × Bool)) : Xax := []
theorem Yoc {p0 r} (h : Xpd p0 = some r) : AC Tryz.prog 137 [.agg [.sv (.int .i64 p0.Level), .sv (.int .i64 p0.Bits), .sv (.ints .i64 p0.Cols), .sv (.ints .i64 p0.Rows)]] [] (Yj7 r) (Yj6 r) := by
 refine Xaf hT Tryz.func137 rfl fun C hC => ?_
 unfold Xpd at h
 refine Xab ?_
 iterate 3 refine kO hT hC ?_
 refine Vc.nil (Xam (Xab ?_))
 refine kO hT hC ?_
 refine kC hC [] Tryz.call182 h (fun _ => Xor) fun q1 h => ?_
 refine kO hT hC ?_
 refine Vc.nil ?_
 refine kS h ?_ ?_ <;> intro b1 h
 refine kt b1 (Xab ?_)
 iterate 2 refine kO hT hC ?_
 exact Vc.nil (Xah (Xaq kR))
 refine kf b1 (Xag (Xae ?_))
 refine Xbs hm ?_
 iterate 2 refine kO hT hC ?_
 refine kC hC [] Tryz.call134 h (fun _ => Xhf) fun q2 h => ?_
 iterate 2 refine kO hT hC ?_
 refine kC hC [] Tryz.call135 h (fun _ => Xot) fun q3 h => ?_
 refine kQ hT hC h fun h => ?_
 refine kO hT hC ?_
 refine kD (Xam (Xab ?_))
 iterate 7 refine kO hT hC ?_
 refine Vc.nil ?_
 refine kL [4,23,24,25] [368] [_,_,_,_] [_] ?_
 refine kX h (fun v14 => ([(4, .sv (.str v14.1)), (25, .sv (.int .i64 v14.2))], [])) (fun v25 => ([(4, .sv (.str v25)), (23, .any), (24, .any), (25, .any)], [(368, none)])) (kW hC []) (fun v14 s h => ?_) fun v25 h => ?_
 unfold Xec at h
 refine Xab ?_
 refine kO hT hC ?_
 refine Vc.nil (Xam ?_)
 refine kS h ?_ ?_ <;> intro b10 h
 refine kt b10 (Xag (Xae (Xam (Xak (Xab ?_)))))
 iterate 2 refine kQ hT hC h fun h => ?_
 refine kO hT hC ?_
 refine kN ?_
 iterate 3 refine kO hT hC ?_
 refine kC hC [] Tryz.call134 h (fun _ => Xhf) fun q26 h => ?_
 refine kQ hT hC h fun h => ?_
 refine kO hT hC ?_
 refine kN ?_
 iterate 3 refine kO hT hC ?_
 refine Vc.nil ?_
 refine kL [4,23,24,25,34,35,36] [368] [_,_,_,_,_,_,_] [_] ?_
 refine kX h (fun v29 => ([(4, .sv (.str v29.1)), (36, .sv (.int .i64 v29.2))], [])) (fun v32 => ([(4, .sv (.str v32)), (34, .any), (35, .any), (36, .any)], [])) (kW hC []) (fun v29 s h => ?_) fun v32 h => ?_
 unfold Xhs at h
 refine Xab ?_
 refine kO hT hC ?_
 refine Vc.nil (Xam ?_)
 refine kS h ?_ ?_ <;> intro b13 h
 refine kt b13 (Xag (Xae (Xam (Xak (Xab ?_)))))
 refine kQ hT hC h fun h => ?_
 iterate 2 refine kO hT hC ?_
 refine Vc.nil (Xac ?_)
 iterate 2 refine kO hT hC ?_
 refine kC hC [] Tryz.call134 h (fun _ => Xhf) fun q33 h => ?_
 refine kQ hT hC h fun h => ?_
 refine kO hT hC ?_
 refine Vc.nil (Xap (Xae (Xac ?_)))
 iterate 2 refine kO hT hC ?_
 exact Vc.nil kG
 exact kf b13 (Xan (Xat ku))
 refine Xap (Xae (Xac ?_))
 iterate 2 refine kO hT hC ?_
 exact Vc.nil kG
 exact kf b10 (Xan (Xat ku))
 refine Xae (Xab ?_)
 iterate 3 refine kO hT hC ?_
 exact Vc.nil (Xah kR)
def Yse (r : ByteArray) : AV := .sv (.str r)
def Ysd (r : ByteArray) : Xax := []
theorem Xux {p0 r} (h : Xrz p0 = some r) : AC Tryz.prog 214 [.sv (.bool p0)] [] (Yse r) (Ysd r) := by
 refine Xaf hT Tryz.func214 rfl fun C hC => ?_
 unfold Xrz at h
 refine Xab ?_
 refine kO hT hC ?_
 refine Vc.nil (Xam (Xab ?_))
 refine kO hT hC ?_
 refine Vc.nil ?_
 refine kS h ?_ ?_ <;> intro b1 h
 refine kt b1 (Xab ?_)
 refine kO hT hC ?_
 exact Vc.nil (Xah (Xaq kR))
 refine kf b1 (Xag (Xae (Xab ?_)))
 refine kO hT hC ?_
 exact Vc.nil (Xah kR)
def Yj0 (r : (ByteArray × Bool)) : AV := .tup [.sv (.str r.1), .sv (.bool r.2)]
def Yjz (r : (ByteArray × Bool)) : Xax := []
theorem Yn2 {p0 r} (h : Xpb p0 = some r) : AC Tryz.prog 138 [.agg [.sv (.int .i64 p0.Qp), .sv (.bool p0.Large), .sv (.bool p0.Exact), .sv (.bool p0.Confined)]] [] (Yj0 r) (Yjz r) := by
 refine Xaf hT Tryz.func138 rfl fun C hC => ?_
 unfold Xpb at h
 refine Xab ?_
 iterate 3 refine kO hT hC ?_
 refine Vc.nil (Xam (Xab ?_))
 refine kO hT hC ?_
 refine kC hC [] Tryz.call69 h (fun _ => Xsy) fun q1 h => ?_
 refine kO hT hC ?_
 refine Vc.nil ?_
 refine kS h ?_ ?_ <;> intro b1 h
 refine kt b1 (Xab ?_)
 iterate 2 refine kO hT hC ?_
 exact Vc.nil (Xah (Xaq kR))
 refine kf b1 (Xag (Xae ?_))
 refine Xbs hm ?_
 iterate 2 refine kO hT hC ?_
 refine kC hC [] Tryz.call135 h (fun _ => Xot) fun q2 h => ?_
 iterate 2 refine kO hT hC ?_
 refine kC hC [] Tryz.call214 h (fun _ => Xux) fun q3 h => ?_
 refine kQ hT hC h fun h => ?_
 iterate 2 refine kO hT hC ?_
 refine kC hC [] Tryz.call214 h (fun _ => Xux) fun q4 h => ?_
 refine kQ hT hC h fun h => ?_
 iterate 2 refine kO hT hC ?_
 refine kC hC [] Tryz.call214 h (fun _ => Xux) fun q5 h => ?_
 refine kQ hT hC h fun h => ?_
 iterate 2 refine kO hT hC ?_
 exact kD (Xah kR)
def Yc7 (r : (ByteArray × Bool)) : AV := .tup [.sv (.str r.1), .sv (.bool r.2)]
def Yc6 (r : (ByteArray × Bool)) : Xax := []
theorem Yf7 {p0 r} (h : Xle p0 = some r) : AC Tryz.prog 139 [.sv (.str p0)] [] (Yc7 r) (Yc6 r) := by
 refine Xaf hT Tryz.func139 rfl fun C hC => ?_
 unfold Xle at h
 refine Xab ?_
 iterate 2 refine kO hT hC ?_
 refine Vc.nil (Xam (Xab ?_))
 refine kO hT hC ?_
 refine kC hC [] Tryz.call215 h (fun _ => Yr4) fun q1 h => ?_
 refine kO hT hC ?_
 refine Vc.nil ?_
 refine kS h ?_ ?_ <;> intro b1 h
 refine kt b1 (Xab ?_)
 iterate 2 refine kO hT hC ?_
 exact Vc.nil (Xah (Xaq kR))
 refine kf b1 (Xag (Xae (Xab ?_)))
 iterate 2 refine kO hT hC ?_
 refine kQ hT hC h fun h => ?_
 refine kO hT hC ?_
 obtain ⟨hq, h⟩ := Xaw h
 refine Yqs hT hC rfl rfl rfl rfl ⟨hq.1, hq.2.1, hq.2.2, by decide⟩ ?_
 refine kO hT hC ?_
 refine Vc.nil (Xam (Xab ?_))
 refine kO hT hC ?_
 refine Vc.nil ?_
 refine kL [0,4,5] [208] [_,_,_] [_] ?_
 refine kX h (fun v4 => ([(5, .sv (.int .i64 v4.1))], [(208, some (.ints .u8 v4.2))])) (fun v7 => ([(5, .any)], [(208, some (.ints .u8 v7))])) (kW hC []) (fun v4 s h => ?_) fun v7 h => ?_
 unfold Xg2 at h
 refine Xam (Xab ?_)
 iterate 4 refine kO hT hC ?_
 refine Vc.nil ?_
 refine kS h ?_ ?_ <;> intro b6 h
 refine kt b6 (Xag (Xae ?_))
 refine kL [0,4,5] [208] [_,_,_] [_] ?_
 refine kA h (fun v8 => ([], [(208, some (.ints .u8 v8))])) (fun v8 h => ?_) fun v8 h => ?_
 refine Xak (Xab ?_)
 iterate 2 refine kO hT hC ?_
 refine kQ hT hC h fun h => ?_
 refine kO hT hC ?_
 refine Vc.nil ?_
 refine kS h ?_ ?_ <;> intro b7 h
 refine kt b7 ?_
 refine Xb4 hm ?_
 iterate 2 refine kO hT hC ?_
 iterate 3 refine kQ hT hC h fun h => ?_
 refine kO hT hC ?_
 iterate 2 refine kQ hT hC h fun h => ?_
 refine kO hT hC ?_
 iterate 2 refine kQ hT hC h fun h => ?_
 exact kD (Xap kM)
 exact kf b7 (Xag (Xap kM))
 refine Xac ?_
 iterate 3 refine kO hT hC ?_
 exact Vc.nil kG
 exact kf b6 (Xan (Xat ku))
 refine Xae ?_
 refine Xbs hm ?_
 iterate 3 refine kO hT hC ?_
 iterate 3 refine kQ hT hC h fun h => ?_
 iterate 2 refine kO hT hC ?_
 iterate 2 refine kQ hT hC h fun h => ?_
 refine kO hT hC ?_
 iterate 2 refine kQ hT hC h fun h => ?_
 refine kD (Xab ?_)
 iterate 4 refine kO hT hC ?_
 exact Vc.nil (Xah kR)
def Ykl (r : (ByteArray × Bool)) : AV := .tup [.sv (.str r.1), .sv (.bool r.2)]
def Ykk (r : (ByteArray × Bool)) : Xax := []
theorem Xq3 {p0 p1 r} (h : Xkf p0 p1 = some r) : AC Tryz.prog 65 [.sv (.int .i64 p0), .sv (.str p1)] [] (Ykl r) (Ykk r) := by
 refine Xaf hT Tryz.func65 rfl fun C hC => ?_
 unfold Xkf at h
 refine Xab ?_
 iterate 2 refine kO hT hC ?_
 refine kN ?_
 refine kO hT hC ?_
 refine kC hC [] Tryz.call139 h (fun _ => Yf7) fun q1 h => ?_
 iterate 5 refine kO hT hC ?_
 refine Vc.nil (Xam ?_)
 refine kL [0,6,7] [] [_,_,_] [] ?_
 refine kA h (fun v2 => ([(19, .sv (.bool v2)), (7, .any)], [])) (fun v2 h => ?_) fun v2 h => ?_
 refine Xac ?_
 iterate 3 refine kO hT hC ?_
 refine kS h ?_ ?_ <;> intro b1 h
 refine kI hT hC (kn b1) ?_
 refine kE hC (kn b1) [] Tryz.call140 h (fun _ => Yom) fun q3 h => ?_
 refine kI hT hC (kn b1) ?_
 refine kP hC false (kn b1) ?_
 exact Vc.nil kM
 iterate 3 refine kF hC (kn b1) ?_
 refine kP hC true (kn b1) ?_
 exact Vc.nil kM
 refine kS h ?_ ?_ <;> intro b2 h
 refine kt b2 (Xab ?_)
 iterate 2 refine kO hT hC ?_
 exact Vc.nil (Xah (Xaq kR))
 refine kf b2 (Xag (Xae (Xab ?_)))
 iterate 5 refine kO hT hC ?_
 refine kQ hT hC h fun h => ?_
 iterate 2 refine kO hT hC ?_
 exact Vc.nil (Xah kR)
def Xyl (r : (List ByteArray)) : AV := .own 16
def Xyk (r : (List ByteArray)) : Xax := [(16, .row Xa7 r)]
theorem Yai {p0 r} (h : Xhu p0 = some r) : AC Tryz.prog 64 [.agg [.sv (.int .i64 p0.Seq.Level), .sv (.int .i64 p0.Seq.Bits), .sv (.ints .i64 p0.Seq.Cols), .sv (.ints .i64 p0.Seq.Rows), .sv (.int .i64 p0.Par.Qp), .sv (.bool p0.Par.Large), .sv (.bool p0.Par.Exact), .sv (.bool p0.Par.Confined), .sv (.int .i64 p0.Rate.Qp), .sv (.int .i64 p0.Rate.Target), .sv (.int .i64 p0.Rate.Debt), .sv (.int .i64 p0.Frame), .sv (.int .i64 p0.Since), .sv (.int .i64 p0.Every), .sv (.int .i64 p0.Reach), .sv (.bool p0.Has), .sv (.int .i64 p0.Ref.Wide), .sv (.int .i64 p0.Ref.High), .sv (.str p0.Ref.Dots)]] [] (Xyl r) (Xyk r) := by
 refine Xaf hT Tryz.func64 rfl fun C hC => ?_
 unfold Xhu at h
 refine Xab ?_
 iterate 2 refine kO hT hC ?_
 refine Vc.nil (Xam (Xab ?_))
 refine kO hT hC ?_
 refine kC hC [] Tryz.call56 h (fun _ => Xn6) fun q1 h => ?_
 refine kO hT hC ?_
 refine Vc.nil ?_
 refine kS h ?_ ?_ <;> intro b1 h
 refine kt b1 (Xab ?_)
 iterate 2 refine kO hT hC ?_
 refine Vc.nil (Xah (Xaq ?_))
 obtain rfl := kj h
 exact Xby (τ := ⟨[(2, .own 16)], [(16, some (.row Xa7 ([] : List ByteArray)))]⟩) (kW hC [(16, 224)]) rfl ⟨rfl, trivial⟩
 refine kf b1 (Xag (Xae (Xab ?_)))
 iterate 2 refine kO hT hC ?_
 refine kC hC [] Tryz.call137 h (fun _ => Yoc) fun q2 h => ?_
 iterate 5 refine kO hT hC ?_
 refine kN ?_
 iterate 2 refine kO hT hC ?_
 refine kC hC [] Tryz.call138 h (fun _ => Yn2) fun q3 h => ?_
 iterate 5 refine kO hT hC ?_
 refine kN ?_
 refine kO hT hC ?_
 refine kC hC [] Tryz.call65 h (fun _ => Xq3) fun q4 h => ?_
 iterate 5 refine kO hT hC ?_
 refine kN ?_
 refine kO hT hC ?_
 refine kC hC [] Tryz.call65 h (fun _ => Xq3) fun q5 h => ?_
 iterate 5 refine kO hT hC ?_
 refine kN ?_
 iterate 4 refine kO hT hC ?_
 refine Vc.nil (Xah ?_)
 obtain rfl := kj h
 exact Xby (τ := ⟨[(2, .own 16)], [(16, some (.row Xa7 ([q4.1, q5.1])))]⟩) (kW hC [(16, 624)]) rfl ⟨rfl, trivial⟩
def Yc5 (r : Rate) : AV := .agg [.sv (.int .i64 r.Qp), .sv (.int .i64 r.Target), .sv (.int .i64 r.Debt)]
def Yc4 (r : Rate) : Xax := []
theorem Yf5 {p0 p1 r} (h : Xld p0 p1 = some r) : AC Tryz.prog 66 [.agg [.sv (.int .i64 p0.Qp), .sv (.int .i64 p0.Target), .sv (.int .i64 p0.Debt)], .sv (.int .i64 p1)] [] (Yc5 r) (Yc4 r) := by
 refine Xaf hT Tryz.func66 rfl fun C hC => ?_
 unfold Xld at h
 refine Xab ?_
 iterate 2 refine kO hT hC ?_
 refine Vc.nil (Xam (Xab ?_))
 refine kO hT hC ?_
 refine kC hC [] Tryz.call124 h (fun _ => Xq1) fun q1 h => ?_
 refine kO hT hC ?_
 refine Vc.nil ?_
 refine kS h ?_ ?_ <;> intro b1 h
 refine kt b1 (Xab ?_)
 iterate 2 refine kO hT hC ?_
 exact Vc.nil (Xah (Xaq kR))
 refine kf b1 (Xag (Xae ?_))
 refine Xbs hm ?_
 iterate 3 refine kO hT hC ?_
 refine kC hC [] Tryz.call141 h (fun _ => Xd9) fun q2 h => ?_
 iterate 10 refine kO hT hC ?_
 refine kC hC [] Tryz.call141 h (fun _ => Xd9) fun q3 h => ?_
 iterate 2 refine kO hT hC ?_
 refine kD ?_
 refine kL [2,4] [32,64] [_,_] [_,_] ?_
 refine kA h (fun v4 => ([], [(32, some (.box [.sv (.int .i64 v4), .sv (.int .i64 p0.Target), .sv (.int .i64 q3)]))])) (fun v4 h => ?_) fun v4 h => ?_
 refine Xak (Xab ?_)
 iterate 6 refine kO hT hC ?_
 refine Vc.nil ?_
 refine kS h ?_ ?_ <;> intro b2 h
 refine kt b2 (Xac ?_)
 iterate 5 refine kO hT hC ?_
 exact Vc.nil (Xap kM)
 refine kf b2 (Xab ?_)
 iterate 7 refine kO hT hC ?_
 refine Vc.nil ?_
 refine kS h ?_ ?_ <;> intro b3 h
 refine kt b3 (Xac ?_)
 iterate 5 refine kO hT hC ?_
 exact Vc.nil (Xap kM)
 exact kf b3 (Xag (Xap kM))
 refine Xab ?_
 iterate 2 refine kO hT hC ?_
 refine kC hC [] Tryz.call141 h (fun _ => Xd9) fun q5 h => ?_
 iterate 2 refine kO hT hC ?_
 refine kN ?_
 iterate 2 refine kO hT hC ?_
 exact Vc.nil (Xah kR)
def Xyn (r : (Source × (List ByteArray) × Bool)) : AV := .tup [.agg [.sv (.int .i64 r.1.Seq.Level), .sv (.int .i64 r.1.Seq.Bits), .own 16, .own 17, .sv (.int .i64 r.1.Par.Qp), .sv (.bool r.1.Par.Large), .sv (.bool r.1.Par.Exact), .sv (.bool r.1.Par.Confined), .sv (.int .i64 r.1.Rate.Qp), .sv (.int .i64 r.1.Rate.Target), .sv (.int .i64 r.1.Rate.Debt), .sv (.int .i64 r.1.Frame), .sv (.int .i64 r.1.Since), .sv (.int .i64 r.1.Every), .sv (.int .i64 r.1.Reach), .sv (.bool r.1.Has), .sv (.int .i64 r.1.Ref.Wide), .sv (.int .i64 r.1.Ref.High), .sv (.str r.1.Ref.Dots)], .own 18, .sv (.bool r.2.2)]
def Xym (r : (Source × (List ByteArray) × Bool)) : Xax := [(16, .ints .i64 r.1.Seq.Cols), (17, .ints .i64 r.1.Seq.Rows), (18, .row Xa7 r.2.1)]
theorem Xql {p0 p1 p2 r} (h : Xbz p0 p1 p2 = some r) : AC Tryz.prog 16 [.agg [.sv (.int .i64 p0.Seq.Level), .sv (.int .i64 p0.Seq.Bits), .sv (.ints .i64 p0.Seq.Cols), .sv (.ints .i64 p0.Seq.Rows), .sv (.int .i64 p0.Par.Qp), .sv (.bool p0.Par.Large), .sv (.bool p0.Par.Exact), .sv (.bool p0.Par.Confined), .sv (.int .i64 p0.Rate.Qp), .sv (.int .i64 p0.Rate.Target), .sv (.int .i64 p0.Rate.Debt), .sv (.int .i64 p0.Frame), .sv (.int .i64 p0.Since), .sv (.int .i64 p0.Every), .sv (.int .i64 p0.Reach), .sv (.bool p0.Has), .sv (.int .i64 p0.Ref.Wide), .sv (.int .i64 p0.Ref.High), .sv (.str p0.Ref.Dots)], .agg [.sv (.int .i64 p1.Wide), .sv (.int .i64 p1.High), .sv (.str p1.Dots)], .sv (.bool p2)] [] (Xyn r) (Xym r) := by
 refine Xaf hT Tryz.func16 rfl fun C hC => ?_
 unfold Xbz at h
 refine Xab ?_
 iterate 5 refine kO hT hC ?_
 refine Vc.nil (Xam ?_)
 refine kL [2,3,4,6] [48,64,96] [_,_,_,_] [_,_,_] ?_
 refine kA h (fun v1 => ([(32, .sv (.bool v1))], [])) (fun v1 h => ?_) fun v1 h => ?_
 refine Xac ?_
 refine kO hT hC ?_
 refine kC hC [] Tryz.call56 h (fun _ => Xn6) fun q2 h => ?_
 iterate 2 refine kO hT hC ?_
 refine kS h ?_ ?_ <;> intro b1 h
 iterate 3 refine kI hT hC (kn b1) ?_
 refine kE hC (kn b1) [] Tryz.call57 h (fun _ => Yfb) fun q3 h => ?_
 refine kI hT hC (kn b1) ?_
 refine kP hC false (kn b1) ?_
 exact Vc.nil kM
 iterate 5 refine kF hC (kn b1) ?_
 refine kP hC true (kn b1) ?_
 exact Vc.nil kM
 refine kS h ?_ ?_ <;> intro b2 h
 refine kt b2 (Xab ?_)
 refine kO hT hC ?_
 refine kC hC [(16, 544), (17, 545)] Tryz.call58 h (fun _ => Xll) fun q4 h => ?_
 iterate 4 refine kO hT hC ?_
 refine Vc.nil (Xah (Xaq ?_))
 obtain rfl := kj h
 exact Xby (τ := ⟨[(6, .ptr 2000000 0), (7, .own 18), (8, .sv (.bool false))], [(16, some (.ints .i64 q4.Seq.Cols)), (17, some (.ints .i64 q4.Seq.Rows)), (18, some (.row Xa7 ([] : List ByteArray))), (2000000, some (.box [.sv (.int .i64 q4.Seq.Level), .sv (.int .i64 q4.Seq.Bits), .own 16, .own 17, .sv (.int .i64 q4.Par.Qp), .sv (.bool q4.Par.Large), .sv (.bool q4.Par.Exact), .sv (.bool q4.Par.Confined), .sv (.int .i64 q4.Rate.Qp), .sv (.int .i64 q4.Rate.Target), .sv (.int .i64 q4.Rate.Debt), .sv (.int .i64 q4.Frame), .sv (.int .i64 q4.Since), .sv (.int .i64 q4.Every), .sv (.int .i64 q4.Reach), .sv (.bool q4.Has), .sv (.int .i64 q4.Ref.Wide), .sv (.int .i64 q4.Ref.High), .sv (.str q4.Ref.Dots)]))]⟩) (kW hC [(16, 544), (17, 545), (18, 560), (2000000, 96)]) rfl ⟨rfl, rfl, rfl, trivial⟩
 refine kf b2 (Xag (Xae (Xab ?_)))
 iterate 2 refine kO hT hC ?_
 refine kC hC [] Tryz.call59 h (fun _ => Ynz) fun q5 h => ?_
 refine kO hT hC ?_
 refine Vc.nil (Xam ?_)
 refine kL [3,4,6,9] [48,64,96] [_,_,_,_] [_,_,_] ?_
 refine kA h (fun v6 => ([(45, .sv (.bool v6))], [])) (fun v6 h => ?_) fun v6 h => ?_
 refine Xac ?_
 iterate 3 refine kO hT hC ?_
 refine kS h ?_ ?_ <;> intro b3 h
 iterate 3 refine kF hC (kn b3) ?_
 refine kP hC false (kn b3) ?_
 exact Vc.nil kM
 iterate 3 refine kI hT hC (kn b3) ?_
 refine kP hC true (kn b3) ?_
 exact Vc.nil kM
 refine kS h ?_ ?_ <;> intro b4 h
 refine kt b4 (Xab ?_)
 refine kO hT hC ?_
 refine kC hC [(16, 752), (17, 753)] Tryz.call58 h (fun _ => Xll) fun q7 h => ?_
 iterate 4 refine kO hT hC ?_
 refine Vc.nil (Xah (Xaq ?_))
 obtain rfl := kj h
 exact Xby (τ := ⟨[(6, .ptr 2000000 0), (7, .own 18), (8, .sv (.bool false))], [(16, some (.ints .i64 q7.Seq.Cols)), (17, some (.ints .i64 q7.Seq.Rows)), (18, some (.row Xa7 ([] : List ByteArray))), (2000000, some (.box [.sv (.int .i64 q7.Seq.Level), .sv (.int .i64 q7.Seq.Bits), .own 16, .own 17, .sv (.int .i64 q7.Par.Qp), .sv (.bool q7.Par.Large), .sv (.bool q7.Par.Exact), .sv (.bool q7.Par.Confined), .sv (.int .i64 q7.Rate.Qp), .sv (.int .i64 q7.Rate.Target), .sv (.int .i64 q7.Rate.Debt), .sv (.int .i64 q7.Frame), .sv (.int .i64 q7.Since), .sv (.int .i64 q7.Every), .sv (.int .i64 q7.Reach), .sv (.bool q7.Has), .sv (.int .i64 q7.Ref.Wide), .sv (.int .i64 q7.Ref.High), .sv (.str q7.Ref.Dots)]))]⟩) (kW hC [(16, 752), (17, 753), (18, 768), (2000000, 96)]) rfl ⟨rfl, rfl, rfl, trivial⟩
 refine kf b4 (Xag (Xae ?_))
 refine Xbs hm ?_
 iterate 4 refine kO hT hC ?_
 refine kC hC [] Tryz.call60 h (fun _ => Yr2) fun q8 h => ?_
 iterate 9 refine kO hT hC ?_
 refine kD (Xab ?_)
 iterate 6 refine kO hT hC ?_
 refine kC hC [(16, 1088)] Tryz.call61 h (fun _ => Ykf) fun q9 h => ?_
 iterate 8 refine kO hT hC ?_
 refine kN ?_
 iterate 9 refine kO hT hC ?_
 refine kC hC [] Tryz.call62 h (fun _ => Yjr) fun q10 h => ?_
 iterate 5 refine kO hT hC ?_
 refine kN ?_
 iterate 2 refine kO hT hC ?_
 refine kC hC [] Tryz.call63 h (fun _ => Ykg) fun q11 h => ?_
 iterate 5 refine kO hT hC ?_
 refine kN ?_
 refine kO hT hC ?_
 refine kN ?_
 refine kO hT hC ?_
 refine kC hC [(16, 1472), (17, 1473)] Tryz.call58 h (fun _ => Xll) fun q12 h => ?_
 iterate 2 refine kO hT hC ?_
 refine kN ?_
 iterate 2 refine kO hT hC ?_
 refine kN ?_
 iterate 5 refine kO hT hC ?_
 refine Vc.nil ?_
 refine kL [3,6,9,12,14,16,18,19,20] [48,96,192,304,1472,1473,1488] [_,_,_,_,_,_,_,_,_] [_,_,_,_,_,_,_] ?_
 refine kA h (fun v13 => ([(18, .sv (.int .i64 v13.1)), (9, .any)], [(304, some (.box [.sv (.int .i64 q12.Seq.Level), .sv (.int .i64 q12.Seq.Bits), .own 1472, .own 1473, .sv (.int .i64 q12.Par.Qp), .sv (.bool q12.Par.Large), .sv (.bool q12.Par.Exact), .sv (.bool q12.Par.Confined), .sv (.int .i64 q12.Rate.Qp), .sv (.int .i64 q12.Rate.Target), .sv (.int .i64 q12.Rate.Debt), .sv (.int .i64 q12.Frame), .sv (.int .i64 v13.2.1), .sv (.int .i64 q12.Every), .sv (.int .i64 q12.Reach), .sv (.bool q12.Has), .sv (.int .i64 q12.Ref.Wide), .sv (.int .i64 q12.Ref.High), .sv (.str q12.Ref.Dots)])), (1488, some (.row Xa7 v13.2.2))])) (fun v13 h => ?_) fun v13 h => ?_
 refine Xab ?_
 refine kO hT hC ?_
 refine Vc.nil ?_
 refine kS h ?_ ?_ <;> intro b5 h
 refine kt b5 (Xab ?_)
 refine kO hT hC ?_
 refine kN ?_
 refine kO hT hC ?_
 refine kC hC [(16, 1600)] Tryz.call64 h (fun _ => Yai) fun q14 h => ?_
 refine kO hT hC ?_
 refine Vc.nil (Xac ?_)
 iterate 2 refine kO hT hC ?_
 refine Vc.nil ?_
 obtain rfl := kj h
 exact Xhz (kW hC [(1488, 1600)])
 exact kf b5 (Xag kM)
 refine Xab ?_
 iterate 3 refine kO hT hC ?_
 refine kQ hT hC h fun h => ?_
 refine kC hC [] Tryz.call65 h (fun _ => Xq3) fun q15 h => ?_
 iterate 5 refine kO hT hC ?_
 refine kN ?_
 iterate 7 refine kO hT hC ?_
 refine kC hC [] Tryz.call66 h (fun _ => Yf5) fun q16 h => ?_
 iterate 2 refine kO hT hC ?_
 refine Vc.nil ?_
 refine Xbs hm ?_
 iterate 6 refine kO hT hC ?_
 iterate 2 refine kQ hT hC h fun h => ?_
 iterate 2 refine kO hT hC ?_
 refine kD (Xab ?_)
 iterate 2 refine kO hT hC ?_
 refine kN ?_
 iterate 3 refine kO hT hC ?_
 refine Vc.nil ?_
 refine Xbs hm ?_
 iterate 4 refine kO hT hC ?_
 obtain ⟨hq, h⟩ := Xaw h
 refine Yqs hT hC rfl rfl rfl rfl ⟨fun _ _ => rfl, by rw [Xoo]; exact hq⟩ ?_
 rw [Xoo]
 iterate 3 refine kO hT hC ?_
 refine kD (Xah ?_)
 obtain rfl := kj h
 exact Xby (τ := ⟨[(6, .ptr 2000000 0), (7, .own 18), (8, .sv (.bool true))], [(16, some (.ints .i64 q12.Seq.Cols)), (17, some (.ints .i64 q12.Seq.Rows)), (18, some (.row Xa7 (v13.2.2 ++ ([q15.1])))), (2000000, some (.box [.sv (.int .i64 q12.Seq.Level), .sv (.int .i64 q12.Seq.Bits), .own 16, .own 17, .sv (.int .i64 q12.Par.Qp), .sv (.bool q12.Par.Large), .sv (.bool q12.Par.Exact), .sv (.bool q12.Par.Confined), .sv (.int .i64 q16.Qp), .sv (.int .i64 q16.Target), .sv (.int .i64 q16.Debt), .sv (.int .i64 ((Xaa .i64 (p0.Frame + 1)).tmod (Xaa .i64 (1 * 2 ^ min p0.Seq.Bits.toNat (IntKind.bits .i64))))), .sv (.int .i64 v13.2.1), .sv (.int .i64 q12.Every), .sv (.int .i64 q12.Reach), .sv (.bool true), .sv (.int .i64 q9.2.1.Wide), .sv (.int .i64 q9.2.1.High), .sv (.str q9.2.1.Dots)]))]⟩) (kW hC [(16, 1472), (17, 1473), (18, 2160), (2000000, 96)]) rfl ⟨rfl, rfl, rfl, trivial⟩
def Yk8 (r : Int) : AV := .sv (.int .i64 r)
def Yk7 (r : Int) : Xax := []
theorem Xxg {p0 p1 r} (h : Xmy p0 p1 = some r) : AC Tryz.prog 147 [.sv (.ints .i64 p0), .sv (.int .i64 p1)] [] (Yk8 r) (Yk7 r) := by
 refine Xaf hT Tryz.func147 rfl fun C hC => ?_
 unfold Xmy at h
 refine Xab ?_
 refine kO hT hC ?_
 refine kN ?_
 iterate 5 refine kO hT hC ?_
 refine Vc.nil (Xam (Xab ?_))
 iterate 2 refine kO hT hC ?_
 refine Vc.nil ?_
 refine kS h ?_ ?_ <;> intro b1 h
 refine kt b1 (Xab ?_)
 refine kO hT hC ?_
 exact Vc.nil (Xah (Xaq kR))
 refine kf b1 (Xag (Xae (Xab ?_)))
 iterate 2 refine kO hT hC ?_
 exact Vc.nil (Xah kR)
def Yo2 (r : Int) : AV := .sv (.int .i64 r)
def Yo1 (r : Int) : Xax := []
theorem Yss {p0 p1 r} (h : Xr7 p0 p1 = some r) : AC Tryz.prog 74 [.agg [.sv (.int .i64 p0.Level), .sv (.int .i64 p0.Bits), .sv (.ints .i64 p0.Cols), .sv (.ints .i64 p0.Rows)], .sv (.int .i64 p1)] [] (Yo2 r) (Yo1 r) := by
 refine Xaf hT Tryz.func74 rfl fun C hC => ?_
 unfold Xr7 at h
 refine Xab ?_
 iterate 2 refine kO hT hC ?_
 refine kN ?_
 iterate 3 refine kO hT hC ?_
 refine kC hC [] Tryz.call147 h (fun _ => Xxg) fun q1 h => ?_
 refine kO hT hC ?_
 refine Vc.nil (Xam (Xab ?_))
 iterate 2 refine kO hT hC ?_
 refine Vc.nil ?_
 refine kS h ?_ ?_ <;> intro b1 h
 refine kt b1 (Xab ?_)
 refine kO hT hC ?_
 exact Vc.nil (Xah (Xaq kR))
 refine kf b1 (Xag (Xae (Xab ?_)))
 iterate 3 refine kO hT hC ?_
 refine kC hC [] Tryz.call147 h (fun _ => Xxg) fun q2 h => ?_
 refine kO hT hC ?_
 refine Vc.nil (Xam (Xab ?_))
 iterate 2 refine kO hT hC ?_
 refine Vc.nil ?_
 refine kS h ?_ ?_ <;> intro b2 h
 refine kt b2 (Xab ?_)
 refine kO hT hC ?_
 exact Vc.nil (Xah (Xaq kR))
 refine kf b2 (Xag (Xae (Xab ?_)))
 iterate 2 refine kO hT hC ?_
 exact Vc.nil (Xah kR)
def Yo0 (r : Int) : AV := .sv (.int .i64 r)
def Yoz (r : Int) : Xax := []
theorem Ya6 {p0 p1 r} (h : Xo1 p0 p1 = some r) : AC Tryz.prog 21 [.agg [.sv (.int .i64 p0.Wide), .sv (.int .i64 p0.High), .sv (.str p0.Dots)], .sv (.int .i64 p1)] [] (Yo0 r) (Yoz r) := by
 refine Xaf hT Tryz.func21 rfl fun C hC => ?_
 unfold Xo1 at h
 refine Xab ?_
 iterate 2 refine kO hT hC ?_
 refine kN ?_
 iterate 6 refine kO hT hC ?_
 refine Vc.nil (Xam (Xab ?_))
 iterate 2 refine kO hT hC ?_
 refine Vc.nil ?_
 refine kS h ?_ ?_ <;> intro b1 h
 refine kt b1 (Xab ?_)
 refine kO hT hC ?_
 exact Vc.nil (Xah (Xaq kR))
 refine kf b1 (Xag (Xae (Xab ?_)))
 iterate 2 refine kO hT hC ?_
 exact Vc.nil (Xah kR)
def Ydw (r : Int) : AV := .sv (.int .i64 r)
def Ydv (r : Int) : Xax := []
theorem Ygt {p0 p1 r} (h : Xlq p0 p1 = some r) : AC Tryz.prog 20 [.agg [.sv (.int .i64 p0.Seq.Level), .sv (.int .i64 p0.Seq.Bits), .sv (.ints .i64 p0.Seq.Cols), .sv (.ints .i64 p0.Seq.Rows), .sv (.int .i64 p0.Par.Qp), .sv (.bool p0.Par.Large), .sv (.bool p0.Par.Exact), .sv (.bool p0.Par.Confined), .sv (.int .i64 p0.Rate.Qp), .sv (.int .i64 p0.Rate.Target), .sv (.int .i64 p0.Rate.Debt), .sv (.int .i64 p0.Frame), .sv (.int .i64 p0.Since), .sv (.int .i64 p0.Every), .sv (.int .i64 p0.Reach), .sv (.bool p0.Has), .sv (.int .i64 p0.Ref.Wide), .sv (.int .i64 p0.Ref.High), .sv (.str p0.Ref.Dots)], .sv (.int .i64 p1)] [] (Ydw r) (Ydv r) := by
 refine Xaf hT Tryz.func20 rfl fun C hC => ?_
 unfold Xlq at h
 refine Xab ?_
 iterate 2 refine kO hT hC ?_
 refine kN ?_
 iterate 3 refine kO hT hC ?_
 refine kC hC [] Tryz.call74 h (fun _ => Yss) fun q1 h => ?_
 refine kO hT hC ?_
 refine Vc.nil (Xam (Xab ?_))
 iterate 2 refine kO hT hC ?_
 refine Vc.nil ?_
 refine kS h ?_ ?_ <;> intro b1 h
 refine kt b1 (Xab ?_)
 refine kO hT hC ?_
 exact Vc.nil (Xah (Xaq kR))
 refine kf b1 (Xag (Xae (Xab ?_)))
 iterate 3 refine kO hT hC ?_
 refine kC hC [] Tryz.call21 h (fun _ => Ya6) fun q2 h => ?_
 refine kO hT hC ?_
 refine Vc.nil (Xam (Xab ?_))
 iterate 2 refine kO hT hC ?_
 refine Vc.nil ?_
 refine kS h ?_ ?_ <;> intro b2 h
 refine kt b2 (Xab ?_)
 refine kO hT hC ?_
 exact Vc.nil (Xah (Xaq kR))
 refine kf b2 (Xag (Xae (Xab ?_)))
 iterate 2 refine kO hT hC ?_
 exact Vc.nil (Xah kR)
def Yla (r : (List Int)) : AV := .own 16
def Yk9 (r : (List Int)) : Xax := [(16, .ints .i64 r)]
theorem Xxi {p0 r} (h : Xmz p0 = some r) : AC Tryz.prog 166 [.sv (.ints .i64 p0)] [] (Yla r) (Yk9 r) := by
 refine Xaf hT Tryz.func166 rfl fun C hC => ?_
 unfold Xmz at h
 refine Xab ?_
 refine kO hT hC ?_
 refine kN ?_
 iterate 2 refine kO hT hC ?_
 obtain ⟨hq, h⟩ := Xaw h
 refine Yqs hT hC rfl rfl rfl rfl ⟨hq.1, hq.2.1, hq.2.2, by decide⟩ ?_
 refine kO hT hC ?_
 refine Vc.nil (Xam (Xab ?_))
 refine kO hT hC ?_
 refine Vc.nil ?_
 refine kL [0,3,4] [112] [_,_,_] [_] ?_
 refine kX h (fun v2 => ([(4, .sv (.int .i64 v2.1))], [(112, some (.ints .i64 v2.2))])) (fun v4 => ([(0, .any), (4, .any)], [(112, some (.ints .i64 v4))])) (kW hC []) (fun v2 s h => ?_) fun v4 h => ?_
 unfold Xjn at h
 refine Xam (Xab ?_)
 iterate 4 refine kO hT hC ?_
 refine Vc.nil ?_
 refine kS h ?_ ?_ <;> intro b3 h
 refine kt b3 (Xag (Xae (Xam (Xak (Xac ?_)))))
 iterate 4 refine kO hT hC ?_
 refine kQ hT hC h fun h => ?_
 refine kO hT hC ?_
 iterate 2 refine kQ hT hC h fun h => ?_
 refine Vc.nil (Xap (Xae (Xac ?_)))
 iterate 3 refine kO hT hC ?_
 exact Vc.nil kG
 exact kf b3 (Xan (Xat ku))
 refine Xae (Xab ?_)
 iterate 2 refine kO hT hC ?_
 refine Vc.nil (Xah ?_)
 obtain rfl := kj h
 exact Xby (τ := ⟨[(2, .own 16)], [(16, some (.ints .i64 v4))]⟩) (kW hC [(16, 112)]) rfl ⟨rfl, trivial⟩
def Yo9 (r : Seq) : AV := .agg [.sv (.int .i64 r.Level), .sv (.int .i64 r.Bits), .own 16, .own 17]
def Yo8 (r : Seq) : Xax := [(16, .ints .i64 r.Cols), (17, .ints .i64 r.Rows)]
theorem Ysv {p0 r} (h : Xr8 p0 = some r) : AC Tryz.prog 86 [.agg [.sv (.int .i64 p0.Level), .sv (.int .i64 p0.Bits), .sv (.ints .i64 p0.Cols), .sv (.ints .i64 p0.Rows)]] [] (Yo9 r) (Yo8 r) := by
 refine Xaf hT Tryz.func86 rfl fun C hC => ?_
 unfold Xr8 at h
 refine Xab ?_
 iterate 2 refine kO hT hC ?_
 refine kN ?_
 refine kO hT hC ?_
 refine kN ?_
 iterate 4 refine kO hT hC ?_
 refine kN ?_
 iterate 4 refine kO hT hC ?_
 refine kN ?_
 iterate 2 refine kO hT hC ?_
 refine kC hC [(16, 192)] Tryz.call166 h (fun _ => Xxi) fun q1 h => ?_
 iterate 2 refine kO hT hC ?_
 refine kN ?_
 iterate 2 refine kO hT hC ?_
 refine kC hC [(16, 256)] Tryz.call166 h (fun _ => Xxi) fun q2 h => ?_
 iterate 2 refine kO hT hC ?_
 refine kN ?_
 iterate 2 refine kO hT hC ?_
 refine Vc.nil (Xah ?_)
 obtain rfl := kj h
 exact Xby (τ := ⟨[(2, .ptr 2000000 0)], [(16, some (.ints .i64 q1)), (17, some (.ints .i64 q2)), (2000000, some (.box [.sv (.int .i64 p0.Level), .sv (.int .i64 p0.Bits), .own 16, .own 17]))]⟩) (kW hC [(16, 192), (17, 256), (2000000, 32)]) rfl ⟨rfl, rfl, trivial⟩
def Yo4 (r : Par) : AV := .agg [.sv (.int .i64 r.Qp), .sv (.bool r.Large), .sv (.bool r.Exact), .sv (.bool r.Confined)]
def Yo3 (r : Par) : Xax := []
theorem Ysu {p0 r} (h : Ydx p0 = some r) : AC Tryz.prog 36 [.agg [.sv (.int .i64 p0.Qp), .sv (.bool p0.Large), .sv (.bool p0.Exact), .sv (.bool p0.Confined)]] [] (Yo4 r) (Yo3 r) := by
 refine Xaf hT Tryz.func36 rfl fun C hC => ?_
 unfold Ydx at h
 refine Xab ?_
 iterate 2 refine kO hT hC ?_
 refine kN ?_
 refine kO hT hC ?_
 refine kN ?_
 iterate 4 refine kO hT hC ?_
 refine kN ?_
 iterate 4 refine kO hT hC ?_
 refine kN ?_
 iterate 4 refine kO hT hC ?_
 refine kN ?_
 iterate 4 refine kO hT hC ?_
 refine kN ?_
 iterate 2 refine kO hT hC ?_
 exact Vc.nil (Xah kR)
def Ylc (r : Rate) : AV := .agg [.sv (.int .i64 r.Qp), .sv (.int .i64 r.Target), .sv (.int .i64 r.Debt)]
def Ylb (r : Rate) : Xax := []
theorem Yo7 {p0 r} (h : Xy6 p0 = some r) : AC Tryz.prog 87 [.agg [.sv (.int .i64 p0.Qp), .sv (.int .i64 p0.Target), .sv (.int .i64 p0.Debt)]] [] (Ylc r) (Ylb r) := by
 refine Xaf hT Tryz.func87 rfl fun C hC => ?_
 unfold Xy6 at h
 refine Xab ?_
 iterate 2 refine kO hT hC ?_
 refine kN ?_
 refine kO hT hC ?_
 refine kN ?_
 iterate 4 refine kO hT hC ?_
 refine kN ?_
 iterate 4 refine kO hT hC ?_
 refine kN ?_
 iterate 4 refine kO hT hC ?_
 refine kN ?_
 iterate 2 refine kO hT hC ?_
 exact Vc.nil (Xah kR)
def Yo6 (r : Pic) : AV := .agg [.sv (.int .i64 r.Wide), .sv (.int .i64 r.High), .sv (.str r.Dots)]
def Yo5 (r : Pic) : Xax := []
theorem Xow {p0 r} (h : Xm0 p0 = some r) : AC Tryz.prog 24 [.agg [.sv (.int .i64 p0.Wide), .sv (.int .i64 p0.High), .sv (.str p0.Dots)]] [] (Yo6 r) (Yo5 r) := by
 refine Xaf hT Tryz.func24 rfl fun C hC => ?_
 unfold Xm0 at h
 refine Xab ?_
 iterate 2 refine kO hT hC ?_
 refine kN ?_
 refine kO hT hC ?_
 refine kN ?_
 iterate 4 refine kO hT hC ?_
 refine kN ?_
 iterate 4 refine kO hT hC ?_
 refine kN ?_
 iterate 4 refine kO hT hC ?_
 refine kN ?_
 iterate 2 refine kO hT hC ?_
 exact Vc.nil (Xah kR)
def Ydz (r : Source) : AV := .agg [.sv (.int .i64 r.Seq.Level), .sv (.int .i64 r.Seq.Bits), .own 16, .own 17, .sv (.int .i64 r.Par.Qp), .sv (.bool r.Par.Large), .sv (.bool r.Par.Exact), .sv (.bool r.Par.Confined), .sv (.int .i64 r.Rate.Qp), .sv (.int .i64 r.Rate.Target), .sv (.int .i64 r.Rate.Debt), .sv (.int .i64 r.Frame), .sv (.int .i64 r.Since), .sv (.int .i64 r.Every), .sv (.int .i64 r.Reach), .sv (.bool r.Has), .sv (.int .i64 r.Ref.Wide), .sv (.int .i64 r.Ref.High), .sv (.str r.Ref.Dots)]
def Ydy (r : Source) : Xax := [(16, .ints .i64 r.Seq.Cols), (17, .ints .i64 r.Seq.Rows)]
theorem Xj5 {p0 r} (h : Xe6 p0 = some r) : AC Tryz.prog 23 [.agg [.sv (.int .i64 p0.Seq.Level), .sv (.int .i64 p0.Seq.Bits), .sv (.ints .i64 p0.Seq.Cols), .sv (.ints .i64 p0.Seq.Rows), .sv (.int .i64 p0.Par.Qp), .sv (.bool p0.Par.Large), .sv (.bool p0.Par.Exact), .sv (.bool p0.Par.Confined), .sv (.int .i64 p0.Rate.Qp), .sv (.int .i64 p0.Rate.Target), .sv (.int .i64 p0.Rate.Debt), .sv (.int .i64 p0.Frame), .sv (.int .i64 p0.Since), .sv (.int .i64 p0.Every), .sv (.int .i64 p0.Reach), .sv (.bool p0.Has), .sv (.int .i64 p0.Ref.Wide), .sv (.int .i64 p0.Ref.High), .sv (.str p0.Ref.Dots)]] [] (Ydz r) (Ydy r) := by
 refine Xaf hT Tryz.func23 rfl fun C hC => ?_
 unfold Xe6 at h
 refine Xab ?_
 iterate 2 refine kO hT hC ?_
 refine kN ?_
 refine kO hT hC ?_
 refine kN ?_
 iterate 2 refine kO hT hC ?_
 refine kC hC [(16, 96), (17, 97)] Tryz.call86 h (fun _ => Ysv) fun q1 h => ?_
 iterate 2 refine kO hT hC ?_
 refine kN ?_
 iterate 2 refine kO hT hC ?_
 refine kC hC [] Tryz.call36 h (fun _ => Ysu) fun q2 h => ?_
 iterate 2 refine kO hT hC ?_
 refine kN ?_
 iterate 2 refine kO hT hC ?_
 refine kC hC [] Tryz.call87 h (fun _ => Yo7) fun q3 h => ?_
 iterate 2 refine kO hT hC ?_
 refine kN ?_
 iterate 4 refine kO hT hC ?_
 refine kN ?_
 iterate 4 refine kO hT hC ?_
 refine kN ?_
 iterate 4 refine kO hT hC ?_
 refine kN ?_
 iterate 4 refine kO hT hC ?_
 refine kN ?_
 iterate 4 refine kO hT hC ?_
 refine kN ?_
 iterate 2 refine kO hT hC ?_
 refine kC hC [] Tryz.call24 h (fun _ => Xow) fun q4 h => ?_
 iterate 2 refine kO hT hC ?_
 refine kN ?_
 iterate 2 refine kO hT hC ?_
 refine Vc.nil (Xah ?_)
 obtain rfl := kj h
 exact Xby (τ := ⟨[(2, .ptr 2000000 0)], [(16, some (.ints .i64 q1.Cols)), (17, some (.ints .i64 q1.Rows)), (2000000, some (.box [.sv (.int .i64 q1.Level), .sv (.int .i64 q1.Bits), .own 16, .own 17, .sv (.int .i64 q2.Qp), .sv (.bool q2.Large), .sv (.bool q2.Exact), .sv (.bool q2.Confined), .sv (.int .i64 q3.Qp), .sv (.int .i64 q3.Target), .sv (.int .i64 q3.Debt), .sv (.int .i64 p0.Frame), .sv (.int .i64 p0.Since), .sv (.int .i64 p0.Every), .sv (.int .i64 p0.Reach), .sv (.bool p0.Has), .sv (.int .i64 q4.Wide), .sv (.int .i64 q4.High), .sv (.str q4.Dots)]))]⟩) (kW hC [(16, 96), (17, 97), (2000000, 32)]) rfl ⟨rfl, rfl, trivial⟩
def Yl8 (r : Bool) : AV := .sv (.bool r)
def Yl7 (r : Bool) : Xax := []
theorem Ypn {p0 p1 r} (h : Xpx p0 p1 = some r) : AC Tryz.prog 75 [.agg [.sv (.int .i64 p0.Seq.Level), .sv (.int .i64 p0.Seq.Bits), .sv (.ints .i64 p0.Seq.Cols), .sv (.ints .i64 p0.Seq.Rows), .sv (.int .i64 p0.Par.Qp), .sv (.bool p0.Par.Large), .sv (.bool p0.Par.Exact), .sv (.bool p0.Par.Confined), .sv (.int .i64 p0.Rate.Qp), .sv (.int .i64 p0.Rate.Target), .sv (.int .i64 p0.Rate.Debt), .sv (.int .i64 p0.Frame), .sv (.int .i64 p0.Since), .sv (.int .i64 p0.Every), .sv (.int .i64 p0.Reach), .sv (.bool p0.Has), .sv (.int .i64 p0.Ref.Wide), .sv (.int .i64 p0.Ref.High), .sv (.str p0.Ref.Dots)], .sv (.bool p1)] [] (Yl8 r) (Yl7 r) := by
 refine Xaf hT Tryz.func75 rfl fun C hC => ?_
 unfold Xpx at h
 refine Xab ?_
 iterate 2 refine kO hT hC ?_
 refine Vc.nil ?_
 refine kL [1,2,4] [32] [_,_,_] [_] ?_
 refine kA h (fun v1 => ([(4, .sv (.bool v1)), (1, .any), (2, .any)], [(32, none)])) (fun v1 h => ?_) fun v1 h => ?_
 refine Xac ?_
 refine kO hT hC ?_
 refine kC hC [] Tryz.call76 h (fun _ => Xoe) fun q2 h => ?_
 refine kO hT hC ?_
 refine kS h ?_ ?_ <;> intro b1 h
 iterate 2 refine kI hT hC b1 ?_
 refine kS h ?_ ?_ <;> intro b2 h
 iterate 3 refine kF hC b2 ?_
 refine Xa6 hC rfl rfl rfl rfl b1 rfl rfl (b := true) b2 rfl rfl rfl trivial ?_
 refine kI hT hC b1 ?_
 iterate 5 refine kF hC rfl ?_
 refine Xa6 hC rfl rfl rfl rfl b1 rfl rfl (b := true) rfl rfl rfl rfl trivial ?_
 refine kP hC true b1 ?_
 refine kO hT hC ?_
 exact Vc.nil kM
 iterate 3 refine kI hT hC b2 ?_
 refine Xa6 hC rfl rfl rfl rfl b1 rfl rfl (b := false) b2 rfl rfl rfl trivial ?_
 refine kI hT hC b1 ?_
 refine kS h ?_ ?_ <;> intro b3 h
 iterate 5 refine kI hT hC (kn b3) ?_
 refine Xa6 hC rfl rfl rfl rfl b1 rfl rfl (b := false) (kn b3) rfl rfl rfl trivial ?_
 refine kP hC true b1 ?_
 refine kO hT hC ?_
 exact Vc.nil kM
 iterate 5 refine kF hC (kn b3) ?_
 refine Xa6 hC rfl rfl rfl rfl b1 rfl rfl (b := true) (kn b3) rfl rfl rfl trivial ?_
 refine kP hC true b1 ?_
 refine kO hT hC ?_
 exact Vc.nil kM
 iterate 2 refine kF hC b1 ?_
 iterate 3 refine Xd4 hC rfl rfl rfl rfl rfl rfl ?_
 iterate 2 refine kF hC b1 ?_
 iterate 5 refine Xd4 hC rfl rfl rfl rfl rfl rfl ?_
 refine kF hC b1 ?_
 refine kP hC false b1 ?_
 refine kO hT hC ?_
 exact Vc.nil kM
 exact Xah kR
def Yhv (r : Seq) : AV := .agg [.sv (.int .i64 r.Level), .sv (.int .i64 r.Bits), .own 16, .own 17]
def Yhu (r : Seq) : Xax := [(16, .ints .i64 r.Cols), (17, .ints .i64 r.Rows)]
theorem Xvh {p0 r} (h : Xk2 p0 = some r) : AC Tryz.prog 78 [.agg [.sv (.int .i64 p0.Level), .sv (.int .i64 p0.Bits), .sv (.ints .i64 p0.Cols), .sv (.ints .i64 p0.Rows)]] [] (Yhv r) (Yhu r) := by
 refine Xaf hT Tryz.func78 rfl fun C hC => ?_
 unfold Xk2 at h
 refine Xab ?_
 iterate 2 refine kO hT hC ?_
 refine kN ?_
 iterate 3 refine kO hT hC ?_
 refine kT hT hC h fun h => ?_
 iterate 2 refine kO hT hC ?_
 refine kN ?_
 iterate 3 refine kO hT hC ?_
 refine kT hT hC h fun h => ?_
 iterate 2 refine kO hT hC ?_
 refine kN ?_
 iterate 2 refine kO hT hC ?_
 refine Vc.nil (Xah ?_)
 obtain rfl := kj h
 exact Xby (τ := ⟨[(2, .ptr 2000000 0)], [(16, some (.ints .i64 (([] : List Int) ++ p0.Cols))), (17, some (.ints .i64 (([] : List Int) ++ p0.Rows))), (2000000, some (.box [.sv (.int .i64 p0.Level), .sv (.int .i64 p0.Bits), .own 16, .own 17]))]⟩) (kW hC [(16, 96), (17, 176), (2000000, 32)]) rfl ⟨rfl, rfl, trivial⟩
def Ypt (r : Int) : AV := .sv (.int .i64 r)
def Yps (r : Int) : Xax := []
theorem Ytm {p0 p1 r} (h : Xsf p0 p1 = some r) : AC Tryz.prog 79 [.agg [.sv (.int .i64 p0.Qp), .sv (.int .i64 p0.Target), .sv (.int .i64 p0.Debt)], .sv (.bool p1)] [] (Ypt r) (Yps r) := by
 refine Xaf hT Tryz.func79 rfl fun C hC => ?_
 unfold Xsf at h
 refine Xab ?_
 iterate 2 refine kO hT hC ?_
 refine Vc.nil (Xam (Xab ?_))
 refine kO hT hC ?_
 refine kC hC [] Tryz.call148 h (fun _ => Xre) fun q1 h => ?_
 refine kO hT hC ?_
 refine Vc.nil ?_
 refine kS h ?_ ?_ <;> intro b1 h
 refine kt b1 (Xab ?_)
 refine kO hT hC ?_
 exact Vc.nil (Xah (Xaq kR))
 refine kf b1 (Xag (Xae (Xam (Xab ?_))))
 refine kO hT hC ?_
 refine Vc.nil ?_
 refine kS h ?_ ?_ <;> intro b2 h
 refine kt b2 (Xab ?_)
 iterate 3 refine kO hT hC ?_
 refine kC hC [] Tryz.call150 h (fun _ => Xdc) fun q2 h => ?_
 refine kO hT hC ?_
 exact Vc.nil (Xah (Xaq kR))
 refine kf b2 (Xag (Xae (Xab ?_)))
 iterate 3 refine kO hT hC ?_
 exact Vc.nil (Xah kR)
def Yih (r : Bool) : AV := .sv (.bool r)
def Yig (r : Bool) : Xax := []
theorem Xvv {p0 r} (h : Xk6 p0 = some r) : AC Tryz.prog 151 [.sv (.int .i64 p0)] [] (Yih r) (Yig r) := by
 refine Xaf hT Tryz.func151 rfl fun C hC => ?_
 unfold Xk6 at h
 refine Xab ?_
 refine kO hT hC ?_
 refine Vc.nil ?_
 refine kL [0,2] [] [_,_] [] ?_
 refine kA h (fun v1 => ([(2, .sv (.bool v1)), (0, .any)], [])) (fun v1 h => ?_) fun v1 h => ?_
 refine Xac ?_
 refine kO hT hC ?_
 refine kQ hT hC h fun h => ?_
 iterate 2 refine kO hT hC ?_
 refine kS h ?_ ?_ <;> intro b1 h
 refine kI hT hC b1 ?_
 refine kE hC b1 [] Tryz.call149 h (fun _ => Xal) fun q2 h => ?_
 refine kP hC true b1 ?_
 refine kO hT hC ?_
 exact Vc.nil kM
 iterate 2 refine kF hC b1 ?_
 refine kP hC false b1 ?_
 refine kO hT hC ?_
 exact Vc.nil kM
 exact Xah kR
def Yly (r : Bool) : AV := .sv (.bool r)
def Ylx (r : Bool) : Xax := []
theorem Xjp {p0 r} (h : Xgw p0 = some r) : AC Tryz.prog 152 [.agg [.sv (.bool p0.Key), .sv (.int .i64 p0.Qp), .sv (.bool p0.Large), .sv (.bool p0.Exact)]] [] (Yly r) (Ylx r) := by
 refine Xaf hT Tryz.func152 rfl fun C hC => ?_
 unfold Xgw at h
 refine Xab ?_
 iterate 2 refine kO hT hC ?_
 refine Vc.nil ?_
 refine kL [1,2] [16] [_,_] [_] ?_
 refine kA h (fun v1 => ([(2, .sv (.bool v1)), (1, .any)], [(16, none)])) (fun v1 h => ?_) fun v1 h => ?_
 refine Xac ?_
 iterate 2 refine kO hT hC ?_
 refine kC hC [] Tryz.call149 h (fun _ => Xal) fun q2 h => ?_
 refine kO hT hC ?_
 refine kS h ?_ ?_ <;> intro b1 h
 iterate 3 refine kI hT hC b1 ?_
 refine kS h ?_ ?_ <;> intro b2 h
 iterate 2 refine kI hT hC b2 ?_
 refine Xa6 hC rfl rfl rfl rfl b1 rfl rfl (b := true) b2 rfl rfl rfl trivial ?_
 refine kI hT hC b1 ?_
 refine kP hC true b1 ?_
 refine kO hT hC ?_
 exact Vc.nil kM
 iterate 2 refine kF hC b2 ?_
 refine Xa6 hC rfl rfl rfl rfl b1 rfl rfl (b := false) b2 rfl rfl rfl trivial ?_
 refine kI hT hC b1 ?_
 refine kP hC true b1 ?_
 refine kO hT hC ?_
 exact Vc.nil kM
 iterate 3 refine kF hC b1 ?_
 iterate 2 refine Xd4 hC rfl rfl rfl rfl rfl rfl ?_
 iterate 2 refine kF hC b1 ?_
 refine kP hC false b1 ?_
 refine kO hT hC ?_
 exact Vc.nil kM
 exact Xah kR
def Yil (r : Bool) : AV := .sv (.bool r)
def Yik (r : Bool) : Xax := []
theorem Xvx {p0 p1 r} (h : Xgm p0 p1 = some r) : AC Tryz.prog 153 [.agg [.sv (.int .i64 p0.Wide), .sv (.int .i64 p0.High), .sv (.str p0.Dots)], .agg [.sv (.int .i64 p1.Wide), .sv (.int .i64 p1.High), .sv (.str p1.Dots)]] [] (Yil r) (Yik r) := by
 refine Xaf hT Tryz.func153 rfl fun C hC => ?_
 unfold Xgm at h
 refine Xab ?_
 iterate 3 refine kO hT hC ?_
 refine Vc.nil ?_
 refine kL [2,3,4] [32,48] [_,_,_] [_,_] ?_
 refine kA h (fun v1 => ([(4, .sv (.bool v1)), (2, .any), (3, .any)], [(32, none), (48, none)])) (fun v1 h => ?_) fun v1 h => ?_
 refine Xac ?_
 refine kO hT hC ?_
 refine kC hC [] Tryz.call77 h (fun _ => Xdx) fun q2 h => ?_
 refine kO hT hC ?_
 refine kS h ?_ ?_ <;> intro b1 h
 refine kI hT hC b1 ?_
 refine kE hC b1 [] Tryz.call77 h (fun _ => Xdx) fun q3 h => ?_
 refine kP hC true b1 ?_
 refine kO hT hC ?_
 refine kS h ?_ ?_ <;> intro b2 h
 iterate 5 refine kI hT hC b2 ?_
 refine kP hC true b2 ?_
 refine kO hT hC ?_
 refine kS h ?_ ?_ <;> intro b3 h
 iterate 5 refine kI hT hC b3 ?_
 refine kP hC true b3 ?_
 refine kO hT hC ?_
 exact Vc.nil kM
 iterate 5 refine kF hC b3 ?_
 refine kP hC false b3 ?_
 refine kO hT hC ?_
 exact Vc.nil kM
 iterate 5 refine kF hC b2 ?_
 refine kP hC false b2 ?_
 refine kO hT hC ?_
 iterate 5 refine kF hC rfl ?_
 iterate 2 refine kO hT hC ?_
 exact Vc.nil kM
 iterate 2 refine kF hC b1 ?_
 refine kP hC false b1 ?_
 refine kO hT hC ?_
 iterate 5 refine kF hC rfl ?_
 iterate 2 refine kO hT hC ?_
 iterate 5 refine kF hC rfl ?_
 iterate 2 refine kO hT hC ?_
 exact Vc.nil kM
 exact Xah kR
def Ytl (r : Pic) : AV := .agg [.sv (.int .i64 r.Wide), .sv (.int .i64 r.High), .sv (.str r.Dots)]
def Ytk (r : Pic) : Xax := []
theorem Yvy {p0 p1 r} (h : Xu9 p0 p1 = some r) : AC Tryz.prog 154 [.sv (.int .i64 p0), .sv (.int .i64 p1)] [] (Ytl r) (Ytk r) := by
 refine Xaf hT Tryz.func154 rfl fun C hC => ?_
 unfold Xu9 at h
 refine Xab ?_
 refine kO hT hC ?_
 refine Vc.nil (Xam ?_)
 refine kL [0,1,4] [64] [_,_,_] [_] ?_
 refine kA h (fun v1 => ([(12, .sv (.bool v1))], [])) (fun v1 h => ?_) fun v1 h => ?_
 refine Xac ?_
 refine kO hT hC ?_
 refine kC hC [] Tryz.call149 h (fun _ => Xal) fun q2 h => ?_
 iterate 2 refine kO hT hC ?_
 refine kS h ?_ ?_ <;> intro b1 h
 refine kI hT hC (kn b1) ?_
 refine kE hC (kn b1) [] Tryz.call149 h (fun _ => Xal) fun q3 h => ?_
 refine kI hT hC (kn b1) ?_
 refine kP hC false (kn b1) ?_
 exact Vc.nil kM
 iterate 3 refine kF hC (kn b1) ?_
 refine kP hC true (kn b1) ?_
 exact Vc.nil kM
 refine kS h ?_ ?_ <;> intro b2 h
 refine kt b2 (Xab ?_)
 iterate 2 refine kO hT hC ?_
 exact Vc.nil (Xah (Xaq kR))
 refine kf b2 (Xag (Xae (Xab ?_)))
 iterate 5 refine kO hT hC ?_
 refine kC hC [] Tryz.call218 h (fun _ => Xvd) fun q4 h => ?_
 iterate 2 refine kO hT hC ?_
 exact Vc.nil (Xah kR)
def Yg0 (r : (List Int)) : AV := .own 16
def Ygz (r : (List Int)) : Xax := [(16, .ints .i64 r)]
theorem Xh4 {p0 p1 p2 r} (h : Xe9 p0 p1 p2 = some r) : AC Tryz.prog 156 [.agg [.sv (.int .i64 p0.Wide), .sv (.int .i64 p0.High), .sv (.str p0.Dots)], .sv (.int .i64 p1), .sv (.int .i64 p2)] [] (Yg0 r) (Ygz r) := by
 refine Xaf hT Tryz.func156 rfl fun C hC => ?_
 unfold Xe9 at h
 refine Xab ?_
 iterate 2 refine kO hT hC ?_
 refine kN ?_
 iterate 2 refine kO hT hC ?_
 refine Vc.nil (Xam ?_)
 refine kL [1,2,3,7] [48,144] [_,_,_,_] [_,_] ?_
 refine kA h (fun v1 => ([(22, .sv (.bool v1))], [])) (fun v1 h => ?_) fun v1 h => ?_
 refine Xac ?_
 refine kO hT hC ?_
 refine kC hC [] Tryz.call77 h (fun _ => Xdx) fun q2 h => ?_
 iterate 2 refine kO hT hC ?_
 refine kS h ?_ ?_ <;> intro b1 h
 refine kI hT hC (kn b1) ?_
 refine kE hC (kn b1) [] Tryz.call149 h (fun _ => Xal) fun q3 h => ?_
 refine kI hT hC (kn b1) ?_
 refine kP hC false (kn b1) ?_
 refine kO hT hC ?_
 refine kS h ?_ ?_ <;> intro b2 h
 refine kI hT hC (kn b2) ?_
 refine kE hC (kn b2) [] Tryz.call149 h (fun _ => Xal) fun q4 h => ?_
 refine kI hT hC (kn b2) ?_
 refine kP hC false (kn b2) ?_
 exact Vc.nil kM
 iterate 3 refine kF hC (kn b2) ?_
 refine kP hC true (kn b2) ?_
 exact Vc.nil kM
 iterate 3 refine kF hC (kn b1) ?_
 refine kP hC true (kn b1) ?_
 refine kO hT hC ?_
 iterate 3 refine kF hC rfl ?_
 refine kO hT hC ?_
 exact Vc.nil kM
 refine kS h ?_ ?_ <;> intro b3 h
 refine kt b3 (Xab ?_)
 iterate 2 refine kO hT hC ?_
 refine Vc.nil (Xah (Xaq ?_))
 obtain rfl := kj h
 exact Xby (τ := ⟨[(6, .own 16)], [(16, some (.ints .i64 ([] : List Int)))]⟩) (kW hC [(16, 144)]) rfl ⟨rfl, trivial⟩
 refine kf b3 (Xag (Xae (Xam (Xab ?_))))
 refine kO hT hC ?_
 refine Vc.nil ?_
 refine kL [1,2,3,7,8] [48,144] [_,_,_,_,_] [_,_] ?_
 refine kX h (fun v7 => ([(8, .sv (.int .i64 v7.1))], [(144, some (.ints .i64 v7.2))])) (fun v10 => ([(1, .any), (2, .any), (3, .any), (8, .any)], [(144, some (.ints .i64 v10)), (48, none)])) (kW hC []) (fun v7 s h => ?_) fun v10 h => ?_
 unfold Xh6 at h
 refine Xam (Xab ?_)
 iterate 2 refine kO hT hC ?_
 refine Vc.nil ?_
 refine kS h ?_ ?_ <;> intro b6 h
 refine kt b6 (Xag (Xae (Xam (Xak (Xac ?_)))))
 iterate 4 refine kO hT hC ?_
 refine kQ hT hC h fun h => ?_
 iterate 3 refine kO hT hC ?_
 refine kQ hT hC h fun h => ?_
 refine kO hT hC ?_
 refine kC hC [] Tryz.call122 h (fun _ => Xox) fun q11 h => ?_
 refine kO hT hC ?_
 refine kT hT hC h fun h => ?_
 refine kO hT hC ?_
 refine Vc.nil (Xap (Xae (Xac ?_)))
 iterate 3 refine kO hT hC ?_
 refine Vc.nil ?_
 obtain rfl := kj h
 exact Yd2 (kW hC [(144, 640)])
 exact kf b6 (Xan (Xat ku))
 refine Xae (Xab ?_)
 iterate 2 refine kO hT hC ?_
 refine Vc.nil (Xah ?_)
 obtain rfl := kj h
 exact Xby (τ := ⟨[(6, .own 16)], [(16, some (.ints .i64 v10))]⟩) (kW hC [(16, 144)]) rfl ⟨rfl, trivial⟩
def Yce (r : Bool) : AV := .sv (.bool r)
def Ycd (r : Bool) : Xax := []
theorem Xsl {p0 p1 p2 p3 p4 r} (h : Xhi p0 p1 p2 p3 p4 = some r) : AC Tryz.prog 251 [.agg [.sv (.int .i64 p0.Wide), .sv (.int .i64 p0.High), .sv (.str p0.Dots)], .sv (.int .i64 p1), .sv (.int .i64 p2), .sv (.int .i64 p3), .sv (.int .i64 p4)] [] (Yce r) (Ycd r) := by
 refine Xaf hT Tryz.func251 rfl fun C hC => ?_
 unfold Xhi at h
 refine Xab ?_
 iterate 2 refine kO hT hC ?_
 refine Vc.nil ?_
 refine kL [1,2,3,4,5,10] [80] [_,_,_,_,_,_] [_] ?_
 refine kA h (fun v1 => ([(10, .sv (.bool v1)), (1, .any), (2, .any), (3, .any), (4, .any), (5, .any)], [(80, none)])) (fun v1 h => ?_) fun v1 h => ?_
 refine Xac ?_
 refine kO hT hC ?_
 refine kC hC [] Tryz.call77 h (fun _ => Xdx) fun q2 h => ?_
 refine kO hT hC ?_
 refine kS h ?_ ?_ <;> intro b1 h
 iterate 3 refine kI hT hC b1 ?_
 refine kE hC b1 [] Tryz.call149 h (fun _ => Xal) fun q3 h => ?_
 refine kP hC true b1 ?_
 refine kO hT hC ?_
 refine kS h ?_ ?_ <;> intro b2 h
 iterate 3 refine kI hT hC b2 ?_
 refine kE hC b2 [] Tryz.call149 h (fun _ => Xal) fun q4 h => ?_
 refine kP hC true b2 ?_
 refine kO hT hC ?_
 refine kS h ?_ ?_ <;> intro b3 h
 iterate 5 refine kI hT hC b3 ?_
 refine kE hC b3 [] Tryz.call149 h (fun _ => Xal) fun q5 h => ?_
 refine kP hC true b3 ?_
 refine kO hT hC ?_
 refine kS h ?_ ?_ <;> intro b4 h
 iterate 5 refine kI hT hC b4 ?_
 refine kE hC b4 [] Tryz.call149 h (fun _ => Xal) fun q6 h => ?_
 refine kP hC true b4 ?_
 refine kO hT hC ?_
 exact Vc.nil kM
 iterate 6 refine kF hC b4 ?_
 refine kP hC false b4 ?_
 refine kO hT hC ?_
 exact Vc.nil kM
 iterate 6 refine kF hC b3 ?_
 refine kP hC false b3 ?_
 refine kO hT hC ?_
 iterate 6 refine kF hC rfl ?_
 iterate 2 refine kO hT hC ?_
 exact Vc.nil kM
 iterate 4 refine kF hC b2 ?_
 refine kP hC false b2 ?_
 refine kO hT hC ?_
 iterate 6 refine kF hC rfl ?_
 iterate 2 refine kO hT hC ?_
 iterate 6 refine kF hC rfl ?_
 iterate 2 refine kO hT hC ?_
 exact Vc.nil kM
 iterate 4 refine kF hC b1 ?_
 refine kP hC false b1 ?_
 refine kO hT hC ?_
 iterate 4 refine kF hC rfl ?_
 iterate 2 refine kO hT hC ?_
 iterate 6 refine kF hC rfl ?_
 iterate 2 refine kO hT hC ?_
 iterate 6 refine kF hC rfl ?_
 iterate 2 refine kO hT hC ?_
 exact Vc.nil kM
 exact Xah kR
def Yif (r : Bool) : AV := .sv (.bool r)
def Yie (r : Bool) : Xax := []
theorem Xl9 {p0 p1 p2 r} (h : Xgl p0 p1 p2 = some r) : AC Tryz.prog 219 [.agg [.sv (.int .i64 p0.Wide), .sv (.int .i64 p0.High), .sv (.str p0.Dots)], .sv (.int .i64 p1), .sv (.int .i64 p2)] [] (Yif r) (Yie r) := by
 refine Xaf hT Tryz.func219 rfl fun C hC => ?_
 unfold Xgl at h
 refine Xab ?_
 iterate 2 refine kO hT hC ?_
 refine Vc.nil ?_
 refine kL [1,2,3,6] [48] [_,_,_,_] [_] ?_
 refine kA h (fun v1 => ([(6, .sv (.bool v1)), (1, .any), (2, .any), (3, .any)], [(48, none)])) (fun v1 h => ?_) fun v1 h => ?_
 refine Xac ?_
 refine kO hT hC ?_
 refine kQ hT hC h fun h => ?_
 iterate 2 refine kO hT hC ?_
 refine kS h ?_ ?_ <;> intro b1 h
 refine kI hT hC b1 ?_
 refine kJ hT hC b1 h fun h => ?_
 refine kI hT hC b1 ?_
 refine kP hC true b1 ?_
 refine kO hT hC ?_
 refine kS h ?_ ?_ <;> intro b2 h
 iterate 3 refine kI hT hC b2 ?_
 refine kE hC b2 [] Tryz.call251 h (fun _ => Xsl) fun q2 h => ?_
 refine kP hC true b2 ?_
 refine kO hT hC ?_
 exact Vc.nil kM
 iterate 4 refine kF hC b2 ?_
 refine kP hC false b2 ?_
 refine kO hT hC ?_
 exact Vc.nil kM
 iterate 3 refine kF hC b1 ?_
 refine kP hC false b1 ?_
 refine kO hT hC ?_
 iterate 4 refine kF hC rfl ?_
 iterate 2 refine kO hT hC ?_
 exact Vc.nil kM
 exact Xah kR
def Xt4 (r : Bool) : AV := .sv (.bool r)
def Xt3 (r : Bool) : Xax := []
theorem Xl8 {p0 r} (h : Xd3 p0 = some r) : AC Tryz.prog 220 [.sv (.ints .i64 p0)] [] (Xt4 r) (Xt3 r) := by
 refine Xaf hT Tryz.func220 rfl fun C hC => ?_
 unfold Xd3 at h
 refine Xab ?_
 refine kO hT hC ?_
 refine Vc.nil (Xam (Xab ?_))
 iterate 3 refine kO hT hC ?_
 refine Vc.nil ?_
 refine kS h ?_ ?_ <;> intro b1 h
 refine kt b1 (Xab ?_)
 refine kO hT hC ?_
 exact Vc.nil (Xah (Xaq kR))
 refine kf b1 (Xag (Xae (Xam (Xab ?_))))
 refine kO hT hC ?_
 refine Vc.nil ?_
 refine kL [0,3] [] [_,_] [] ?_
 obtain ⟨o8, hl, h⟩ := Xa3 h
 refine Xf9 (fun v3 => ([(3, .sv (.int .i64 v3))], [])) (fun v6 => ([(0, .any), (3, .any)], [])) (fun r => Xqe C T Tryz.f220.results.toList (Xt4 r) (Xt3 r)) hl ?_ ?_ ?_ ?_
 apply Xdo hC []
 exact co
 rfl
 decide
 rfl
 intro v3 s hs
 have h := hs
 unfold Xdl at h
 refine Xam (Xab ?_)
 iterate 2 refine kO hT hC ?_
 refine Vc.nil ?_
 refine kS h ?_ ?_ <;> intro b6 h
 refine kt b6 (Xag (Xae (Xam (Xak (Xab ?_)))))
 iterate 2 refine kO hT hC ?_
 refine kQ hT hC h fun h => ?_
 refine kO hT hC ?_
 refine kC hC [] Tryz.call149 h (fun _ => Xal) fun q7 h => ?_
 refine kO hT hC ?_
 refine Vc.nil ?_
 refine kS h ?_ ?_ <;> intro b7 h
 refine kt b7 (Xab ?_)
 refine kO hT hC ?_
 refine Vc.nil (Xah (Xer (Xaq ?_)))
 obtain rfl := kj h
 refine Xrb (Xra ?_)
 exact Xby (Xmd.refl _) rfl trivial
 refine kf b7 (Xag (Xap (Xae (Xac ?_))))
 iterate 3 refine kO hT hC ?_
 exact Vc.nil kG
 exact kf b6 (Xan (Xat kb))
 intro v6 e
 subst e
 refine Xae (Xab ?_)
 refine kO hT hC ?_
 exact Vc.nil (Xah kR)
 intro r' σ' e hE
 subst e
 obtain rfl := kj h
 refine Xaq ?_
 exact hE
def Yij (r : (List Int)) : AV := .own 16
def Yii (r : (List Int)) : Xax := [(16, .ints .i64 r)]
theorem Xqa {p0 p1 r} (h : Xik p0 p1 = some r) : AC Tryz.prog 253 [.sv (.ints .i64 p0), .sv (.ints .i64 p1)] [] (Yij r) (Yii r) := by
 refine Xaf hT Tryz.func253 rfl fun C hC => ?_
 unfold Xik at h
 refine Xab ?_
 refine kO hT hC ?_
 refine kN ?_
 iterate 2 refine kO hT hC ?_
 refine Vc.nil (Xam (Xab ?_))
 refine kO hT hC ?_
 refine Vc.nil ?_
 refine kL [0,1,5,6] [112] [_,_,_,_] [_] ?_
 refine kX h (fun v2 => ([(6, .sv (.int .i64 v2.1))], [(112, some (.ints .i64 v2.2))])) (fun v4 => ([(0, .any), (1, .any), (6, .any)], [(112, some (.ints .i64 v4))])) (kW hC []) (fun v2 s h => ?_) fun v4 h => ?_
 unfold Xmb at h
 refine Xam (Xab ?_)
 iterate 2 refine kO hT hC ?_
 refine Vc.nil ?_
 refine kS h ?_ ?_ <;> intro b3 h
 refine kt b3 (Xag (Xae (Xam (Xak ?_))))
 refine Xb4 hm ?_
 iterate 3 refine kO hT hC ?_
 refine kQ hT hC h fun h => ?_
 iterate 3 refine kO hT hC ?_
 refine kQ hT hC h fun h => ?_
 iterate 3 refine kO hT hC ?_
 refine kT hT hC h fun h => ?_
 refine kO hT hC ?_
 refine kD (Xap (Xae (Xac ?_)))
 iterate 3 refine kO hT hC ?_
 refine Vc.nil ?_
 obtain rfl := kj h
 exact Yd2 (kW hC [(112, 368)])
 exact kf b3 (Xan (Xat ku))
 refine Xae (Xab ?_)
 iterate 2 refine kO hT hC ?_
 refine Vc.nil (Xah ?_)
 obtain rfl := kj h
 exact Xby (τ := ⟨[(4, .own 16)], [(16, some (.ints .i64 v4))]⟩) (kW hC [(16, 112)]) rfl ⟨rfl, trivial⟩
def Xt9 (r : Bool) : AV := .sv (.bool r)
def Xt8 (r : Bool) : Xax := []
theorem Xvz {p0 r} (h : Xk7 p0 = some r) : AC Tryz.prog 252 [.sv (.ints .i64 p0)] [] (Xt9 r) (Xt8 r) := by
 refine Xaf hT Tryz.func252 rfl fun C hC => ?_
 unfold Xk7 at h
 refine Xab ?_
 refine kO hT hC ?_
 refine Vc.nil (Xam (Xab ?_))
 refine kO hT hC ?_
 refine Vc.nil ?_
 refine kL [0,3] [] [_,_] [] ?_
 obtain ⟨o5, hl, h⟩ := Xa3 h
 refine Xf9 (fun v2 => ([(3, .sv (.int .i64 v2))], [])) (fun v4 => ([(0, .any), (3, .any)], [])) (fun r => Xqe C T Tryz.f252.results.toList (Xt9 r) (Xt8 r)) hl ?_ ?_ ?_ ?_
 apply Xdo hC []
 exact co
 rfl
 decide
 rfl
 intro v2 s hs
 have h := hs
 unfold Xil at h
 refine Xam (Xab ?_)
 iterate 4 refine kO hT hC ?_
 refine Vc.nil ?_
 refine kS h ?_ ?_ <;> intro b5 h
 refine kt b5 (Xag (Xae (Xam (Xak (Xab ?_)))))
 iterate 2 refine kO hT hC ?_
 refine kQ hT hC h fun h => ?_
 iterate 2 refine kO hT hC ?_
 refine Vc.nil ?_
 refine kS h ?_ ?_ <;> intro b6 h
 refine kt b6 (Xab ?_)
 refine kO hT hC ?_
 refine Vc.nil (Xah (Xer (Xaq ?_)))
 obtain rfl := kj h
 refine Xrb (Xra ?_)
 exact Xby (Xmd.refl _) rfl trivial
 refine kf b6 (Xag (Xap (Xae (Xac ?_))))
 iterate 3 refine kO hT hC ?_
 exact Vc.nil kG
 exact kf b5 (Xan (Xat kb))
 intro v4 e
 subst e
 refine Xae (Xab ?_)
 refine kO hT hC ?_
 exact Vc.nil (Xah kR)
 intro r' σ' e hE
 subst e
 obtain rfl := kj h
 refine Xaq ?_
 exact hE
def Yg4 (r : (Xim × Bool)) : AV := .tup [.agg [.own 16, .own 17, .sv (.int .i64 r.1.Corner)], .sv (.bool r.2)]
def Yg3 (r : (Xim × Bool)) : Xax := [(16, .ints .i64 r.1.Above), (17, .ints .i64 r.1.Left)]
theorem Xu6 {p0 p1 p2 r} (h : Xfa p0 p1 p2 = some r) : AC Tryz.prog 254 [.agg [.sv (.int .i64 p0.Wide), .sv (.int .i64 p0.High), .sv (.str p0.Dots)], .sv (.int .i64 p1), .sv (.int .i64 p2)] [] (Yg4 r) (Yg3 r) := by
 refine Xaf hT Tryz.func254 rfl fun C hC => ?_
 unfold Xfa at h
 refine Xab ?_
 iterate 3 refine kO hT hC ?_
 refine Vc.nil (Xam (Xab ?_))
 iterate 3 refine kO hT hC ?_
 refine kC hC [] Tryz.call219 h (fun _ => Xl9) fun q1 h => ?_
 refine kO hT hC ?_
 refine Vc.nil ?_
 refine kS h ?_ ?_ <;> intro b1 h
 refine kt b1 (Xab ?_)
 iterate 3 refine kO hT hC ?_
 refine Vc.nil (Xah (Xaq ?_))
 obtain rfl := kj h
 refine Xby (τ := ⟨[(6, .ptr 2000000 0), (7, .sv (.bool false))], [(16, some (.ints .i64 [])), (17, some (.ints .i64 [])), (2000000, some (.box [.own 16, .own 17, .sv (.int .i64 0)]))]⟩) ?_ rfl ⟨rfl, rfl, trivial⟩
 refine Xol hC 96 0 1025 (.ints .i64 []) rfl rfl rfl rfl rfl trivial ?_
 refine Xol hC 96 1 1026 (.ints .i64 []) rfl rfl rfl rfl rfl trivial ?_
 apply Xdo hC [(16, 1025), (17, 1026), (2000000, 96)]
 exact co
 rfl
 decide
 rfl
 refine kf b1 (Xag (Xae (Xab ?_)))
 iterate 3 refine kO hT hC ?_
 refine Vc.nil (Xam (Xab ?_))
 refine kO hT hC ?_
 refine Vc.nil ?_
 refine kL [1,2,3,6,8,9] [48,96,128] [_,_,_,_,_,_] [_,_,_] ?_
 obtain ⟨v13, hl, h⟩ := Xa3 h
 refine Zbd (fun v7 => ([(9, .sv (.int .i64 v7.1))], [(128, some (.box [.own 1049, .own 1050, .sv (.int .i64 (-1))])), (1049, some (.ints .i64 v7.2.1)), (1050, some (.ints .i64 v7.2.2))])) (fun v13 => ([(9, .any)], [(128, some (.box [.own 1053, .own 1054, .sv (.int .i64 (-1))])), (1053, some (.ints .i64 v13.1)), (1054, some (.ints .i64 v13.2))])) hl ?_ ?_ ?_
 refine Xol hC 128 0 1055 (.ints .i64 []) rfl rfl rfl rfl rfl trivial ?_
 refine Xol hC 128 1 1056 (.ints .i64 []) rfl rfl rfl rfl rfl trivial ?_
 try dsimp only
 apply Xdo hC [(1049, 1055), (1050, 1056)]
 exact co
 rfl
 decide
 rfl
 intro v7 s hs
 have h := hs
 unfold Xei at h
 refine Xam (Xab ?_)
 iterate 2 refine kO hT hC ?_
 refine Vc.nil ?_
 refine kS h ?_ ?_ <;> intro b8 h
 refine kt b8 (Xag (Xae ?_))
 refine kL [1,2,3,6,8,9] [48,96,128,1049,1050] [_,_,_,_,_,_] [_,_,_,_,_] ?_
 refine kA h (fun v14 => ([], [(1049, some (.ints .i64 v14.1)), (1050, some (.ints .i64 v14.2))])) (fun v14 h => ?_) fun v14 h => ?_
 refine Xak ?_
 refine kL [1,2,3,6,8,9] [48,96,128,1049,1050] [_,_,_,_,_,_] [_,_,_,_,_] ?_
 refine kA h (fun v15 => ([], [(1049, some (.ints .i64 v15))])) (fun v15 h => ?_) fun v15 h => ?_
 refine Xab ?_
 iterate 2 refine kO hT hC ?_
 refine Vc.nil ?_
 refine kS h ?_ ?_ <;> intro b9 h
 refine kt b9 ?_
 refine Xb4 hm ?_
 iterate 8 refine kO hT hC ?_
 refine kC hC [] Tryz.call122 h (fun _ => Xox) fun q16 h => ?_
 refine kO hT hC ?_
 refine kT hT hC h fun h => ?_
 iterate 2 refine kO hT hC ?_
 refine kD ?_
 obtain rfl := kj h
 exact Xhz (kW hC [(1049, 528)])
 exact kf b9 (Xag kM)
 refine Xab ?_
 iterate 2 refine kO hT hC ?_
 refine Vc.nil ?_
 refine kS h ?_ ?_ <;> intro b10 h
 refine kt b10 ?_
 refine Xb4 hm ?_
 iterate 8 refine kO hT hC ?_
 refine kC hC [] Tryz.call122 h (fun _ => Xox) fun q17 h => ?_
 refine kO hT hC ?_
 refine kT hT hC h fun h => ?_
 iterate 2 refine kO hT hC ?_
 refine kD (Xap ?_)
 obtain rfl := kj h
 exact Xhz (kW hC [(1050, 752)])
 exact kf b10 (Xag (Xap kM))
 refine Xac ?_
 iterate 3 refine kO hT hC ?_
 exact Vc.nil kG
 refine kf b8 (Xan (Xat ?_))
 obtain rfl := kj h
 exact Yyc (Zer (kW hC [(1053, 1049), (1054, 1050)]))
 refine Xae ?_
 refine kL [1,2,3,6,8] [48,96,128,1053,1054] [_,_,_,_,_] [_,_,_,_,_] ?_
 refine kA h (fun v19 => ([(1, .any), (2, .any), (3, .any)], [(128, some (.box [.own 1053, .own 1054, .sv (.int .i64 v19)])), (48, none)])) (fun v19 h => ?_) fun v19 h => ?_
 refine kL [1,2,3,6,8] [48,96,128,1053,1054] [_,_,_,_,_] [_,_,_,_,_] ?_
 refine kA h (fun v20 => ([(54, .sv (.bool v20))], [])) (fun v20 h => ?_) fun v20 h => ?_
 refine Xac ?_
 iterate 3 refine kO hT hC ?_
 refine kS h ?_ ?_ <;> intro b11 h
 iterate 2 refine kI hT hC b11 ?_
 refine kP hC true b11 ?_
 exact Vc.nil kM
 iterate 2 refine kF hC b11 ?_
 refine kP hC false b11 ?_
 exact Vc.nil kM
 refine kS h ?_ ?_ <;> intro b12 h
 refine kt b12 (Xac ?_)
 iterate 5 refine kO hT hC ?_
 refine kC hC [] Tryz.call122 h (fun _ => Xox) fun q21 h => ?_
 iterate 2 refine kO hT hC ?_
 exact Vc.nil kM
 exact kf b12 (Xag kM)
 refine Xab ?_
 iterate 3 refine kO hT hC ?_
 refine Vc.nil (Xah ?_)
 obtain rfl := kj h
 exact Xby (τ := ⟨[(6, .ptr 2000000 0), (7, .sv (.bool true))], [(16, some (.ints .i64 v13.1)), (17, some (.ints .i64 v13.2)), (2000000, some (.box [.own 16, .own 17, .sv (.int .i64 v19)]))]⟩) (kW hC [(16, 1053), (17, 1054), (2000000, 96)]) rfl ⟨rfl, rfl, trivial⟩
def Xt6 (r : Bool) : AV := .sv (.bool r)
def Xt5 (r : Bool) : Xax := []
theorem Xvu {p0 r} (h : Xk5 p0 = some r) : AC Tryz.prog 304 [.sv (.ints .i64 p0)] [] (Xt6 r) (Xt5 r) := by
 refine Xaf hT Tryz.func304 rfl fun C hC => ?_
 unfold Xk5 at h
 refine Xab ?_
 refine kO hT hC ?_
 refine Vc.nil (Xam ?_)
 refine kL [0] [] [_] [] ?_
 refine kA h (fun v1 => ([(11, .sv (.bool v1))], [])) (fun v1 h => ?_) fun v1 h => ?_
 refine Xac ?_
 iterate 4 refine kO hT hC ?_
 refine kS h ?_ ?_ <;> intro b1 h
 iterate 3 refine kI hT hC b1 ?_
 refine kP hC true b1 ?_
 exact Vc.nil kM
 iterate 3 refine kF hC b1 ?_
 refine kP hC false b1 ?_
 exact Vc.nil kM
 refine kS h ?_ ?_ <;> intro b2 h
 refine kt b2 (Xab ?_)
 refine kO hT hC ?_
 exact Vc.nil (Xah (Xaq kR))
 refine kf b2 (Xag (Xae (Xam (Xab ?_))))
 refine kO hT hC ?_
 refine Vc.nil ?_
 refine kL [0,3] [] [_,_] [] ?_
 obtain ⟨o9, hl, h⟩ := Xa3 h
 refine Xf9 (fun v4 => ([(3, .sv (.int .i64 v4))], [])) (fun v7 => ([(0, .any), (3, .any)], [])) (fun r => Xqe C T Tryz.f304.results.toList (Xt6 r) (Xt5 r)) hl ?_ ?_ ?_ ?_
 apply Xdo hC []
 exact co
 rfl
 decide
 rfl
 intro v4 s hs
 have h := hs
 unfold Xij at h
 refine Xam (Xab ?_)
 iterate 4 refine kO hT hC ?_
 refine Vc.nil ?_
 refine kS h ?_ ?_ <;> intro b7 h
 refine kt b7 (Xag (Xae (Xam (Xak (Xab ?_)))))
 iterate 2 refine kO hT hC ?_
 refine kQ hT hC h fun h => ?_
 refine kO hT hC ?_
 refine kC hC [] Tryz.call149 h (fun _ => Xal) fun q8 h => ?_
 refine kO hT hC ?_
 refine Vc.nil ?_
 refine kS h ?_ ?_ <;> intro b8 h
 refine kt b8 (Xab ?_)
 refine kO hT hC ?_
 refine Vc.nil (Xah (Xer (Xaq ?_)))
 obtain rfl := kj h
 refine Xrb (Xra ?_)
 exact Xby (Xmd.refl _) rfl trivial
 refine kf b8 (Xag (Xap (Xae (Xac ?_))))
 iterate 3 refine kO hT hC ?_
 exact Vc.nil kG
 exact kf b7 (Xan (Xat kb))
 intro v7 e
 subst e
 refine Xae (Xab ?_)
 refine kO hT hC ?_
 exact Vc.nil (Xah kR)
 intro r' σ' e hE
 subst e
 obtain rfl := kj h
 refine Xaq ?_
 exact hE
def Yg6 (r : Bool) : AV := .sv (.bool r)
def Yg5 (r : Bool) : Xax := []
theorem Xu8 {p0 r} (h : Xkz p0 = some r) : AC Tryz.prog 278 [.agg [.sv (.ints .i64 p0.Above), .sv (.ints .i64 p0.Left), .sv (.int .i64 p0.Corner)]] [] (Yg6 r) (Yg5 r) := by
 refine Xaf hT Tryz.func278 rfl fun C hC => ?_
 unfold Xkz at h
 refine Xab ?_
 iterate 2 refine kO hT hC ?_
 refine Vc.nil ?_
 refine kL [1,2] [16] [_,_] [_] ?_
 refine kA h (fun v1 => ([(2, .sv (.bool v1)), (1, .any)], [(16, none)])) (fun v1 h => ?_) fun v1 h => ?_
 refine Xac ?_
 iterate 2 refine kO hT hC ?_
 refine kC hC [] Tryz.call304 h (fun _ => Xvu) fun q2 h => ?_
 refine kO hT hC ?_
 refine kS h ?_ ?_ <;> intro b1 h
 iterate 2 refine kI hT hC b1 ?_
 refine kE hC b1 [] Tryz.call304 h (fun _ => Xvu) fun q3 h => ?_
 refine kP hC true b1 ?_
 refine kO hT hC ?_
 refine kS h ?_ ?_ <;> intro b2 h
 iterate 2 refine kI hT hC b2 ?_
 refine kE hC b2 [] Tryz.call149 h (fun _ => Xal) fun q4 h => ?_
 refine kP hC true b2 ?_
 refine kO hT hC ?_
 exact Vc.nil kM
 iterate 3 refine kF hC b2 ?_
 refine kP hC false b2 ?_
 refine kO hT hC ?_
 exact Vc.nil kM
 iterate 3 refine kF hC b1 ?_
 refine kP hC false b1 ?_
 refine kO hT hC ?_
 iterate 3 refine kF hC rfl ?_
 iterate 2 refine kO hT hC ?_
 exact Vc.nil kM
 exact Xah kR
def Ycg (r : Int) : AV := .sv (.int .i64 r)
def Ycf (r : Int) : Xax := []
theorem Xsm {p0 p1 r} (h : Xc8 p0 p1 = some r) : AC Tryz.prog 289 [.sv (.ints .i64 p0), .sv (.int .i64 p1)] [] (Ycg r) (Ycf r) := by
 refine Xaf hT Tryz.func289 rfl fun C hC => ?_
 unfold Xc8 at h
 refine Xab ?_
 refine kO hT hC ?_
 refine Vc.nil (Xam (Xab ?_))
 iterate 3 refine kO hT hC ?_
 refine Vc.nil ?_
 refine kS h ?_ ?_ <;> intro b1 h
 refine kt b1 (Xab ?_)
 refine kO hT hC ?_
 exact Vc.nil (Xah (Xaq kR))
 refine kf b1 (Xag (Xae (Xab ?_)))
 iterate 2 refine kO hT hC ?_
 refine kQ hT hC h fun h => ?_
 iterate 2 refine kO hT hC ?_
 exact Vc.nil (Xah kR)
def Ym6 (r : Int) : AV := .sv (.int .i64 r)
def Ym5 (r : Int) : Xax := []
theorem Yql {p0 r} (h : Xkl p0 = some r) : AC Tryz.prog 290 [.agg [.sv (.ints .i64 p0.Above), .sv (.ints .i64 p0.Left), .sv (.int .i64 p0.Corner)]] [] (Ym6 r) (Ym5 r) := by
 refine Xaf hT Tryz.func290 rfl fun C hC => ?_
 unfold Xkl at h
 refine Xab ?_
 iterate 2 refine kO hT hC ?_
 refine kN ?_
 iterate 8 refine kO hT hC ?_
 refine Vc.nil (Xam (Xab ?_))
 iterate 2 refine kO hT hC ?_
 refine Vc.nil ?_
 refine kS h ?_ ?_ <;> intro b1 h
 refine kt b1 (Xab ?_)
 refine kO hT hC ?_
 exact Vc.nil (Xah (Xaq kR))
 refine kf b1 (Xag (Xae (Xab ?_)))
 refine kO hT hC ?_
 refine kQ hT hC h fun h => ?_
 refine kO hT hC ?_
 refine Vc.nil (Xam (Xab ?_))
 refine kO hT hC ?_
 refine Vc.nil ?_
 refine kL [1,3,4,5] [16] [_,_,_,_] [_] ?_
 refine kX h (fun v2 => ([(4, .sv (.int .i64 v2.1)), (5, .sv (.int .i64 v2.2))], [])) (fun v4 => ([(4, .sv (.int .i64 v4)), (5, .any)], [])) (kW hC []) (fun v2 s h => ?_) fun v4 h => ?_
 unfold Xhj at h
 refine Xam (Xab ?_)
 iterate 5 refine kO hT hC ?_
 refine Vc.nil ?_
 refine kS h ?_ ?_ <;> intro b4 h
 refine kt b4 (Xag (Xae (Xam (Xak (Xac ?_)))))
 iterate 4 refine kO hT hC ?_
 refine kQ hT hC h fun h => ?_
 iterate 3 refine kO hT hC ?_
 refine Vc.nil (Xap (Xae (Xac ?_)))
 iterate 3 refine kO hT hC ?_
 exact Vc.nil kG
 exact kf b4 (Xan (Xat ku))
 refine Xae (Xam (Xab ?_))
 refine kO hT hC ?_
 refine Vc.nil ?_
 refine kL [1,3,4,6] [16] [_,_,_,_] [_] ?_
 refine kX h (fun v7 => ([(4, .sv (.int .i64 v7.1)), (6, .sv (.int .i64 v7.2))], [])) (fun v9 => ([(4, .sv (.int .i64 v9)), (1, .any), (6, .any)], [(16, none)])) (kW hC []) (fun v7 s h => ?_) fun v9 h => ?_
 unfold Xhk at h
 refine Xam (Xab ?_)
 iterate 5 refine kO hT hC ?_
 refine Vc.nil ?_
 refine kS h ?_ ?_ <;> intro b7 h
 refine kt b7 (Xag (Xae (Xam (Xak (Xac ?_)))))
 iterate 4 refine kO hT hC ?_
 refine kQ hT hC h fun h => ?_
 iterate 3 refine kO hT hC ?_
 refine Vc.nil (Xap (Xae (Xac ?_)))
 iterate 3 refine kO hT hC ?_
 exact Vc.nil kG
 exact kf b7 (Xan (Xat ku))
 refine Xae (Xab ?_)
 iterate 2 refine kO hT hC ?_
 refine kQ hT hC h fun h => ?_
 refine kO hT hC ?_
 exact Vc.nil (Xah kR)
def Yg9 (r : (List Int)) : AV := .own 16
def Yg8 (r : (List Int)) : Xax := [(16, .ints .i64 r)]
theorem Xpv {p0 p1 r} (h : Xde p0 p1 = some r) : AC Tryz.prog 258 [.sv (.int .i64 p0), .agg [.sv (.ints .i64 p1.Above), .sv (.ints .i64 p1.Left), .sv (.int .i64 p1.Corner)]] [] (Yg9 r) (Yg8 r) := by
 refine Xaf hT Tryz.func258 rfl fun C hC => ?_
 unfold Xde at h
 refine Xab ?_
 iterate 2 refine kO hT hC ?_
 refine kN ?_
 iterate 2 refine kO hT hC ?_
 refine Vc.nil (Xam ?_)
 refine kL [0,3,5] [48,160] [_,_,_] [_,_] ?_
 refine kA h (fun v1 => ([(18, .sv (.bool v1))], [])) (fun v1 h => ?_) fun v1 h => ?_
 refine Xac ?_
 refine kO hT hC ?_
 refine kC hC [] Tryz.call278 h (fun _ => Xu8) fun q2 h => ?_
 iterate 2 refine kO hT hC ?_
 refine kS h ?_ ?_ <;> intro b1 h
 refine kI hT hC (kn b1) ?_
 refine kE hC (kn b1) [] Tryz.call149 h (fun _ => Xal) fun q3 h => ?_
 refine kI hT hC (kn b1) ?_
 refine kP hC false (kn b1) ?_
 exact Vc.nil kM
 iterate 3 refine kF hC (kn b1) ?_
 refine kP hC true (kn b1) ?_
 exact Vc.nil kM
 refine kS h ?_ ?_ <;> intro b2 h
 refine kt b2 (Xab ?_)
 iterate 2 refine kO hT hC ?_
 refine Vc.nil (Xah (Xaq ?_))
 obtain rfl := kj h
 exact Xby (τ := ⟨[(4, .own 16)], [(16, some (.ints .i64 ([] : List Int)))]⟩) (kW hC [(16, 160)]) rfl ⟨rfl, trivial⟩
 refine kf b2 (Xag (Xae (Xab ?_)))
 iterate 3 refine kO hT hC ?_
 refine Vc.nil ?_
 refine kL [0,3,5,6] [48,160] [_,_,_,_] [_,_] ?_
 refine kA h (fun v4 => ([(6, .sv (.int .i64 v4))], [])) (fun v4 h => ?_) fun v4 h => ?_
 refine Xab ?_
 iterate 2 refine kO hT hC ?_
 refine Vc.nil ?_
 refine kS h ?_ ?_ <;> intro b3 h
 refine kt b3 (Xac ?_)
 refine kO hT hC ?_
 exact Vc.nil kM
 exact kf b3 (Xag kM)
 refine Xam (Xab ?_)
 refine kO hT hC ?_
 refine Vc.nil ?_
 refine kL [0,3,5,6,7] [48,160] [_,_,_,_,_] [_,_] ?_
 refine kX h (fun v11 => ([(7, .sv (.int .i64 v11.1))], [(160, some (.ints .i64 v11.2))])) (fun v18 => ([(0, .any), (3, .any), (6, .any), (7, .any)], [(160, some (.ints .i64 v18)), (48, none)])) (kW hC []) (fun v11 s h => ?_) fun v18 h => ?_
 unfold Xdf at h
 refine Xam (Xab ?_)
 iterate 2 refine kO hT hC ?_
 refine Vc.nil ?_
 refine kS h ?_ ?_ <;> intro b12 h
 refine kt b12 (Xag (Xae ?_))
 refine kL [0,3,5,6,7] [48,160] [_,_,_,_,_] [_,_] ?_
 refine kA h (fun v19 => ([(5, .own 1110)], [(1110, some (.ints .i64 v19)), (160, none)])) (fun v19 h => ?_) fun v19 h => ?_
 refine Xak (Xab ?_)
 iterate 3 refine kO hT hC ?_
 refine kQ hT hC h fun h => ?_
 refine kC hC [] Tryz.call289 h (fun _ => Xsm) fun q20 h => ?_
 refine kO hT hC ?_
 refine kN ?_
 iterate 3 refine kO hT hC ?_
 refine kQ hT hC h fun h => ?_
 refine kC hC [] Tryz.call289 h (fun _ => Xsm) fun q21 h => ?_
 refine kO hT hC ?_
 refine kN ?_
 refine kO hT hC ?_
 refine Vc.nil (Xak (Xab ?_))
 iterate 2 refine kO hT hC ?_
 refine Vc.nil ?_
 refine kS h ?_ ?_ <;> intro b13 h
 refine kt b13 (Xac ?_)
 iterate 2 refine kO hT hC ?_
 refine kC hC [] Tryz.call290 h (fun _ => Yql) fun q22 h => ?_
 refine kO hT hC ?_
 refine kT hT hC h fun h => ?_
 refine kO hT hC ?_
 refine Vc.nil ?_
 iterate 2 refine Xap ?_
 obtain rfl := kj h
 exact Xhz (kW hC [(1110, 864)])
 refine kf b13 (Xab ?_)
 iterate 2 refine kO hT hC ?_
 refine Vc.nil ?_
 refine kS h ?_ ?_ <;> intro b14 h
 refine kt b14 (Xac ?_)
 iterate 3 refine kO hT hC ?_
 refine kT hT hC h fun h => ?_
 refine kO hT hC ?_
 refine Vc.nil ?_
 iterate 2 refine Xap ?_
 obtain rfl := kj h
 exact Xhz (kW hC [(1110, 960)])
 refine kf b14 (Xab ?_)
 iterate 2 refine kO hT hC ?_
 refine Vc.nil ?_
 refine kS h ?_ ?_ <;> intro b15 h
 refine kt b15 (Xac ?_)
 iterate 3 refine kO hT hC ?_
 refine kT hT hC h fun h => ?_
 refine kO hT hC ?_
 refine Vc.nil ?_
 iterate 2 refine Xap ?_
 obtain rfl := kj h
 exact Xhz (kW hC [(1110, 1056)])
 refine kf b15 (Xac ?_)
 iterate 6 refine kO hT hC ?_
 refine kC hC [] Tryz.call150 h (fun _ => Xdc) fun q23 h => ?_
 refine kO hT hC ?_
 refine kT hT hC h fun h => ?_
 refine kO hT hC ?_
 refine Vc.nil ?_
 iterate 2 refine Xap ?_
 obtain rfl := kj h
 exact Xhz (kW hC [(1110, 752)])
 refine Xac ?_
 iterate 3 refine kO hT hC ?_
 refine Vc.nil ?_
 obtain rfl := kj h
 exact Yd2 (kW hC [(160, 1110)])
 exact kf b12 (Xan (Xat ku))
 refine Xae (Xab ?_)
 iterate 2 refine kO hT hC ?_
 refine Vc.nil (Xah ?_)
 obtain rfl := kj h
 exact Xby (τ := ⟨[(4, .own 16)], [(16, some (.ints .i64 v18))]⟩) (kW hC [(16, 160)]) rfl ⟨rfl, trivial⟩
def Xvn (r : Bool) : AV := .sv (.bool r)
def Xvm (r : Bool) : Xax := []
theorem Xb1 {p0 p1 p2 r} (h : Xbt p0 p1 p2 = some r) : AC Tryz.prog 282 [.sv (.ints .i64 p0), .sv (.int .i64 p1), .sv (.int .i64 p2)] [] (Xvn r) (Xvm r) := by
 refine Xaf hT Tryz.func282 rfl fun C hC => ?_
 unfold Xbt at h
 refine Xab ?_
 refine kO hT hC ?_
 refine Vc.nil (Xam (Xab ?_))
 iterate 4 refine kO hT hC ?_
 refine Vc.nil ?_
 refine kS h ?_ ?_ <;> intro b1 h
 refine kt b1 (Xab ?_)
 refine kO hT hC ?_
 exact Vc.nil (Xah (Xaq kR))
 refine kf b1 (Xag (Xae (Xam (Xab ?_))))
 refine kO hT hC ?_
 refine Vc.nil ?_
 refine kL [0,1,2,7] [] [_,_,_,_] [] ?_
 obtain ⟨o8, hl, h⟩ := Xa3 h
 refine Xf9 (fun v3 => ([(7, .sv (.int .i64 v3))], [])) (fun v6 => ([(0, .any), (1, .any), (2, .any), (7, .any)], [])) (fun r => Xqe C T Tryz.f282.results.toList (Xvn r) (Xvm r)) hl ?_ ?_ ?_ ?_
 apply Xdo hC []
 exact co
 rfl
 decide
 rfl
 intro v3 s hs
 have h := hs
 unfold Xd0 at h
 refine Xam (Xab ?_)
 iterate 3 refine kO hT hC ?_
 refine Vc.nil ?_
 refine kS h ?_ ?_ <;> intro b6 h
 refine kt b6 (Xag (Xae (Xam (Xak (Xab ?_)))))
 iterate 2 refine kO hT hC ?_
 refine kQ hT hC h fun h => ?_
 iterate 4 refine kO hT hC ?_
 refine kC hC [] Tryz.call149 h (fun _ => Xal) fun q7 h => ?_
 refine kO hT hC ?_
 refine Vc.nil ?_
 refine kS h ?_ ?_ <;> intro b7 h
 refine kt b7 (Xab ?_)
 refine kO hT hC ?_
 refine Vc.nil (Xah (Xer (Xaq ?_)))
 obtain rfl := kj h
 refine Xrb (Xra ?_)
 exact Xby (Xmd.refl _) rfl trivial
 refine kf b7 (Xag (Xap (Xae (Xac ?_))))
 iterate 3 refine kO hT hC ?_
 exact Vc.nil kG
 exact kf b6 (Xan (Xat kb))
 intro v6 e
 subst e
 refine Xae (Xab ?_)
 refine kO hT hC ?_
 exact Vc.nil (Xah kR)
 intro r' σ' e hE
 subst e
 obtain rfl := kj h
 refine Xaq ?_
 exact hE
def Yev (r : Int) : AV := .sv (.int .i64 r)
def Yeu (r : Int) : Xax := []
theorem Xof {p0 r} (h : Xdy p0 = some r) : AC Tryz.prog 305 [.sv (.int .i64 p0)] [] (Yev r) (Yeu r) := by
 refine Xaf hT Tryz.func305 rfl fun C hC => ?_
 unfold Xdy at h
 refine Xab ?_
 refine kO hT hC ?_
 refine Vc.nil (Xam (Xab ?_))
 iterate 2 refine kO hT hC ?_
 refine Vc.nil ?_
 refine kS h ?_ ?_ <;> intro b1 h
 refine kt b1 (Xab ?_)
 iterate 3 refine kO hT hC ?_
 exact Vc.nil (Xah (Xaq kR))
 refine kf b1 (Xag (Xae (Xab ?_)))
 iterate 2 refine kO hT hC ?_
 exact Vc.nil (Xah kR)
def Ypk (r : Int) : AV := .sv (.int .i64 r)
def Ypj (r : Int) : Xax := []
theorem Ybq {p0 p1 r} (h : Xo3 p0 p1 = some r) : AC Tryz.prog 279 [.sv (.ints .i64 p0), .sv (.ints .i64 p1)] [] (Ypk r) (Ypj r) := by
 refine Xaf hT Tryz.func279 rfl fun C hC => ?_
 unfold Xo3 at h
 refine Xab ?_
 refine kO hT hC ?_
 refine Vc.nil (Xam ?_)
 refine kL [0,1] [] [_,_] [] ?_
 refine kA h (fun v1 => ([(14, .sv (.bool v1))], [])) (fun v1 h => ?_) fun v1 h => ?_
 refine Xac ?_
 refine kO hT hC ?_
 refine kC hC [] Tryz.call282 h (fun _ => Xb1) fun q2 h => ?_
 iterate 2 refine kO hT hC ?_
 refine kS h ?_ ?_ <;> intro b1 h
 refine kI hT hC (kn b1) ?_
 refine kE hC (kn b1) [] Tryz.call282 h (fun _ => Xb1) fun q3 h => ?_
 refine kI hT hC (kn b1) ?_
 refine kP hC false (kn b1) ?_
 exact Vc.nil kM
 iterate 3 refine kF hC (kn b1) ?_
 refine kP hC true (kn b1) ?_
 exact Vc.nil kM
 refine kS h ?_ ?_ <;> intro b2 h
 refine kt b2 (Xab ?_)
 refine kO hT hC ?_
 exact Vc.nil (Xah (Xaq kR))
 refine kf b2 (Xag (Xae (Xab ?_)))
 refine kO hT hC ?_
 refine Vc.nil (Xam (Xab ?_))
 refine kO hT hC ?_
 refine Vc.nil ?_
 refine kL [0,1,5,6] [] [_,_,_,_] [] ?_
 refine kX h (fun v6 => ([(5, .sv (.int .i64 v6.1)), (6, .sv (.int .i64 v6.2))], [])) (fun v9 => ([(5, .sv (.int .i64 v9)), (0, .any), (1, .any), (6, .any)], [])) (kW hC []) (fun v6 s h => ?_) fun v9 h => ?_
 unfold Xlv at h
 refine Xam (Xab ?_)
 iterate 2 refine kO hT hC ?_
 refine Vc.nil ?_
 refine kS h ?_ ?_ <;> intro b5 h
 refine kt b5 (Xag (Xae (Xam (Xak ?_))))
 refine Xb4 hm ?_
 iterate 3 refine kO hT hC ?_
 refine kQ hT hC h fun h => ?_
 iterate 3 refine kO hT hC ?_
 refine kQ hT hC h fun h => ?_
 iterate 2 refine kO hT hC ?_
 refine kC hC [] Tryz.call305 h (fun _ => Xof) fun q10 h => ?_
 iterate 2 refine kO hT hC ?_
 refine kD (Xap (Xae (Xac ?_)))
 iterate 3 refine kO hT hC ?_
 exact Vc.nil kG
 exact kf b5 (Xan (Xat ku))
 refine Xae (Xab ?_)
 iterate 2 refine kO hT hC ?_
 exact Vc.nil (Xah kR)
def Yp2 (r : (ByteArray × Bool)) : AV := .tup [.sv (.str r.1), .sv (.bool r.2)]
def Yp1 (r : (ByteArray × Bool)) : Xax := []
theorem Ytr {p0 r} (h : Xsi p0 = some r) : AC Tryz.prog 306 [.sv (.int .i64 p0)] [] (Yp2 r) (Yp1 r) := by
 refine Xaf hT Tryz.func306 rfl fun C hC => ?_
 unfold Xsi at h
 refine Xab ?_
 iterate 2 refine kO hT hC ?_
 refine Vc.nil (Xam (Xab ?_))
 refine kO hT hC ?_
 refine kC hC [] Tryz.call149 h (fun _ => Xal) fun q1 h => ?_
 refine kO hT hC ?_
 refine Vc.nil ?_
 refine kS h ?_ ?_ <;> intro b1 h
 refine kt b1 (Xab ?_)
 iterate 2 refine kO hT hC ?_
 exact Vc.nil (Xah (Xaq kR))
 refine kf b1 (Xag (Xae (Xab ?_)))
 refine kO hT hC ?_
 refine kC hC [] Tryz.call159 h (fun _ => Xc7) fun q2 h => ?_
 iterate 2 refine kO hT hC ?_
 exact Vc.nil (Xah kR)
def Ymr (r : Int) : AV := .sv (.int .i64 r)
def Ymq (r : Int) : Xax := []
theorem Yp3 {p0 r} (h : Xid p0 = some r) : AC Tryz.prog 280 [.sv (.int .i64 p0)] [] (Ymr r) (Ymq r) := by
 refine Xaf hT Tryz.func280 rfl fun C hC => ?_
 unfold Xid at h
 refine Xab ?_
 refine kO hT hC ?_
 refine kN ?_
 refine kO hT hC ?_
 refine kC hC [] Tryz.call306 h (fun _ => Ytr) fun q1 h => ?_
 iterate 5 refine kO hT hC ?_
 refine kN ?_
 iterate 3 refine kO hT hC ?_
 exact Vc.nil (Xah kR)
def Ybm (r : (Int × Int)) : AV := .tup [.sv (.int .i64 r.1), .sv (.int .i64 r.2)]
def Ybl (r : (Int × Int)) : Xax := []
theorem Yd7 {p0 p1 r} (h : Xfk p0 p1 = some r) : AC Tryz.prog 255 [.sv (.ints .i64 p0), .agg [.sv (.ints .i64 p1.Above), .sv (.ints .i64 p1.Left), .sv (.int .i64 p1.Corner)]] [] (Ybm r) (Ybl r) := by
 refine Xaf hT Tryz.func255 rfl fun C hC => ?_
 unfold Xfk at h
 refine Xab ?_
 iterate 3 refine kO hT hC ?_
 refine Vc.nil (Xam ?_)
 refine kL [0,3] [48] [_,_] [_] ?_
 refine kA h (fun v1 => ([(17, .sv (.bool v1))], [])) (fun v1 h => ?_) fun v1 h => ?_
 refine Xac ?_
 refine kO hT hC ?_
 refine kC hC [] Tryz.call278 h (fun _ => Xu8) fun q2 h => ?_
 iterate 2 refine kO hT hC ?_
 refine kS h ?_ ?_ <;> intro b1 h
 refine kI hT hC (kn b1) ?_
 refine kE hC (kn b1) [] Tryz.call220 h (fun _ => Xl8) fun q3 h => ?_
 refine kI hT hC (kn b1) ?_
 refine kP hC false (kn b1) ?_
 exact Vc.nil kM
 iterate 3 refine kF hC (kn b1) ?_
 refine kP hC true (kn b1) ?_
 exact Vc.nil kM
 refine kS h ?_ ?_ <;> intro b2 h
 refine kt b2 (Xab ?_)
 iterate 2 refine kO hT hC ?_
 exact Vc.nil (Xah (Xaq kR))
 refine kf b2 (Xag (Xae (Xab ?_)))
 refine kO hT hC ?_
 refine kN ?_
 refine kO hT hC ?_
 refine Vc.nil (Xam (Xab ?_))
 refine kO hT hC ?_
 refine Vc.nil ?_
 refine kL [0,3,6,7,8] [48] [_,_,_,_,_] [_] ?_
 refine kX h (fun v16 => ([(6, .sv (.int .i64 v16.1)), (7, .sv (.int .i64 v16.2.1)), (8, .sv (.int .i64 v16.2.2))], [])) (fun v23 => ([(6, .sv (.int .i64 v23.1)), (7, .sv (.int .i64 v23.2)), (0, .any), (3, .any), (8, .any)], [(48, none)])) (kW hC []) (fun v16 s h => ?_) fun v23 h => ?_
 unfold Xc2 at h
 refine Xam (Xab ?_)
 iterate 2 refine kO hT hC ?_
 refine Vc.nil ?_
 refine kS h ?_ ?_ <;> intro b12 h
 refine kt b12 (Xag (Xae ?_))
 refine kL [0,3,6,7,8] [48] [_,_,_,_,_] [_] ?_
 refine kA h (fun v24 => ([(6, .sv (.int .i64 v24.1)), (7, .sv (.int .i64 v24.2))], [])) (fun v24 h => ?_) fun v24 h => ?_
 refine Xak (Xab ?_)
 iterate 3 refine kO hT hC ?_
 refine kC hC [(16, 400)] Tryz.call258 h (fun _ => Xpv) fun q25 h => ?_
 refine kC hC [] Tryz.call279 h (fun _ => Ybq) fun q26 h => ?_
 refine kO hT hC ?_
 refine kC hC [] Tryz.call280 h (fun _ => Yp3) fun q27 h => ?_
 iterate 2 refine kO hT hC ?_
 refine Vc.nil ?_
 refine kL [0,3,6,7,8,9] [48] [_,_,_,_,_,_] [_] ?_
 refine kA h (fun v28 => ([(36, .sv (.bool v28))], [])) (fun v28 h => ?_) fun v28 h => ?_
 refine Xac ?_
 iterate 3 refine kO hT hC ?_
 refine kS h ?_ ?_ <;> intro b13 h
 iterate 3 refine kF hC b13 ?_
 refine kP hC true b13 ?_
 exact Vc.nil kM
 iterate 3 refine kI hT hC b13 ?_
 refine kP hC false b13 ?_
 exact Vc.nil kM
 refine kS h ?_ ?_ <;> intro b14 h
 refine kt b14 (Xab ?_)
 iterate 2 refine kO hT hC ?_
 refine Vc.nil (Xac ?_)
 iterate 2 refine kO hT hC ?_
 exact Vc.nil (Xap kM)
 exact kf b14 (Xag (Xap kM))
 refine Xac ?_
 iterate 3 refine kO hT hC ?_
 exact Vc.nil kG
 exact kf b12 (Xan (Xat ku))
 refine Xae (Xab ?_)
 iterate 4 refine kO hT hC ?_
 exact Vc.nil (Xah kR)
def Ypx (r : (ByteArray × Bool)) : AV := .tup [.sv (.str r.1), .sv (.bool r.2)]
def Ypw (r : (ByteArray × Bool)) : Xax := []
theorem Ytq {p0 r} (h : Xwk p0 = some r) : AC Tryz.prog 307 [.sv (.int .i64 p0)] [] (Ypx r) (Ypw r) := by
 refine Xaf hT Tryz.func307 rfl fun C hC => ?_
 unfold Xwk at h
 refine Xab ?_
 iterate 2 refine kO hT hC ?_
 refine Vc.nil (Xam (Xab ?_))
 refine kO hT hC ?_
 refine kC hC [] Tryz.call149 h (fun _ => Xal) fun q1 h => ?_
 refine kO hT hC ?_
 refine Vc.nil ?_
 refine kS h ?_ ?_ <;> intro b1 h
 refine kt b1 (Xab ?_)
 iterate 2 refine kO hT hC ?_
 exact Vc.nil (Xah (Xaq kR))
 refine kf b1 (Xag (Xae (Xab ?_)))
 refine kO hT hC ?_
 refine kC hC [] Tryz.call161 h (fun _ => Xl1) fun q2 h => ?_
 iterate 2 refine kO hT hC ?_
 exact Vc.nil (Xah kR)
def Ymg (r : Int) : AV := .sv (.int .i64 r)
def Ymf (r : Int) : Xax := []
theorem Xxs {p0 r} (h : Xm6 p0 = some r) : AC Tryz.prog 281 [.sv (.int .i64 p0)] [] (Ymg r) (Ymf r) := by
 refine Xaf hT Tryz.func281 rfl fun C hC => ?_
 unfold Xm6 at h
 refine Xab ?_
 refine kO hT hC ?_
 refine kN ?_
 refine kO hT hC ?_
 refine kC hC [] Tryz.call307 h (fun _ => Ytq) fun q1 h => ?_
 iterate 5 refine kO hT hC ?_
 refine kN ?_
 iterate 3 refine kO hT hC ?_
 exact Vc.nil (Xah kR)
def Yea (r : (Int × Int × Int)) : AV := .tup [.sv (.int .i64 r.1), .sv (.int .i64 r.2.1), .sv (.int .i64 r.2.2)]
def Yd9 (r : (Int × Int × Int)) : Xax := []
theorem Ygy {p0 p1 p2 p3 p4 r} (h : Xiz p0 p1 p2 p3 p4 = some r) : AC Tryz.prog 256 [.agg [.sv (.int .i64 p0.Wide), .sv (.int .i64 p0.High), .sv (.str p0.Dots)], .sv (.ints .i64 p1), .sv (.int .i64 p2), .sv (.int .i64 p3), .sv (.int .i64 p4)] [] (Yea r) (Yd9 r) := by
 refine Xaf hT Tryz.func256 rfl fun C hC => ?_
 unfold Xiz at h
 refine Xab ?_
 iterate 4 refine kO hT hC ?_
 refine kN ?_
 refine kO hT hC ?_
 refine kN ?_
 refine kO hT hC ?_
 refine kN ?_
 refine kO hT hC ?_
 refine Vc.nil (Xam ?_)
 refine kL [1,2,3,4,5,13,14,15] [80] [_,_,_,_,_,_,_,_] [_] ?_
 refine kA h (fun v1 => ([(33, .sv (.bool v1))], [])) (fun v1 h => ?_) fun v1 h => ?_
 refine Xac ?_
 refine kO hT hC ?_
 refine kC hC [] Tryz.call220 h (fun _ => Xl8) fun q2 h => ?_
 iterate 2 refine kO hT hC ?_
 refine kS h ?_ ?_ <;> intro b1 h
 refine kI hT hC (kn b1) ?_
 refine kE hC (kn b1) [] Tryz.call149 h (fun _ => Xal) fun q3 h => ?_
 refine kI hT hC (kn b1) ?_
 refine kP hC false (kn b1) ?_
 refine kO hT hC ?_
 refine kS h ?_ ?_ <;> intro b2 h
 iterate 3 refine kI hT hC (kn b2) ?_
 refine kE hC (kn b2) [] Tryz.call219 h (fun _ => Xl9) fun q4 h => ?_
 refine kI hT hC (kn b2) ?_
 refine kP hC false (kn b2) ?_
 exact Vc.nil kM
 iterate 5 refine kF hC (kn b2) ?_
 refine kP hC true (kn b2) ?_
 exact Vc.nil kM
 iterate 3 refine kF hC (kn b1) ?_
 refine kP hC true (kn b1) ?_
 refine kO hT hC ?_
 iterate 5 refine kF hC rfl ?_
 refine kO hT hC ?_
 exact Vc.nil kM
 refine kS h ?_ ?_ <;> intro b3 h
 refine kt b3 (Xab ?_)
 iterate 3 refine kO hT hC ?_
 exact Vc.nil (Xah (Xaq kR))
 refine kf b3 (Xag (Xae (Xam (Xab ?_))))
 iterate 3 refine kO hT hC ?_
 refine Vc.nil ?_
 refine kL [1,2,3,4,5,13,14,15,16] [80] [_,_,_,_,_,_,_,_,_] [_] ?_
 refine kX h (fun v32 => ([(13, .sv (.int .i64 v32.1)), (14, .sv (.int .i64 v32.2.1)), (15, .sv (.int .i64 v32.2.2.1)), (16, .sv (.int .i64 v32.2.2.2))], [])) (fun v60 => ([(13, .sv (.int .i64 v60.1)), (14, .sv (.int .i64 v60.2.1)), (15, .sv (.int .i64 v60.2.2)), (1, .any), (2, .any), (3, .any), (4, .any), (5, .any), (16, .any)], [(80, none)])) (kW hC []) (fun v32 s h => ?_) fun v60 h => ?_
 unfold Xi0 at h
 refine Xam (Xab ?_)
 iterate 3 refine kO hT hC ?_
 refine Vc.nil ?_
 refine kS h ?_ ?_ <;> intro b30 h
 refine kt b30 (Xag (Xae (Xam (Xak (Xab ?_)))))
 iterate 3 refine kO hT hC ?_
 refine Vc.nil ?_
 refine kL [1,2,3,4,5,13,14,15,16,17] [80] [_,_,_,_,_,_,_,_,_,_] [_] ?_
 refine kX h (fun v69 => ([(13, .sv (.int .i64 v69.1)), (14, .sv (.int .i64 v69.2.1)), (15, .sv (.int .i64 v69.2.2.1)), (17, .sv (.int .i64 v69.2.2.2))], [])) (fun v78 => ([(13, .sv (.int .i64 v78.1)), (14, .sv (.int .i64 v78.2.1)), (15, .sv (.int .i64 v78.2.2)), (17, .any)], [])) (kW hC []) (fun v69 s h => ?_) fun v78 h => ?_
 unfold Xi1 at h
 refine Xam (Xab ?_)
 iterate 3 refine kO hT hC ?_
 refine Vc.nil ?_
 refine kS h ?_ ?_ <;> intro b39 h
 refine kt b39 (Xag (Xae ?_))
 refine kL [1,2,3,4,5,13,14,15,16,17] [80] [_,_,_,_,_,_,_,_,_,_] [_] ?_
 refine kA h (fun v79 => ([(13, .sv (.int .i64 v79.1)), (14, .sv (.int .i64 v79.2.1)), (15, .sv (.int .i64 v79.2.2))], [])) (fun v79 h => ?_) fun v79 h => ?_
 refine Xak (Xam (Xab ?_))
 iterate 7 refine kO hT hC ?_
 refine kC hC [] Tryz.call251 h (fun _ => Xsl) fun q80 h => ?_
 refine kO hT hC ?_
 refine Vc.nil ?_
 refine kS h ?_ ?_ <;> intro b40 h
 exact kt b40 (Xan (Xat (Yja kM)))
 refine kf b40 (Xag (Xae (Xab ?_)))
 iterate 8 refine kO hT hC ?_
 refine kC hC [(16, 1040)] Tryz.call156 h (fun _ => Xh4) fun q81 h => ?_
 refine kC hC [] Tryz.call279 h (fun _ => Ybq) fun q82 h => ?_
 refine kO hT hC ?_
 refine kC hC [] Tryz.call281 h (fun _ => Xxs) fun q83 h => ?_
 iterate 2 refine kO hT hC ?_
 refine kC hC [] Tryz.call281 h (fun _ => Xxs) fun q84 h => ?_
 iterate 2 refine kO hT hC ?_
 refine Vc.nil ?_
 refine kL [1,2,3,4,5,13,14,15,16,17,18] [80] [_,_,_,_,_,_,_,_,_,_,_] [_] ?_
 refine kA h (fun v85 => ([(79, .sv (.bool v85))], [])) (fun v85 h => ?_) fun v85 h => ?_
 refine Xac ?_
 iterate 3 refine kO hT hC ?_
 refine kS h ?_ ?_ <;> intro b41 h
 iterate 3 refine kF hC b41 ?_
 refine kP hC true b41 ?_
 exact Vc.nil kM
 iterate 3 refine kI hT hC b41 ?_
 refine kP hC false b41 ?_
 exact Vc.nil kM
 refine kS h ?_ ?_ <;> intro b42 h
 refine kt b42 (Xab ?_)
 iterate 2 refine kO hT hC ?_
 refine kN ?_
 iterate 2 refine kO hT hC ?_
 refine Vc.nil (Xac ?_)
 iterate 2 refine kO hT hC ?_
 exact Vc.nil (Xap kM)
 exact kf b42 (Xag (Xap kM))
 refine Xac ?_
 iterate 3 refine kO hT hC ?_
 exact Vc.nil kG
 exact kf b39 (Xan (Xat ku))
 refine Xap (Xae (Xac ?_))
 iterate 3 refine kO hT hC ?_
 exact Vc.nil kG
 exact kf b30 (Xan (Xat ku))
 refine Xae (Xab ?_)
 iterate 6 refine kO hT hC ?_
 exact Vc.nil (Xah kR)
def Xp0 (r : Int) : AV := .sv (.int .i64 r)
def Xpz (r : Int) : Xax := []
theorem Xxr {p0 p1 r} (h : Xm5 p0 p1 = some r) : AC Tryz.prog 308 [.sv (.int .i64 p0), .sv (.int .i64 p1)] [] (Xp0 r) (Xpz r) := by
 refine Xaf hT Tryz.func308 rfl fun C hC => ?_
 unfold Xm5 at h
 refine Xab ?_
 refine kO hT hC ?_
 refine Vc.nil (Xam ?_)
 refine kL [0,1] [] [_,_] [] ?_
 refine kA h (fun v1 => ([(25, .sv (.bool v1))], [])) (fun v1 h => ?_) fun v1 h => ?_
 refine Xac ?_
 iterate 3 refine kO hT hC ?_
 refine kS h ?_ ?_ <;> intro b1 h
 iterate 2 refine kI hT hC b1 ?_
 refine kP hC true b1 ?_
 refine kO hT hC ?_
 refine kS h ?_ ?_ <;> intro b2 h
 iterate 2 refine kF hC b2 ?_
 refine kP hC true b2 ?_
 refine kO hT hC ?_
 iterate 5 refine kF hC rfl ?_
 refine kO hT hC ?_
 exact Vc.nil kM
 iterate 2 refine kI hT hC b2 ?_
 refine kP hC false b2 ?_
 refine kO hT hC ?_
 refine kS h ?_ ?_ <;> intro b3 h
 iterate 5 refine kF hC b3 ?_
 refine kP hC true b3 ?_
 exact Vc.nil kM
 iterate 5 refine kI hT hC b3 ?_
 refine kP hC false b3 ?_
 exact Vc.nil kM
 iterate 2 refine kF hC b1 ?_
 refine kP hC false b1 ?_
 refine kO hT hC ?_
 iterate 2 refine kI hT hC rfl ?_
 iterate 2 refine kO hT hC ?_
 refine kS h ?_ ?_ <;> intro b4 h
 iterate 5 refine kF hC b4 ?_
 refine kP hC true b4 ?_
 exact Vc.nil kM
 iterate 5 refine kI hT hC b4 ?_
 refine kP hC false b4 ?_
 exact Vc.nil kM
 refine kS h ?_ ?_ <;> intro b5 h
 refine kt b5 (Xab ?_)
 refine kO hT hC ?_
 exact Vc.nil (Xah (Xaq kR))
 refine kf b5 (Xag (Xae (Xab ?_)))
 refine kO hT hC ?_
 refine Vc.nil (Xam (Xab ?_))
 refine kO hT hC ?_
 refine Vc.nil ?_
 refine kL [0,1,5,6] [] [_,_,_,_] [] ?_
 obtain ⟨o48, hl, h⟩ := Xa3 h
 refine Xf9 (fun v17 => ([(5, .sv (.int .i64 v17.1)), (6, .sv (.int .i64 v17.2))], [])) (fun v33 => ([(0, .any), (1, .any), (5, .any), (6, .any)], [])) (fun r => Xqe C T Tryz.f308.results.toList (Xp0 r) (Xpz r)) hl ?_ ?_ ?_ ?_
 try dsimp only
 apply Xdo hC []
 exact co
 rfl
 decide
 rfl
 intro v17 s hs
 have h := hs
 unfold Xly at h
 refine Xam (Xab ?_)
 iterate 5 refine kO hT hC ?_
 refine Vc.nil ?_
 refine kS h ?_ ?_ <;> intro b32 h
 refine kt b32 (Xag (Xae (Xam (Xak (Xab ?_)))))
 refine kO hT hC ?_
 refine Vc.nil ?_
 refine kL [0,1,5,6,7] [] [_,_,_,_,_] [] ?_
 obtain ⟨o47, hl, h⟩ := Xa3 h
 refine Xf9 (fun v38 => ([(5, .sv (.int .i64 v38.1)), (7, .sv (.int .i64 v38.2))], [])) (fun v43 => ([(5, .sv (.int .i64 v43)), (7, .any)], [])) (fun r => Xqe C T Tryz.f308.results.toList (Xp0 r) (Xpz r)) hl ?_ ?_ ?_ ?_
 try dsimp only
 apply Xdo hC []
 exact co
 rfl
 decide
 rfl
 intro v38 s hs
 have h := hs
 unfold Xpy at h
 refine Xam (Xab ?_)
 iterate 3 refine kO hT hC ?_
 refine Vc.nil ?_
 refine kS h ?_ ?_ <;> intro b41 h
 refine kt b41 (Xag (Xae ?_))
 refine kL [0,1,5,6,7] [] [_,_,_,_,_] [] ?_
 refine Yxc h (fun (v44 : Int) => ([(5, .sv (.int .i64 v44))], [])) (fun v44 h => ?_) (fun h => ?_)
 refine Xac ?_
 iterate 3 refine kO hT hC ?_
 exact Vc.nil kG
 refine Xak (Xab ?_)
 iterate 2 refine kO hT hC ?_
 refine Vc.nil ?_
 refine kL [0,1,5,6,7,8] [] [_,_,_,_,_,_] [] ?_
 refine kA h (fun v45 => ([(8, .sv (.int .i64 v45))], [])) (fun v45 h => ?_) fun v45 h => ?_
 refine Xab ?_
 refine kO hT hC ?_
 refine kQ hT hC h fun h => ?_
 refine kO hT hC ?_
 refine Vc.nil ?_
 refine kS h ?_ ?_ <;> intro b42 h
 refine kt b42 (Xac ?_)
 iterate 5 refine kO hT hC ?_
 exact Vc.nil kM
 exact kf b42 (Xag kM)
 refine Xam (Xab ?_)
 iterate 5 refine kO hT hC ?_
 refine kC hC [] Tryz.call149 h (fun _ => Xal) fun q46 h => ?_
 refine kO hT hC ?_
 refine Vc.nil ?_
 refine kS h ?_ ?_ <;> intro b43 h
 refine kt b43 (Xan (Xat (Yja ?_)))
 exact Yxr v38.1 h (kW hC [])
 refine kf b43 (Xag (Xae (Xam (Xab ?_))))
 iterate 3 refine kO hT hC ?_
 refine Vc.nil ?_
 refine kS h ?_ ?_ <;> intro b44 h
 refine kt b44 (Xab ?_)
 iterate 8 refine kO hT hC ?_
 refine Vc.nil (Xah (Xaq (Xer (Zel ?_))))
 obtain rfl := kj h
 refine Xrb (Xra ?_)
 exact Xby (Xmd.refl _) rfl trivial
 refine kf b44 (Xag (Xae (Xac ?_)))
 iterate 3 refine kO hT hC ?_
 refine Vc.nil (Xap ?_)
 exact Yxr (Xaa .i64 (v38.1 + 1)) h (kW hC [])
 exact kf b41 (Xan (Xat kb))
 intro v43 e
 subst e
 refine Xap (Xae (Xac ?_))
 iterate 3 refine kO hT hC ?_
 exact Vc.nil kG
 intro r' σ' e hE
 subst e
 obtain rfl := kj h
 refine Xer (Xaq (Xrb (Xra ?_)))
 exact hE
 exact kf b32 (Xan (Xat kb))
 intro v33 e
 subst e
 refine Xae (Xab ?_)
 refine kO hT hC ?_
 exact Vc.nil (Xah kR)
 intro r' σ' e hE
 subst e
 obtain rfl := kj h
 refine Xaq ?_
 exact hE
def Yhh (r : ((List Int) × Bool)) : AV := .tup [.own 16, .sv (.bool r.2)]
def Yhg (r : ((List Int) × Bool)) : Xax := [(16, .ints .i64 r.1)]
theorem Xp1 {p0 p1 r} (h : Xfb p0 p1 = some r) : AC Tryz.prog 283 [.sv (.int .i64 p0), .sv (.ints .i64 p1)] [] (Yhh r) (Yhg r) := by
 refine Xaf hT Tryz.func283 rfl fun C hC => ?_
 unfold Xfb at h
 refine Xab ?_
 iterate 2 refine kO hT hC ?_
 refine kN ?_
 iterate 2 refine kO hT hC ?_
 refine Vc.nil (Xam ?_)
 refine kL [0,1,6] [128] [_,_,_] [_] ?_
 refine kA h (fun v1 => ([(22, .sv (.bool v1))], [])) (fun v1 h => ?_) fun v1 h => ?_
 refine Xac ?_
 iterate 3 refine kO hT hC ?_
 refine kS h ?_ ?_ <;> intro b1 h
 iterate 2 refine kI hT hC b1 ?_
 refine kP hC true b1 ?_
 refine kO hT hC ?_
 refine kS h ?_ ?_ <;> intro b2 h
 iterate 6 refine kF hC b2 ?_
 refine kP hC true b2 ?_
 exact Vc.nil kM
 iterate 6 refine kI hT hC b2 ?_
 refine kP hC false b2 ?_
 exact Vc.nil kM
 iterate 2 refine kF hC b1 ?_
 refine kP hC false b1 ?_
 refine kO hT hC ?_
 iterate 6 refine kI hT hC rfl ?_
 refine kO hT hC ?_
 exact Vc.nil kM
 refine kS h ?_ ?_ <;> intro b3 h
 refine kt b3 (Xab ?_)
 iterate 3 refine kO hT hC ?_
 refine Vc.nil (Xah (Xaq ?_))
 obtain rfl := kj h
 exact Xby (τ := ⟨[(4, .own 16), (5, .sv (.bool false))], [(16, some (.ints .i64 ([] : List Int)))]⟩) (kW hC [(16, 128)]) rfl ⟨rfl, trivial⟩
 refine kf b3 (Xag (Xae (Xam (Xab ?_))))
 refine kO hT hC ?_
 refine Vc.nil ?_
 refine kL [0,1,6,7] [128] [_,_,_,_] [_] ?_
 refine kX h (fun v4 => ([(7, .sv (.int .i64 v4.1))], [(128, some (.ints .i64 v4.2))])) (fun v7 => ([(0, .any), (1, .any), (7, .any)], [(128, some (.ints .i64 v7))])) (kW hC []) (fun v4 s h => ?_) fun v7 h => ?_
 unfold Xdh at h
 refine Xam (Xab ?_)
 iterate 5 refine kO hT hC ?_
 refine Vc.nil ?_
 refine kS h ?_ ?_ <;> intro b6 h
 refine kt b6 (Xag (Xae (Xam (Xak (Xac ?_)))))
 iterate 4 refine kO hT hC ?_
 refine kC hC [] Tryz.call308 h (fun _ => Xxr) fun q8 h => ?_
 refine kQ hT hC h fun h => ?_
 iterate 2 refine kO hT hC ?_
 refine kT hT hC h fun h => ?_
 refine kO hT hC ?_
 refine Vc.nil (Xap (Xae (Xac ?_)))
 iterate 3 refine kO hT hC ?_
 refine Vc.nil ?_
 obtain rfl := kj h
 exact Yd2 (kW hC [(128, 624)])
 exact kf b6 (Xan (Xat ku))
 refine Xae (Xab ?_)
 iterate 3 refine kO hT hC ?_
 refine Vc.nil (Xah ?_)
 obtain rfl := kj h
 exact Xby (τ := ⟨[(4, .own 16), (5, .sv (.bool true))], [(16, some (.ints .i64 v7))]⟩) (kW hC [(16, 128)]) rfl ⟨rfl, trivial⟩
def Ymk (r : Int) : AV := .sv (.int .i64 r)
def Ymj (r : Int) : Xax := []
theorem Xxu {p0 p1 r} (h : Xia p0 p1 = some r) : AC Tryz.prog 319 [.sv (.int .i64 p0), .sv (.int .i64 p1)] [] (Ymk r) (Ymj r) := by
 refine Xaf hT Tryz.func319 rfl fun C hC => ?_
 unfold Xia at h
 refine Xab ?_
 refine kO hT hC ?_
 refine Vc.nil (Xam ?_)
 refine kL [0,1] [] [_,_] [] ?_
 refine kA h (fun v1 => ([(14, .sv (.bool v1))], [])) (fun v1 h => ?_) fun v1 h => ?_
 refine Xac ?_
 refine kO hT hC ?_
 refine kC hC [] Tryz.call149 h (fun _ => Xal) fun q2 h => ?_
 iterate 2 refine kO hT hC ?_
 refine kS h ?_ ?_ <;> intro b1 h
 refine kI hT hC (kn b1) ?_
 refine kE hC (kn b1) [] Tryz.call149 h (fun _ => Xal) fun q3 h => ?_
 refine kI hT hC (kn b1) ?_
 refine kP hC false (kn b1) ?_
 exact Vc.nil kM
 iterate 3 refine kF hC (kn b1) ?_
 refine kP hC true (kn b1) ?_
 exact Vc.nil kM
 refine kS h ?_ ?_ <;> intro b2 h
 refine kt b2 (Xab ?_)
 refine kO hT hC ?_
 exact Vc.nil (Xah (Xaq kR))
 refine kf b2 (Xag (Xae (Xab ?_)))
 refine kO hT hC ?_
 refine Vc.nil (Xam (Xab ?_))
 iterate 4 refine kO hT hC ?_
 refine Vc.nil ?_
 refine kL [5,6] [] [_,_] [] ?_
 refine kX h (fun v6 => ([(5, .sv (.int .i64 v6.1)), (6, .sv (.int .i64 v6.2))], [])) (fun v9 => ([(5, .sv (.int .i64 v9)), (6, .any)], [])) (kW hC []) (fun v6 s h => ?_) fun v9 h => ?_
 unfold Xjq at h
 refine Xam (Xab ?_)
 iterate 2 refine kO hT hC ?_
 refine Vc.nil ?_
 refine kS h ?_ ?_ <;> intro b7 h
 refine kt b7 (Xag (Xae ?_))
 refine kL [5,6] [] [_,_] [] ?_
 refine kA h (fun v10 => ([(5, .sv (.int .i64 v10))], [])) (fun v10 h => ?_) fun v10 h => ?_
 refine Xak (Xab ?_)
 refine kO hT hC ?_
 refine kQ hT hC h fun h => ?_
 refine kO hT hC ?_
 refine Vc.nil ?_
 refine kS h ?_ ?_ <;> intro b8 h
 refine kt b8 (Xac ?_)
 iterate 3 refine kO hT hC ?_
 exact Vc.nil (Xap kM)
 exact kf b8 (Xag (Xap kM))
 refine Xac ?_
 refine kO hT hC ?_
 refine kQ hT hC h fun h => ?_
 refine kO hT hC ?_
 exact Vc.nil kG
 exact kf b7 (Xan (Xat ku))
 refine Xae (Xab ?_)
 iterate 2 refine kO hT hC ?_
 exact Vc.nil (Xah kR)
def Ym3 (r : Int) : AV := .sv (.int .i64 r)
def Ym2 (r : Int) : Xax := []
theorem Yqi {p0 p1 p2 r} (h : Xkk p0 p1 p2 = some r) : AC Tryz.prog 318 [.sv (.ints .i64 p0), .sv (.int .i64 p1), .sv (.int .i64 p2)] [] (Ym3 r) (Ym2 r) := by
 refine Xaf hT Tryz.func318 rfl fun C hC => ?_
 unfold Xkk at h
 refine Xab ?_
 refine kO hT hC ?_
 refine kN ?_
 refine kO hT hC ?_
 refine Vc.nil (Xam (Xab ?_))
 refine kO hT hC ?_
 refine Vc.nil ?_
 refine kL [0,1,2,7,8] [] [_,_,_,_,_] [] ?_
 refine kX h (fun v3 => ([(7, .sv (.int .i64 v3.1)), (8, .sv (.int .i64 v3.2))], [])) (fun v6 => ([(7, .sv (.int .i64 v6)), (0, .any), (1, .any), (2, .any), (8, .any)], [])) (kW hC []) (fun v3 s h => ?_) fun v6 h => ?_
 unfold Xd2 at h
 refine Xam (Xab ?_)
 iterate 2 refine kO hT hC ?_
 refine Vc.nil ?_
 refine kS h ?_ ?_ <;> intro b3 h
 refine kt b3 (Xag (Xae (Xam (Xak ?_))))
 refine Xb4 hm ?_
 iterate 6 refine kO hT hC ?_
 refine kQ hT hC h fun h => ?_
 iterate 3 refine kO hT hC ?_
 refine kC hC [] Tryz.call319 h (fun _ => Xxu) fun q7 h => ?_
 iterate 3 refine kO hT hC ?_
 refine kD (Xap (Xae (Xac ?_)))
 iterate 3 refine kO hT hC ?_
 exact Vc.nil kG
 exact kf b3 (Xan (Xat ku))
 refine Xae (Xab ?_)
 iterate 2 refine kO hT hC ?_
 exact Vc.nil (Xah kR)
def Yib (r : (List Int)) : AV := .own 16
def Yia (r : (List Int)) : Xax := [(16, .ints .i64 r)]
theorem Xvr {p0 r} (h : Xgk p0 = some r) : AC Tryz.prog 309 [.sv (.ints .i64 p0)] [] (Yib r) (Yia r) := by
 refine Xaf hT Tryz.func309 rfl fun C hC => ?_
 unfold Xgk at h
 refine Xab ?_
 refine kO hT hC ?_
 refine kN ?_
 iterate 2 refine kO hT hC ?_
 refine Vc.nil (Xam (Xab ?_))
 refine kO hT hC ?_
 refine Vc.nil ?_
 refine kL [0,3,4] [176] [_,_,_] [_] ?_
 refine kX h (fun v10 => ([(4, .sv (.int .i64 v10.1))], [(176, some (.ints .i64 v10.2))])) (fun v20 => ([(0, .any), (4, .any)], [(176, some (.ints .i64 v20))])) (kW hC []) (fun v10 s h => ?_) fun v20 h => ?_
 unfold Xcr at h
 refine Xam (Xab ?_)
 iterate 2 refine kO hT hC ?_
 refine Vc.nil ?_
 refine kS h ?_ ?_ <;> intro b9 h
 refine kt b9 (Xag (Xae (Xam (Xak (Xab ?_)))))
 refine kO hT hC ?_
 refine Vc.nil ?_
 refine kL [0,3,4,5] [176] [_,_,_,_] [_] ?_
 refine kX h (fun v23 => ([(5, .sv (.int .i64 v23.1))], [(176, some (.ints .i64 v23.2))])) (fun v26 => ([(5, .any)], [(176, some (.ints .i64 v26))])) (kW hC []) (fun v23 s h => ?_) fun v26 h => ?_
 unfold Xcs at h
 refine Xam (Xab ?_)
 iterate 2 refine kO hT hC ?_
 refine Vc.nil ?_
 refine kS h ?_ ?_ <;> intro b12 h
 refine kt b12 (Xag (Xae (Xam (Xak (Xac ?_)))))
 iterate 4 refine kO hT hC ?_
 refine kC hC [] Tryz.call318 h (fun _ => Yqi) fun q27 h => ?_
 refine kO hT hC ?_
 refine kT hT hC h fun h => ?_
 refine kO hT hC ?_
 refine Vc.nil (Xap (Xae (Xac ?_)))
 iterate 3 refine kO hT hC ?_
 refine Vc.nil ?_
 obtain rfl := kj h
 exact Yd2 (kW hC [(176, 416)])
 exact kf b12 (Xan (Xat ku))
 refine Xap (Xae (Xac ?_))
 iterate 3 refine kO hT hC ?_
 exact Vc.nil kG
 exact kf b9 (Xan (Xat ku))
 refine Xae (Xab ?_)
 iterate 2 refine kO hT hC ?_
 refine Vc.nil (Xam (Xab ?_))
 refine kO hT hC ?_
 refine Vc.nil ?_
 refine kL [3,6,7] [176,432] [_,_,_] [_,_] ?_
 refine kX h (fun v60 => ([(7, .sv (.int .i64 v60.1))], [(432, some (.ints .i64 v60.2))])) (fun v91 => ([(3, .any), (7, .any)], [(432, some (.ints .i64 v91)), (176, none)])) (kW hC []) (fun v60 s h => ?_) fun v91 h => ?_
 unfold Xb9 at h
 refine Xam (Xab ?_)
 iterate 2 refine kO hT hC ?_
 refine Vc.nil ?_
 refine kS h ?_ ?_ <;> intro b39 h
 refine kt b39 (Xag (Xae (Xam (Xak (Xab ?_)))))
 refine kO hT hC ?_
 refine Vc.nil ?_
 refine kL [3,6,7,8] [176,432] [_,_,_,_] [_,_] ?_
 refine kX h (fun v101 => ([(8, .sv (.int .i64 v101.1))], [(432, some (.ints .i64 v101.2))])) (fun v111 => ([(8, .any)], [(432, some (.ints .i64 v111))])) (kW hC []) (fun v101 s h => ?_) fun v111 h => ?_
 unfold Xca at h
 refine Xam (Xab ?_)
 iterate 2 refine kO hT hC ?_
 refine Vc.nil ?_
 refine kS h ?_ ?_ <;> intro b48 h
 refine kt b48 (Xag (Xae (Xam (Xak (Xab ?_)))))
 refine kO hT hC ?_
 refine Vc.nil (Xam (Xab ?_))
 refine kO hT hC ?_
 refine Vc.nil ?_
 refine kL [3,6,7,8,9,10] [176,432] [_,_,_,_,_,_] [_,_] ?_
 refine kX h (fun v114 => ([(9, .sv (.int .i64 v114.1)), (10, .sv (.int .i64 v114.2))], [])) (fun v117 => ([(9, .sv (.int .i64 v117)), (10, .any)], [])) (kW hC []) (fun v114 s h => ?_) fun v117 h => ?_
 unfold Xcb at h
 refine Xam (Xab ?_)
 iterate 2 refine kO hT hC ?_
 refine Vc.nil ?_
 refine kS h ?_ ?_ <;> intro b51 h
 refine kt b51 (Xag (Xae (Xam (Xak ?_))))
 refine Xb4 hm ?_
 iterate 3 refine kO hT hC ?_
 refine kC hC [] Tryz.call319 h (fun _ => Xxu) fun q118 h => ?_
 iterate 5 refine kO hT hC ?_
 iterate 2 refine kQ hT hC h fun h => ?_
 iterate 3 refine kO hT hC ?_
 refine kD (Xap (Xae (Xac ?_)))
 iterate 3 refine kO hT hC ?_
 exact Vc.nil kG
 exact kf b51 (Xan (Xat ku))
 refine Xae (Xac ?_)
 iterate 3 refine kO hT hC ?_
 refine kT hT hC h fun h => ?_
 refine kO hT hC ?_
 refine Vc.nil (Xap (Xae (Xac ?_)))
 iterate 3 refine kO hT hC ?_
 refine Vc.nil ?_
 obtain rfl := kj h
 exact Yd2 (kW hC [(432, 896)])
 exact kf b48 (Xan (Xat ku))
 refine Xap (Xae (Xac ?_))
 iterate 3 refine kO hT hC ?_
 exact Vc.nil kG
 exact kf b39 (Xan (Xat ku))
 refine Xae (Xab ?_)
 iterate 2 refine kO hT hC ?_
 refine Vc.nil (Xah ?_)
 obtain rfl := kj h
 exact Xby (τ := ⟨[(2, .own 16)], [(16, some (.ints .i64 v91))]⟩) (kW hC [(16, 432)]) rfl ⟨rfl, trivial⟩
def Ypg (r : (List Int)) : AV := .own 16
def Ypf (r : (List Int)) : Xax := [(16, .ints .i64 r)]
theorem Yth {p0 r} (h : Xm4 p0 = some r) : AC Tryz.prog 284 [.sv (.ints .i64 p0)] [] (Ypg r) (Ypf r) := by
 refine Xaf hT Tryz.func284 rfl fun C hC => ?_
 unfold Xm4 at h
 refine Xab ?_
 refine kO hT hC ?_
 refine Vc.nil (Xam (Xab ?_))
 refine kO hT hC ?_
 refine kC hC [] Tryz.call282 h (fun _ => Xb1) fun q1 h => ?_
 refine kO hT hC ?_
 refine Vc.nil ?_
 refine kS h ?_ ?_ <;> intro b1 h
 refine kt b1 (Xab ?_)
 iterate 2 refine kO hT hC ?_
 refine Vc.nil (Xah (Xaq ?_))
 obtain rfl := kj h
 exact Xby (τ := ⟨[(2, .own 16)], [(16, some (.ints .i64 ([] : List Int)))]⟩) (kW hC [(16, 96)]) rfl ⟨rfl, trivial⟩
 refine kf b1 (Xag (Xae (Xab ?_)))
 refine kO hT hC ?_
 refine kC hC [(16, 128)] Tryz.call309 h (fun _ => Xvr) fun q2 h => ?_
 refine kO hT hC ?_
 refine Vc.nil (Xah ?_)
 obtain rfl := kj h
 exact Xby (τ := ⟨[(2, .own 16)], [(16, some (.ints .i64 q2))]⟩) (kW hC [(16, 128)]) rfl ⟨rfl, trivial⟩
def Ymo (r : Int) : AV := .sv (.int .i64 r)
def Ymn (r : Int) : Xax := []
theorem Xxy {p0 r} (h : Xgz p0 = some r) : AC Tryz.prog 310 [.sv (.int .i64 p0)] [] (Ymo r) (Ymn r) := by
 refine Xaf hT Tryz.func310 rfl fun C hC => ?_
 unfold Xgz at h
 refine Xab ?_
 refine kO hT hC ?_
 refine Vc.nil (Xam (Xab ?_))
 refine kO hT hC ?_
 refine kC hC [] Tryz.call149 h (fun _ => Xal) fun q1 h => ?_
 refine kO hT hC ?_
 refine Vc.nil ?_
 refine kS h ?_ ?_ <;> intro b1 h
 refine kt b1 (Xab ?_)
 refine kO hT hC ?_
 exact Vc.nil (Xah (Xaq kR))
 refine kf b1 (Xag (Xae (Xab ?_)))
 refine kO hT hC ?_
 refine Vc.nil ?_
 refine kL [0,3] [] [_,_] [] ?_
 refine kA h (fun v2 => ([(3, .sv (.int .i64 v2))], [])) (fun v2 h => ?_) fun v2 h => ?_
 refine Xab ?_
 refine kO hT hC ?_
 refine kQ hT hC h fun h => ?_
 refine Vc.nil (Xak (Xab ?_))
 iterate 2 refine kO hT hC ?_
 refine Vc.nil ?_
 refine kS h ?_ ?_ <;> intro b2 h
 refine kt b2 (Xac ?_)
 refine kO hT hC ?_
 exact Vc.nil (Xap kM)
 refine kf b2 (Xab ?_)
 iterate 2 refine kO hT hC ?_
 refine Vc.nil ?_
 refine kS h ?_ ?_ <;> intro b3 h
 refine kt b3 (Xac ?_)
 refine kO hT hC ?_
 exact Vc.nil (Xap kM)
 refine kf b3 (Xab ?_)
 iterate 2 refine kO hT hC ?_
 refine Vc.nil ?_
 refine kS h ?_ ?_ <;> intro b4 h
 refine kt b4 (Xac ?_)
 refine kO hT hC ?_
 exact Vc.nil (Xap kM)
 refine kf b4 (Xab ?_)
 iterate 2 refine kO hT hC ?_
 refine Vc.nil ?_
 refine kS h ?_ ?_ <;> intro b5 h
 refine kt b5 (Xac ?_)
 refine kO hT hC ?_
 exact Vc.nil (Xap kM)
 refine kf b5 (Xab ?_)
 iterate 2 refine kO hT hC ?_
 refine Vc.nil ?_
 refine kS h ?_ ?_ <;> intro b6 h
 refine kt b6 (Xac ?_)
 refine kO hT hC ?_
 exact Vc.nil (Xap kM)
 exact kf b6 (Xag (Xap kM))
 refine Xam (Xab ?_)
 refine kO hT hC ?_
 refine Vc.nil ?_
 refine kL [0,3,4] [] [_,_,_] [] ?_
 refine kX h (fun v4 => ([(3, .sv (.int .i64 v4.1)), (4, .sv (.int .i64 v4.2))], [])) (fun v6 => ([(3, .sv (.int .i64 v6)), (0, .any), (4, .any)], [])) (kW hC []) (fun v4 s h => ?_) fun v6 h => ?_
 unfold Xjt at h
 refine Xam (Xab ?_)
 iterate 2 refine kO hT hC ?_
 refine kQ hT hC h fun h => ?_
 refine kO hT hC ?_
 refine Vc.nil ?_
 refine kS h ?_ ?_ <;> intro b9 h
 refine kt b9 (Xag (Xae (Xam (Xak (Xac ?_)))))
 iterate 3 refine kO hT hC ?_
 refine Vc.nil (Xap (Xae (Xac ?_)))
 iterate 3 refine kO hT hC ?_
 exact Vc.nil kG
 exact kf b9 (Xan (Xat ku))
 refine Xae (Xab ?_)
 iterate 2 refine kO hT hC ?_
 exact Vc.nil (Xah kR)
def Ycc (r : Int) : AV := .sv (.int .i64 r)
def Ycb (r : Int) : Xax := []
theorem Xsj {p0 p1 r} (h : Xfr p0 p1 = some r) : AC Tryz.prog 311 [.sv (.int .i64 p0), .sv (.int .i64 p1)] [] (Ycc r) (Ycb r) := by
 refine Xaf hT Tryz.func311 rfl fun C hC => ?_
 unfold Xfr at h
 refine Xab ?_
 refine kO hT hC ?_
 refine Vc.nil (Xam (Xab ?_))
 iterate 2 refine kO hT hC ?_
 refine Vc.nil ?_
 refine kS h ?_ ?_ <;> intro b1 h
 refine kt b1 (Xab ?_)
 iterate 3 refine kO hT hC ?_
 exact Vc.nil (Xah (Xaq kR))
 refine kf b1 (Xag (Xae (Xab ?_)))
 iterate 2 refine kO hT hC ?_
 exact Vc.nil (Xah kR)
def Xzf (r : Int) : AV := .sv (.int .i64 r)
def Xze (r : Int) : Xax := []
theorem Ybt {p0 p1 r} (h : Xej p0 p1 = some r) : AC Tryz.prog 285 [.sv (.int .i64 p0), .sv (.int .i64 p1)] [] (Xzf r) (Xze r) := by
 refine Xaf hT Tryz.func285 rfl fun C hC => ?_
 unfold Xej at h
 refine Xab ?_
 refine kO hT hC ?_
 refine Vc.nil (Xam ?_)
 refine kL [0,1] [] [_,_] [] ?_
 refine kA h (fun v1 => ([(13, .sv (.bool v1))], [])) (fun v1 h => ?_) fun v1 h => ?_
 refine Xac ?_
 refine kO hT hC ?_
 refine kC hC [] Tryz.call149 h (fun _ => Xal) fun q2 h => ?_
 iterate 2 refine kO hT hC ?_
 refine kS h ?_ ?_ <;> intro b1 h
 refine kI hT hC (kn b1) ?_
 refine kE hC (kn b1) [] Tryz.call149 h (fun _ => Xal) fun q3 h => ?_
 refine kI hT hC (kn b1) ?_
 refine kP hC false (kn b1) ?_
 exact Vc.nil kM
 iterate 3 refine kF hC (kn b1) ?_
 refine kP hC true (kn b1) ?_
 exact Vc.nil kM
 refine kS h ?_ ?_ <;> intro b2 h
 refine kt b2 (Xab ?_)
 refine kO hT hC ?_
 exact Vc.nil (Xah (Xaq kR))
 refine kf b2 (Xag (Xae (Xab ?_)))
 refine kO hT hC ?_
 refine kC hC [] Tryz.call310 h (fun _ => Xxy) fun q4 h => ?_
 refine kO hT hC ?_
 refine kN ?_
 iterate 2 refine kO hT hC ?_
 refine kC hC [] Tryz.call305 h (fun _ => Xof) fun q5 h => ?_
 refine kO hT hC ?_
 refine kQ hT hC h fun h => ?_
 iterate 2 refine kO hT hC ?_
 refine kQ hT hC h fun h => ?_
 refine kC hC [] Tryz.call311 h (fun _ => Xsj) fun q6 h => ?_
 refine kO hT hC ?_
 exact Vc.nil (Xah kR)
def Xzr (r : (List Int)) : AV := .own 16
def Xzq (r : (List Int)) : Xax := [(16, .ints .i64 r)]
theorem Ych {p0 p1 r} (h : Xem p0 p1 = some r) : AC Tryz.prog 287 [.sv (.ints .i64 p0), .sv (.int .i64 p1)] [] (Xzr r) (Xzq r) := by
 refine Xaf hT Tryz.func287 rfl fun C hC => ?_
 unfold Xem at h
 refine Xab ?_
 refine kO hT hC ?_
 refine kN ?_
 iterate 2 refine kO hT hC ?_
 refine Vc.nil (Xam (Xab ?_))
 refine kO hT hC ?_
 refine Vc.nil ?_
 refine kL [0,1,5,6] [112] [_,_,_,_] [_] ?_
 refine kX h (fun v2 => ([(6, .sv (.int .i64 v2.1))], [(112, some (.ints .i64 v2.2))])) (fun v4 => ([(0, .any), (1, .any), (6, .any)], [(112, some (.ints .i64 v4))])) (kW hC []) (fun v2 s h => ?_) fun v4 h => ?_
 unfold Xbn at h
 refine Xam (Xab ?_)
 iterate 2 refine kO hT hC ?_
 refine Vc.nil ?_
 refine kS h ?_ ?_ <;> intro b3 h
 refine kt b3 (Xag (Xae (Xam (Xak (Xac ?_)))))
 iterate 3 refine kO hT hC ?_
 refine kQ hT hC h fun h => ?_
 iterate 2 refine kO hT hC ?_
 refine kQ hT hC h fun h => ?_
 iterate 3 refine kO hT hC ?_
 refine kQ hT hC h fun h => ?_
 iterate 3 refine kO hT hC ?_
 refine kQ hT hC h fun h => ?_
 refine kO hT hC ?_
 refine kQ hT hC h fun h => ?_
 iterate 2 refine kO hT hC ?_
 refine kT hT hC h fun h => ?_
 refine kO hT hC ?_
 refine Vc.nil (Xap (Xae (Xac ?_)))
 iterate 3 refine kO hT hC ?_
 refine Vc.nil ?_
 obtain rfl := kj h
 exact Yd2 (kW hC [(112, 496)])
 exact kf b3 (Xan (Xat ku))
 refine Xae (Xab ?_)
 iterate 2 refine kO hT hC ?_
 refine Vc.nil (Xah ?_)
 obtain rfl := kj h
 exact Xby (τ := ⟨[(4, .own 16)], [(16, some (.ints .i64 v4))]⟩) (kW hC [(16, 112)]) rfl ⟨rfl, trivial⟩
def Yh9 (r : (List Int)) : AV := .own 16
def Yh8 (r : (List Int)) : Xax := [(16, .ints .i64 r)]
theorem Xvo {p0 r} (h : Xgj p0 = some r) : AC Tryz.prog 313 [.sv (.ints .i64 p0)] [] (Yh9 r) (Yh8 r) := by
 refine Xaf hT Tryz.func313 rfl fun C hC => ?_
 unfold Xgj at h
 refine Xab ?_
 refine kO hT hC ?_
 refine kN ?_
 iterate 2 refine kO hT hC ?_
 refine Vc.nil (Xam (Xab ?_))
 refine kO hT hC ?_
 refine Vc.nil ?_
 refine kL [0,3,4] [144] [_,_,_] [_] ?_
 refine kX h (fun v2 => ([(4, .sv (.int .i64 v2.1))], [(144, some (.ints .i64 v2.2))])) (fun v4 => ([(0, .any), (4, .any)], [(144, some (.ints .i64 v4))])) (kW hC []) (fun v2 s h => ?_) fun v4 h => ?_
 unfold Xdk at h
 refine Xam (Xab ?_)
 iterate 2 refine kO hT hC ?_
 refine Vc.nil ?_
 refine kS h ?_ ?_ <;> intro b3 h
 refine kt b3 (Xag (Xae (Xam (Xak (Xab ?_)))))
 iterate 3 refine kO hT hC ?_
 refine kQ hT hC h fun h => ?_
 iterate 2 refine kO hT hC ?_
 refine kN ?_
 iterate 4 refine kO hT hC ?_
 refine kQ hT hC h fun h => ?_
 iterate 2 refine kO hT hC ?_
 refine kN ?_
 iterate 4 refine kO hT hC ?_
 refine kQ hT hC h fun h => ?_
 iterate 2 refine kO hT hC ?_
 refine kN ?_
 iterate 4 refine kO hT hC ?_
 refine kQ hT hC h fun h => ?_
 iterate 2 refine kO hT hC ?_
 refine Vc.nil (Xac ?_)
 iterate 34 refine kO hT hC ?_
 refine kT hT hC h fun h => ?_
 refine kO hT hC ?_
 refine Vc.nil (Xap (Xae (Xac ?_)))
 iterate 3 refine kO hT hC ?_
 refine Vc.nil ?_
 obtain rfl := kj h
 exact Yd2 (kW hC [(144, 1136)])
 exact kf b3 (Xan (Xat ku))
 refine Xae (Xab ?_)
 iterate 2 refine kO hT hC ?_
 refine Vc.nil (Xah ?_)
 obtain rfl := kj h
 exact Xby (τ := ⟨[(2, .own 16)], [(16, some (.ints .i64 v4))]⟩) (kW hC [(16, 144)]) rfl ⟨rfl, trivial⟩
def Yh7 (r : (List Int)) : AV := .own 16
def Yh6 (r : (List Int)) : Xax := [(16, .ints .i64 r)]
theorem Xl5 {p0 r} (h : Xd1 p0 = some r) : AC Tryz.prog 312 [.sv (.ints .i64 p0)] [] (Yh7 r) (Yh6 r) := by
 refine Xaf hT Tryz.func312 rfl fun C hC => ?_
 unfold Xd1 at h
 refine Xab ?_
 refine kO hT hC ?_
 refine kN ?_
 obtain ⟨hq, h⟩ := Xaw h
 refine Yqs hT hC rfl rfl rfl rfl ⟨hq.1, hq.2.1, hq.2.2, by decide⟩ ?_
 refine kO hT hC ?_
 refine Vc.nil (Xam (Xab ?_))
 refine kO hT hC ?_
 refine Vc.nil ?_
 refine kL [0,3,4] [80] [_,_,_] [_] ?_
 refine kX h (fun v2 => ([(4, .sv (.int .i64 v2.1))], [(80, some (.ints .i64 v2.2))])) (fun v4 => ([(0, .any), (4, .any)], [(80, some (.ints .i64 v4))])) (kW hC []) (fun v2 s h => ?_) fun v4 h => ?_
 unfold Xdj at h
 refine Xam (Xab ?_)
 iterate 2 refine kO hT hC ?_
 refine Vc.nil ?_
 refine kS h ?_ ?_ <;> intro b3 h
 refine kt b3 (Xag (Xae (Xam (Xak (Xac ?_)))))
 iterate 2 refine kO hT hC ?_
 refine kQ hT hC h fun h => ?_
 iterate 2 refine kO hT hC ?_
 refine kQ hT hC h fun h => ?_
 iterate 3 refine kO hT hC ?_
 refine kQ hT hC h fun h => ?_
 refine kO hT hC ?_
 iterate 2 refine kQ hT hC h fun h => ?_
 refine Vc.nil (Xap (Xae (Xac ?_)))
 iterate 3 refine kO hT hC ?_
 exact Vc.nil kG
 exact kf b3 (Xan (Xat ku))
 refine Xae (Xab ?_)
 iterate 2 refine kO hT hC ?_
 refine Vc.nil (Xah ?_)
 obtain rfl := kj h
 exact Xby (τ := ⟨[(2, .own 16)], [(16, some (.ints .i64 v4))]⟩) (kW hC [(16, 80)]) rfl ⟨rfl, trivial⟩
def Ytj (r : (List Int)) : AV := .own 16
def Yti (r : (List Int)) : Xax := [(16, .ints .i64 r)]
theorem Yvx {p0 r} (h : Xpu p0 = some r) : AC Tryz.prog 286 [.sv (.ints .i64 p0)] [] (Ytj r) (Yti r) := by
 refine Xaf hT Tryz.func286 rfl fun C hC => ?_
 unfold Xpu at h
 refine Xab ?_
 refine kO hT hC ?_
 refine Vc.nil (Xam (Xab ?_))
 refine kO hT hC ?_
 refine kC hC [] Tryz.call282 h (fun _ => Xb1) fun q1 h => ?_
 refine kO hT hC ?_
 refine Vc.nil ?_
 refine kS h ?_ ?_ <;> intro b1 h
 refine kt b1 (Xab ?_)
 iterate 2 refine kO hT hC ?_
 refine Vc.nil (Xah (Xaq ?_))
 obtain rfl := kj h
 exact Xby (τ := ⟨[(2, .own 16)], [(16, some (.ints .i64 ([] : List Int)))]⟩) (kW hC [(16, 96)]) rfl ⟨rfl, trivial⟩
 refine kf b1 (Xag (Xae (Xab ?_)))
 refine kO hT hC ?_
 refine kC hC [(16, 128)] Tryz.call313 h (fun _ => Xvo) fun q2 h => ?_
 refine kC hC [(16, 144)] Tryz.call312 h (fun _ => Xl5) fun q3 h => ?_
 refine kC hC [(16, 160)] Tryz.call313 h (fun _ => Xvo) fun q4 h => ?_
 refine kC hC [(16, 176)] Tryz.call312 h (fun _ => Xl5) fun q5 h => ?_
 refine kO hT hC ?_
 refine Vc.nil (Xah ?_)
 obtain rfl := kj h
 exact Xby (τ := ⟨[(2, .own 16)], [(16, some (.ints .i64 q5))]⟩) (kW hC [(16, 176)]) rfl ⟨rfl, trivial⟩
end
end Go.Proofs.YtnhflbeahbcklabGreat.A
