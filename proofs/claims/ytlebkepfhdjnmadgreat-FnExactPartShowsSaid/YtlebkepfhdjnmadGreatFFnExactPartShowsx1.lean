/- Contracts of the functions that the law FnExactPartShows reaches, part 1: each comes to what its pure function tells. Written by a program of this session. Conditions: as each statement tells. -/
import Derived.Test.YtlebkepfhdjnmadGreatFFnExactPartShowsx0
namespace Go.Proofs.YtlebkepfhdjnmadGreat.A
open Go Go.Proofs Go.Proofs.YtlebkepfhdjnmadGreatAL Go.RowKit
set_option linter.unusedVariables false
set_option linter.unusedSimpArgs false
set_option maxRecDepth 100000
set_option maxHeartbeats 8000000
noncomputable section
def Xm8 (r : (Xao × Xi2)) : AV := .agg [.sv (.int .i64 r.1.Kind), .sv (.int .i64 r.1.Mode), .sv (.int .i64 r.1.Dx), .sv (.int .i64 r.1.Dy), .own 16]
def Xm7 (r : (Xao × Xi2)) : Xa5 := [(16, .ints .i64 r.1.Levels), (0, .box [.sv (.str r.2.row_), .sv (.int .i64 r.2.at_), .sv (.bool r.2.bad_)])]
theorem Xob {p0 p1 r} (h : Xbz p0 p1 = some r) : AC Tryz.prog 91 [.ptr 0 0, .agg [.sv (.bool p1.Key), .sv (.int .i64 p1.Qp), .sv (.bool p1.Large), .sv (.bool p1.Exact)]] [(0, .box [.sv (.str p0.row_), .sv (.int .i64 p0.at_), .sv (.bool p0.bad_)])] (Xm8 r) (Xm7 r) := by
 refine Xag hT Tryz.func91 rfl fun C hC => ?_
 unfold Xbz at h
 refine Xac ?_
 iterate 2 refine kO hT hC ?_
 refine kN ?_
 iterate 3 refine kO hT hC ?_
 refine Vc.nil ?_
 refine kL [0,3,4,5] [0,48,64,80] [_,_,_,_] [_,_,_,_] ?_
 refine kA h (fun v1 => ([], [(0, some (.box [.sv (.str v1.1), .sv (.int .i64 v1.2.1), .sv (.bool v1.2.2.1)])), (80, some (.box [.sv (.int .i64 v1.2.2.2), .sv (.int .i64 0), .sv (.int .i64 0), .sv (.int .i64 0), .sv .nil]))])) (fun v1 h => ?_) fun v1 h => ?_
 refine Xac ?_
 iterate 3 refine kO hT hC ?_
 refine Vc.nil ?_
 refine kS h ?_ ?_ <;> intro b1 h
 refine kt b1 (Xab ?_)
 refine kO hT hC ?_
 refine kC hC [(0, 0)] Tryz.call141 h (fun _ => Xer) fun q2 h => ?_
 iterate 2 refine kO hT hC ?_
 exact Vc.nil kM
 exact kf b1 (Xaf kM)
 refine kL [0,3,4,5] [0,48,64,80] [_,_,_,_] [_,_,_,_] ?_
 refine kA h (fun v3 => ([(3, .any)], [(0, some (.box [.sv (.str v3.1), .sv (.int .i64 v3.2.1), .sv (.bool v3.2.2.1)])), (80, some (.box [.sv (.int .i64 v1.2.2.2), .sv (.int .i64 v3.2.2.2.1), .sv (.int .i64 v3.2.2.2.2.1), .sv (.int .i64 v3.2.2.2.2.2.1), .own 913])), (913, some (.ints .i64 v3.2.2.2.2.2.2)), (48, none)])) (fun v3 h => ?_) fun v3 h => ?_
 refine Xam (Xac ?_)
 iterate 5 refine kO hT hC ?_
 refine Vc.nil ?_
 refine kS h ?_ ?_ <;> intro b2 h
 refine kt b2 (Xaf (Xap ?_))
 obtain rfl := kj h
 refine Xge ?_
 refine Xji hC 80 4 914 (.ints .i64 []) rfl rfl rfl rfl rfl trivial ?_
 try dsimp only
 apply Xcv hC [(913, 914)]
 exact co
 rfl
 decide
 rfl
 refine kf b2 (Xac ?_)
 iterate 4 refine kO hT hC ?_
 refine Vc.nil ?_
 refine kS h ?_ ?_ <;> intro b3 h
 refine kt b3 (Xac ?_)
 refine kO hT hC ?_
 refine kC hC [(0, 0)] Tryz.call142 h (fun _ => Xi6) fun q4 h => ?_
 iterate 2 refine kO hT hC ?_
 refine kN ?_
 refine kO hT hC ?_
 refine kC hC [(0, 0)] Tryz.call142 h (fun _ => Xi6) fun q5 h => ?_
 iterate 2 refine kO hT hC ?_
 refine Vc.nil (Xab ?_)
 iterate 2 refine kO hT hC ?_
 refine kC hC [(16, 480), (0, 0)] Tryz.call143 h (fun _ => Xi5) fun q6 h => ?_
 iterate 2 refine kO hT hC ?_
 refine Vc.nil (Xap ?_)
 obtain rfl := kj h
 exact Xge (kW hC [(913, 480)])
 refine kf b3 (Xac ?_)
 iterate 4 refine kO hT hC ?_
 refine Vc.nil ?_
 refine kS h ?_ ?_ <;> intro b4 h
 refine kt b4 (Xac ?_)
 refine kO hT hC ?_
 refine kC hC [(0, 0)] Tryz.call141 h (fun _ => Xer) fun q7 h => ?_
 iterate 2 refine kO hT hC ?_
 refine Vc.nil (Xab ?_)
 iterate 2 refine kO hT hC ?_
 refine kC hC [(16, 656), (0, 0)] Tryz.call143 h (fun _ => Xi5) fun q8 h => ?_
 iterate 2 refine kO hT hC ?_
 refine Vc.nil (Xap ?_)
 obtain rfl := kj h
 exact Xge (kW hC [(913, 656)])
 refine kf b4 (Xaf (Xap ?_))
 obtain rfl := kj h
 refine Xge ?_
 refine Xji hC 80 4 915 (.ints .i64 []) rfl rfl rfl rfl rfl trivial ?_
 try dsimp only
 apply Xcv hC [(913, 915)]
 exact co
 rfl
 decide
 rfl
 refine kL [0,4,5] [0,64,80,913] [_,_,_] [_,_,_,_] ?_
 refine kA h (fun v9 => ([(0, .any)], [(0, some (.box [.sv (.str v3.1), .sv (.int .i64 v3.2.1), .sv (.bool v9)]))])) (fun v9 h => ?_) fun v9 h => ?_
 refine Xab ?_
 iterate 6 refine kO hT hC ?_
 refine kS h ?_ ?_ <;> intro b5 h
 iterate 3 refine kF hC b5 ?_
 refine kP hC true b5 ?_
 iterate 3 refine kO hT hC ?_
 exact Vc.nil kM
 refine kI hT hC b5 ?_
 refine kE hC b5 [] Tryz.call122 h (fun _ => Xli) fun q10 h => ?_
 refine kI hT hC b5 ?_
 refine kP hC false b5 ?_
 iterate 3 refine kO hT hC ?_
 exact Vc.nil kM
 refine Xac ?_
 iterate 2 refine kO hT hC ?_
 refine Vc.nil (Xah ?_)
 obtain rfl := kj h
 exact Xcw (τ := ⟨[(4, .ptr 2000000 0)], [(16, some (.ints .i64 v3.2.2.2.2.2.2)), (0, some (.box [.sv (.str v3.1), .sv (.int .i64 v3.2.1), .sv (.bool v9)])), (2000000, some (.box [.sv (.int .i64 v1.2.2.2), .sv (.int .i64 v3.2.2.2.1), .sv (.int .i64 v3.2.2.2.2.1), .sv (.int .i64 v3.2.2.2.2.2.1), .own 16]))]⟩) (kW hC [(16, 913), (2000000, 64)]) rfl ⟨rfl, rfl, trivial⟩
def Xj6 (r : ((List Xao) × Bool)) : AV := .tup [.own 16, .sv (.bool r.2)]
def Xj5 (r : ((List Xao) × Bool)) : Xa5 := [(16, .row Xcj r.1)]
theorem Xr2 {p0 p1 p2 p3 r} (h : Xgt p0 p1 p2 p3 = some r) : AC Tryz.prog 48 [.sv (.str p0), .sv (.int .i64 p1), .sv (.int .i64 p2), .agg [.sv (.bool p3.Key), .sv (.int .i64 p3.Qp), .sv (.bool p3.Large), .sv (.bool p3.Exact)]] [] (Xj6 r) (Xj5 r) := by
 refine Xag hT Tryz.func48 rfl fun C hC => ?_
 unfold Xgt at h
 refine Xac ?_
 iterate 3 refine kO hT hC ?_
 refine kN ?_
 iterate 2 refine kO hT hC ?_
 refine kC hC [(16, 224)] Tryz.call90 h (fun _ => Xxg) fun q1 h => ?_
 refine kO hT hC ?_
 refine kN ?_
 iterate 2 refine kO hT hC ?_
 refine Vc.nil (Xas ?_)
 refine kL [0,2,7,10,11] [112,224,240] [_,_,_,_,_] [_,_,_] ?_
 refine kA h (fun v2 => ([(23, .sv (.bool v2))], [])) (fun v2 h => ?_) fun v2 h => ?_
 refine Xab ?_
 refine kO hT hC ?_
 refine kC hC [] Tryz.call61 h (fun _ => Xak) fun q3 h => ?_
 iterate 2 refine kO hT hC ?_
 refine kS h ?_ ?_ <;> intro b1 h
 refine kI hT hC (kn b1) ?_
 refine kE hC (kn b1) [] Tryz.call60 h (fun _ => Xht) fun q4 h => ?_
 refine kI hT hC (kn b1) ?_
 refine kP hC false (kn b1) ?_
 exact Vc.nil kM
 iterate 3 refine kF hC (kn b1) ?_
 refine kP hC true (kn b1) ?_
 exact Vc.nil kM
 refine kS h ?_ ?_ <;> intro b2 h
 refine kt b2 (Xac ?_)
 iterate 3 refine kO hT hC ?_
 refine Vc.nil (Xah (Xat ?_))
 obtain rfl := kj h
 exact Xcw (τ := ⟨[(8, .own 16), (9, .sv (.bool false))], [(16, some (.row Xcj ([] : List Xao)))]⟩) (kW hC [(16, 240)]) rfl ⟨rfl, trivial⟩
 refine kf b2 (Xaf (Xae (Xas (Xac ?_))))
 iterate 2 refine kO hT hC ?_
 refine Vc.nil ?_
 refine kL [0,7,10,11,25,26] [112,224,240] [_,_,_,_,_,_] [_,_,_] ?_
 obtain ⟨o12, hl, h⟩ := Xbd h
 refine Xf5 (fun v7 => ([(26, .sv (.int .i64 v7.1))], [(224, some (.box [.sv (.str v7.2.1), .sv (.int .i64 v7.2.2.1), .sv (.bool v7.2.2.2.1)])), (240, some (.row Xcj v7.2.2.2.2))])) (fun v10 => ([(7, .any), (25, .any), (26, .any)], [(224, some (.box [.sv (.str v10.1), .sv (.int .i64 v10.2.1), .sv (.bool v10.2.2.1)])), (240, some (.row Xcj v10.2.2.2)), (112, none)])) (fun r => Xl1 C T Tryz.f48.results.toList (Xj6 r) (Xj5 r)) hl ?_ ?_ ?_ ?_
 try dsimp only
 apply Xcv hC []
 exact co
 rfl
 decide
 rfl
 intro v7 s hs
 have h := hs
 unfold Xa0 at h
 refine Xac ?_
 refine kO hT hC ?_
 refine Vc.nil (Xas ?_)
 refine kS h ?_ ?_ <;> intro b7 h
 refine kt b7 (Xaf (Xae (Xas (Xam (Xac ?_)))))
 iterate 3 refine kO hT hC ?_
 refine kC hC [(16, 496), (0, 224)] Tryz.call91 h (fun _ => Xob) fun q11 h => ?_
 refine kO hT hC ?_
 obtain ⟨hq, h⟩ := Xay h
 refine Ybg hT hC rfl rfl rfl rfl ⟨fun _ _ => rfl, by rw [Xmt]; exact hq⟩ ?_
 rw [Xmt]
 refine kO hT hC ?_
 refine kN ?_
 iterate 4 refine kO hT hC ?_
 refine Vc.nil ?_
 refine kS h ?_ ?_ <;> intro b8 h
 refine kt b8 (Xac ?_)
 iterate 3 refine kO hT hC ?_
 refine Vc.nil (Xah (Xgj (Xat ?_)))
 obtain rfl := kj h
 refine Xna (Xm9 ?_)
 refine Xcw (τ := ⟨[(8, .own 16), (9, .sv (.bool false))], [(16, some (.row Xcj ([] : List Xao)))]⟩) ?_ rfl ⟨rfl, trivial⟩
 apply Xcv hC [(16, 608)]
 exact co
 rfl
 decide
 rfl
 refine kf b8 (Xaf (Xap (Xae (Xab ?_))))
 iterate 2 refine kO hT hC ?_
 refine Vc.nil ?_
 obtain rfl := kj h
 exact Ycs (kW hC [(240, 528)])
 exact kf b7 (Xaq (Xaw kb))
 intro v10 e
 subst e
 refine Xae (Xas (Xac ?_))
 iterate 7 refine kO hT hC ?_
 refine Vc.nil ?_
 refine kS h ?_ ?_ <;> intro b9 h
 refine kt b9 (Xac ?_)
 iterate 3 refine kO hT hC ?_
 refine Vc.nil (Xah (Xat ?_))
 obtain rfl := kj h
 exact Xcw (τ := ⟨[(8, .own 16), (9, .sv (.bool false))], [(16, some (.row Xcj ([] : List Xao)))]⟩) (kW hC [(16, 752)]) rfl ⟨rfl, trivial⟩
 refine kf b9 (Xaf (Xae (Xac ?_)))
 iterate 3 refine kO hT hC ?_
 refine Vc.nil (Xah ?_)
 obtain rfl := kj h
 exact Xcw (τ := ⟨[(8, .own 16), (9, .sv (.bool true))], [(16, some (.row Xcj v10.2.2.2))]⟩) (kW hC [(16, 240)]) rfl ⟨rfl, trivial⟩
 intro r' σ' e hE
 subst e
 obtain rfl := kj h
 refine Xat ?_
 exact hE
def Xxb (r : Bool) : AV := .sv (.bool r)
def Xxa (r : Bool) : Xa5 := []
theorem Xgr {p0 r} (h : Xef p0 = some r) : AC Tryz.prog 57 [.agg [.sv (.int .i64 p0.Wide), .sv (.int .i64 p0.High), .sv (.str p0.Dots)]] [] (Xxb r) (Xxa r) := by
 refine Xag hT Tryz.func57 rfl fun C hC => ?_
 unfold Xef at h
 refine Xac ?_
 iterate 2 refine kO hT hC ?_
 refine Vc.nil ?_
 refine kL [1,2] [16] [_,_] [_] ?_
 refine kA h (fun v1 => ([(2, .sv (.bool v1)), (1, .any)], [(16, none)])) (fun v1 h => ?_) fun v1 h => ?_
 refine Xab ?_
 iterate 2 refine kO hT hC ?_
 refine kC hC [] Tryz.call61 h (fun _ => Xak) fun q2 h => ?_
 refine kO hT hC ?_
 refine kS h ?_ ?_ <;> intro b1 h
 iterate 2 refine kI hT hC b1 ?_
 refine kE hC b1 [] Tryz.call61 h (fun _ => Xak) fun q3 h => ?_
 refine kP hC true b1 ?_
 refine kO hT hC ?_
 refine kS h ?_ ?_ <;> intro b2 h
 iterate 9 refine kI hT hC b2 ?_
 refine kP hC true b2 ?_
 refine kO hT hC ?_
 exact Vc.nil kM
 iterate 9 refine kF hC b2 ?_
 refine kP hC false b2 ?_
 refine kO hT hC ?_
 exact Vc.nil kM
 iterate 3 refine kF hC b1 ?_
 refine kP hC false b1 ?_
 refine kO hT hC ?_
 iterate 9 refine kF hC rfl ?_
 iterate 2 refine kO hT hC ?_
 exact Vc.nil kM
 exact Xah kR
def Xo3 (r : Bool) : AV := .sv (.bool r)
def Xo2 (r : Bool) : Xa5 := []
theorem Xj4 {p0 p1 r} (h : Xde p0 p1 = some r) : AC Tryz.prog 92 [.agg [.sv (.int .i64 p0.Wide), .sv (.int .i64 p0.High), .sv (.str p0.Dots)], .agg [.sv (.int .i64 p1.Left), .sv (.int .i64 p1.Top), .sv (.int .i64 p1.Wide), .sv (.int .i64 p1.High)]] [] (Xo3 r) (Xo2 r) := by
 refine Xag hT Tryz.func92 rfl fun C hC => ?_
 unfold Xde at h
 refine Xac ?_
 iterate 3 refine kO hT hC ?_
 refine Vc.nil ?_
 refine kL [2,3,4] [32,48] [_,_,_] [_,_] ?_
 refine kA h (fun v1 => ([(4, .sv (.bool v1)), (2, .any), (3, .any)], [(32, none), (48, none)])) (fun v1 h => ?_) fun v1 h => ?_
 refine Xab ?_
 iterate 4 refine kO hT hC ?_
 refine kC hC [] Tryz.call61 h (fun _ => Xak) fun q2 h => ?_
 refine kO hT hC ?_
 refine kS h ?_ ?_ <;> intro b1 h
 iterate 4 refine kI hT hC b1 ?_
 refine kE hC b1 [] Tryz.call61 h (fun _ => Xak) fun q3 h => ?_
 refine kP hC true b1 ?_
 refine kO hT hC ?_
 refine kS h ?_ ?_ <;> intro b2 h
 iterate 7 refine kI hT hC b2 ?_
 refine kE hC b2 [] Tryz.call61 h (fun _ => Xak) fun q4 h => ?_
 refine kP hC true b2 ?_
 refine kO hT hC ?_
 refine kS h ?_ ?_ <;> intro b3 h
 iterate 7 refine kI hT hC b3 ?_
 refine kE hC b3 [] Tryz.call61 h (fun _ => Xak) fun q5 h => ?_
 refine kP hC true b3 ?_
 refine kO hT hC ?_
 exact Vc.nil kM
 iterate 8 refine kF hC b3 ?_
 refine kP hC false b3 ?_
 refine kO hT hC ?_
 exact Vc.nil kM
 iterate 8 refine kF hC b2 ?_
 refine kP hC false b2 ?_
 refine kO hT hC ?_
 iterate 8 refine kF hC rfl ?_
 iterate 2 refine kO hT hC ?_
 exact Vc.nil kM
 iterate 5 refine kF hC b1 ?_
 refine kP hC false b1 ?_
 refine kO hT hC ?_
 iterate 8 refine kF hC rfl ?_
 iterate 2 refine kO hT hC ?_
 iterate 8 refine kF hC rfl ?_
 iterate 2 refine kO hT hC ?_
 exact Vc.nil kM
 exact Xah kR
def Xw5 (r : (Pic × Bool)) : AV := .tup [.agg [.sv (.int .i64 r.1.Wide), .sv (.int .i64 r.1.High), .sv (.str r.1.Dots)], .sv (.bool r.2)]
def Xw4 (r : (Pic × Bool)) : Xa5 := []
theorem Xzt {p0 p1 r} (h : Xix p0 p1 = some r) : AC Tryz.prog 93 [.agg [.sv (.int .i64 p0.Wide), .sv (.int .i64 p0.High), .sv (.str p0.Dots)], .agg [.sv (.int .i64 p1.Left), .sv (.int .i64 p1.Top), .sv (.int .i64 p1.Wide), .sv (.int .i64 p1.High)]] [] (Xw5 r) (Xw4 r) := by
 refine Xag hT Tryz.func93 rfl fun C hC => ?_
 unfold Xix at h
 refine Xac ?_
 iterate 4 refine kO hT hC ?_
 refine Vc.nil (Xas ?_)
 refine kL [2,3,4] [32,48,64] [_,_,_] [_,_,_] ?_
 refine kA h (fun v1 => ([(16, .sv (.bool v1))], [])) (fun v1 h => ?_) fun v1 h => ?_
 refine Xab ?_
 refine kO hT hC ?_
 refine kC hC [] Tryz.call57 h (fun _ => Xgr) fun q2 h => ?_
 iterate 2 refine kO hT hC ?_
 refine kS h ?_ ?_ <;> intro b1 h
 iterate 2 refine kI hT hC (kn b1) ?_
 refine kE hC (kn b1) [] Tryz.call92 h (fun _ => Xj4) fun q3 h => ?_
 refine kI hT hC (kn b1) ?_
 refine kP hC false (kn b1) ?_
 exact Vc.nil kM
 iterate 4 refine kF hC (kn b1) ?_
 refine kP hC true (kn b1) ?_
 exact Vc.nil kM
 refine kS h ?_ ?_ <;> intro b2 h
 refine kt b2 (Xac ?_)
 iterate 3 refine kO hT hC ?_
 exact Vc.nil (Xah (Xat kR))
 refine kf b2 (Xaf (Xae (Xac ?_)))
 iterate 5 refine kO hT hC ?_
 obtain ⟨hq, h⟩ := Xay h
 refine Ybg hT hC rfl rfl rfl rfl ⟨hq.1, hq.2.1, hq.2.2, by decide⟩ ?_
 refine kO hT hC ?_
 refine Vc.nil (Xas (Xac ?_))
 iterate 3 refine kO hT hC ?_
 refine Vc.nil ?_
 refine kL [2,3,4,6,7] [32,48,64,368] [_,_,_,_,_] [_,_,_,_] ?_
 refine kX h (fun v5 => ([(7, .sv (.int .i64 v5.1))], [(368, some (.ints .u8 v5.2))])) (fun v7 => ([(2, .any), (7, .any)], [(368, some (.ints .u8 v7)), (32, none)])) (kW hC []) (fun v5 s h => ?_) fun v7 h => ?_
 unfold Xky at h
 refine Xas (Xac ?_)
 iterate 7 refine kO hT hC ?_
 refine Vc.nil ?_
 refine kS h ?_ ?_ <;> intro b5 h
 refine kt b5 (Xaf (Xae (Xas (Xam (Xab ?_)))))
 iterate 20 refine kO hT hC ?_
 refine kQ hT hC h fun h => ?_
 refine kT hT hC h fun h => ?_
 refine kO hT hC ?_
 refine Vc.nil (Xap (Xae (Xab ?_)))
 iterate 3 refine kO hT hC ?_
 refine Vc.nil ?_
 obtain rfl := kj h
 exact Ycs (kW hC [(368, 896)])
 exact kf b5 (Xaq (Xaw ku))
 refine Xae (Xac ?_)
 iterate 9 refine kO hT hC ?_
 exact Vc.nil (Xah kR)
def Xzw (r : Pic) : AV := .agg [.sv (.int .i64 r.Wide), .sv (.int .i64 r.High), .sv (.str r.Dots)]
def Xzv (r : Pic) : Xa5 := []
theorem Yb5 {p0 p1 r} (h : Xl6 p0 p1 = some r) : AC Tryz.prog 94 [.sv (.int .i64 p0), .sv (.int .i64 p1)] [] (Xzw r) (Xzv r) := by
 refine Xag hT Tryz.func94 rfl fun C hC => ?_
 unfold Xl6 at h
 refine Xac ?_
 refine kO hT hC ?_
 refine Vc.nil (Xas ?_)
 refine kL [0,1,4] [64] [_,_,_] [_] ?_
 refine kA h (fun v1 => ([(14, .sv (.bool v1))], [])) (fun v1 h => ?_) fun v1 h => ?_
 refine Xab ?_
 refine kO hT hC ?_
 refine kC hC [] Tryz.call61 h (fun _ => Xak) fun q2 h => ?_
 iterate 2 refine kO hT hC ?_
 refine kS h ?_ ?_ <;> intro b1 h
 refine kI hT hC (kn b1) ?_
 refine kE hC (kn b1) [] Tryz.call61 h (fun _ => Xak) fun q3 h => ?_
 refine kI hT hC (kn b1) ?_
 refine kP hC false (kn b1) ?_
 exact Vc.nil kM
 iterate 3 refine kF hC (kn b1) ?_
 refine kP hC true (kn b1) ?_
 exact Vc.nil kM
 refine kS h ?_ ?_ <;> intro b2 h
 refine kt b2 (Xac ?_)
 iterate 2 refine kO hT hC ?_
 exact Vc.nil (Xah (Xat kR))
 refine kf b2 (Xaf (Xae (Xac ?_)))
 iterate 3 refine kO hT hC ?_
 obtain ⟨hq, h⟩ := Xay h
 refine Ybg hT hC rfl rfl rfl rfl ⟨hq.1, hq.2.1, hq.2.2, by decide⟩ ?_
 refine kO hT hC ?_
 refine Vc.nil (Xas (Xac ?_))
 iterate 3 refine kO hT hC ?_
 refine Vc.nil ?_
 refine kL [0,1,4,5,21,22] [64,304] [_,_,_,_,_,_] [_,_] ?_
 refine kX h (fun v5 => ([(22, .sv (.int .i64 v5.1))], [(304, some (.ints .u8 v5.2))])) (fun v7 => ([(21, .any), (22, .any)], [(304, some (.ints .u8 v7))])) (kW hC []) (fun v5 s h => ?_) fun v7 h => ?_
 unfold Xh3 at h
 refine Xac ?_
 refine kO hT hC ?_
 refine Vc.nil (Xas ?_)
 refine kS h ?_ ?_ <;> intro b5 h
 refine kt b5 (Xaf (Xae (Xas (Xam (Xac ?_)))))
 iterate 2 refine kO hT hC ?_
 refine Vc.nil (Xab ?_)
 iterate 2 refine kO hT hC ?_
 iterate 2 refine kQ hT hC h fun h => ?_
 refine Vc.nil (Xap (Xae (Xab ?_)))
 iterate 2 refine kO hT hC ?_
 exact Vc.nil kG
 exact kf b5 (Xaq (Xaw ku))
 refine Xae (Xac ?_)
 iterate 6 refine kO hT hC ?_
 exact Vc.nil (Xah kR)
def Xl8 (r : Bool) : AV := .sv (.bool r)
def Xl7 (r : Bool) : Xa5 := []
theorem Xin {p0 p1 p2 r} (h : Xb4 p0 p1 p2 = some r) : AC Tryz.prog 58 [.agg [.sv (.int .i64 p0.Wide), .sv (.int .i64 p0.High), .sv (.str p0.Dots)], .sv (.int .i64 p1), .sv (.int .i64 p2)] [] (Xl8 r) (Xl7 r) := by
 refine Xag hT Tryz.func58 rfl fun C hC => ?_
 unfold Xb4 at h
 refine Xac ?_
 iterate 2 refine kO hT hC ?_
 refine Vc.nil ?_
 refine kL [1,2,3,6] [48] [_,_,_,_] [_] ?_
 refine kA h (fun v1 => ([(6, .sv (.bool v1)), (1, .any), (2, .any), (3, .any)], [(48, none)])) (fun v1 h => ?_) fun v1 h => ?_
 refine Xab ?_
 refine kO hT hC ?_
 refine kQ hT hC h fun h => ?_
 iterate 2 refine kO hT hC ?_
 refine kS h ?_ ?_ <;> intro b1 h
 refine kI hT hC b1 ?_
 refine kJ hT hC b1 h fun h => ?_
 refine kI hT hC b1 ?_
 refine kP hC true b1 ?_
 refine kO hT hC ?_
 refine kS h ?_ ?_ <;> intro b2 h
 iterate 4 refine kI hT hC b2 ?_
 refine kE hC b2 [] Tryz.call61 h (fun _ => Xak) fun q2 h => ?_
 refine kP hC true b2 ?_
 refine kO hT hC ?_
 refine kS h ?_ ?_ <;> intro b3 h
 iterate 4 refine kI hT hC b3 ?_
 refine kE hC b3 [] Tryz.call61 h (fun _ => Xak) fun q3 h => ?_
 refine kP hC true b3 ?_
 refine kO hT hC ?_
 exact Vc.nil kM
 iterate 5 refine kF hC b3 ?_
 refine kP hC false b3 ?_
 refine kO hT hC ?_
 exact Vc.nil kM
 iterate 5 refine kF hC b2 ?_
 refine kP hC false b2 ?_
 refine kO hT hC ?_
 iterate 5 refine kF hC rfl ?_
 iterate 2 refine kO hT hC ?_
 exact Vc.nil kM
 iterate 3 refine kF hC b1 ?_
 refine kP hC false b1 ?_
 refine kO hT hC ?_
 iterate 5 refine kF hC rfl ?_
 iterate 2 refine kO hT hC ?_
 iterate 5 refine kF hC rfl ?_
 iterate 2 refine kO hT hC ?_
 exact Vc.nil kM
 exact Xah kR
def Xoa (r : Bool) : AV := .sv (.bool r)
def Xn9 (r : Bool) : Xa5 := []
theorem Xo7 {p0 p1 r} (h : Xep p0 p1 = some r) : AC Tryz.prog 123 [.agg [.sv (.int .i64 p0.Kind), .sv (.int .i64 p0.Mode), .sv (.int .i64 p0.Dx), .sv (.int .i64 p0.Dy), .sv (.ints .i64 p0.Levels)], .agg [.sv (.bool p1.Key), .sv (.int .i64 p1.Qp), .sv (.bool p1.Large), .sv (.bool p1.Exact)]] [] (Xoa r) (Xn9 r) := by
 refine Xag hT Tryz.func123 rfl fun C hC => ?_
 unfold Xep at h
 refine Xac ?_
 iterate 3 refine kO hT hC ?_
 refine Vc.nil ?_
 refine kL [2,3,4] [32,48] [_,_,_] [_,_] ?_
 refine kA h (fun v1 => ([(4, .sv (.bool v1)), (2, .any), (3, .any)], [(32, none), (48, none)])) (fun v1 h => ?_) fun v1 h => ?_
 refine Xab ?_
 iterate 4 refine kO hT hC ?_
 refine kS h ?_ ?_ <;> intro b1 h
 iterate 3 refine kI hT hC (kn b1) ?_
 refine kP hC false (kn b1) ?_
 refine kO hT hC ?_
 exact Vc.nil kM
 iterate 3 refine kF hC (kn b1) ?_
 refine kP hC true (kn b1) ?_
 refine kO hT hC ?_
 exact Vc.nil kM
 exact Xah kR
def Xrs (r : Int) : AV := .sv (.int .i64 r)
def Xrr (r : Int) : Xa5 := []
theorem Xgn {p0 p1 p2 r} (h : Xc5 p0 p1 p2 = some r) : AC Tryz.prog 119 [.sv (.int .i64 p0), .sv (.int .i64 p1), .sv (.int .i64 p2)] [] (Xrs r) (Xrr r) := by
 refine Xag hT Tryz.func119 rfl fun C hC => ?_
 unfold Xc5 at h
 refine Xac ?_
 refine kO hT hC ?_
 refine kN ?_
 iterate 6 refine kO hT hC ?_
 exact Vc.nil (Xah kR)
def Xr1 (r : Int) : AV := .sv (.int .i64 r)
def Xr0 (r : Int) : Xa5 := []
theorem Xgs {p0 p1 p2 r} (h : Xc9 p0 p1 p2 = some r) : AC Tryz.prog 108 [.agg [.sv (.int .i64 p0.Wide), .sv (.int .i64 p0.High), .sv (.str p0.Dots)], .sv (.int .i64 p1), .sv (.int .i64 p2)] [] (Xr1 r) (Xr0 r) := by
 refine Xag hT Tryz.func108 rfl fun C hC => ?_
 unfold Xc9 at h
 refine Xac ?_
 iterate 2 refine kO hT hC ?_
 refine Vc.nil ?_
 refine Xlj hm ?_
 iterate 6 refine kO hT hC ?_
 refine kC hC [] Tryz.call119 h (fun _ => Xgn) fun q1 h => ?_
 iterate 7 refine kO hT hC ?_
 refine kC hC [] Tryz.call119 h (fun _ => Xgn) fun q2 h => ?_
 refine kO hT hC ?_
 refine kQ hT hC h fun h => ?_
 iterate 2 refine kO hT hC ?_
 exact kD (Xah kR)
def Xo1 (r : (List Int)) : AV := .own 16
def Xo0 (r : (List Int)) : Xa5 := [(16, .ints .i64 r)]
theorem Xj3 {p0 p1 p2 r} (h : Xeg p0 p1 p2 = some r) : AC Tryz.prog 68 [.agg [.sv (.int .i64 p0.Wide), .sv (.int .i64 p0.High), .sv (.str p0.Dots)], .sv (.int .i64 p1), .sv (.int .i64 p2)] [] (Xo1 r) (Xo0 r) := by
 refine Xag hT Tryz.func68 rfl fun C hC => ?_
 unfold Xeg at h
 refine Xac ?_
 iterate 2 refine kO hT hC ?_
 refine kN ?_
 obtain ⟨hq, h⟩ := Xay h
 refine Ybg hT hC rfl rfl rfl rfl ⟨hq.1, hq.2.1, hq.2.2, by decide⟩ ?_
 refine kO hT hC ?_
 refine Vc.nil (Xas (Xac ?_))
 refine kO hT hC ?_
 refine Vc.nil ?_
 refine kL [1,2,3,7,11] [48,160] [_,_,_,_,_] [_,_] ?_
 refine kX h (fun v10 => ([(11, .sv (.int .i64 v10.1))], [(160, some (.ints .i64 v10.2))])) (fun v20 => ([(1, .any), (2, .any), (3, .any), (11, .any)], [(160, some (.ints .i64 v20)), (48, none)])) (kW hC []) (fun v10 s h => ?_) fun v20 h => ?_
 unfold Xc7 at h
 refine Xac ?_
 refine kO hT hC ?_
 refine Vc.nil (Xas ?_)
 refine kS h ?_ ?_ <;> intro b9 h
 refine kt b9 (Xaf (Xae (Xas (Xam (Xac ?_)))))
 iterate 2 refine kO hT hC ?_
 refine kN ?_
 refine kO hT hC ?_
 refine Vc.nil ?_
 refine kL [1,2,3,7,8,11,14] [48,160] [_,_,_,_,_,_,_] [_,_] ?_
 refine kX h (fun v23 => ([(14, .sv (.int .i64 v23.1))], [(160, some (.ints .i64 v23.2))])) (fun v26 => ([(8, .any), (14, .any)], [(160, some (.ints .i64 v26))])) (kW hC []) (fun v23 s h => ?_) fun v26 h => ?_
 unfold Xc8 at h
 refine Xac ?_
 refine kO hT hC ?_
 refine Vc.nil (Xas ?_)
 refine kS h ?_ ?_ <;> intro b12 h
 refine kt b12 (Xaf (Xae (Xas (Xam (Xac ?_)))))
 iterate 2 refine kO hT hC ?_
 refine Vc.nil (Xab ?_)
 iterate 8 refine kO hT hC ?_
 refine kC hC [] Tryz.call108 h (fun _ => Xgs) fun q27 h => ?_
 refine kO hT hC ?_
 refine kT hT hC h fun h => ?_
 refine kO hT hC ?_
 refine Vc.nil (Xap (Xae (Xab ?_)))
 iterate 2 refine kO hT hC ?_
 refine Vc.nil ?_
 obtain rfl := kj h
 exact Ycs (kW hC [(160, 432)])
 exact kf b12 (Xaq (Xaw ku))
 refine Xap (Xae (Xab ?_))
 iterate 2 refine kO hT hC ?_
 exact Vc.nil kG
 exact kf b9 (Xaq (Xaw ku))
 refine Xae (Xac ?_)
 iterate 2 refine kO hT hC ?_
 refine Vc.nil (Xah ?_)
 obtain rfl := kj h
 exact Xcw (τ := ⟨[(6, .own 16)], [(16, some (.ints .i64 v20))]⟩) (kW hC [(16, 160)]) rfl ⟨rfl, trivial⟩
def Xpg (r : (List Int)) : AV := .own 16
def Xpf (r : (List Int)) : Xa5 := [(16, .ints .i64 r)]
theorem Xqw {p0 r} (h : Xfr p0 = some r) : AC Tryz.prog 166 [.sv (.int .i64 p0)] [] (Xpg r) (Xpf r) := by
 refine Xag hT Tryz.func166 rfl fun C hC => ?_
 unfold Xfr at h
 refine Xac ?_
 refine kO hT hC ?_
 refine kN ?_
 iterate 2 refine kO hT hC ?_
 refine Vc.nil (Xas (Xac ?_))
 refine kO hT hC ?_
 refine Vc.nil ?_
 refine kL [0,3,4] [128] [_,_,_] [_] ?_
 refine kX h (fun v16 => ([(4, .sv (.int .i64 v16.1))], [(128, some (.ints .i64 v16.2))])) (fun v32 => ([(0, .any), (4, .any)], [(128, some (.ints .i64 v32))])) (kW hC []) (fun v16 s h => ?_) fun v32 h => ?_
 unfold Xem at h
 refine Xas (Xac ?_)
 iterate 5 refine kO hT hC ?_
 refine Vc.nil ?_
 refine kS h ?_ ?_ <;> intro b27 h
 refine kt b27 (Xaf (Xae (Xas (Xam (Xac ?_)))))
 refine kO hT hC ?_
 refine Vc.nil ?_
 refine kL [0,3,4,5] [128] [_,_,_,_] [_] ?_
 refine kX h (fun v37 => ([(5, .sv (.int .i64 v37.1))], [(128, some (.ints .i64 v37.2))])) (fun v42 => ([(5, .any)], [(128, some (.ints .i64 v42))])) (kW hC []) (fun v37 s h => ?_) fun v42 h => ?_
 unfold Xgx at h
 refine Xas (Xac ?_)
 iterate 3 refine kO hT hC ?_
 refine Vc.nil ?_
 refine kS h ?_ ?_ <;> intro b36 h
 refine kt b36 (Xaf (Xae ?_))
 refine kL [0,3,4,5] [128] [_,_,_,_] [_] ?_
 refine kA h (fun v43 => ([], [(128, some (.ints .i64 v43))])) (fun v43 h => ?_) fun v43 h => ?_
 refine Xam (Xac ?_)
 iterate 2 refine kO hT hC ?_
 refine Vc.nil ?_
 refine kL [0,3,4,5,6] [128] [_,_,_,_,_] [_] ?_
 refine kA h (fun v44 => ([(6, .sv (.int .i64 v44))], [])) (fun v44 h => ?_) fun v44 h => ?_
 refine Xac ?_
 refine kO hT hC ?_
 refine kQ hT hC h fun h => ?_
 refine kO hT hC ?_
 refine Vc.nil ?_
 refine kS h ?_ ?_ <;> intro b37 h
 refine kt b37 (Xab ?_)
 iterate 4 refine kO hT hC ?_
 exact Vc.nil kM
 exact kf b37 (Xaf kM)
 refine Xac ?_
 iterate 4 refine kO hT hC ?_
 refine Vc.nil ?_
 refine kL [0,3,4,5,6,7] [128] [_,_,_,_,_,_] [_] ?_
 refine kA h (fun v45 => ([(38, .sv (.bool v45))], [])) (fun v45 h => ?_) fun v45 h => ?_
 refine Xab ?_
 iterate 4 refine kO hT hC ?_
 refine kS h ?_ ?_ <;> intro b38 h
 iterate 3 refine kI hT hC b38 ?_
 refine kP hC true b38 ?_
 exact Vc.nil kM
 iterate 3 refine kF hC b38 ?_
 refine kP hC false b38 ?_
 exact Vc.nil kM
 refine kS h ?_ ?_ <;> intro b39 h
 refine kt b39 (Xab ?_)
 iterate 7 refine kO hT hC ?_
 refine kT hT hC h fun h => ?_
 refine kO hT hC ?_
 refine Vc.nil (Xap ?_)
 obtain rfl := kj h
 exact Xge (kW hC [(128, 736)])
 exact kf b39 (Xaf (Xap kM))
 refine Xab ?_
 iterate 3 refine kO hT hC ?_
 exact Vc.nil kG
 exact kf b36 (Xaq (Xaw ku))
 refine Xap (Xae (Xab ?_))
 iterate 3 refine kO hT hC ?_
 exact Vc.nil kG
 exact kf b27 (Xaq (Xaw ku))
 refine Xae (Xac ?_)
 iterate 2 refine kO hT hC ?_
 refine Vc.nil (Xah ?_)
 obtain rfl := kj h
 exact Xcw (τ := ⟨[(2, .own 16)], [(16, some (.ints .i64 v32))]⟩) (kW hC [(16, 128)]) rfl ⟨rfl, trivial⟩
def Xo9 (r : ((List Int) × Bool)) : AV := .tup [.own 16, .sv (.bool r.2)]
def Xo8 (r : ((List Int) × Bool)) : Xa5 := [(16, .ints .i64 r.1)]
theorem Xhe {p0 p1 r} (h : Xdf p0 p1 = some r) : AC Tryz.prog 175 [.sv (.int .i64 p0), .sv (.ints .i64 p1)] [] (Xo9 r) (Xo8 r) := by
 refine Xag hT Tryz.func175 rfl fun C hC => ?_
 unfold Xdf at h
 refine Xac ?_
 iterate 2 refine kO hT hC ?_
 refine Vc.nil (Xas ?_)
 refine kL [0,1] [] [_,_] [] ?_
 refine kA h (fun v1 => ([(22, .sv (.bool v1))], [])) (fun v1 h => ?_) fun v1 h => ?_
 refine Xab ?_
 iterate 3 refine kO hT hC ?_
 refine kS h ?_ ?_ <;> intro b1 h
 iterate 2 refine kI hT hC b1 ?_
 refine kP hC true b1 ?_
 refine kO hT hC ?_
 refine kS h ?_ ?_ <;> intro b2 h
 iterate 6 refine kF hC b2 ?_
 refine kP hC true b2 ?_
 exact Vc.nil kM
 iterate 6 refine kI hT hC b2 ?_
 refine kP hC false b2 ?_
 exact Vc.nil kM
 iterate 2 refine kF hC b1 ?_
 refine kP hC false b1 ?_
 refine kO hT hC ?_
 iterate 6 refine kI hT hC rfl ?_
 refine kO hT hC ?_
 exact Vc.nil kM
 refine kS h ?_ ?_ <;> intro b3 h
 refine kt b3 (Xac ?_)
 iterate 3 refine kO hT hC ?_
 refine Vc.nil (Xah (Xat ?_))
 obtain rfl := kj h
 exact Xcw (τ := ⟨[(4, .own 16), (5, .sv (.bool false))], [(16, some (.ints .i64 ([] : List Int)))]⟩) (kW hC [(16, 368)]) rfl ⟨rfl, trivial⟩
 refine kf b3 (Xaf (Xae (Xac ?_)))
 iterate 2 refine kO hT hC ?_
 obtain ⟨hq, h⟩ := Xay h
 refine Ybg hT hC rfl rfl rfl rfl ⟨hq.1, hq.2.1, hq.2.2, by decide⟩ ?_
 refine kO hT hC ?_
 refine Vc.nil (Xas (Xac ?_))
 refine kO hT hC ?_
 refine kC hC [(16, 448)] Tryz.call166 h (fun _ => Xqw) fun q2 h => ?_
 iterate 2 refine kO hT hC ?_
 refine Vc.nil ?_
 refine kL [1,6,28,29,30] [416,448] [_,_,_,_,_] [_,_] ?_
 refine kX h (fun v4 => ([(30, .sv (.int .i64 v4.1))], [(416, some (.ints .i64 v4.2))])) (fun v6 => ([(1, .any), (28, .any), (29, .any), (30, .any)], [(416, some (.ints .i64 v6)), (448, none)])) (kW hC []) (fun v4 s h => ?_) fun v6 h => ?_
 unfold Xfb at h
 refine Xac ?_
 refine kO hT hC ?_
 refine Vc.nil (Xas ?_)
 refine kS h ?_ ?_ <;> intro b6 h
 refine kt b6 (Xaf (Xae (Xas (Xam (Xac ?_)))))
 refine kO hT hC ?_
 iterate 2 refine kQ hT hC h fun h => ?_
 iterate 2 refine kO hT hC ?_
 refine Vc.nil (Xab ?_)
 iterate 4 refine kO hT hC ?_
 refine kQ hT hC h fun h => ?_
 refine kO hT hC ?_
 iterate 2 refine kQ hT hC h fun h => ?_
 refine Vc.nil (Xap (Xae (Xab ?_)))
 iterate 2 refine kO hT hC ?_
 exact Vc.nil kG
 exact kf b6 (Xaq (Xaw ku))
 refine Xae (Xac ?_)
 iterate 3 refine kO hT hC ?_
 refine Vc.nil (Xah ?_)
 obtain rfl := kj h
 exact Xcw (τ := ⟨[(4, .own 16), (5, .sv (.bool true))], [(16, some (.ints .i64 v6))]⟩) (kW hC [(16, 416)]) rfl ⟨rfl, trivial⟩
def Xuo (r : Int) : AV := .sv (.int .i64 r)
def Xun (r : Int) : Xa5 := []
theorem Xxc {p0 r} (h : Xhd p0 = some r) : AC Tryz.prog 168 [.sv (.int .i64 p0)] [] (Xuo r) (Xun r) := by
 refine Xag hT Tryz.func168 rfl fun C hC => ?_
 unfold Xhd at h
 refine Xac ?_
 refine kO hT hC ?_
 refine Vc.nil (Xas (Xac ?_))
 refine kO hT hC ?_
 refine kC hC [] Tryz.call61 h (fun _ => Xak) fun q1 h => ?_
 refine kO hT hC ?_
 refine Vc.nil ?_
 refine kS h ?_ ?_ <;> intro b1 h
 refine kt b1 (Xac ?_)
 refine kO hT hC ?_
 exact Vc.nil (Xah (Xat kR))
 refine kf b1 (Xaf (Xae (Xac ?_)))
 iterate 2 refine kO hT hC ?_
 iterate 3 refine kQ hT hC h fun h => ?_
 refine kO hT hC ?_
 iterate 2 refine kQ hT hC h fun h => ?_
 refine kO hT hC ?_
 exact Vc.nil (Xah kR)
def Xow (r : Int) : AV := .sv (.int .i64 r)
def Xov (r : Int) : Xa5 := []
theorem Xqp {p0 p1 r} (h : Xfo p0 p1 = some r) : AC Tryz.prog 176 [.sv (.int .i64 p0), .sv (.int .i64 p1)] [] (Xow r) (Xov r) := by
 refine Xag hT Tryz.func176 rfl fun C hC => ?_
 unfold Xfo at h
 refine Xac ?_
 refine kO hT hC ?_
 refine Vc.nil (Xas (Xac ?_))
 refine kO hT hC ?_
 refine kC hC [] Tryz.call61 h (fun _ => Xak) fun q1 h => ?_
 refine kO hT hC ?_
 refine Vc.nil ?_
 refine kS h ?_ ?_ <;> intro b1 h
 refine kt b1 (Xac ?_)
 refine kO hT hC ?_
 exact Vc.nil (Xah (Xat kR))
 refine kf b1 (Xaf (Xae (Xac ?_)))
 iterate 2 refine kO hT hC ?_
 refine kC hC [] Tryz.call168 h (fun _ => Xxc) fun q2 h => ?_
 iterate 2 refine kO hT hC ?_
 exact Vc.nil (Xah kR)
def Xum (r : Int) : AV := .sv (.int .i64 r)
def Xul (r : Int) : Xa5 := []
theorem Xne {p0 p1 r} (h : Xhc p0 p1 = some r) : AC Tryz.prog 211 [.sv (.int .i64 p0), .sv (.int .i64 p1)] [] (Xum r) (Xul r) := by
 refine Xag hT Tryz.func211 rfl fun C hC => ?_
 unfold Xhc at h
 refine Xac ?_
 refine kO hT hC ?_
 refine Vc.nil (Xas ?_)
 refine kL [0,1] [] [_,_] [] ?_
 refine kA h (fun v1 => ([(13, .sv (.bool v1))], [])) (fun v1 h => ?_) fun v1 h => ?_
 refine Xab ?_
 refine kO hT hC ?_
 refine kC hC [] Tryz.call61 h (fun _ => Xak) fun q2 h => ?_
 iterate 2 refine kO hT hC ?_
 refine kS h ?_ ?_ <;> intro b1 h
 refine kI hT hC (kn b1) ?_
 refine kE hC (kn b1) [] Tryz.call61 h (fun _ => Xak) fun q3 h => ?_
 refine kI hT hC (kn b1) ?_
 refine kP hC false (kn b1) ?_
 exact Vc.nil kM
 iterate 3 refine kF hC (kn b1) ?_
 refine kP hC true (kn b1) ?_
 exact Vc.nil kM
 refine kS h ?_ ?_ <;> intro b2 h
 refine kt b2 (Xac ?_)
 refine kO hT hC ?_
 exact Vc.nil (Xah (Xat kR))
 refine kf b2 (Xaf (Xae (Xac ?_)))
 iterate 4 refine kO hT hC ?_
 refine Vc.nil (Xas (Xac ?_))
 iterate 3 refine kO hT hC ?_
 refine kQ hT hC h fun h => ?_
 iterate 3 refine kO hT hC ?_
 refine kQ hT hC h fun h => ?_
 iterate 2 refine kO hT hC ?_
 refine kQ hT hC h fun h => ?_
 refine kO hT hC ?_
 refine Vc.nil ?_
 refine kS h ?_ ?_ <;> intro b3 h
 refine kt b3 (Xac ?_)
 refine kO hT hC ?_
 exact Vc.nil (Xah (Xat kR))
 refine kf b3 (Xaf (Xae (Xac ?_)))
 refine kO hT hC ?_
 exact Vc.nil (Xah kR)
def Xz5 (r : (List Int)) : AV := .own 16
def Xz4 (r : (List Int)) : Xa5 := [(16, .ints .i64 r)]
theorem Yca {p0 r} (h : Xma p0 = some r) : AC Tryz.prog 167 [.sv (.ints .i64 p0)] [] (Xz5 r) (Xz4 r) := by
 refine Xag hT Tryz.func167 rfl fun C hC => ?_
 unfold Xma at h
 refine Xac ?_
 refine kO hT hC ?_
 refine kN ?_
 obtain ⟨hq, h⟩ := Xay h
 refine Ybg hT hC rfl rfl rfl rfl ⟨hq.1, hq.2.1, hq.2.2, by decide⟩ ?_
 refine kO hT hC ?_
 refine Vc.nil (Xas (Xac ?_))
 refine kO hT hC ?_
 refine Vc.nil ?_
 refine kL [0,3,12] [176] [_,_,_] [_] ?_
 refine kX h (fun v31 => ([(12, .sv (.int .i64 v31.1))], [(176, some (.ints .i64 v31.2))])) (fun v62 => ([(0, .any), (12, .any)], [(176, some (.ints .i64 v62))])) (kW hC []) (fun v31 s h => ?_) fun v62 h => ?_
 unfold Xk4 at h
 refine Xac ?_
 refine kO hT hC ?_
 refine Vc.nil (Xas ?_)
 refine kS h ?_ ?_ <;> intro b27 h
 refine kt b27 (Xaf (Xae (Xas (Xam (Xac ?_)))))
 iterate 2 refine kO hT hC ?_
 refine kN ?_
 refine kO hT hC ?_
 refine Vc.nil ?_
 refine kL [0,3,4,12,15] [176] [_,_,_,_,_] [_] ?_
 refine kX h (fun v72 => ([(15, .sv (.int .i64 v72.1))], [(176, some (.ints .i64 v72.2))])) (fun v82 => ([(4, .any), (15, .any)], [(176, some (.ints .i64 v82))])) (kW hC []) (fun v72 s h => ?_) fun v82 h => ?_
 unfold Xk5 at h
 refine Xac ?_
 refine kO hT hC ?_
 refine Vc.nil (Xas ?_)
 refine kS h ?_ ?_ <;> intro b36 h
 refine kt b36 (Xaf (Xae (Xas (Xam (Xac ?_)))))
 iterate 2 refine kO hT hC ?_
 refine kN ?_
 refine kO hT hC ?_
 refine Vc.nil ?_
 refine kL [0,3,4,5,12,15,18] [176] [_,_,_,_,_,_,_] [_] ?_
 refine kX h (fun v85 => ([(18, .sv (.int .i64 v85.1))], [(176, some (.ints .i64 v85.2))])) (fun v88 => ([(5, .any), (18, .any)], [(176, some (.ints .i64 v88))])) (kW hC []) (fun v85 s h => ?_) fun v88 h => ?_
 unfold Xgy at h
 refine Xac ?_
 refine kO hT hC ?_
 refine Vc.nil (Xas ?_)
 refine kS h ?_ ?_ <;> intro b39 h
 refine kt b39 (Xaf (Xae (Xas (Xam (Xac ?_)))))
 iterate 2 refine kO hT hC ?_
 refine Vc.nil ?_
 refine Xdo hm ?_
 iterate 10 refine kO hT hC ?_
 iterate 2 refine kQ hT hC h fun h => ?_
 iterate 2 refine kO hT hC ?_
 refine kC hC [] Tryz.call211 h (fun _ => Xne) fun q89 h => ?_
 iterate 5 refine kO hT hC ?_
 refine kQ hT hC h fun h => ?_
 iterate 3 refine kO hT hC ?_
 iterate 2 refine kQ hT hC h fun h => ?_
 refine kD (Xap (Xae (Xab ?_)))
 iterate 2 refine kO hT hC ?_
 exact Vc.nil kG
 exact kf b39 (Xaq (Xaw ku))
 refine Xap (Xae (Xab ?_))
 iterate 2 refine kO hT hC ?_
 exact Vc.nil kG
 exact kf b36 (Xaq (Xaw ku))
 refine Xap (Xae (Xab ?_))
 iterate 2 refine kO hT hC ?_
 exact Vc.nil kG
 exact kf b27 (Xaq (Xaw ku))
 refine Xae (Xac ?_)
 obtain ⟨hq, h⟩ := Xay h
 refine Ybg hT hC rfl rfl rfl rfl ⟨hq.1, hq.2.1, hq.2.2, by decide⟩ ?_
 refine kO hT hC ?_
 refine Vc.nil (Xas (Xac ?_))
 refine kO hT hC ?_
 refine Vc.nil ?_
 refine kL [3,7,50] [176,784] [_,_,_] [_,_] ?_
 refine kX h (fun v123 => ([(50, .sv (.int .i64 v123.1))], [(784, some (.ints .i64 v123.2))])) (fun v154 => ([(3, .any), (50, .any)], [(784, some (.ints .i64 v154)), (176, none)])) (kW hC []) (fun v123 s h => ?_) fun v154 h => ?_
 unfold Xju at h
 refine Xac ?_
 refine kO hT hC ?_
 refine Vc.nil (Xas ?_)
 refine kS h ?_ ?_ <;> intro b66 h
 refine kt b66 (Xaf (Xae (Xas (Xam (Xac ?_)))))
 iterate 2 refine kO hT hC ?_
 refine kN ?_
 refine kO hT hC ?_
 refine Vc.nil ?_
 refine kL [3,7,8,50,53] [176,784] [_,_,_,_,_] [_,_] ?_
 refine kX h (fun v164 => ([(53, .sv (.int .i64 v164.1))], [(784, some (.ints .i64 v164.2))])) (fun v174 => ([(8, .any), (53, .any)], [(784, some (.ints .i64 v174))])) (kW hC []) (fun v164 s h => ?_) fun v174 h => ?_
 unfold Xjv at h
 refine Xac ?_
 refine kO hT hC ?_
 refine Vc.nil (Xas ?_)
 refine kS h ?_ ?_ <;> intro b75 h
 refine kt b75 (Xaf (Xae (Xas (Xam (Xac ?_)))))
 iterate 2 refine kO hT hC ?_
 refine kN ?_
 refine kO hT hC ?_
 refine Vc.nil ?_
 refine kL [3,7,8,9,50,53,56] [176,784] [_,_,_,_,_,_,_] [_,_] ?_
 refine kX h (fun v177 => ([(56, .sv (.int .i64 v177.1))], [(784, some (.ints .i64 v177.2))])) (fun v180 => ([(9, .any), (56, .any)], [(784, some (.ints .i64 v180))])) (kW hC []) (fun v177 s h => ?_) fun v180 h => ?_
 unfold Xfs at h
 refine Xac ?_
 refine kO hT hC ?_
 refine Vc.nil (Xas ?_)
 refine kS h ?_ ?_ <;> intro b78 h
 refine kt b78 (Xaf (Xae (Xas (Xam (Xac ?_)))))
 iterate 2 refine kO hT hC ?_
 refine Vc.nil ?_
 refine Xdo hm ?_
 iterate 10 refine kO hT hC ?_
 iterate 2 refine kQ hT hC h fun h => ?_
 iterate 2 refine kO hT hC ?_
 refine kC hC [] Tryz.call211 h (fun _ => Xne) fun q181 h => ?_
 iterate 5 refine kO hT hC ?_
 iterate 2 refine kQ hT hC h fun h => ?_
 iterate 2 refine kO hT hC ?_
 iterate 2 refine kQ hT hC h fun h => ?_
 refine kD (Xap (Xae (Xab ?_)))
 iterate 2 refine kO hT hC ?_
 exact Vc.nil kG
 exact kf b78 (Xaq (Xaw ku))
 refine Xap (Xae (Xab ?_))
 iterate 2 refine kO hT hC ?_
 exact Vc.nil kG
 exact kf b75 (Xaq (Xaw ku))
 refine Xap (Xae (Xab ?_))
 iterate 2 refine kO hT hC ?_
 exact Vc.nil kG
 exact kf b66 (Xaq (Xaw ku))
 refine Xae (Xac ?_)
 iterate 2 refine kO hT hC ?_
 refine Vc.nil (Xah ?_)
 obtain rfl := kj h
 exact Xcw (τ := ⟨[(2, .own 16)], [(16, some (.ints .i64 v154))]⟩) (kW hC [(16, 784)]) rfl ⟨rfl, trivial⟩
def Xxf (r : Int) : AV := .sv (.int .i64 r)
def Xxe (r : Int) : Xa5 := []
theorem Xk0 {p0 p1 r} (h : Xiz p0 p1 = some r) : AC Tryz.prog 218 [.sv (.int .i64 p0), .sv (.int .i64 p1)] [] (Xxf r) (Xxe r) := by
 refine Xag hT Tryz.func218 rfl fun C hC => ?_
 unfold Xiz at h
 refine Xac ?_
 refine kO hT hC ?_
 refine kN ?_
 iterate 2 refine kO hT hC ?_
 refine kQ hT hC h fun h => ?_
 refine kO hT hC ?_
 refine Vc.nil ?_
 refine kL [0,1,5] [] [_,_,_] [] ?_
 refine kA h (fun v1 => ([(5, .sv (.int .i64 v1)), (0, .any), (1, .any)], [])) (fun v1 h => ?_) fun v1 h => ?_
 refine Xac ?_
 iterate 2 refine kO hT hC ?_
 refine kQ hT hC h fun h => ?_
 refine kO hT hC ?_
 refine Vc.nil ?_
 refine kS h ?_ ?_ <;> intro b1 h
 refine kt b1 (Xab ?_)
 iterate 3 refine kO hT hC ?_
 exact Vc.nil kM
 exact kf b1 (Xaf kM)
 refine Xac ?_
 iterate 2 refine kO hT hC ?_
 exact Vc.nil (Xah kR)
def Xsg (r : ((List Int) × (List Int))) : AV := .own 0
def Xsf (r : ((List Int) × (List Int))) : Xa5 := [(0, .ints .i64 r.2)]
theorem Xl9 {p0 r} (h : Xgb p0 = some r) : AC Tryz.prog 215 [.own 0] [(0, .ints .i64 p0)] (Xsg r) (Xsf r) := by
 refine Xag hT Tryz.func215 rfl fun C hC => ?_
 unfold Xgb at h
 refine Xac ?_
 refine kO hT hC ?_
 refine Vc.nil (Xas (Xac ?_))
 iterate 3 refine kO hT hC ?_
 refine Vc.nil ?_
 refine kL [0,5,6,7] [0] [_,_,_,_] [_] ?_
 refine kX h (fun v3 => ([(7, .sv (.int .i64 v3.1))], [(0, some (.ints .i64 v3.2))])) (fun v6 => ([(5, .any), (6, .any), (7, .any)], [(0, some (.ints .i64 v6))])) (kW hC []) (fun v3 s h => ?_) fun v6 h => ?_
 unfold Xi7 at h
 refine Xac ?_
 refine kO hT hC ?_
 refine Vc.nil (Xas ?_)
 refine kS h ?_ ?_ <;> intro b3 h
 refine kt b3 (Xaf (Xae (Xas (Xam (Xac ?_)))))
 refine kO hT hC ?_
 iterate 2 refine kQ hT hC h fun h => ?_
 iterate 2 refine kO hT hC ?_
 refine Vc.nil (Xab ?_)
 iterate 4 refine kO hT hC ?_
 refine kC hC [] Tryz.call218 h (fun _ => Xk0) fun q7 h => ?_
 iterate 2 refine kQ hT hC h fun h => ?_
 refine Vc.nil (Xap (Xae (Xab ?_)))
 iterate 2 refine kO hT hC ?_
 exact Vc.nil kG
 exact kf b3 (Xaq (Xaw ku))
 refine Xae (Xac ?_)
 iterate 2 refine kO hT hC ?_
 refine Vc.nil (Xah ?_)
 obtain rfl := kj h
 exact Xcw (Xif.refl _) rfl ⟨rfl, trivial⟩
def Xot (r : (List Int)) : AV := .own 16
def Xos (r : (List Int)) : Xa5 := [(16, .ints .i64 r)]
theorem Xqm {p0 r} (h : Xfn p0 = some r) : AC Tryz.prog 177 [.sv (.ints .i64 p0)] [] (Xot r) (Xos r) := by
 refine Xag hT Tryz.func177 rfl fun C hC => ?_
 unfold Xfn at h
 refine Xac ?_
 refine kO hT hC ?_
 refine Vc.nil (Xas (Xac ?_))
 refine kO hT hC ?_
 refine kC hC [] Tryz.call59 h (fun _ => Xfc) fun q1 h => ?_
 refine kO hT hC ?_
 refine Vc.nil ?_
 refine kS h ?_ ?_ <;> intro b1 h
 refine kt b1 (Xac ?_)
 iterate 2 refine kO hT hC ?_
 refine Vc.nil (Xah (Xat ?_))
 obtain rfl := kj h
 exact Xcw (τ := ⟨[(2, .own 16)], [(16, some (.ints .i64 ([] : List Int)))]⟩) (kW hC [(16, 96)]) rfl ⟨rfl, trivial⟩
 refine kf b1 (Xaf (Xae (Xac ?_)))
 refine kO hT hC ?_
 refine kC hC [(16, 128)] Tryz.call167 h (fun _ => Yca) fun q2 h => ?_
 refine kC hC [(0, 128)] Tryz.call215 h (fun _ => Xl9) fun q3 h => ?_
 refine kO hT hC ?_
 refine Vc.nil (Xah ?_)
 obtain rfl := kj h
 exact Xcw (τ := ⟨[(2, .own 16)], [(16, some (.ints .i64 q3.2))]⟩) (kW hC [(16, 128)]) rfl ⟨rfl, trivial⟩
def Xuh (r : Int) : AV := .sv (.int .i64 r)
def Xug (r : Int) : Xa5 := []
theorem Xw6 {p0 r} (h : Xn4 p0 = some r) : AC Tryz.prog 213 [.sv (.int .i64 p0)] [] (Xuh r) (Xug r) := by
 refine Xag hT Tryz.func213 rfl fun C hC => ?_
 unfold Xn4 at h
 refine Xac ?_
 refine kO hT hC ?_
 refine Vc.nil (Xas (Xac ?_))
 refine kO hT hC ?_
 refine kC hC [] Tryz.call61 h (fun _ => Xak) fun q1 h => ?_
 refine kO hT hC ?_
 refine Vc.nil ?_
 refine kS h ?_ ?_ <;> intro b1 h
 refine kt b1 (Xac ?_)
 refine kO hT hC ?_
 exact Vc.nil (Xah (Xat kR))
 refine kf b1 (Xaf (Xae (Xac ?_)))
 refine kO hT hC ?_
 iterate 2 refine kQ hT hC h fun h => ?_
 refine kO hT hC ?_
 iterate 2 refine kQ hT hC h fun h => ?_
 iterate 2 refine kO hT hC ?_
 refine Vc.nil (Xas (Xam ?_))
 refine kL [3,4] [] [_,_] [] ?_
 refine kA h (fun v2 => ([(14, .sv (.bool v2))], [])) (fun v2 h => ?_) fun v2 h => ?_
 refine Xab ?_
 iterate 3 refine kO hT hC ?_
 refine kS h ?_ ?_ <;> intro b2 h
 iterate 2 refine kI hT hC b2 ?_
 refine kP hC true b2 ?_
 refine kO hT hC ?_
 exact Vc.nil kM
 iterate 2 refine kF hC b2 ?_
 refine kP hC false b2 ?_
 refine kO hT hC ?_
 exact Vc.nil kM
 refine kS h ?_ ?_ <;> intro b3 h
 refine kt b3 (Xac ?_)
 refine kO hT hC ?_
 exact Vc.nil (Xah (Xgj (Xat kR)))
 refine kf b3 ?_
 refine kL [3,4] [] [_,_] [] ?_
 refine kA h (fun v3 => ([(21, .sv (.bool v3)), (3, .any), (4, .any)], [])) (fun v3 h => ?_) fun v3 h => ?_
 refine Xab ?_
 iterate 3 refine kO hT hC ?_
 refine kS h ?_ ?_ <;> intro b4 h
 iterate 2 refine kI hT hC b4 ?_
 refine kP hC true b4 ?_
 refine kO hT hC ?_
 exact Vc.nil kM
 iterate 2 refine kF hC b4 ?_
 refine kP hC false b4 ?_
 refine kO hT hC ?_
 exact Vc.nil kM
 refine kS h ?_ ?_ <;> intro b5 h
 refine kt b5 (Xac ?_)
 refine kO hT hC ?_
 exact Vc.nil (Xah (Xgj (Xat kR)))
 refine kf b5 (Xaf (Xap (Xae (Xac ?_))))
 refine kO hT hC ?_
 exact Vc.nil (Xah kR)
def Xr4 (r : Int) : AV := .sv (.int .i64 r)
def Xr3 (r : Int) : Xa5 := []
theorem Xuk {p0 p1 r} (h : Xh4 p0 p1 = some r) : AC Tryz.prog 216 [.sv (.int .i64 p0), .sv (.int .i64 p1)] [] (Xr4 r) (Xr3 r) := by
 refine Xag hT Tryz.func216 rfl fun C hC => ?_
 unfold Xh4 at h
 refine Xac ?_
 refine kO hT hC ?_
 refine Vc.nil (Xas ?_)
 refine kL [0,1] [] [_,_] [] ?_
 refine kA h (fun v1 => ([(13, .sv (.bool v1))], [])) (fun v1 h => ?_) fun v1 h => ?_
 refine Xab ?_
 refine kO hT hC ?_
 refine kC hC [] Tryz.call61 h (fun _ => Xak) fun q2 h => ?_
 iterate 2 refine kO hT hC ?_
 refine kS h ?_ ?_ <;> intro b1 h
 refine kI hT hC (kn b1) ?_
 refine kE hC (kn b1) [] Tryz.call61 h (fun _ => Xak) fun q3 h => ?_
 refine kI hT hC (kn b1) ?_
 refine kP hC false (kn b1) ?_
 exact Vc.nil kM
 iterate 3 refine kF hC (kn b1) ?_
 refine kP hC true (kn b1) ?_
 exact Vc.nil kM
 refine kS h ?_ ?_ <;> intro b2 h
 refine kt b2 (Xac ?_)
 refine kO hT hC ?_
 exact Vc.nil (Xah (Xat kR))
 refine kf b2 (Xaf (Xae (Xac ?_)))
 iterate 9 refine kO hT hC ?_
 refine Vc.nil ?_
 refine Xlj hm ?_
 refine kO hT hC ?_
 refine kQ hT hC h fun h => ?_
 refine kO hT hC ?_
 refine kC hC [] Tryz.call213 h (fun _ => Xw6) fun q4 h => ?_
 iterate 2 refine kQ hT hC h fun h => ?_
 obtain ⟨hq, h⟩ := Xay h
 refine Yme hT hC rfl rfl rfl rfl rfl rfl hq ?_
 refine kO hT hC ?_
 iterate 2 refine kQ hT hC h fun h => ?_
 refine kO hT hC ?_
 exact kD (Xah kR)
def Xo5 (r : Int) : AV := .sv (.int .i64 r)
def Xo4 (r : Int) : Xa5 := []
theorem Xqr {p0 p1 p2 r} (h : Xfq p0 p1 p2 = some r) : AC Tryz.prog 178 [.sv (.int .i64 p0), .sv (.int .i64 p1), .sv (.int .i64 p2)] [] (Xo5 r) (Xo4 r) := by
 refine Xag hT Tryz.func178 rfl fun C hC => ?_
 unfold Xfq at h
 refine Xac ?_
 refine kO hT hC ?_
 refine Vc.nil (Xas (Xac ?_))
 refine kO hT hC ?_
 refine kC hC [] Tryz.call61 h (fun _ => Xak) fun q1 h => ?_
 refine kO hT hC ?_
 refine Vc.nil ?_
 refine kS h ?_ ?_ <;> intro b1 h
 refine kt b1 (Xac ?_)
 refine kO hT hC ?_
 exact Vc.nil (Xah (Xat kR))
 refine kf b1 (Xaf (Xae (Xac ?_)))
 iterate 3 refine kO hT hC ?_
 refine kC hC [] Tryz.call216 h (fun _ => Xuk) fun q2 h => ?_
 iterate 2 refine kO hT hC ?_
 exact Vc.nil (Xah kR)
def Xqv (r : (List Int)) : AV := .own 16
def Xqu (r : (List Int)) : Xa5 := [(16, .ints .i64 r)]
theorem Xr6 {p0 r} (h : Xgw p0 = some r) : AC Tryz.prog 212 [.sv (.ints .i64 p0)] [] (Xqv r) (Xqu r) := by
 refine Xag hT Tryz.func212 rfl fun C hC => ?_
 unfold Xgw at h
 refine Xac ?_
 refine kO hT hC ?_
 refine kN ?_
 iterate 2 refine kO hT hC ?_
 refine kT hT hC h fun h => ?_
 refine kO hT hC ?_
 refine Vc.nil (Xah ?_)
 obtain rfl := kj h
 exact Xcw (τ := ⟨[(2, .own 16)], [(16, some (.ints .i64 (([] : List Int) ++ p0)))]⟩) (kW hC [(16, 80)]) rfl ⟨rfl, trivial⟩
def Xn3 (r : (Int × Int × Int × Int)) : AV := .agg [.sv (.int .i64 r.1), .sv (.int .i64 r.2.1), .sv (.int .i64 r.2.2.1), .sv (.int .i64 r.2.2.2)]
def Xn2 (r : (Int × Int × Int × Int)) : Xa5 := []
theorem Xjm {p0 p1 p2 p3 r} (h : Xcz p0 p1 p2 p3 = some r) : AC Tryz.prog 217 [.sv (.int .i64 p0), .sv (.int .i64 p1), .sv (.int .i64 p2), .sv (.int .i64 p3)] [] (Xn3 r) (Xn2 r) := by
 refine Xag hT Tryz.func217 rfl fun C hC => ?_
 unfold Xcz at h
 refine Xac ?_
 refine kO hT hC ?_
 refine kN ?_
 iterate 7 refine kO hT hC ?_
 refine kC hC [] Tryz.call218 h (fun _ => Xk0) fun q1 h => ?_
 iterate 4 refine kO hT hC ?_
 refine kC hC [] Tryz.call218 h (fun _ => Xk0) fun q2 h => ?_
 iterate 5 refine kO hT hC ?_
 refine kN ?_
 iterate 14 refine kO hT hC ?_
 exact Vc.nil (Xah kR)
def Xhi (r : (List Int)) : AV := .own 16
def Xhh (r : (List Int)) : Xa5 := [(16, .ints .i64 r)]
theorem Xh6 {p0 r} (h : Xbu p0 = some r) : AC Tryz.prog 170 [.sv (.ints .i64 p0), .fn 217 []] [] (Xhi r) (Xhh r) := by
 refine Xag hT Tryz.func170 rfl fun C hC => ?_
 unfold Xbu at h
 refine Xac ?_
 refine kO hT hC ?_
 refine kN ?_
 refine kO hT hC ?_
 refine kC hC [(16, 208)] Tryz.call212 h (fun _ => Xr6) fun q1 h => ?_
 refine kO hT hC ?_
 refine Vc.nil (Xas (Xac ?_))
 refine kO hT hC ?_
 refine Vc.nil ?_
 refine kL [1,5,6] [208] [_,_,_] [_] ?_
 refine kX h (fun v4 => ([(6, .sv (.int .i64 v4.1))], [(208, some (.ints .i64 v4.2))])) (fun v7 => ([(6, .any)], [(208, some (.ints .i64 v7))])) (kW hC []) (fun v4 s h => ?_) fun v7 h => ?_
 unfold Xdz at h
 refine Xas (Xac ?_)
 iterate 2 refine kO hT hC ?_
 refine Vc.nil ?_
 refine kS h ?_ ?_ <;> intro b3 h
 refine kt b3 (Xaf (Xae (Xas (Xam ?_))))
 refine Xlj hm ?_
 iterate 3 refine kO hT hC ?_
 iterate 2 refine kQ hT hC h fun h => ?_
 iterate 3 refine kO hT hC ?_
 iterate 2 refine kQ hT hC h fun h => ?_
 iterate 3 refine kO hT hC ?_
 iterate 2 refine kQ hT hC h fun h => ?_
 iterate 3 refine kO hT hC ?_
 iterate 2 refine kQ hT hC h fun h => ?_
 refine kC hC [] Tryz.call217 h (fun _ => Xjm) fun q8 h => ?_
 iterate 2 refine kO hT hC ?_
 refine kD ?_
 refine Xdo hm ?_
 iterate 4 refine kO hT hC ?_
 refine kQ hT hC h fun h => ?_
 refine Ymb hT hC rfl rfl rfl rfl rfl rfl rfl rfl rfl ?_
 obtain ⟨hq, h⟩ := Xay h
 refine Yly hT hC rfl rfl rfl rfl rfl rfl rfl rfl rfl ⟨⟨trivial, hq.1⟩, hq.2⟩ ?_
 refine kD (Xap (Xae (Xab ?_)))
 iterate 3 refine kO hT hC ?_
 exact Vc.nil kG
 exact kf b3 (Xaq (Xaw ku))
 refine Xae (Xas (Xac ?_))
 refine kO hT hC ?_
 refine Vc.nil ?_
 refine kL [1,5,46] [208] [_,_,_] [_] ?_
 refine kX h (fun v17 => ([(46, .sv (.int .i64 v17.1))], [(208, some (.ints .i64 v17.2))])) (fun v25 => ([(1, .any), (46, .any)], [(208, some (.ints .i64 v25))])) (kW hC []) (fun v17 s h => ?_) fun v25 h => ?_
 unfold Xdq at h
 refine Xac ?_
 refine kO hT hC ?_
 refine Vc.nil (Xas ?_)
 refine kS h ?_ ?_ <;> intro b12 h
 refine kt b12 (Xaf (Xae (Xas (Xam (Xac ?_)))))
 iterate 2 refine kO hT hC ?_
 refine Vc.nil ?_
 refine Xlj hm ?_
 iterate 3 refine kO hT hC ?_
 iterate 2 refine kQ hT hC h fun h => ?_
 iterate 3 refine kO hT hC ?_
 iterate 2 refine kQ hT hC h fun h => ?_
 iterate 3 refine kO hT hC ?_
 iterate 2 refine kQ hT hC h fun h => ?_
 iterate 3 refine kO hT hC ?_
 iterate 2 refine kQ hT hC h fun h => ?_
 refine kC hC [] Tryz.call217 h (fun _ => Xjm) fun q26 h => ?_
 iterate 2 refine kO hT hC ?_
 refine kD (Xac ?_)
 iterate 2 refine kO hT hC ?_
 refine Vc.nil ?_
 refine kL [1,5,8,46,70,71] [208] [_,_,_,_,_,_] [_] ?_
 refine kX h (fun v28 => ([(71, .sv (.int .i64 v28.1))], [(208, some (.ints .i64 v28.2))])) (fun v30 => ([(8, .any), (70, .any), (71, .any)], [(208, some (.ints .i64 v30))])) (kW hC []) (fun v28 s h => ?_) fun v30 h => ?_
 unfold Xdr at h
 refine Xac ?_
 refine kO hT hC ?_
 refine Vc.nil (Xas ?_)
 refine kS h ?_ ?_ <;> intro b15 h
 refine kt b15 (Xaf (Xae (Xas (Xam (Xac ?_)))))
 refine kO hT hC ?_
 obtain ⟨hq, h⟩ := Xay h
 refine Ymc hT hC rfl rfl rfl rfl rfl rfl rfl hq ?_
 iterate 2 refine kO hT hC ?_
 refine Vc.nil (Xab ?_)
 iterate 6 refine kO hT hC ?_
 iterate 2 refine kQ hT hC h fun h => ?_
 refine Vc.nil (Xap (Xae (Xab ?_)))
 iterate 2 refine kO hT hC ?_
 exact Vc.nil kG
 exact kf b15 (Xaq (Xaw ku))
 refine Xap (Xae (Xab ?_))
 iterate 2 refine kO hT hC ?_
 exact Vc.nil kG
 exact kf b12 (Xaq (Xaw ku))
 refine Xae (Xac ?_)
 iterate 2 refine kO hT hC ?_
 refine Vc.nil (Xah ?_)
 obtain rfl := kj h
 exact Xcw (τ := ⟨[(4, .own 16)], [(16, some (.ints .i64 v25))]⟩) (kW hC [(16, 208)]) rfl ⟨rfl, trivial⟩
def Xqo (r : (List Int)) : AV := .own 16
def Xqn (r : (List Int)) : Xa5 := [(16, .ints .i64 r)]
theorem Xrx {p0 r} (h : Xgq p0 = some r) : AC Tryz.prog 179 [.sv (.ints .i64 p0)] [] (Xqo r) (Xqn r) := by
 refine Xag hT Tryz.func179 rfl fun C hC => ?_
 unfold Xgq at h
 refine Xac ?_
 refine kO hT hC ?_
 refine Vc.nil (Xas (Xac ?_))
 refine kO hT hC ?_
 refine kC hC [] Tryz.call59 h (fun _ => Xfc) fun q1 h => ?_
 refine kO hT hC ?_
 refine Vc.nil ?_
 refine kS h ?_ ?_ <;> intro b1 h
 refine kt b1 (Xac ?_)
 iterate 2 refine kO hT hC ?_
 refine Vc.nil (Xah (Xat ?_))
 obtain rfl := kj h
 exact Xcw (τ := ⟨[(2, .own 16)], [(16, some (.ints .i64 ([] : List Int)))]⟩) (kW hC [(16, 96)]) rfl ⟨rfl, trivial⟩
 refine kf b1 (Xaf (Xae (Xac ?_)))
 refine kO hT hC ?_
 refine kC hC [(16, 128)] Tryz.call170 h (fun _ => Xh6) fun q2 h => ?_
 refine kC hC [(0, 128)] Tryz.call215 h (fun _ => Xl9) fun q3 h => ?_
 refine kO hT hC ?_
 refine Vc.nil (Xah ?_)
 obtain rfl := kj h
 exact Xcw (τ := ⟨[(2, .own 16)], [(16, some (.ints .i64 q3.2))]⟩) (kW hC [(16, 128)]) rfl ⟨rfl, trivial⟩
def Xr9 (r : (List Int)) : AV := .own 16
def Xr8 (r : (List Int)) : Xa5 := [(16, .ints .i64 r)]
theorem Xuy {p0 r} (h : Xh5 p0 = some r) : AC Tryz.prog 114 [.sv (.int .i64 p0)] [] (Xr9 r) (Xr8 r) := by
 refine Xag hT Tryz.func114 rfl fun C hC => ?_
 unfold Xh5 at h
 refine Xac ?_
 refine kO hT hC ?_
 refine kN ?_
 iterate 2 refine kO hT hC ?_
 refine Vc.nil (Xas (Xac ?_))
 refine kO hT hC ?_
 refine Vc.nil ?_
 refine kL [0,3,7] [96] [_,_,_] [_] ?_
 refine kX h (fun v7 => ([(7, .sv (.int .i64 v7.1))], [(96, some (.ints .i64 v7.2))])) (fun v14 => ([(0, .any), (7, .any)], [(96, some (.ints .i64 v14))])) (kW hC []) (fun v7 s h => ?_) fun v14 h => ?_
 unfold Xfz at h
 refine Xac ?_
 refine kO hT hC ?_
 refine Vc.nil (Xas ?_)
 refine kS h ?_ ?_ <;> intro b9 h
 refine kt b9 (Xaf (Xae (Xas (Xam (Xac ?_)))))
 iterate 2 refine kO hT hC ?_
 refine kN ?_
 refine kO hT hC ?_
 refine Vc.nil ?_
 refine kL [0,3,4,7,10] [96] [_,_,_,_,_] [_] ?_
 refine kX h (fun v16 => ([(10, .sv (.int .i64 v16.1))], [(96, some (.ints .i64 v16.2))])) (fun v18 => ([(4, .any), (10, .any)], [(96, some (.ints .i64 v18))])) (kW hC []) (fun v16 s h => ?_) fun v18 h => ?_
 unfold Xih at h
 refine Xac ?_
 refine kO hT hC ?_
 refine Vc.nil (Xas ?_)
 refine kS h ?_ ?_ <;> intro b12 h
 refine kt b12 (Xaf (Xae (Xas (Xam (Xac ?_)))))
 iterate 2 refine kO hT hC ?_
 refine Vc.nil (Xab ?_)
 iterate 3 refine kO hT hC ?_
 refine kQ hT hC h fun h => ?_
 iterate 6 refine kO hT hC ?_
 refine kQ hT hC h fun h => ?_
 iterate 3 refine kO hT hC ?_
 refine kT hT hC h fun h => ?_
 refine kO hT hC ?_
 refine Vc.nil (Xap (Xae (Xab ?_)))
 iterate 2 refine kO hT hC ?_
 refine Vc.nil ?_
 obtain rfl := kj h
 exact Ycs (kW hC [(96, 432)])
 exact kf b12 (Xaq (Xaw ku))
 refine Xap (Xae (Xab ?_))
 iterate 2 refine kO hT hC ?_
 exact Vc.nil kG
 exact kf b9 (Xaq (Xaw ku))
 refine Xae (Xac ?_)
 iterate 2 refine kO hT hC ?_
 refine Vc.nil (Xah ?_)
 obtain rfl := kj h
 exact Xcw (τ := ⟨[(2, .own 16)], [(16, some (.ints .i64 v14))]⟩) (kW hC [(16, 96)]) rfl ⟨rfl, trivial⟩
def Xn6 (r : ((List Int) × Bool)) : AV := .tup [.own 16, .sv (.bool r.2)]
def Xn5 (r : ((List Int) × Bool)) : Xa5 := [(16, .ints .i64 r.1)]
theorem Xox {p0 p1 r} (h : Xeo p0 p1 = some r) : AC Tryz.prog 124 [.sv (.ints .i64 p0), .agg [.sv (.bool p1.Key), .sv (.int .i64 p1.Qp), .sv (.bool p1.Large), .sv (.bool p1.Exact)]] [] (Xn6 r) (Xn5 r) := by
 refine Xag hT Tryz.func124 rfl fun C hC => ?_
 unfold Xeo at h
 refine Xac ?_
 iterate 3 refine kO hT hC ?_
 refine Vc.nil (Xas ?_)
 refine kL [0,3] [48] [_,_] [_] ?_
 refine kA h (fun v1 => ([(26, .sv (.bool v1))], [])) (fun v1 h => ?_) fun v1 h => ?_
 refine Xab ?_
 refine kO hT hC ?_
 refine kC hC [] Tryz.call174 h (fun _ => Xhf) fun q2 h => ?_
 iterate 2 refine kO hT hC ?_
 refine kS h ?_ ?_ <;> intro b1 h
 refine kI hT hC (kn b1) ?_
 refine kE hC (kn b1) [] Tryz.call60 h (fun _ => Xht) fun q3 h => ?_
 refine kI hT hC (kn b1) ?_
 refine kP hC false (kn b1) ?_
 exact Vc.nil kM
 iterate 3 refine kF hC (kn b1) ?_
 refine kP hC true (kn b1) ?_
 exact Vc.nil kM
 refine kS h ?_ ?_ <;> intro b2 h
 refine kt b2 (Xac ?_)
 iterate 3 refine kO hT hC ?_
 refine Vc.nil (Xah (Xat ?_))
 obtain rfl := kj h
 exact Xcw (τ := ⟨[(4, .own 16), (5, .sv (.bool false))], [(16, some (.ints .i64 ([] : List Int)))]⟩) (kW hC [(16, 432)]) rfl ⟨rfl, trivial⟩
 refine kf b2 (Xaf (Xae (Xas (Xac ?_))))
 iterate 2 refine kO hT hC ?_
 refine Vc.nil ?_
 refine kS h ?_ ?_ <;> intro b3 h
 refine kt b3 (Xac ?_)
 refine kO hT hC ?_
 refine kC hC [(16, 496)] Tryz.call175 h (fun _ => Xhe) fun q4 h => ?_
 iterate 4 refine kO hT hC ?_
 refine Vc.nil (Xah (Xat ?_))
 obtain rfl := kj h
 exact Xcw (τ := ⟨[(4, .own 16), (5, .sv (.bool q4.2))], [(16, some (.ints .i64 q4.1))]⟩) (kW hC [(16, 496)]) rfl ⟨rfl, trivial⟩
 refine kf b3 (Xaf (Xae (Xas (Xac ?_))))
 iterate 2 refine kO hT hC ?_
 refine Vc.nil ?_
 refine kS h ?_ ?_ <;> intro b4 h
 refine kt b4 (Xac ?_)
 refine kO hT hC ?_
 refine kC hC [(16, 608)] Tryz.call175 h (fun _ => Xhe) fun q5 h => ?_
 iterate 5 refine kO hT hC ?_
 refine Vc.nil (Xas (Xac ?_))
 iterate 3 refine kO hT hC ?_
 refine Vc.nil ?_
 refine kL [3,6,41,42,43] [48,608] [_,_,_,_,_] [_,_] ?_
 refine kX h (fun v8 => ([(43, .sv (.int .i64 v8.1))], [(608, some (.ints .i64 v8.2))])) (fun v11 => ([(3, .any), (41, .any), (42, .any), (43, .any)], [(608, some (.ints .i64 v11)), (48, none)])) (kW hC []) (fun v8 s h => ?_) fun v11 h => ?_
 unfold Xc6 at h
 refine Xac ?_
 refine kO hT hC ?_
 refine Vc.nil (Xas ?_)
 refine kS h ?_ ?_ <;> intro b7 h
 refine kt b7 (Xaf (Xae (Xas (Xam (Xac ?_)))))
 refine kO hT hC ?_
 iterate 2 refine kQ hT hC h fun h => ?_
 iterate 2 refine kO hT hC ?_
 refine Vc.nil (Xab ?_)
 iterate 5 refine kO hT hC ?_
 refine kC hC [] Tryz.call176 h (fun _ => Xqp) fun q12 h => ?_
 iterate 2 refine kQ hT hC h fun h => ?_
 refine Vc.nil (Xap (Xae (Xab ?_)))
 iterate 2 refine kO hT hC ?_
 exact Vc.nil kG
 exact kf b7 (Xaq (Xaw ku))
 refine Xae (Xac ?_)
 refine kO hT hC ?_
 refine kC hC [(16, 912)] Tryz.call177 h (fun _ => Xqm) fun q14 h => ?_
 iterate 2 refine kO hT hC ?_
 refine Vc.nil (Xah (Xat ?_))
 obtain rfl := kj h
 exact Xcw (τ := ⟨[(4, .own 16), (5, .sv (.bool true))], [(16, some (.ints .i64 q14))]⟩) (kW hC [(16, 912)]) rfl ⟨rfl, trivial⟩
 refine kf b4 (Xaf (Xae (Xac ?_)))
 obtain ⟨hq, h⟩ := Xay h
 refine Ybg hT hC rfl rfl rfl rfl ⟨hq.1, hq.2.1, hq.2.2, by decide⟩ ?_
 refine kO hT hC ?_
 refine Vc.nil (Xas (Xac ?_))
 refine kO hT hC ?_
 refine Vc.nil ?_
 refine kL [0,3,10,59] [48,928] [_,_,_,_] [_,_] ?_
 refine kX h (fun v32 => ([(59, .sv (.int .i64 v32.1))], [(928, some (.ints .i64 v32.2))])) (fun v50 => ([(0, .any), (3, .any), (59, .any)], [(928, some (.ints .i64 v50)), (48, none)])) (kW hC []) (fun v32 s h => ?_) fun v50 h => ?_
 unfold Xf4 at h
 refine Xac ?_
 refine kO hT hC ?_
 refine Vc.nil (Xas ?_)
 refine kS h ?_ ?_ <;> intro b22 h
 refine kt b22 (Xaf (Xae (Xas (Xam (Xac ?_)))))
 iterate 2 refine kO hT hC ?_
 refine kN ?_
 iterate 6 refine kO hT hC ?_
 refine kQ hT hC h fun h => ?_
 refine kC hC [(16, 1120)] Tryz.call175 h (fun _ => Xhe) fun q51 h => ?_
 iterate 5 refine kO hT hC ?_
 refine Vc.nil (Xas (Xac ?_))
 iterate 3 refine kO hT hC ?_
 refine Vc.nil ?_
 refine kL [0,3,10,11,12,59,73,74,75] [48,928,1120] [_,_,_,_,_,_,_,_,_] [_,_,_] ?_
 refine kX h (fun v54 => ([(75, .sv (.int .i64 v54.1))], [(1120, some (.ints .i64 v54.2))])) (fun v57 => ([(73, .any), (74, .any), (75, .any)], [(1120, some (.ints .i64 v57))])) (kW hC []) (fun v54 s h => ?_) fun v57 h => ?_
 unfold Xc0 at h
 refine Xac ?_
 refine kO hT hC ?_
 refine Vc.nil (Xas ?_)
 refine kS h ?_ ?_ <;> intro b25 h
 refine kt b25 (Xaf (Xae (Xas (Xam (Xac ?_)))))
 refine kO hT hC ?_
 iterate 2 refine kQ hT hC h fun h => ?_
 iterate 2 refine kO hT hC ?_
 refine Vc.nil (Xab ?_)
 iterate 6 refine kO hT hC ?_
 refine kC hC [] Tryz.call178 h (fun _ => Xqr) fun q58 h => ?_
 iterate 2 refine kQ hT hC h fun h => ?_
 refine Vc.nil (Xap (Xae (Xab ?_)))
 iterate 2 refine kO hT hC ?_
 exact Vc.nil kG
 exact kf b25 (Xaq (Xaw ku))
 refine Xae (Xac ?_)
 refine kO hT hC ?_
 refine kC hC [(16, 1440)] Tryz.call179 h (fun _ => Xrx) fun q60 h => ?_
 refine kO hT hC ?_
 refine kN ?_
 refine kO hT hC ?_
 refine kC hC [(16, 1472)] Tryz.call114 h (fun _ => Xuy) fun q61 h => ?_
 iterate 2 refine kO hT hC ?_
 refine Vc.nil ?_
 refine kL [0,3,10,16,59,92,93,94] [48,928,1440,1472] [_,_,_,_,_,_,_,_] [_,_,_,_] ?_
 refine kX h (fun v63 => ([(94, .sv (.int .i64 v63.1))], [(928, some (.ints .i64 v63.2))])) (fun v65 => ([(16, .any), (92, .any), (93, .any), (94, .any)], [(928, some (.ints .i64 v65)), (1440, none), (1472, none)])) (kW hC []) (fun v63 s h => ?_) fun v65 h => ?_
 unfold Xd6 at h
 refine Xac ?_
 refine kO hT hC ?_
 refine Vc.nil (Xas ?_)
 refine kS h ?_ ?_ <;> intro b28 h
 refine kt b28 (Xaf (Xae (Xas (Xam (Xac ?_)))))
 refine kO hT hC ?_
 iterate 2 refine kQ hT hC h fun h => ?_
 iterate 2 refine kO hT hC ?_
 refine Vc.nil (Xab ?_)
 iterate 4 refine kO hT hC ?_
 iterate 4 refine kQ hT hC h fun h => ?_
 refine Vc.nil (Xap (Xae (Xab ?_)))
 iterate 2 refine kO hT hC ?_
 exact Vc.nil kG
 exact kf b28 (Xaq (Xaw ku))
 refine Xap (Xae (Xab ?_))
 iterate 2 refine kO hT hC ?_
 exact Vc.nil kG
 exact kf b22 (Xaq (Xaw ku))
 refine Xae (Xac ?_)
 iterate 3 refine kO hT hC ?_
 refine Vc.nil (Xah ?_)
 obtain rfl := kj h
 exact Xcw (τ := ⟨[(4, .own 16), (5, .sv (.bool true))], [(16, some (.ints .i64 v50))]⟩) (kW hC [(16, 928)]) rfl ⟨rfl, trivial⟩
def Xuf (r : (List Int)) : AV := .own 16
def Xue (r : (List Int)) : Xa5 := [(16, .ints .i64 r)]
theorem Xnb {p0 p1 r} (h : Xhb p0 p1 = some r) : AC Tryz.prog 125 [.sv (.ints .i64 p0), .sv (.ints .i64 p1)] [] (Xuf r) (Xue r) := by
 refine Xag hT Tryz.func125 rfl fun C hC => ?_
 unfold Xhb at h
 refine Xac ?_
 refine kO hT hC ?_
 refine kN ?_
 iterate 2 refine kO hT hC ?_
 refine Vc.nil (Xas ?_)
 refine kL [0,1,5] [128] [_,_,_] [_] ?_
 refine kA h (fun v1 => ([(16, .sv (.bool v1))], [])) (fun v1 h => ?_) fun v1 h => ?_
 refine Xab ?_
 refine kO hT hC ?_
 refine kC hC [] Tryz.call59 h (fun _ => Xfc) fun q2 h => ?_
 iterate 2 refine kO hT hC ?_
 refine kS h ?_ ?_ <;> intro b1 h
 refine kI hT hC (kn b1) ?_
 refine kE hC (kn b1) [] Tryz.call59 h (fun _ => Xfc) fun q3 h => ?_
 refine kI hT hC (kn b1) ?_
 refine kP hC false (kn b1) ?_
 exact Vc.nil kM
 iterate 3 refine kF hC (kn b1) ?_
 refine kP hC true (kn b1) ?_
 exact Vc.nil kM
 refine kS h ?_ ?_ <;> intro b2 h
 refine kt b2 (Xac ?_)
 iterate 2 refine kO hT hC ?_
 refine Vc.nil (Xah (Xat ?_))
 obtain rfl := kj h
 exact Xcw (τ := ⟨[(4, .own 16)], [(16, some (.ints .i64 ([] : List Int)))]⟩) (kW hC [(16, 128)]) rfl ⟨rfl, trivial⟩
 refine kf b2 (Xaf (Xae (Xas (Xac ?_))))
 iterate 3 refine kO hT hC ?_
 refine Vc.nil ?_
 refine kL [1,5,18,19,20] [128] [_,_,_,_,_] [_] ?_
 refine kX h (fun v6 => ([(20, .sv (.int .i64 v6.1))], [(128, some (.ints .i64 v6.2))])) (fun v9 => ([(1, .any), (18, .any), (19, .any), (20, .any)], [(128, some (.ints .i64 v9))])) (kW hC []) (fun v6 s h => ?_) fun v9 h => ?_
 unfold Xhu at h
 refine Xac ?_
 refine kO hT hC ?_
 refine Vc.nil (Xas ?_)
 refine kS h ?_ ?_ <;> intro b5 h
 refine kt b5 (Xaf (Xae (Xas (Xam (Xac ?_)))))
 refine kO hT hC ?_
 refine kQ hT hC h fun h => ?_
 iterate 3 refine kO hT hC ?_
 refine Vc.nil (Xab ?_)
 iterate 4 refine kO hT hC ?_
 refine kQ hT hC h fun h => ?_
 iterate 2 refine kO hT hC ?_
 refine kC hC [] Tryz.call119 h (fun _ => Xgn) fun q10 h => ?_
 refine kO hT hC ?_
 refine kT hT hC h fun h => ?_
 refine kO hT hC ?_
 refine Vc.nil (Xap (Xae (Xab ?_)))
 iterate 2 refine kO hT hC ?_
 refine Vc.nil ?_
 obtain rfl := kj h
 exact Ycs (kW hC [(128, 544)])
 exact kf b5 (Xaq (Xaw ku))
 refine Xae (Xac ?_)
 iterate 2 refine kO hT hC ?_
 refine Vc.nil (Xah ?_)
 obtain rfl := kj h
 exact Xcw (τ := ⟨[(4, .own 16)], [(16, some (.ints .i64 v9))]⟩) (kW hC [(16, 128)]) rfl ⟨rfl, trivial⟩
def Xrw (r : (Xha × Bool)) : AV := .tup [.agg [.own 16, .own 17, .sv (.int .i64 r.1.Corner)], .sv (.bool r.2)]
def Xrv (r : (Xha × Bool)) : Xa5 := [(16, .ints .i64 r.1.Above), (17, .ints .i64 r.1.Left)]
theorem Xub {p0 p1 p2 r} (h : Xh1 p0 p1 p2 = some r) : AC Tryz.prog 62 [.agg [.sv (.int .i64 p0.Wide), .sv (.int .i64 p0.High), .sv (.str p0.Dots)], .sv (.int .i64 p1), .sv (.int .i64 p2)] [] (Xrw r) (Xrv r) := by
 refine Xag hT Tryz.func62 rfl fun C hC => ?_
 unfold Xh1 at h
 refine Xac ?_
 iterate 3 refine kO hT hC ?_
 refine Vc.nil (Xas ?_)
 refine kL [1,2,3,6] [48,96] [_,_,_,_] [_,_] ?_
 refine kA h (fun v1 => ([(19, .sv (.bool v1))], [])) (fun v1 h => ?_) fun v1 h => ?_
 refine Xab ?_
 refine kO hT hC ?_
 refine kC hC [] Tryz.call57 h (fun _ => Xgr) fun q2 h => ?_
 iterate 2 refine kO hT hC ?_
 refine kS h ?_ ?_ <;> intro b1 h
 iterate 3 refine kI hT hC (kn b1) ?_
 refine kE hC (kn b1) [] Tryz.call58 h (fun _ => Xin) fun q3 h => ?_
 refine kI hT hC (kn b1) ?_
 refine kP hC false (kn b1) ?_
 exact Vc.nil kM
 iterate 5 refine kF hC (kn b1) ?_
 refine kP hC true (kn b1) ?_
 exact Vc.nil kM
 refine kS h ?_ ?_ <;> intro b2 h
 refine kt b2 (Xac ?_)
 iterate 3 refine kO hT hC ?_
 refine Vc.nil (Xah (Xat ?_))
 obtain rfl := kj h
 refine Xcw (τ := ⟨[(6, .ptr 2000000 0), (7, .sv (.bool false))], [(16, some (.ints .i64 [])), (17, some (.ints .i64 [])), (2000000, some (.box [.own 16, .own 17, .sv (.int .i64 0)]))]⟩) ?_ rfl ⟨rfl, rfl, trivial⟩
 refine Xji hC 96 0 1105 (.ints .i64 []) rfl rfl rfl rfl rfl trivial ?_
 refine Xji hC 96 1 1106 (.ints .i64 []) rfl rfl rfl rfl rfl trivial ?_
 apply Xcv hC [(16, 1105), (17, 1106), (2000000, 96)]
 exact co
 rfl
 decide
 rfl
 refine kf b2 (Xaf (Xae (Xac ?_)))
 iterate 3 refine kO hT hC ?_
 refine Vc.nil (Xas (Xac ?_))
 refine kO hT hC ?_
 refine Vc.nil ?_
 refine kL [1,2,3,6,8,22] [48,96,128] [_,_,_,_,_,_] [_,_,_] ?_
 obtain ⟨v15, hl, h⟩ := Xbd h
 refine Yhd (fun v9 => ([(22, .sv (.int .i64 v9.1))], [(128, some (.box [.own 1129, .own 1130, .sv (.int .i64 (-1))])), (1129, some (.ints .i64 v9.2.1)), (1130, some (.ints .i64 v9.2.2))])) (fun v15 => ([(22, .any)], [(128, some (.box [.own 1133, .own 1134, .sv (.int .i64 (-1))])), (1133, some (.ints .i64 v15.1)), (1134, some (.ints .i64 v15.2))])) hl ?_ ?_ ?_
 refine Xji hC 128 0 1135 (.ints .i64 []) rfl rfl rfl rfl rfl trivial ?_
 refine Xji hC 128 1 1136 (.ints .i64 []) rfl rfl rfl rfl rfl trivial ?_
 try dsimp only
 apply Xcv hC [(1129, 1135), (1130, 1136)]
 exact co
 rfl
 decide
 rfl
 intro v9 s hs
 have h := hs
 unfold Xgp at h
 refine Xac ?_
 refine kO hT hC ?_
 refine Vc.nil (Xas ?_)
 refine kS h ?_ ?_ <;> intro b9 h
 refine kt b9 (Xaf (Xae ?_))
 refine kL [1,2,3,6,8,22] [48,96,128,1129,1130] [_,_,_,_,_,_] [_,_,_,_,_] ?_
 refine kA h (fun v16 => ([], [(1129, some (.ints .i64 v16.1)), (1130, some (.ints .i64 v16.2))])) (fun v16 h => ?_) fun v16 h => ?_
 refine Xam (Xac ?_)
 iterate 2 refine kO hT hC ?_
 refine Vc.nil ?_
 refine kL [1,2,3,6,8,9,22] [48,96,128,1129,1130] [_,_,_,_,_,_,_] [_,_,_,_,_] ?_
 refine kA h (fun v17 => ([], [(1129, some (.ints .i64 v17))])) (fun v17 h => ?_) fun v17 h => ?_
 refine Xac ?_
 iterate 2 refine kO hT hC ?_
 refine Vc.nil ?_
 refine kS h ?_ ?_ <;> intro b10 h
 refine kt b10 ?_
 refine Xdo hm ?_
 iterate 8 refine kO hT hC ?_
 refine kC hC [] Tryz.call108 h (fun _ => Xgs) fun q18 h => ?_
 refine kO hT hC ?_
 refine kT hT hC h fun h => ?_
 iterate 2 refine kO hT hC ?_
 refine kD ?_
 obtain rfl := kj h
 exact Xge (kW hC [(1129, 592)])
 exact kf b10 (Xaf kM)
 refine Xac ?_
 iterate 2 refine kO hT hC ?_
 refine Vc.nil ?_
 refine kS h ?_ ?_ <;> intro b11 h
 refine kt b11 ?_
 refine Xdo hm ?_
 iterate 8 refine kO hT hC ?_
 refine kC hC [] Tryz.call108 h (fun _ => Xgs) fun q19 h => ?_
 refine kO hT hC ?_
 refine kT hT hC h fun h => ?_
 iterate 2 refine kO hT hC ?_
 refine kD (Xap ?_)
 obtain rfl := kj h
 exact Xge (kW hC [(1130, 816)])
 exact kf b11 (Xaf (Xap kM))
 refine Xab ?_
 iterate 2 refine kO hT hC ?_
 exact Vc.nil kG
 refine kf b9 (Xaq (Xaw ?_))
 obtain rfl := kj h
 exact Ye1 (Yj9 (kW hC [(1133, 1129), (1134, 1130)]))
 refine Xae ?_
 refine kL [1,2,3,6,8] [48,96,128,1133,1134] [_,_,_,_,_] [_,_,_,_,_] ?_
 refine kA h (fun v21 => ([(1, .any), (2, .any), (3, .any)], [(128, some (.box [.own 1133, .own 1134, .sv (.int .i64 v21)])), (48, none)])) (fun v21 h => ?_) fun v21 h => ?_
 refine kL [1,2,3,6,8] [48,96,128,1133,1134] [_,_,_,_,_] [_,_,_,_,_] ?_
 refine kA h (fun v22 => ([(59, .sv (.bool v22))], [])) (fun v22 h => ?_) fun v22 h => ?_
 refine Xab ?_
 iterate 3 refine kO hT hC ?_
 refine kS h ?_ ?_ <;> intro b12 h
 iterate 2 refine kI hT hC b12 ?_
 refine kP hC true b12 ?_
 exact Vc.nil kM
 iterate 2 refine kF hC b12 ?_
 refine kP hC false b12 ?_
 exact Vc.nil kM
 refine kS h ?_ ?_ <;> intro b13 h
 refine kt b13 (Xab ?_)
 iterate 5 refine kO hT hC ?_
 refine kC hC [] Tryz.call108 h (fun _ => Xgs) fun q23 h => ?_
 iterate 2 refine kO hT hC ?_
 exact Vc.nil kM
 exact kf b13 (Xaf kM)
 refine Xac ?_
 iterate 3 refine kO hT hC ?_
 refine Vc.nil (Xah ?_)
 obtain rfl := kj h
 exact Xcw (τ := ⟨[(6, .ptr 2000000 0), (7, .sv (.bool true))], [(16, some (.ints .i64 v15.1)), (17, some (.ints .i64 v15.2)), (2000000, some (.box [.own 16, .own 17, .sv (.int .i64 v21)]))]⟩) (kW hC [(16, 1133), (17, 1134), (2000000, 96)]) rfl ⟨rfl, rfl, trivial⟩
def Xlh (r : Bool) : AV := .sv (.bool r)
def Xlg (r : Bool) : Xa5 := []
theorem Xuc {p0 r} (h : Xh2 p0 = some r) : AC Tryz.prog 109 [.agg [.sv (.ints .i64 p0.Above), .sv (.ints .i64 p0.Left), .sv (.int .i64 p0.Corner)]] [] (Xlh r) (Xlg r) := by
 refine Xag hT Tryz.func109 rfl fun C hC => ?_
 unfold Xh2 at h
 refine Xac ?_
 iterate 2 refine kO hT hC ?_
 refine Vc.nil (Xas (Xac ?_))
 iterate 7 refine kO hT hC ?_
 refine Vc.nil ?_
 refine kL [1,9,10,11] [16,144] [_,_,_,_] [_,_] ?_
 obtain ⟨o11, hl, h⟩ := Xbd h
 refine Xf5 (fun v4 => ([(11, .sv (.int .i64 v4))], [])) (fun v8 => ([(9, .any), (10, .any), (11, .any)], [(144, none)])) (fun r => Xl1 C T Tryz.f109.results.toList (Xlh r) (Xlg r)) hl ?_ ?_ ?_ ?_
 apply Xcv hC []
 exact co
 rfl
 decide
 rfl
 intro v4 s hs
 have h := hs
 unfold Xdp at h
 refine Xac ?_
 refine kO hT hC ?_
 refine Vc.nil (Xas ?_)
 refine kS h ?_ ?_ <;> intro b7 h
 refine kt b7 (Xaf (Xae (Xas (Xam (Xac ?_)))))
 iterate 2 refine kQ hT hC h fun h => ?_
 refine kO hT hC ?_
 refine Vc.nil ?_
 refine kL [1,4,9,10,11] [16,144] [_,_,_,_,_] [_,_] ?_
 refine kA h (fun v9 => ([(22, .sv (.bool v9)), (4, .any)], [])) (fun v9 h => ?_) fun v9 h => ?_
 refine Xab ?_
 iterate 4 refine kO hT hC ?_
 refine kS h ?_ ?_ <;> intro b8 h
 refine kI hT hC b8 ?_
 refine kE hC b8 [] Tryz.call59 h (fun _ => Xfc) fun q10 h => ?_
 refine kI hT hC b8 ?_
 refine kP hC true b8 ?_
 exact Vc.nil kM
 iterate 3 refine kF hC b8 ?_
 refine kP hC false b8 ?_
 exact Vc.nil kM
 refine kS h ?_ ?_ <;> intro b9 h
 refine kt b9 (Xac ?_)
 refine kO hT hC ?_
 refine Vc.nil (Xah (Xgj (Xat ?_)))
 obtain rfl := kj h
 refine Xna (Xm9 ?_)
 exact Xcw (Xif.refl _) rfl trivial
 refine kf b9 (Xaf (Xap (Xae (Xab ?_))))
 iterate 2 refine kO hT hC ?_
 exact Vc.nil kG
 exact kf b7 (Xaq (Xaw kb))
 intro v8 e
 subst e
 refine Xae (Xac ?_)
 iterate 2 refine kO hT hC ?_
 refine kC hC [] Tryz.call61 h (fun _ => Xak) fun q12 h => ?_
 refine kO hT hC ?_
 exact Vc.nil (Xah kR)
 intro r' σ' e hE
 subst e
 obtain rfl := kj h
 refine Xat ?_
 exact hE
def Xxi (r : Int) : AV := .sv (.int .i64 r)
def Xxh (r : Int) : Xa5 := []
theorem Xpj {p0 r} (h : Xgc p0 = some r) : AC Tryz.prog 117 [.sv (.ints .i64 p0)] [] (Xxi r) (Xxh r) := by
 refine Xag hT Tryz.func117 rfl fun C hC => ?_
 unfold Xgc at h
 refine Xac ?_
 refine kO hT hC ?_
 refine kN ?_
 refine kO hT hC ?_
 refine Vc.nil (Xas (Xac ?_))
 iterate 3 refine kO hT hC ?_
 refine Vc.nil ?_
 refine kL [3,6,7,8] [] [_,_,_,_] [] ?_
 refine kX h (fun v2 => ([(3, .sv (.int .i64 v2.1)), (8, .sv (.int .i64 v2.2))], [])) (fun v4 => ([(3, .sv (.int .i64 v4)), (6, .any), (7, .any), (8, .any)], [])) (kW hC []) (fun v2 s h => ?_) fun v4 h => ?_
 unfold Xk3 at h
 refine Xac ?_
 refine kO hT hC ?_
 refine Vc.nil (Xas ?_)
 refine kS h ?_ ?_ <;> intro b3 h
 refine kt b3 (Xaf (Xae (Xas (Xam (Xac ?_)))))
 refine kQ hT hC h fun h => ?_
 iterate 2 refine kO hT hC ?_
 refine Vc.nil (Xab ?_)
 iterate 4 refine kO hT hC ?_
 refine Vc.nil (Xap (Xae (Xab ?_)))
 iterate 2 refine kO hT hC ?_
 exact Vc.nil kG
 exact kf b3 (Xaq (Xaw ku))
 refine Xae (Xac ?_)
 iterate 2 refine kO hT hC ?_
 exact Vc.nil (Xah kR)
def Xux (r : (List Int)) : AV := .sv (.ints .i64 r)
def Xuw (r : (List Int)) : Xa5 := []
theorem Xnh {p0 r} (h : Xhg p0 = some r) : AC Tryz.prog 118 [.sv (.ints .i64 p0)] [] (Xux r) (Xuw r) := by
 refine Xag hT Tryz.func118 rfl fun C hC => ?_
 unfold Xhg at h
 refine Xac ?_
 refine kO hT hC ?_
 refine Vc.nil (Xas (Xac ?_))
 iterate 3 refine kO hT hC ?_
 refine Vc.nil ?_
 refine kS h ?_ ?_ <;> intro b1 h
 refine kt b1 (Xac ?_)
 iterate 2 refine kO hT hC ?_
 refine Vc.nil (Xah (Xat ?_))
 obtain rfl := kj h
 exact Xcw (τ := ⟨[(2, .sv (.ints .i64 ([128, 128, 128, 128, 128, 128, 128, 128])))], []⟩) (kW hC []) rfl trivial
 refine kf b1 (Xaf (Xae (Xac ?_)))
 iterate 2 refine kO hT hC ?_
 exact Vc.nil (Xah kR)
def Xrz (r : (List Int)) : AV := .own 16
def Xry (r : (List Int)) : Xa5 := [(16, .ints .i64 r)]
theorem Xud {p0 p1 r} (h : Xga p0 p1 = some r) : AC Tryz.prog 66 [.sv (.int .i64 p0), .agg [.sv (.ints .i64 p1.Above), .sv (.ints .i64 p1.Left), .sv (.int .i64 p1.Corner)]] [] (Xrz r) (Xry r) := by
 refine Xag hT Tryz.func66 rfl fun C hC => ?_
 unfold Xga at h
 refine Xac ?_
 iterate 2 refine kO hT hC ?_
 refine kN ?_
 iterate 2 refine kO hT hC ?_
 refine Vc.nil (Xas ?_)
 refine kL [0,3,5] [48,208] [_,_,_] [_,_] ?_
 refine kA h (fun v1 => ([(21, .sv (.bool v1))], [])) (fun v1 h => ?_) fun v1 h => ?_
 refine Xab ?_
 refine kO hT hC ?_
 refine kC hC [] Tryz.call109 h (fun _ => Xuc) fun q2 h => ?_
 iterate 2 refine kO hT hC ?_
 refine kS h ?_ ?_ <;> intro b1 h
 refine kI hT hC (kn b1) ?_
 refine kE hC (kn b1) [] Tryz.call61 h (fun _ => Xak) fun q3 h => ?_
 refine kI hT hC (kn b1) ?_
 refine kP hC false (kn b1) ?_
 exact Vc.nil kM
 iterate 3 refine kF hC (kn b1) ?_
 refine kP hC true (kn b1) ?_
 exact Vc.nil kM
 refine kS h ?_ ?_ <;> intro b2 h
 refine kt b2 (Xac ?_)
 iterate 2 refine kO hT hC ?_
 refine Vc.nil (Xah (Xat ?_))
 obtain rfl := kj h
 exact Xcw (τ := ⟨[(4, .own 16)], [(16, some (.ints .i64 ([] : List Int)))]⟩) (kW hC [(16, 208)]) rfl ⟨rfl, trivial⟩
 refine kf b2 (Xaf (Xae (Xac ?_)))
 refine kO hT hC ?_
 refine Vc.nil ?_
 refine kL [0,3,5,6] [48,208] [_,_,_,_] [_,_] ?_
 refine kA h (fun v4 => ([(6, .sv (.int .i64 v4))], [])) (fun v4 h => ?_) fun v4 h => ?_
 refine Xac ?_
 iterate 8 refine kO hT hC ?_
 refine kN ?_
 iterate 2 refine kO hT hC ?_
 refine Vc.nil ?_
 refine kS h ?_ ?_ <;> intro b3 h
 refine kt b3 ?_
 refine Xdo hm ?_
 iterate 2 refine kO hT hC ?_
 refine kC hC [] Tryz.call117 h (fun _ => Xpj) fun q5 h => ?_
 iterate 2 refine kO hT hC ?_
 refine kC hC [] Tryz.call117 h (fun _ => Xpj) fun q6 h => ?_
 iterate 2 refine kO hT hC ?_
 refine kQ hT hC h fun h => ?_
 iterate 2 refine kO hT hC ?_
 refine kQ hT hC h fun h => ?_
 refine kO hT hC ?_
 exact kD kM
 exact kf b3 (Xaf kM)
 refine Xlj hm ?_
 iterate 2 refine kO hT hC ?_
 refine kC hC [] Tryz.call118 h (fun _ => Xnh) fun q7 h => ?_
 iterate 2 refine kO hT hC ?_
 refine kC hC [] Tryz.call118 h (fun _ => Xnh) fun q8 h => ?_
 iterate 5 refine kO hT hC ?_
 refine kD ?_
 refine kL [0,5,6,8,9,10] [208] [_,_,_,_,_,_] [_] ?_
 refine kA h (fun v9 => ([(10, .sv (.int .i64 v9))], [])) (fun v9 h => ?_) fun v9 h => ?_
 refine Xac ?_
 iterate 2 refine kO hT hC ?_
 refine Vc.nil ?_
 refine kS h ?_ ?_ <;> intro b4 h
 refine kt b4 (Xab ?_)
 refine kO hT hC ?_
 exact Vc.nil kM
 exact kf b4 (Xaf kM)
 refine Xas (Xac ?_)
 refine kO hT hC ?_
 refine Vc.nil ?_
 refine kL [0,5,6,8,9,10,54] [208] [_,_,_,_,_,_,_] [_] ?_
 refine kX h (fun v22 => ([(54, .sv (.int .i64 v22.1))], [(208, some (.ints .i64 v22.2))])) (fun v35 => ([(0, .any), (6, .any), (8, .any), (9, .any), (10, .any), (54, .any)], [(208, some (.ints .i64 v35))])) (kW hC []) (fun v22 s h => ?_) fun v35 h => ?_
 unfold Xig at h
 refine Xac ?_
 refine kO hT hC ?_
 refine Vc.nil (Xas ?_)
 refine kS h ?_ ?_ <;> intro b31 h
 refine kt b31 (Xaf (Xae (Xas (Xam (Xac ?_)))))
 iterate 2 refine kO hT hC ?_
 refine kN ?_
 refine kO hT hC ?_
 refine Vc.nil ?_
 refine kL [0,5,6,8,9,10,11,54,57] [208] [_,_,_,_,_,_,_,_,_] [_] ?_
 refine kX h (fun v39 => ([(57, .sv (.int .i64 v39.1))], [(208, some (.ints .i64 v39.2))])) (fun v43 => ([(11, .any), (57, .any)], [(208, some (.ints .i64 v43))])) (kW hC []) (fun v39 s h => ?_) fun v43 h => ?_
 unfold Xea at h
 refine Xac ?_
 refine kO hT hC ?_
 refine Vc.nil (Xas ?_)
 refine kS h ?_ ?_ <;> intro b40 h
 refine kt b40 (Xaf (Xae ?_))
 refine kL [0,5,6,8,9,10,11,54,57] [208] [_,_,_,_,_,_,_,_,_] [_] ?_
 refine kA h (fun v44 => ([(5, .own 1700)], [(1700, some (.ints .i64 v44)), (208, none)])) (fun v44 h => ?_) fun v44 h => ?_
 refine Xam (Xac ?_)
 iterate 2 refine kO hT hC ?_
 refine kN ?_
 refine kO hT hC ?_
 refine Vc.nil (Xam (Xac ?_))
 iterate 2 refine kO hT hC ?_
 refine Vc.nil ?_
 refine kS h ?_ ?_ <;> intro b41 h
 refine kt b41 (Xab ?_)
 iterate 3 refine kO hT hC ?_
 refine kT hT hC h fun h => ?_
 refine kO hT hC ?_
 refine Vc.nil ?_
 iterate 2 refine Xap ?_
 obtain rfl := kj h
 exact Xge (kW hC [(1700, 1296)])
 refine kf b41 (Xac ?_)
 iterate 2 refine kO hT hC ?_
 refine Vc.nil ?_
 refine kS h ?_ ?_ <;> intro b42 h
 refine kt b42 (Xab ?_)
 iterate 3 refine kO hT hC ?_
 refine kQ hT hC h fun h => ?_
 iterate 2 refine kO hT hC ?_
 refine kT hT hC h fun h => ?_
 refine kO hT hC ?_
 refine Vc.nil ?_
 iterate 2 refine Xap ?_
 obtain rfl := kj h
 exact Xge (kW hC [(1700, 1440)])
 refine kf b42 (Xac ?_)
 iterate 2 refine kO hT hC ?_
 refine Vc.nil ?_
 refine kS h ?_ ?_ <;> intro b43 h
 refine kt b43 (Xab ?_)
 iterate 3 refine kO hT hC ?_
 refine kQ hT hC h fun h => ?_
 iterate 2 refine kO hT hC ?_
 refine kT hT hC h fun h => ?_
 refine kO hT hC ?_
 refine Vc.nil ?_
 iterate 2 refine Xap ?_
 obtain rfl := kj h
 exact Xge (kW hC [(1700, 1584)])
 refine kf b43 ?_
 refine Xdo hm ?_
 iterate 3 refine kO hT hC ?_
 refine kQ hT hC h fun h => ?_
 iterate 3 refine kO hT hC ?_
 refine kQ hT hC h fun h => ?_
 iterate 4 refine kO hT hC ?_
 refine kC hC [] Tryz.call119 h (fun _ => Xgn) fun q45 h => ?_
 refine kO hT hC ?_
 refine kT hT hC h fun h => ?_
 refine kO hT hC ?_
 refine kD ?_
 iterate 2 refine Xap ?_
 obtain rfl := kj h
 exact Xge (kW hC [(1700, 1200)])
 refine Xab ?_
 iterate 2 refine kO hT hC ?_
 refine Vc.nil ?_
 obtain rfl := kj h
 exact Ycs (kW hC [(208, 1700)])
 exact kf b40 (Xaq (Xaw ku))
 refine Xap (Xae (Xab ?_))
 iterate 2 refine kO hT hC ?_
 exact Vc.nil kG
 exact kf b31 (Xaq (Xaw ku))
 refine Xae (Xac ?_)
 iterate 2 refine kO hT hC ?_
 refine Vc.nil (Xah ?_)
 obtain rfl := kj h
 exact Xcw (τ := ⟨[(4, .own 16)], [(16, some (.ints .i64 v35))]⟩) (kW hC [(16, 208)]) rfl ⟨rfl, trivial⟩
def Xn8 (r : ((List Int) × Bool)) : AV := .tup [.own 16, .sv (.bool r.2)]
def Xn7 (r : ((List Int) × Bool)) : Xa5 := [(16, .ints .i64 r.1)]
theorem Xo6 {p0 p1 p2 p3 p4 p5 p6 p7 r} (h : Xcd p0 p1 p2 p3 p4 p5 p6 p7 = some r) : AC Tryz.prog 70 [.agg [.sv (.int .i64 p0.Wide), .sv (.int .i64 p0.High), .sv (.str p0.Dots)], .agg [.sv (.int .i64 p1.Wide), .sv (.int .i64 p1.High), .sv (.str p1.Dots)], .sv (.int .i64 p2), .sv (.int .i64 p3), .agg [.sv (.bool p4.Key), .sv (.int .i64 p4.Qp), .sv (.bool p4.Large), .sv (.bool p4.Exact)], .sv (.int .i64 p5), .sv (.int .i64 p6), .agg [.sv (.int .i64 p7.Kind), .sv (.int .i64 p7.Mode), .sv (.int .i64 p7.Dx), .sv (.int .i64 p7.Dy), .sv (.ints .i64 p7.Levels)]] [] (Xn8 r) (Xn7 r) := by
 refine Xag hT Tryz.func70 rfl fun C hC => ?_
 unfold Xcd at h
 refine Xac ?_
 iterate 6 refine kO hT hC ?_
 refine Vc.nil (Xas ?_)
 refine kL [2,3,5,6,8,9,12,15] [128,144,192,240] [_,_,_,_,_,_,_,_] [_,_,_,_] ?_
 refine kA h (fun v1 => ([(67, .sv (.bool v1))], [])) (fun v1 h => ?_) fun v1 h => ?_
 refine Xab ?_
 refine kO hT hC ?_
 refine kC hC [] Tryz.call57 h (fun _ => Xgr) fun q2 h => ?_
 iterate 2 refine kO hT hC ?_
 refine kS h ?_ ?_ <;> intro b1 h
 iterate 3 refine kI hT hC (kn b1) ?_
 refine kE hC (kn b1) [] Tryz.call58 h (fun _ => Xin) fun q3 h => ?_
 refine kI hT hC (kn b1) ?_
 refine kP hC false (kn b1) ?_
 refine kO hT hC ?_
 refine kS h ?_ ?_ <;> intro b2 h
 refine kI hT hC (kn b2) ?_
 refine kE hC (kn b2) [] Tryz.call61 h (fun _ => Xak) fun q4 h => ?_
 refine kI hT hC (kn b2) ?_
 refine kP hC false (kn b2) ?_
 refine kO hT hC ?_
 refine kS h ?_ ?_ <;> intro b3 h
 refine kI hT hC (kn b3) ?_
 refine kE hC (kn b3) [] Tryz.call61 h (fun _ => Xak) fun q5 h => ?_
 refine kI hT hC (kn b3) ?_
 refine kP hC false (kn b3) ?_
 refine kO hT hC ?_
 refine kS h ?_ ?_ <;> intro b4 h
 refine kI hT hC (kn b4) ?_
 refine kE hC (kn b4) [] Tryz.call122 h (fun _ => Xli) fun q6 h => ?_
 refine kI hT hC (kn b4) ?_
 refine kP hC false (kn b4) ?_
 refine kO hT hC ?_
 refine kS h ?_ ?_ <;> intro b5 h
 refine kI hT hC (kn b5) ?_
 refine kE hC (kn b5) [] Tryz.call60 h (fun _ => Xht) fun q7 h => ?_
 refine kI hT hC (kn b5) ?_
 refine kP hC false (kn b5) ?_
 refine kO hT hC ?_
 refine kS h ?_ ?_ <;> intro b6 h
 iterate 2 refine kI hT hC (kn b6) ?_
 refine kE hC (kn b6) [] Tryz.call123 h (fun _ => Xo7) fun q8 h => ?_
 refine kI hT hC (kn b6) ?_
 refine kP hC false (kn b6) ?_
 refine kO hT hC ?_
 refine kS h ?_ ?_ <;> intro b7 h
 iterate 4 refine kI hT hC (kn b7) ?_
 refine kS h ?_ ?_ <;> intro b8 h
 refine kI hT hC b8 ?_
 refine kE hC b8 [] Tryz.call57 h (fun _ => Xgr) fun q9 h => ?_
 refine kI hT hC b8 ?_
 refine Xdd hC rfl rfl rfl rfl (kn b7) rfl rfl (b := true) b8 rfl rfl rfl trivial ?_
 refine kP hC false (kn b7) ?_
 exact Vc.nil kM
 iterate 3 refine kF hC b8 ?_
 refine Xdd hC rfl rfl rfl rfl (kn b7) rfl rfl (b := false) b8 rfl rfl rfl trivial ?_
 refine kP hC false (kn b7) ?_
 exact Vc.nil kM
 iterate 4 refine kF hC (kn b7) ?_
 iterate 3 refine Xkt hC rfl rfl rfl rfl rfl rfl ?_
 refine kF hC (kn b7) ?_
 refine kP hC true (kn b7) ?_
 exact Vc.nil kM
 iterate 4 refine kF hC (kn b6) ?_
 refine kP hC true (kn b6) ?_
 refine kO hT hC ?_
 iterate 4 refine kF hC rfl ?_
 iterate 3 refine Xkt hC rfl rfl rfl rfl rfl rfl ?_
 refine kF hC rfl ?_
 refine kO hT hC ?_
 exact Vc.nil kM
 iterate 3 refine kF hC (kn b5) ?_
 refine kP hC true (kn b5) ?_
 refine kO hT hC ?_
 iterate 4 refine kF hC rfl ?_
 iterate 2 refine kO hT hC ?_
 iterate 4 refine kF hC rfl ?_
 iterate 3 refine Xkt hC rfl rfl rfl rfl rfl rfl ?_
 refine kF hC rfl ?_
 refine kO hT hC ?_
 exact Vc.nil kM
 iterate 3 refine kF hC (kn b4) ?_
 refine kP hC true (kn b4) ?_
 refine kO hT hC ?_
 iterate 3 refine kF hC rfl ?_
 iterate 2 refine kO hT hC ?_
 iterate 4 refine kF hC rfl ?_
 iterate 2 refine kO hT hC ?_
 iterate 4 refine kF hC rfl ?_
 iterate 3 refine Xkt hC rfl rfl rfl rfl rfl rfl ?_
 refine kF hC rfl ?_
 refine kO hT hC ?_
 exact Vc.nil kM
 iterate 3 refine kF hC (kn b3) ?_
 refine kP hC true (kn b3) ?_
 refine kO hT hC ?_
 iterate 3 refine kF hC rfl ?_
 iterate 2 refine kO hT hC ?_
 iterate 3 refine kF hC rfl ?_
 iterate 2 refine kO hT hC ?_
 iterate 4 refine kF hC rfl ?_
 iterate 2 refine kO hT hC ?_
 iterate 4 refine kF hC rfl ?_
 iterate 3 refine Xkt hC rfl rfl rfl rfl rfl rfl ?_
 refine kF hC rfl ?_
 refine kO hT hC ?_
 exact Vc.nil kM
 iterate 3 refine kF hC (kn b2) ?_
 refine kP hC true (kn b2) ?_
 refine kO hT hC ?_
 iterate 3 refine kF hC rfl ?_
 iterate 2 refine kO hT hC ?_
 iterate 3 refine kF hC rfl ?_
 iterate 2 refine kO hT hC ?_
 iterate 3 refine kF hC rfl ?_
 iterate 2 refine kO hT hC ?_
 iterate 4 refine kF hC rfl ?_
 iterate 2 refine kO hT hC ?_
 iterate 4 refine kF hC rfl ?_
 iterate 3 refine Xkt hC rfl rfl rfl rfl rfl rfl ?_
 refine kF hC rfl ?_
 refine kO hT hC ?_
 exact Vc.nil kM
 iterate 5 refine kF hC (kn b1) ?_
 refine kP hC true (kn b1) ?_
 refine kO hT hC ?_
 iterate 3 refine kF hC rfl ?_
 iterate 2 refine kO hT hC ?_
 iterate 3 refine kF hC rfl ?_
 iterate 2 refine kO hT hC ?_
 iterate 3 refine kF hC rfl ?_
 iterate 2 refine kO hT hC ?_
 iterate 3 refine kF hC rfl ?_
 iterate 2 refine kO hT hC ?_
 iterate 4 refine kF hC rfl ?_
 iterate 2 refine kO hT hC ?_
 iterate 4 refine kF hC rfl ?_
 iterate 3 refine Xkt hC rfl rfl rfl rfl rfl rfl ?_
 refine kF hC rfl ?_
 refine kO hT hC ?_
 exact Vc.nil kM
 refine kS h ?_ ?_ <;> intro b9 h
 refine kt b9 (Xac ?_)
 iterate 3 refine kO hT hC ?_
 refine Vc.nil (Xah (Xat ?_))
 obtain rfl := kj h
 exact Xcw (τ := ⟨[(16, .own 16), (17, .sv (.bool false))], [(16, some (.ints .i64 ([] : List Int)))]⟩) (kW hC [(16, 1088)]) rfl ⟨rfl, trivial⟩
 refine kf b9 (Xaf (Xae (Xas (Xac ?_))))
 iterate 3 refine kO hT hC ?_
 refine Vc.nil ?_
 refine kS h ?_ ?_ <;> intro b10 h
 refine kt b10 (Xac ?_)
 iterate 7 refine kO hT hC ?_
 refine kC hC [(16, 1264)] Tryz.call68 h (fun _ => Xj3) fun q10 h => ?_
 iterate 2 refine kO hT hC ?_
 refine Vc.nil (Xah (Xat ?_))
 obtain rfl := kj h
 exact Xcw (τ := ⟨[(16, .own 16), (17, .sv (.bool true))], [(16, some (.ints .i64 q10))]⟩) (kW hC [(16, 1264)]) rfl ⟨rfl, trivial⟩
 refine kf b10 (Xaf (Xae (Xac ?_)))
 iterate 3 refine kO hT hC ?_
 refine kC hC [(16, 1344)] Tryz.call124 h (fun _ => Xox) fun q11 h => ?_
 iterate 5 refine kO hT hC ?_
 refine Vc.nil (Xas (Xac ?_))
 iterate 3 refine kO hT hC ?_
 refine Vc.nil ?_
 refine kS h ?_ ?_ <;> intro b11 h
 refine kt b11 (Xac ?_)
 iterate 13 refine kO hT hC ?_
 refine kC hC [(16, 1648)] Tryz.call68 h (fun _ => Xj3) fun q12 h => ?_
 refine kO hT hC ?_
 refine kC hC [(16, 1680)] Tryz.call125 h (fun _ => Xnb) fun q13 h => ?_
 iterate 2 refine kO hT hC ?_
 refine Vc.nil (Xah (Xat ?_))
 obtain rfl := kj h
 exact Xcw (τ := ⟨[(16, .own 16), (17, .sv (.bool true))], [(16, some (.ints .i64 q13))]⟩) (kW hC [(16, 1680)]) rfl ⟨rfl, trivial⟩
 refine kf b11 (Xaf (Xae (Xac ?_)))
 iterate 3 refine kO hT hC ?_
 refine kC hC [(16, 1760), (17, 1761)] Tryz.call62 h (fun _ => Xub) fun q14 h => ?_
 iterate 6 refine kO hT hC ?_
 refine kN ?_
 iterate 3 refine kO hT hC ?_
 refine kC hC [(16, 1856)] Tryz.call66 h (fun _ => Xud) fun q15 h => ?_
 refine kO hT hC ?_
 refine kC hC [(16, 1888)] Tryz.call125 h (fun _ => Xnb) fun q16 h => ?_
 iterate 2 refine kO hT hC ?_
 refine Vc.nil (Xah ?_)
 obtain rfl := kj h
 exact Xcw (τ := ⟨[(16, .own 16), (17, .sv (.bool true))], [(16, some (.ints .i64 q16))]⟩) (kW hC [(16, 1888)]) rfl ⟨rfl, trivial⟩
def Xz1 (r : (List Int)) : AV := .own 16
def Xz0 (r : (List Int)) : Xa5 := [(16, .ints .u8 r)]
theorem Yb7 {p0 r} (h : Xpd p0 = some r) : AC Tryz.prog 144 [.agg [.sv (.int .i64 p0.Wide), .sv (.int .i64 p0.High), .sv (.str p0.Dots)]] [] (Xz1 r) (Xz0 r) := by
 refine Xag hT Tryz.func144 rfl fun C hC => ?_
 unfold Xpd at h
 refine Xac ?_
 iterate 2 refine kO hT hC ?_
 refine kN ?_
 iterate 2 refine kO hT hC ?_
 refine kQ hT hC h fun h => ?_
 refine kO hT hC ?_
 refine Vc.nil (Xah ?_)
 obtain rfl := kj h
 exact Xcw (τ := ⟨[(2, .own 16)], [(16, some (.ints .u8 (Xcs p0.Dots)))]⟩) (kW hC [(16, 80)]) rfl ⟨rfl, trivial⟩
def Yb9 (r : Pic) : AV := .agg [.sv (.int .i64 r.Wide), .sv (.int .i64 r.High), .sv (.str r.Dots)]
def Yb8 (r : Pic) : Xa5 := []
theorem Ydn {p0 p1 p2 p3 r} (h : Xmv p0 p1 p2 p3 = some r) : AC Tryz.prog 95 [.agg [.sv (.int .i64 p0.Wide), .sv (.int .i64 p0.High), .sv (.str p0.Dots)], .sv (.int .i64 p1), .sv (.int .i64 p2), .sv (.ints .i64 p3)] [] (Yb9 r) (Yb8 r) := by
 refine Xag hT Tryz.func95 rfl fun C hC => ?_
 unfold Xmv at h
 refine Xac ?_
 iterate 2 refine kO hT hC ?_
 refine kN ?_
 refine kO hT hC ?_
 refine kC hC [(16, 208)] Tryz.call144 h (fun _ => Yb7) fun q1 h => ?_
 refine kO hT hC ?_
 refine Vc.nil (Xas (Xac ?_))
 iterate 3 refine kO hT hC ?_
 refine Vc.nil ?_
 refine kL [1,2,4,8,9,14,15,16] [64,128,208] [_,_,_,_,_,_,_,_] [_,_,_] ?_
 refine kX h (fun v3 => ([(16, .sv (.int .i64 v3.1))], [(208, some (.ints .u8 v3.2))])) (fun v5 => ([(1, .any), (2, .any), (14, .any), (15, .any), (16, .any)], [(208, some (.ints .u8 v5))])) (kW hC []) (fun v3 s h => ?_) fun v5 h => ?_
 unfold Xk2 at h
 refine Xac ?_
 refine kO hT hC ?_
 refine Vc.nil (Xas ?_)
 refine kS h ?_ ?_ <;> intro b3 h
 refine kt b3 (Xaf (Xae (Xas (Xam (Xac ?_)))))
 refine kO hT hC ?_
 refine kQ hT hC h fun h => ?_
 iterate 3 refine kO hT hC ?_
 refine Vc.nil (Xab ?_)
 iterate 3 refine kO hT hC ?_
 refine kQ hT hC h fun h => ?_
 iterate 7 refine kO hT hC ?_
 refine kQ hT hC h fun h => ?_
 iterate 3 refine kO hT hC ?_
 iterate 2 refine kQ hT hC h fun h => ?_
 refine Vc.nil (Xap (Xae (Xab ?_)))
 iterate 2 refine kO hT hC ?_
 exact Vc.nil kG
 exact kf b3 (Xaq (Xaw ku))
 refine Xae (Xac ?_)
 iterate 4 refine kO hT hC ?_
 refine kN ?_
 iterate 2 refine kO hT hC ?_
 exact Vc.nil (Xah kR)
def Xj8 (r : (Pic × Bool)) : AV := .tup [.agg [.sv (.int .i64 r.1.Wide), .sv (.int .i64 r.1.High), .sv (.str r.1.Dots)], .sv (.bool r.2)]
def Xj7 (r : (Pic × Bool)) : Xa5 := []
theorem Xr5 {p0 p1 p2 p3 p4 r} (h : Xgu p0 p1 p2 p3 p4 = some r) : AC Tryz.prog 49 [.agg [.sv (.int .i64 p0.Wide), .sv (.int .i64 p0.High), .sv (.str p0.Dots)], .agg [.sv (.int .i64 p1.Left), .sv (.int .i64 p1.Top), .sv (.int .i64 p1.Wide), .sv (.int .i64 p1.High)], .agg [.sv (.bool p2.Key), .sv (.int .i64 p2.Qp), .sv (.bool p2.Large), .sv (.bool p2.Exact)], .sv (.bool p3), .sv (Xcj.sv p4)] [] (Xj8 r) (Xj7 r) := by
 refine Xag hT Tryz.func49 rfl fun C hC => ?_
 unfold Xgu at h
 refine Xac ?_
 iterate 5 refine kO hT hC ?_
 refine Vc.nil (Xas ?_)
 refine kL [3,4,5,6,7,10] [80,96,112,160] [_,_,_,_,_,_] [_,_,_,_] ?_
 refine kA h (fun v1 => ([(59, .sv (.bool v1))], [])) (fun v1 h => ?_) fun v1 h => ?_
 refine Xab ?_
 iterate 2 refine kO hT hC ?_
 refine kC hC [] Tryz.call45 h (fun _ => Xhv) fun q2 h => ?_
 iterate 2 refine kO hT hC ?_
 refine kS h ?_ ?_ <;> intro b1 h
 iterate 2 refine kI hT hC (kn b1) ?_
 refine kE hC (kn b1) [] Tryz.call45 h (fun _ => Xhv) fun q3 h => ?_
 refine kI hT hC (kn b1) ?_
 refine kP hC false (kn b1) ?_
 refine kO hT hC ?_
 refine kS h ?_ ?_ <;> intro b2 h
 iterate 2 refine kI hT hC (kn b2) ?_
 refine kE hC (kn b2) [] Tryz.call61 h (fun _ => Xak) fun q4 h => ?_
 refine kI hT hC (kn b2) ?_
 refine kP hC false (kn b2) ?_
 refine kO hT hC ?_
 refine kS h ?_ ?_ <;> intro b3 h
 iterate 2 refine kI hT hC (kn b3) ?_
 refine kE hC (kn b3) [] Tryz.call61 h (fun _ => Xak) fun q5 h => ?_
 refine kI hT hC (kn b3) ?_
 refine kP hC false (kn b3) ?_
 refine kO hT hC ?_
 refine kS h ?_ ?_ <;> intro b4 h
 refine kI hT hC (kn b4) ?_
 refine kE hC (kn b4) [] Tryz.call60 h (fun _ => Xht) fun q6 h => ?_
 refine kI hT hC (kn b4) ?_
 refine kP hC false (kn b4) ?_
 refine kO hT hC ?_
 refine kS h ?_ ?_ <;> intro b5 h
 iterate 4 refine kI hT hC (kn b5) ?_
 refine kJ hT hC (kn b5) h fun h => ?_
 iterate 2 refine kI hT hC (kn b5) ?_
 refine kJ hT hC (kn b5) h fun h => ?_
 iterate 2 refine kI hT hC (kn b5) ?_
 refine kP hC false (kn b5) ?_
 exact Vc.nil kM
 iterate 10 refine kF hC (kn b5) ?_
 refine kP hC true (kn b5) ?_
 exact Vc.nil kM
 iterate 3 refine kF hC (kn b4) ?_
 refine kP hC true (kn b4) ?_
 refine kO hT hC ?_
 iterate 10 refine kF hC rfl ?_
 refine kO hT hC ?_
 exact Vc.nil kM
 iterate 4 refine kF hC (kn b3) ?_
 refine kP hC true (kn b3) ?_
 refine kO hT hC ?_
 iterate 3 refine kF hC rfl ?_
 iterate 2 refine kO hT hC ?_
 iterate 10 refine kF hC rfl ?_
 refine kO hT hC ?_
 exact Vc.nil kM
 iterate 4 refine kF hC (kn b2) ?_
 refine kP hC true (kn b2) ?_
 refine kO hT hC ?_
 iterate 4 refine kF hC rfl ?_
 iterate 2 refine kO hT hC ?_
 iterate 3 refine kF hC rfl ?_
 iterate 2 refine kO hT hC ?_
 iterate 10 refine kF hC rfl ?_
 refine kO hT hC ?_
 exact Vc.nil kM
 iterate 4 refine kF hC (kn b1) ?_
 refine kP hC true (kn b1) ?_
 refine kO hT hC ?_
 iterate 4 refine kF hC rfl ?_
 iterate 2 refine kO hT hC ?_
 iterate 4 refine kF hC rfl ?_
 iterate 2 refine kO hT hC ?_
 iterate 3 refine kF hC rfl ?_
 iterate 2 refine kO hT hC ?_
 iterate 10 refine kF hC rfl ?_
 refine kO hT hC ?_
 exact Vc.nil kM
 refine kS h ?_ ?_ <;> intro b6 h
 refine kt b6 (Xac ?_)
 iterate 3 refine kO hT hC ?_
 exact Vc.nil (Xah (Xat kR))
 refine kf b6 (Xaf (Xae (Xas ?_)))
 refine kL [3,4,5,6,7,10] [80,96,112,160] [_,_,_,_,_,_] [_,_,_,_] ?_
 refine kA h (fun v7 => ([(74, .sv (.bool v7))], [])) (fun v7 h => ?_) fun v7 h => ?_
 refine Xab ?_
 iterate 4 refine kO hT hC ?_
 refine kS h ?_ ?_ <;> intro b7 h
 iterate 4 refine kF hC (kn b7) ?_
 iterate 4 refine Xkt hC rfl rfl rfl rfl rfl rfl ?_
 refine kF hC (kn b7) ?_
 refine kP hC false (kn b7) ?_
 exact Vc.nil kM
 refine kI hT hC (kn b7) ?_
 refine kE hC (kn b7) [] Tryz.call57 h (fun _ => Xgr) fun q8 h => ?_
 iterate 2 refine kI hT hC (kn b7) ?_
 refine kS h ?_ ?_ <;> intro b8 h
 iterate 2 refine kI hT hC (kn b8) ?_
 refine kE hC (kn b8) [] Tryz.call92 h (fun _ => Xj4) fun q9 h => ?_
 refine kI hT hC (kn b8) ?_
 refine Xdd hC rfl rfl rfl rfl (kn b7) rfl rfl (b := false) (kn b8) rfl rfl rfl trivial ?_
 refine kP hC true (kn b7) ?_
 exact Vc.nil kM
 iterate 4 refine kF hC (kn b8) ?_
 refine Xdd hC rfl rfl rfl rfl (kn b7) rfl rfl (b := true) (kn b8) rfl rfl rfl trivial ?_
 refine kP hC true (kn b7) ?_
 exact Vc.nil kM
 refine kS h ?_ ?_ <;> intro b9 h
 refine kt b9 (Xac ?_)
 iterate 3 refine kO hT hC ?_
 exact Vc.nil (Xah (Xat kR))
 refine kf b9 (Xaf (Xae ?_))
 refine Xlj hm ?_
 iterate 6 refine kO hT hC ?_
 refine kD ?_
 refine kL [3,4,5,6,7,10,12,13] [80,96,112,160] [_,_,_,_,_,_,_,_] [_,_,_,_] ?_
 refine kA h (fun v10 => ([(12, .sv (.int .i64 v10.1)), (13, .sv (.int .i64 v10.2.1)), (3, .any)], [(80, some (.box [.sv (.int .i64 v10.2.2.1), .sv (.int .i64 v10.2.2.2.1), .sv (.str v10.2.2.2.2)]))])) (fun v10 h => ?_) fun v10 h => ?_
 refine Xac ?_
 refine kO hT hC ?_
 refine Vc.nil ?_
 refine kS h ?_ ?_ <;> intro b10 h
 refine kt b10 (Xac ?_)
 iterate 2 refine kO hT hC ?_
 refine kN ?_
 iterate 3 refine kO hT hC ?_
 refine Vc.nil ?_
 refine kS h ?_ ?_ <;> intro b11 h
 refine kt b11 (Xab ?_)
 iterate 2 refine kO hT hC ?_
 refine kC hC [] Tryz.call93 h (fun _ => Xzt) fun q11 h => ?_
 iterate 4 refine kO hT hC ?_
 exact Vc.nil kM
 exact kf b11 (Xaf kM)
 exact kf b10 (Xaf kM)
 refine Xac ?_
 iterate 4 refine kO hT hC ?_
 refine kC hC [] Tryz.call94 h (fun _ => Yb5) fun q12 h => ?_
 iterate 2 refine kO hT hC ?_
 refine Vc.nil (Xas (Xac ?_))
 iterate 3 refine kO hT hC ?_
 refine Vc.nil ?_
 refine kL [5,6,7,10,12,13,14,95,96,97] [80,96,112,160,224] [_,_,_,_,_,_,_,_,_,_] [_,_,_,_,_] ?_
 obtain ⟨o23, hl, h⟩ := Xbd h
 refine Xf5 (fun v16 => ([(97, .sv (.int .i64 v16.1))], [(224, some (.box [.sv (.int .i64 v16.2.1), .sv (.int .i64 v16.2.2.1), .sv (.str v16.2.2.2)]))])) (fun v20 => ([(5, .any), (6, .any), (7, .any), (12, .any), (13, .any), (95, .any), (96, .any), (97, .any)], [(224, some (.box [.sv (.int .i64 v20.1), .sv (.int .i64 v20.2.1), .sv (.str v20.2.2)])), (80, none), (96, none), (112, none)])) (fun r => Xl1 C T Tryz.f49.results.toList (Xj8 r) (Xj7 r)) hl ?_ ?_ ?_ ?_
 try dsimp only
 apply Xcv hC []
 exact co
 rfl
 decide
 rfl
 intro v16 s hs
 have h := hs
 unfold Xa8 at h
 refine Xac ?_
 refine kO hT hC ?_
 refine Vc.nil (Xas ?_)
 refine kS h ?_ ?_ <;> intro b16 h
 refine kt b16 (Xaf (Xae (Xas (Xam (Xac ?_)))))
 refine kO hT hC ?_
 refine kQ hT hC h fun h => ?_
 iterate 4 refine kO hT hC ?_
 refine Vc.nil ?_
 refine Xlj hm ?_
 iterate 3 refine kO hT hC ?_
 iterate 2 refine kQ hT hC h fun h => ?_
 iterate 4 refine kO hT hC ?_
 iterate 2 refine kQ hT hC h fun h => ?_
 iterate 3 refine kO hT hC ?_
 refine kD (Xac ?_)
 iterate 8 refine kO hT hC ?_
 refine kC hC [(16, 1968)] Tryz.call70 h (fun _ => Xo6) fun q21 h => ?_
 iterate 5 refine kO hT hC ?_
 refine Vc.nil (Xas (Xac ?_))
 iterate 2 refine kO hT hC ?_
 refine Vc.nil ?_
 refine kS h ?_ ?_ <;> intro b17 h
 refine kt b17 (Xac ?_)
 iterate 3 refine kO hT hC ?_
 refine Vc.nil (Xah (Xat (Xgj (Xat ?_))))
 obtain rfl := kj h
 refine Xna (Xm9 ?_)
 exact Xcw (Xif.refl _) rfl trivial
 refine kf b17 (Xaf (Xae (Xab ?_)))
 iterate 4 refine kO hT hC ?_
 refine kC hC [] Tryz.call95 h (fun _ => Ydn) fun q22 h => ?_
 refine kO hT hC ?_
 refine Vc.nil (Xap (Xae (Xab ?_)))
 iterate 2 refine kO hT hC ?_
 exact Vc.nil kG
 exact kf b16 (Xaq (Xaw kb))
 intro v20 e
 subst e
 refine Xae (Xac ?_)
 iterate 3 refine kO hT hC ?_
 exact Vc.nil (Xah kR)
 intro r' σ' e hE
 subst e
 obtain rfl := kj h
 refine Xat ?_
 exact hE
def Xoz (r : (Pic × Bool)) : AV := .tup [.agg [.sv (.int .i64 r.1.Wide), .sv (.int .i64 r.1.High), .sv (.str r.1.Dots)], .sv (.bool r.2)]
def Xoy (r : (Pic × Bool)) : Xa5 := []
theorem Xqq {p0 p1 p2 p3 r} (h : Xfp p0 p1 p2 p3 = some r) : AC Tryz.prog 14 [.agg [.sv (.int .i64 p0.Wide), .sv (.int .i64 p0.High), .sv (.str p0.Dots)], .agg [.sv (.int .i64 p1.Left), .sv (.int .i64 p1.Top), .sv (.int .i64 p1.Wide), .sv (.int .i64 p1.High)], .agg [.sv (.int .i64 p2.Qp), .sv (.bool p2.Large), .sv (.bool p2.Exact), .sv (.bool p2.Confined)], .agg [.sv (.bool p3.Key), .sv (.int .i64 p3.Qp), .sv (.str p3.Row)]] [] (Xoz r) (Xoy r) := by
 refine Xag hT Tryz.func14 rfl fun C hC => ?_
 unfold Xfp at h
 refine Xac ?_
 iterate 6 refine kO hT hC ?_
 refine Vc.nil (Xas ?_)
 refine kL [4,5,6,7,8] [64,80,96,112,128] [_,_,_,_,_] [_,_,_,_,_] ?_
 refine kA h (fun v1 => ([(27, .sv (.bool v1))], [])) (fun v1 h => ?_) fun v1 h => ?_
 refine Xab ?_
 iterate 2 refine kO hT hC ?_
 refine kC hC [] Tryz.call45 h (fun _ => Xhv) fun q2 h => ?_
 iterate 2 refine kO hT hC ?_
 refine kS h ?_ ?_ <;> intro b1 h
 iterate 2 refine kI hT hC (kn b1) ?_
 refine kE hC (kn b1) [] Tryz.call45 h (fun _ => Xhv) fun q3 h => ?_
 refine kI hT hC (kn b1) ?_
 refine kP hC false (kn b1) ?_
 refine kO hT hC ?_
 refine kS h ?_ ?_ <;> intro b2 h
 refine kI hT hC (kn b2) ?_
 refine kE hC (kn b2) [] Tryz.call46 h (fun _ => Xzx) fun q4 h => ?_
 refine kI hT hC (kn b2) ?_
 refine kP hC false (kn b2) ?_
 exact Vc.nil kM
 iterate 3 refine kF hC (kn b2) ?_
 refine kP hC true (kn b2) ?_
 exact Vc.nil kM
 iterate 4 refine kF hC (kn b1) ?_
 refine kP hC true (kn b1) ?_
 refine kO hT hC ?_
 iterate 3 refine kF hC rfl ?_
 refine kO hT hC ?_
 exact Vc.nil kM
 refine kS h ?_ ?_ <;> intro b3 h
 refine kt b3 (Xac ?_)
 iterate 3 refine kO hT hC ?_
 exact Vc.nil (Xah (Xat kR))
 refine kf b3 (Xaf (Xae (Xac ?_)))
 iterate 2 refine kO hT hC ?_
 refine kC hC [] Tryz.call47 h (fun _ => Xt8) fun q5 h => ?_
 iterate 2 refine kO hT hC ?_
 refine kN ?_
 iterate 4 refine kO hT hC ?_
 refine kQ hT hC h fun h => ?_
 iterate 2 refine kO hT hC ?_
 refine kQ hT hC h fun h => ?_
 iterate 2 refine kO hT hC ?_
 refine kC hC [(16, 688)] Tryz.call48 h (fun _ => Xr2) fun q6 h => ?_
 iterate 5 refine kO hT hC ?_
 refine Vc.nil (Xas (Xac ?_))
 iterate 2 refine kO hT hC ?_
 refine Vc.nil ?_
 refine kS h ?_ ?_ <;> intro b4 h
 refine kt b4 (Xac ?_)
 iterate 3 refine kO hT hC ?_
 exact Vc.nil (Xah (Xat kR))
 refine kf b4 (Xaf (Xae (Xac ?_)))
 iterate 6 refine kO hT hC ?_
 refine kC hC [] Tryz.call49 h (fun _ => Xr5) fun q7 h => ?_
 iterate 4 refine kO hT hC ?_
 exact Vc.nil (Xah kR)
def Xxk (r : Bool) : AV := .sv (.bool r)
def Xxj (r : Bool) : Xa5 := []
theorem Yab {p0 p1 r} (h : Xkd p0 p1 = some r) : AC Tryz.prog 15 [.agg [.sv (.int .i64 p0.Wide), .sv (.int .i64 p0.High), .sv (.str p0.Dots)], .agg [.sv (.int .i64 p1.Wide), .sv (.int .i64 p1.High), .sv (.str p1.Dots)]] [] (Xxk r) (Xxj r) := by
 refine Xag hT Tryz.func15 rfl fun C hC => ?_
 unfold Xkd at h
 refine Xac ?_
 iterate 3 refine kO hT hC ?_
 refine Vc.nil (Xas (Xac ?_))
 iterate 5 refine kO hT hC ?_
 refine Vc.nil ?_
 refine kS h ?_ ?_ <;> intro b1 h
 refine kt b1 (Xac ?_)
 refine kO hT hC ?_
 exact Vc.nil (Xah (Xat kR))
 refine kf b1 (Xaf (Xae (Xas (Xac ?_))))
 iterate 5 refine kO hT hC ?_
 refine Vc.nil ?_
 refine kS h ?_ ?_ <;> intro b2 h
 refine kt b2 (Xac ?_)
 refine kO hT hC ?_
 exact Vc.nil (Xah (Xat kR))
 refine kf b2 (Xaf (Xae (Xas (Xac ?_))))
 iterate 5 refine kO hT hC ?_
 refine Vc.nil ?_
 refine kS h ?_ ?_ <;> intro b3 h
 refine kt b3 (Xac ?_)
 refine kO hT hC ?_
 exact Vc.nil (Xah (Xat kR))
 refine kf b3 (Xaf (Xae (Xac ?_)))
 refine kO hT hC ?_
 exact Vc.nil (Xah kR)
def Xjy (r : Bool) : AV := .sv (.bool r)
def Xjx (r : Bool) : Xa5 := []
theorem Xkc {p0 p1 p2 p3 r} (h : Xda p0 p1 p2 p3 = some r) : AC Tryz.prog 3 [.agg [.sv (.int .i64 p0.Wide), .sv (.int .i64 p0.High), .sv (.str p0.Dots)], .agg [.sv (.int .i64 p1.Left), .sv (.int .i64 p1.Top), .sv (.int .i64 p1.Wide), .sv (.int .i64 p1.High)], .agg [.sv (.int .i64 p2.Qp), .sv (.bool p2.Large), .sv (.bool p2.Exact), .sv (.bool p2.Confined)], .agg [.sv (.bool p3.Key), .sv (.int .i64 p3.Qp), .sv (.str p3.Row)]] [] (Xjy r) (Xjx r) := by
 refine Xag hT Tryz.func3 rfl fun C hC => ?_
 unfold Xda at h
 refine Xac ?_
 iterate 5 refine kO hT hC ?_
 refine kN ?_
 refine kO hT hC ?_
 refine kN ?_
 iterate 2 refine kO hT hC ?_
 refine kC hC [] Tryz.call7 h (fun _ => Yac) fun q1 h => ?_
 refine kO hT hC ?_
 refine Vc.nil (Xas (Xac ?_))
 iterate 2 refine kO hT hC ?_
 refine Vc.nil ?_
 refine kS h ?_ ?_ <;> intro b1 h
 refine kt b1 (Xac ?_)
 refine kO hT hC ?_
 exact Vc.nil (Xah (Xat kR))
 refine kf b1 (Xaf (Xae (Xac ?_)))
 iterate 2 refine kO hT hC ?_
 refine kC hC [] Tryz.call8 h (fun _ => Xxl) fun q2 h => ?_
 refine kO hT hC ?_
 refine Vc.nil (Xas (Xac ?_))
 iterate 2 refine kO hT hC ?_
 refine Vc.nil ?_
 refine kS h ?_ ?_ <;> intro b2 h
 refine kt b2 (Xac ?_)
 refine kO hT hC ?_
 exact Vc.nil (Xah (Xat kR))
 refine kf b2 (Xaf (Xae ?_))
 refine Xlj hm ?_
 refine kO hT hC ?_
 refine kC hC [] Tryz.call10 h (fun _ => Xpn) fun q3 h => ?_
 refine kO hT hC ?_
 refine kC hC [] Tryz.call11 h (fun _ => Xnj) fun q4 h => ?_
 refine kO hT hC ?_
 refine kC hC [] Tryz.call12 h (fun _ => Xpm) fun q5 h => ?_
 refine kO hT hC ?_
 refine kC hC [] Tryz.call13 h (fun _ => Xni) fun q6 h => ?_
 refine kC hC [] Tryz.call9 h (fun _ => Xra) fun q7 h => ?_
 iterate 6 refine kO hT hC ?_
 refine kD ?_
 refine Xlj hm ?_
 refine kO hT hC ?_
 refine kC hC [] Tryz.call10 h (fun _ => Xpn) fun q8 h => ?_
 refine kO hT hC ?_
 refine kC hC [] Tryz.call11 h (fun _ => Xnj) fun q9 h => ?_
 refine kO hT hC ?_
 refine kC hC [] Tryz.call12 h (fun _ => Xpm) fun q10 h => ?_
 refine kO hT hC ?_
 refine kC hC [] Tryz.call13 h (fun _ => Xni) fun q11 h => ?_
 refine kC hC [] Tryz.call14 h (fun _ => Xqq) fun q12 h => ?_
 iterate 6 refine kO hT hC ?_
 refine kD (Xas ?_)
 refine kL [10,11,12,13] [160,192] [_,_,_,_] [_,_] ?_
 refine kA h (fun v13 => ([(56, .sv (.bool v13)), (10, .any), (11, .any), (12, .any), (13, .any)], [(160, none), (192, none)])) (fun v13 h => ?_) fun v13 h => ?_
 refine Xab ?_
 iterate 2 refine kO hT hC ?_
 refine kC hC [] Tryz.call15 h (fun _ => Yab) fun q14 h => ?_
 iterate 2 refine kO hT hC ?_
 refine kS h ?_ ?_ <;> intro b3 h
 iterate 3 refine kI hT hC (kn b3) ?_
 refine kP hC false (kn b3) ?_
 exact Vc.nil kM
 iterate 3 refine kF hC (kn b3) ?_
 refine kP hC true (kn b3) ?_
 exact Vc.nil kM
 refine kS h ?_ ?_ <;> intro b4 h
 refine kt b4 (Xac ?_)
 refine kO hT hC ?_
 exact Vc.nil (Xah (Xat kR))
 refine kf b4 (Xaf (Xae (Xac ?_)))
 refine kO hT hC ?_
 exact Vc.nil (Xah kR)
end
end Go.Proofs.YtlebkepfhdjnmadGreat.A
