/- Contracts of the functions that the law FnMovie reaches, part 2: each comes to what its pure function tells. Written by a program of this session. Conditions: as each statement tells. -/
import Derived.Test.YtnhflbeahbcklaaGreatFFnMoviex1
namespace Go.Proofs.YtnhflbeahbcklaaGreat.A
open Go Go.Proofs Go.Proofs.YtnhflbeahbcklaaGreatAL Go.RowKit
set_option linter.unusedVariables false
set_option linter.unusedSimpArgs false
set_option maxRecDepth 100000
set_option maxHeartbeats 8000000
noncomputable section
def Xyf (r : (Xbb × (List ByteArray) × Bool)) : AV := .tup [.agg [.sv (.int .i64 r.1.Seq.Level), .sv (.int .i64 r.1.Seq.Bits), .own 16, .own 17, .sv (.int .i64 r.1.Par.Qp), .sv (.bool r.1.Par.Large), .sv (.bool r.1.Par.Exact), .sv (.bool r.1.Par.Confined), .sv (.int .i64 r.1.Rate.Qp), .sv (.int .i64 r.1.Rate.Target), .sv (.int .i64 r.1.Rate.Debt), .sv (.int .i64 r.1.Frame), .sv (.int .i64 r.1.Since), .sv (.int .i64 r.1.Every), .sv (.int .i64 r.1.Reach), .sv (.bool r.1.Has), .sv (.int .i64 r.1.Ref.Wide), .sv (.int .i64 r.1.Ref.High), .sv (.str r.1.Ref.Dots)], .own 18, .sv (.bool r.2.2)]
def Xye (r : (Xbb × (List ByteArray) × Bool)) : Xa9 := [(16, .ints .i64 r.1.Seq.Cols), (17, .ints .i64 r.1.Seq.Rows), (18, .row Xco r.2.1)]
theorem Xz0 {p0 p1 p2 r} (h : Xhz p0 p1 p2 = some r) : AC Tryz.prog 22 [.agg [.sv (.int .i64 p0.Seq.Level), .sv (.int .i64 p0.Seq.Bits), .sv (.ints .i64 p0.Seq.Cols), .sv (.ints .i64 p0.Seq.Rows), .sv (.int .i64 p0.Par.Qp), .sv (.bool p0.Par.Large), .sv (.bool p0.Par.Exact), .sv (.bool p0.Par.Confined), .sv (.int .i64 p0.Rate.Qp), .sv (.int .i64 p0.Rate.Target), .sv (.int .i64 p0.Rate.Debt), .sv (.int .i64 p0.Frame), .sv (.int .i64 p0.Since), .sv (.int .i64 p0.Every), .sv (.int .i64 p0.Reach), .sv (.bool p0.Has), .sv (.int .i64 p0.Ref.Wide), .sv (.int .i64 p0.Ref.High), .sv (.str p0.Ref.Dots)], .agg [.sv (.int .i64 p1.Wide), .sv (.int .i64 p1.High), .sv (.str p1.Dots)], .sv (.bool p2)] [] (Xyf r) (Xye r) := by
 refine Xae hT Tryz.func22 rfl fun C hC => ?_
 unfold Xhz at h
 refine Xac ?_
 iterate 5 refine kO hT hC ?_
 refine Vc.nil (Xav ?_)
 refine kL [2,3,4,6] [48,64,96] [_,_,_,_] [_,_,_] ?_
 refine kA h (fun v1 => ([(32, .sv (.bool v1))], [])) (fun v1 h => ?_) fun v1 h => ?_
 refine Xad ?_
 refine kO hT hC ?_
 refine kC hC [] Tryz.call23 h (fun _ => Xjw) fun q2 h => ?_
 iterate 2 refine kO hT hC ?_
 refine kS h ?_ ?_ <;> intro b1 h
 iterate 3 refine kI hT hC (kn b1) ?_
 refine kE hC (kn b1) [] Tryz.call58 h (fun _ => Xqo) fun q3 h => ?_
 refine kI hT hC (kn b1) ?_
 refine kP hC false (kn b1) ?_
 exact Vc.nil kM
 iterate 5 refine kF hC (kn b1) ?_
 refine kP hC true (kn b1) ?_
 exact Vc.nil kM
 refine kS h ?_ ?_ <;> intro b2 h
 refine kt b2 (Xac ?_)
 refine kO hT hC ?_
 refine kC hC [(16, 544), (17, 545)] Tryz.call59 h (fun _ => Xlf) fun q4 h => ?_
 iterate 4 refine kO hT hC ?_
 refine Vc.nil (Xah (Xau ?_))
 obtain rfl := kj h
 exact Xct (τ := ⟨[(6, .ptr 2000000 0), (7, .own 18), (8, .sv (.bool false))], [(16, some (.ints .i64 q4.Seq.Cols)), (17, some (.ints .i64 q4.Seq.Rows)), (18, some (.row Xco ([] : List ByteArray))), (2000000, some (.box [.sv (.int .i64 q4.Seq.Level), .sv (.int .i64 q4.Seq.Bits), .own 16, .own 17, .sv (.int .i64 q4.Par.Qp), .sv (.bool q4.Par.Large), .sv (.bool q4.Par.Exact), .sv (.bool q4.Par.Confined), .sv (.int .i64 q4.Rate.Qp), .sv (.int .i64 q4.Rate.Target), .sv (.int .i64 q4.Rate.Debt), .sv (.int .i64 q4.Frame), .sv (.int .i64 q4.Since), .sv (.int .i64 q4.Every), .sv (.int .i64 q4.Reach), .sv (.bool q4.Has), .sv (.int .i64 q4.Ref.Wide), .sv (.int .i64 q4.Ref.High), .sv (.str q4.Ref.Dots)]))]⟩) (kW hC [(16, 544), (17, 545), (18, 560), (2000000, 96)]) rfl ⟨rfl, rfl, rfl, trivial⟩
 refine kf b2 (Xag (Xaf (Xac ?_)))
 iterate 2 refine kO hT hC ?_
 refine kC hC [] Tryz.call21 h (fun _ => Xw2) fun q5 h => ?_
 refine kO hT hC ?_
 refine Vc.nil (Xav ?_)
 refine kL [3,4,6,9] [48,64,96] [_,_,_,_] [_,_,_] ?_
 refine kA h (fun v6 => ([(45, .sv (.bool v6))], [])) (fun v6 h => ?_) fun v6 h => ?_
 refine Xad ?_
 iterate 3 refine kO hT hC ?_
 refine kS h ?_ ?_ <;> intro b3 h
 iterate 3 refine kF hC (kn b3) ?_
 refine kP hC false (kn b3) ?_
 exact Vc.nil kM
 iterate 3 refine kI hT hC (kn b3) ?_
 refine kP hC true (kn b3) ?_
 exact Vc.nil kM
 refine kS h ?_ ?_ <;> intro b4 h
 refine kt b4 (Xac ?_)
 refine kO hT hC ?_
 refine kC hC [(16, 752), (17, 753)] Tryz.call59 h (fun _ => Xlf) fun q7 h => ?_
 iterate 4 refine kO hT hC ?_
 refine Vc.nil (Xah (Xau ?_))
 obtain rfl := kj h
 exact Xct (τ := ⟨[(6, .ptr 2000000 0), (7, .own 18), (8, .sv (.bool false))], [(16, some (.ints .i64 q7.Seq.Cols)), (17, some (.ints .i64 q7.Seq.Rows)), (18, some (.row Xco ([] : List ByteArray))), (2000000, some (.box [.sv (.int .i64 q7.Seq.Level), .sv (.int .i64 q7.Seq.Bits), .own 16, .own 17, .sv (.int .i64 q7.Par.Qp), .sv (.bool q7.Par.Large), .sv (.bool q7.Par.Exact), .sv (.bool q7.Par.Confined), .sv (.int .i64 q7.Rate.Qp), .sv (.int .i64 q7.Rate.Target), .sv (.int .i64 q7.Rate.Debt), .sv (.int .i64 q7.Frame), .sv (.int .i64 q7.Since), .sv (.int .i64 q7.Every), .sv (.int .i64 q7.Reach), .sv (.bool q7.Has), .sv (.int .i64 q7.Ref.Wide), .sv (.int .i64 q7.Ref.High), .sv (.str q7.Ref.Dots)]))]⟩) (kW hC [(16, 752), (17, 753), (18, 768), (2000000, 96)]) rfl ⟨rfl, rfl, rfl, trivial⟩
 refine kf b4 (Xag (Xaf ?_))
 refine Xcq hm ?_
 iterate 4 refine kO hT hC ?_
 refine kC hC [] Tryz.call60 h (fun _ => Yn1) fun q8 h => ?_
 iterate 9 refine kO hT hC ?_
 refine kD (Xac ?_)
 iterate 6 refine kO hT hC ?_
 refine kC hC [(16, 1088)] Tryz.call61 h (fun _ => Yib) fun q9 h => ?_
 iterate 8 refine kO hT hC ?_
 refine kN ?_
 iterate 9 refine kO hT hC ?_
 refine kC hC [] Tryz.call62 h (fun _ => Yhh) fun q10 h => ?_
 iterate 5 refine kO hT hC ?_
 refine kN ?_
 iterate 2 refine kO hT hC ?_
 refine kC hC [] Tryz.call63 h (fun _ => Yic) fun q11 h => ?_
 iterate 5 refine kO hT hC ?_
 refine kN ?_
 refine kO hT hC ?_
 refine kN ?_
 refine kO hT hC ?_
 refine kC hC [(16, 1472), (17, 1473)] Tryz.call59 h (fun _ => Xlf) fun q12 h => ?_
 iterate 2 refine kO hT hC ?_
 refine kN ?_
 iterate 2 refine kO hT hC ?_
 refine kN ?_
 iterate 5 refine kO hT hC ?_
 refine Vc.nil ?_
 refine kL [3,6,9,12,14,16,18,19,20] [48,96,192,304,1472,1473,1488] [_,_,_,_,_,_,_,_,_] [_,_,_,_,_,_,_] ?_
 refine kA h (fun v13 => ([(18, .sv (.int .i64 v13.1)), (9, .any)], [(304, some (.box [.sv (.int .i64 q12.Seq.Level), .sv (.int .i64 q12.Seq.Bits), .own 1472, .own 1473, .sv (.int .i64 q12.Par.Qp), .sv (.bool q12.Par.Large), .sv (.bool q12.Par.Exact), .sv (.bool q12.Par.Confined), .sv (.int .i64 q12.Rate.Qp), .sv (.int .i64 q12.Rate.Target), .sv (.int .i64 q12.Rate.Debt), .sv (.int .i64 q12.Frame), .sv (.int .i64 v13.2.1), .sv (.int .i64 q12.Every), .sv (.int .i64 q12.Reach), .sv (.bool q12.Has), .sv (.int .i64 q12.Ref.Wide), .sv (.int .i64 q12.Ref.High), .sv (.str q12.Ref.Dots)])), (1488, some (.row Xco v13.2.2))])) (fun v13 h => ?_) fun v13 h => ?_
 refine Xac ?_
 refine kO hT hC ?_
 refine Vc.nil ?_
 refine kS h ?_ ?_ <;> intro b5 h
 refine kt b5 (Xac ?_)
 refine kO hT hC ?_
 refine kN ?_
 refine kO hT hC ?_
 refine kC hC [(16, 1600)] Tryz.call32 h (fun _ => Xzy) fun q14 h => ?_
 refine kO hT hC ?_
 refine Vc.nil (Xad ?_)
 iterate 2 refine kO hT hC ?_
 refine Vc.nil ?_
 obtain rfl := kj h
 exact Xgi (kW hC [(1488, 1600)])
 exact kf b5 (Xag kM)
 refine Xac ?_
 iterate 3 refine kO hT hC ?_
 refine kQ hT hC h fun h => ?_
 refine kC hC [] Tryz.call64 h (fun _ => Xq8) fun q15 h => ?_
 iterate 5 refine kO hT hC ?_
 refine kN ?_
 iterate 7 refine kO hT hC ?_
 refine kC hC [] Tryz.call65 h (fun _ => Yek) fun q16 h => ?_
 iterate 2 refine kO hT hC ?_
 refine Vc.nil ?_
 refine Xcq hm ?_
 iterate 6 refine kO hT hC ?_
 iterate 2 refine kQ hT hC h fun h => ?_
 iterate 2 refine kO hT hC ?_
 refine kD (Xac ?_)
 iterate 2 refine kO hT hC ?_
 refine kN ?_
 iterate 3 refine kO hT hC ?_
 refine Vc.nil ?_
 refine Xcq hm ?_
 iterate 4 refine kO hT hC ?_
 obtain ⟨hq, h⟩ := Xax h
 refine Ymg hT hC rfl rfl rfl rfl ⟨fun _ _ => rfl, by rw [Xos]; exact hq⟩ ?_
 rw [Xos]
 iterate 3 refine kO hT hC ?_
 refine kD (Xah ?_)
 obtain rfl := kj h
 exact Xct (τ := ⟨[(6, .ptr 2000000 0), (7, .own 18), (8, .sv (.bool true))], [(16, some (.ints .i64 q12.Seq.Cols)), (17, some (.ints .i64 q12.Seq.Rows)), (18, some (.row Xco (v13.2.2 ++ ([q15.1])))), (2000000, some (.box [.sv (.int .i64 q12.Seq.Level), .sv (.int .i64 q12.Seq.Bits), .own 16, .own 17, .sv (.int .i64 q12.Par.Qp), .sv (.bool q12.Par.Large), .sv (.bool q12.Par.Exact), .sv (.bool q12.Par.Confined), .sv (.int .i64 q16.Qp), .sv (.int .i64 q16.Target), .sv (.int .i64 q16.Debt), .sv (.int .i64 ((Xaa .i64 (p0.Frame + 1)).tmod (Xaa .i64 (1 * 2 ^ min p0.Seq.Bits.toNat (IntKind.bits .i64))))), .sv (.int .i64 v13.2.1), .sv (.int .i64 q12.Every), .sv (.int .i64 q12.Reach), .sv (.bool true), .sv (.int .i64 q9.2.1.Wide), .sv (.int .i64 q9.2.1.High), .sv (.str q9.2.1.Dots)]))]⟩) (kW hC [(16, 1472), (17, 1473), (18, 2160), (2000000, 96)]) rfl ⟨rfl, rfl, rfl, trivial⟩
def Xok (r : Bool) : AV := .sv (.bool r)
def Xoj (r : Bool) : Xa9 := []
theorem Yi2 {p0 r} (h : Xqs p0 = some r) : AC Tryz.prog 4 [.sv (.ints .u8 p0)] [] (Xok r) (Xoj r) := by
 refine Xae hT Tryz.func4 rfl fun C hC => ?_
 unfold Xqs at h
 refine Xac ?_
 refine kO hT hC ?_
 refine Vc.nil (Xav (Xac ?_))
 refine kO hT hC ?_
 refine kC hC [] Tryz.call8 h (fun _ => Ysi) fun q1 h => ?_
 refine Vc.nil ?_
 refine kS h ?_ ?_ <;> intro b1 h
 refine kt b1 (Xac ?_)
 refine kO hT hC ?_
 exact Vc.nil (Xah (Xau kR))
 refine kf b1 (Xag (Xaf (Xac ?_)))
 refine kO hT hC ?_
 refine kC hC [(16, 336), (17, 337), (18, 338), (19, 339)] Tryz.call20 h (fun _ => Yct) fun q2 h => ?_
 iterate 8 refine kO hT hC ?_
 refine kN ?_
 refine kC hC [] Tryz.call12 h (fun _ => Xwv) fun q3 h => ?_
 iterate 2 refine kO hT hC ?_
 refine kN ?_
 iterate 3 refine kO hT hC ?_
 refine Vc.nil (Xav (Xac ?_))
 refine kO hT hC ?_
 refine Vc.nil ?_
 refine kL [3,4,5,6,7,8] [48,96,336,337,338,339] [_,_,_,_,_,_] [_,_,_,_,_,_] ?_
 obtain ⟨o47, hl, h⟩ := Xbc h
 refine Xlp (fun v18 => ([(7, .sv (.int .i64 v18.1)), (8, .sv (.int .i64 v18.2.1))], [(48, some (.box [.sv (.int .i64 v18.2.2.1), .sv (.int .i64 v18.2.2.2.1), .own 336, .own 337, .sv (.int .i64 v18.2.2.2.2.1), .sv (.bool v18.2.2.2.2.2.1), .sv (.bool v18.2.2.2.2.2.2.1), .sv (.bool v18.2.2.2.2.2.2.2.1), .sv (.int .i64 v18.2.2.2.2.2.2.2.2.1), .sv (.int .i64 v18.2.2.2.2.2.2.2.2.2.1), .sv (.int .i64 v18.2.2.2.2.2.2.2.2.2.2.1), .sv (.int .i64 v18.2.2.2.2.2.2.2.2.2.2.2.1), .sv (.int .i64 v18.2.2.2.2.2.2.2.2.2.2.2.2.1), .sv (.int .i64 v18.2.2.2.2.2.2.2.2.2.2.2.2.2.1), .sv (.int .i64 v18.2.2.2.2.2.2.2.2.2.2.2.2.2.2.1), .sv (.bool v18.2.2.2.2.2.2.2.2.2.2.2.2.2.2.2.1), .sv (.int .i64 v18.2.2.2.2.2.2.2.2.2.2.2.2.2.2.2.2.1), .sv (.int .i64 v18.2.2.2.2.2.2.2.2.2.2.2.2.2.2.2.2.2.1), .sv (.str v18.2.2.2.2.2.2.2.2.2.2.2.2.2.2.2.2.2.2.1)])), (96, some (.box [.sv (.bool v18.2.2.2.2.2.2.2.2.2.2.2.2.2.2.2.2.2.2.2.1), .sv (.bool v18.2.2.2.2.2.2.2.2.2.2.2.2.2.2.2.2.2.2.2.2.1), .sv (.bool v18.2.2.2.2.2.2.2.2.2.2.2.2.2.2.2.2.2.2.2.2.2.1), .sv (.int .i64 v18.2.2.2.2.2.2.2.2.2.2.2.2.2.2.2.2.2.2.2.2.2.2.1), .sv (.int .i64 v18.2.2.2.2.2.2.2.2.2.2.2.2.2.2.2.2.2.2.2.2.2.2.2.1), .sv (.ints .i64 v18.2.2.2.2.2.2.2.2.2.2.2.2.2.2.2.2.2.2.2.2.2.2.2.2.1), .sv (.ints .i64 v18.2.2.2.2.2.2.2.2.2.2.2.2.2.2.2.2.2.2.2.2.2.2.2.2.2.1), .sv (.int .i64 v18.2.2.2.2.2.2.2.2.2.2.2.2.2.2.2.2.2.2.2.2.2.2.2.2.2.2.1), .sv (.bool v18.2.2.2.2.2.2.2.2.2.2.2.2.2.2.2.2.2.2.2.2.2.2.2.2.2.2.2.1), .sv (.bool v18.2.2.2.2.2.2.2.2.2.2.2.2.2.2.2.2.2.2.2.2.2.2.2.2.2.2.2.2.1), .sv (.bool v18.2.2.2.2.2.2.2.2.2.2.2.2.2.2.2.2.2.2.2.2.2.2.2.2.2.2.2.2.2.1), .sv (.int .i64 v18.2.2.2.2.2.2.2.2.2.2.2.2.2.2.2.2.2.2.2.2.2.2.2.2.2.2.2.2.2.2.1), .sv (.int .i64 v18.2.2.2.2.2.2.2.2.2.2.2.2.2.2.2.2.2.2.2.2.2.2.2.2.2.2.2.2.2.2.2.1), .sv (.int .i64 v18.2.2.2.2.2.2.2.2.2.2.2.2.2.2.2.2.2.2.2.2.2.2.2.2.2.2.2.2.2.2.2.2.1), .sv (.int .i64 v18.2.2.2.2.2.2.2.2.2.2.2.2.2.2.2.2.2.2.2.2.2.2.2.2.2.2.2.2.2.2.2.2.2.1), .sv (.str v18.2.2.2.2.2.2.2.2.2.2.2.2.2.2.2.2.2.2.2.2.2.2.2.2.2.2.2.2.2.2.2.2.2.2.1), .sv (.int .i64 v18.2.2.2.2.2.2.2.2.2.2.2.2.2.2.2.2.2.2.2.2.2.2.2.2.2.2.2.2.2.2.2.2.2.2.2.1), .sv (.int .i64 v18.2.2.2.2.2.2.2.2.2.2.2.2.2.2.2.2.2.2.2.2.2.2.2.2.2.2.2.2.2.2.2.2.2.2.2.2.1), .sv (.str v18.2.2.2.2.2.2.2.2.2.2.2.2.2.2.2.2.2.2.2.2.2.2.2.2.2.2.2.2.2.2.2.2.2.2.2.2.2.1)])), (336, some (.ints .i64 v18.2.2.2.2.2.2.2.2.2.2.2.2.2.2.2.2.2.2.2.2.2.2.2.2.2.2.2.2.2.2.2.2.2.2.2.2.2.2.1)), (337, some (.ints .i64 v18.2.2.2.2.2.2.2.2.2.2.2.2.2.2.2.2.2.2.2.2.2.2.2.2.2.2.2.2.2.2.2.2.2.2.2.2.2.2.2))])) (fun v33 => ([(3, .any), (4, .any), (5, .any), (6, .any), (7, .any), (8, .any)], [(48, none), (96, none), (336, none), (337, none), (338, none), (339, none)])) (fun r => Xv8 C T Tryz.f4.results.toList (Xok r) (Xoj r)) hl ?_ ?_ ?_ ?_
 try dsimp only
 apply Xfr hC []
 exact co
 rfl
 decide
 rfl
 intro v18 s hs
 have h := hs
 unfold Xg8 at h
 refine Xav (Xac ?_)
 iterate 4 refine kO hT hC ?_
 refine Vc.nil ?_
 refine kS h ?_ ?_ <;> intro b64 h
 refine kt b64 (Xag (Xaf (Xav (Xaq ?_))))
 refine Xcq hm ?_
 iterate 3 refine kO hT hC ?_
 iterate 2 refine kQ hT hC h fun h => ?_
 refine kC hC [] Tryz.call21 h (fun _ => Xw2) fun q34 h => ?_
 refine kO hT hC ?_
 refine kD ?_
 refine Xcq hm ?_
 iterate 3 refine kO hT hC ?_
 iterate 2 refine kQ hT hC h fun h => ?_
 iterate 2 refine kO hT hC ?_
 iterate 2 refine kQ hT hC h fun h => ?_
 obtain ⟨q35, hq, h⟩ := Xbc h
 refine Yrv hC [(16, 800), (17, 801), (18, 802)] rfl rfl rfl rfl Tryz.call22 (Xz0 hq) rfl (by decide) trivial rfl (.inr ⟨rfl, ⟨trivial, trivial, fun _ => rfl, trivial⟩⟩) rfl ?_
 iterate 8 refine kO hT hC ?_
 refine kD ?_
 refine Xcq hm ?_
 iterate 3 refine kO hT hC ?_
 obtain ⟨hq, h⟩ := Xax h
 refine Ymg hT hC rfl rfl rfl rfl ⟨fun _ _ => rfl, by rw [Xos]; exact hq⟩ ?_
 rw [Xos]
 obtain ⟨q36, hq, h⟩ := Xbc h
 refine Yrv hC [(16, 944), (17, 945), (18, 946), (19, 947)] rfl rfl rfl rfl Tryz.call11 (Yko hq) rfl (by decide) trivial rfl (.inr ⟨rfl, ⟨trivial, trivial, fun _ => rfl, trivial, trivial⟩⟩) rfl ?_
 iterate 8 refine kO hT hC ?_
 refine kD (Xav ?_)
 refine kL [3,4,5,6,7,8,9,10,11,12,13,14,15] [48,96,160,208,336,337,338,339,800,801,802,944,945,946,947] [_,_,_,_,_,_,_,_,_,_,_,_,_] [_,_,_,_,_,_,_,_,_,_,_,_,_,_,_] ?_
 refine kA h (fun v37 => ([(109, .sv (.bool v37)), (7, .any), (11, .any), (12, .any)], [(802, none)])) (fun v37 h => ?_) fun v37 h => ?_
 refine Xd1 hm ?_
 iterate 3 refine kO hT hC ?_
 refine kS h ?_ ?_ <;> intro b65 h
 iterate 3 refine kI hT hC (kn b65) ?_
 refine kP hC false (kn b65) ?_
 refine kO hT hC ?_
 refine kS h ?_ ?_ <;> intro b66 h
 iterate 6 refine kF hC b66 ?_
 refine kP hC true b66 ?_
 refine kO hT hC ?_
 iterate 5 refine kF hC rfl ?_
 iterate 2 refine kO hT hC ?_
 iterate 5 refine kF hC rfl ?_
 iterate 2 refine kO hT hC ?_
 iterate 6 refine kF hC rfl ?_
 iterate 2 refine kO hT hC ?_
 iterate 3 refine kF hC rfl ?_
 iterate 2 refine kO hT hC ?_
 iterate 3 refine kF hC rfl ?_
 refine kO hT hC ?_
 exact kD kM
 refine kI hT hC b66 ?_
 iterate 2 refine kJ hT hC b66 h fun h => ?_
 iterate 2 refine kI hT hC b66 ?_
 refine Xvk hC rfl rfl rfl rfl b66 rfl rfl rfl Ydj rfl rfl ?_
 refine kP hC false b66 ?_
 refine kO hT hC ?_
 refine kS h ?_ ?_ <;> intro b67 h
 iterate 5 refine kF hC b67 ?_
 refine kP hC true b67 ?_
 refine kO hT hC ?_
 iterate 5 refine kF hC rfl ?_
 iterate 2 refine kO hT hC ?_
 iterate 6 refine kF hC rfl ?_
 iterate 2 refine kO hT hC ?_
 iterate 3 refine kF hC rfl ?_
 iterate 2 refine kO hT hC ?_
 iterate 3 refine kF hC rfl ?_
 refine kO hT hC ?_
 exact kD kM
 iterate 5 refine kI hT hC b67 ?_
 refine kP hC false b67 ?_
 refine kO hT hC ?_
 refine kS h ?_ ?_ <;> intro b68 h
 iterate 5 refine kF hC b68 ?_
 refine kP hC true b68 ?_
 refine kO hT hC ?_
 iterate 6 refine kF hC rfl ?_
 iterate 2 refine kO hT hC ?_
 iterate 3 refine kF hC rfl ?_
 iterate 2 refine kO hT hC ?_
 iterate 3 refine kF hC rfl ?_
 refine kO hT hC ?_
 exact kD kM
 iterate 5 refine kI hT hC b68 ?_
 refine kP hC false b68 ?_
 refine kO hT hC ?_
 refine kS h ?_ ?_ <;> intro b69 h
 iterate 4 refine kI hT hC (kn b69) ?_
 refine kJ hT hC (kn b69) h fun h => ?_
 refine kI hT hC (kn b69) ?_
 refine kP hC false (kn b69) ?_
 refine kO hT hC ?_
 refine kS h ?_ ?_ <;> intro b70 h
 iterate 3 refine kF hC b70 ?_
 refine kP hC true b70 ?_
 refine kO hT hC ?_
 iterate 3 refine kF hC rfl ?_
 refine kO hT hC ?_
 exact kD kM
 refine kI hT hC b70 ?_
 refine kE hC b70 [] Tryz.call23 h (fun _ => Xjw) fun q38 h => ?_
 refine kI hT hC b70 ?_
 refine kP hC false b70 ?_
 refine kO hT hC ?_
 refine kS h ?_ ?_ <;> intro b71 h
 refine kI hT hC (kn b71) ?_
 refine kE hC (kn b71) [] Tryz.call24 h (fun _ => Xzh) fun q39 h => ?_
 refine kI hT hC (kn b71) ?_
 refine kP hC false (kn b71) ?_
 exact kD kM
 iterate 3 refine kF hC (kn b71) ?_
 refine kP hC true (kn b71) ?_
 exact kD kM
 iterate 6 refine kF hC (kn b69) ?_
 refine kP hC true (kn b69) ?_
 refine kO hT hC ?_
 iterate 3 refine kF hC rfl ?_
 iterate 2 refine kO hT hC ?_
 iterate 3 refine kF hC rfl ?_
 refine kO hT hC ?_
 exact kD kM
 iterate 3 refine kF hC (kn b65) ?_
 refine kP hC true (kn b65) ?_
 refine kO hT hC ?_
 iterate 6 refine kF hC rfl ?_
 iterate 2 refine kO hT hC ?_
 iterate 5 refine kF hC rfl ?_
 iterate 2 refine kO hT hC ?_
 iterate 5 refine kF hC rfl ?_
 iterate 2 refine kO hT hC ?_
 iterate 6 refine kF hC rfl ?_
 iterate 2 refine kO hT hC ?_
 iterate 3 refine kF hC rfl ?_
 iterate 2 refine kO hT hC ?_
 iterate 3 refine kF hC rfl ?_
 refine kO hT hC ?_
 exact kD kM
 refine kS h ?_ ?_ <;> intro b72 h
 refine kt b72 (Xac ?_)
 refine kO hT hC ?_
 refine Vc.nil (Xah (Xau (Xfv (Xau ?_))))
 obtain rfl := kj h
 refine Xua (Xt9 ?_)
 exact Xct (Xii.refl _) rfl trivial
 refine kf b72 (Xag (Xaf (Xav ?_)))
 refine kL [3,4,5,6,8,9,10,13,14,15] [48,96,160,208,336,337,338,339,800,801,944,945,946,947] [_,_,_,_,_,_,_,_,_,_] [_,_,_,_,_,_,_,_,_,_,_,_,_,_] ?_
 refine kA h (fun v40 => ([(122, .sv (.bool v40)), (14, .any)], [(946, none)])) (fun v40 h => ?_) fun v40 h => ?_
 refine Xd1 hm ?_
 iterate 4 refine kO hT hC ?_
 refine kS h ?_ ?_ <;> intro b73 h
 refine kI hT hC b73 ?_
 iterate 2 refine kJ hT hC b73 h fun h => ?_
 iterate 2 refine kI hT hC b73 ?_
 iterate 2 refine kJ hT hC b73 h fun h => ?_
 refine Xvk hC rfl rfl rfl rfl b73 rfl rfl rfl Ydj rfl rfl ?_
 refine kP hC true b73 ?_
 exact kD kM
 iterate 8 refine kF hC b73 ?_
 refine kP hC false b73 ?_
 exact kD kM
 refine kS h ?_ ?_ <;> intro b74 h
 refine kt b74 (Xac ?_)
 refine kO hT hC ?_
 refine Vc.nil (Xah (Xau (Xfv (Xau ?_))))
 obtain rfl := kj h
 refine Xua (Xt9 ?_)
 exact Xct (Xii.refl _) rfl trivial
 refine kf b74 (Xag (Xaf (Xav (Xac ?_))))
 refine kO hT hC ?_
 refine Vc.nil ?_
 refine kL [3,4,5,6,8,9,10,13,15,16] [48,96,160,208,336,337,338,339,800,801,944,945,947] [_,_,_,_,_,_,_,_,_,_] [_,_,_,_,_,_,_,_,_,_,_,_,_] ?_
 obtain ⟨o45, hl, h⟩ := Xbc h
 refine Xlp (fun v42 => ([(16, .sv (.int .i64 v42))], [])) (fun v44 => ([(15, .any), (16, .any)], [(947, none)])) (fun r => Xv8 C T Tryz.f4.results.toList (Xok r) (Xoj r)) hl ?_ ?_ ?_ ?_
 apply Xfr hC []
 exact co
 rfl
 decide
 rfl
 intro v42 s hs
 have h := hs
 unfold Xe2 at h
 refine Xav (Xac ?_)
 iterate 4 refine kO hT hC ?_
 refine Vc.nil ?_
 refine kS h ?_ ?_ <;> intro b79 h
 refine kt b79 (Xag (Xaf (Xav (Xaq (Xac ?_)))))
 iterate 2 refine kO hT hC ?_
 iterate 2 refine kQ hT hC h fun h => ?_
 refine kO hT hC ?_
 refine Vc.nil ?_
 refine kS h ?_ ?_ <;> intro b80 h
 refine kt b80 (Xac ?_)
 refine kO hT hC ?_
 refine Vc.nil (Xah (Xfv (Xau ?_)))
 obtain rfl := kj h
 refine Xua (Xt9 ?_)
 exact Xct (Xii.refl _) rfl trivial
 refine kf b80 (Xag (Xas (Xaf (Xad ?_))))
 iterate 3 refine kO hT hC ?_
 exact Vc.nil kG
 exact kf b79 (Xaw (Xa0 kb))
 intro v44 e
 subst e
 refine Xaf (Xav ?_)
 refine kL [3,4,5,6,8,9,10,13] [48,96,160,208,336,337,338,339,800,801,944,945] [_,_,_,_,_,_,_,_] [_,_,_,_,_,_,_,_,_,_,_,_] ?_
 refine kA h (fun v46 => ([(164, .sv (.bool v46)), (9, .any)], [])) (fun v46 h => ?_) fun v46 h => ?_
 refine Xad ?_
 iterate 3 refine kO hT hC ?_
 refine kS h ?_ ?_ <;> intro b81 h
 iterate 2 refine kI hT hC b81 ?_
 refine kP hC true b81 ?_
 refine kO hT hC ?_
 refine kS h ?_ ?_ <;> intro b82 h
 iterate 2 refine kI hT hC (kn b82) ?_
 iterate 2 refine kJ hT hC (kn b82) h fun h => ?_
 refine kI hT hC (kn b82) ?_
 refine kS h ?_ ?_ <;> intro b83 h
 iterate 2 refine kI hT hC b83 ?_
 refine Xan hC rfl rfl rfl rfl (kn b82) rfl rfl (b := true) b83 rfl rfl rfl trivial ?_
 refine kP hC false (kn b82) ?_
 refine kO hT hC ?_
 iterate 5 refine kI hT hC (kn b82) ?_
 refine kS h ?_ ?_ <;> intro b84 h
 iterate 3 refine kI hT hC b84 ?_
 refine Xan hC rfl rfl rfl rfl (kn b82) rfl rfl (b := true) b84 rfl rfl rfl trivial ?_
 refine kI hT hC (kn b82) ?_
 refine kS h ?_ ?_ <;> intro b85 h
 iterate 2 refine kI hT hC b85 ?_
 refine Xan hC rfl rfl rfl rfl (kn b82) rfl rfl (b := true) b85 rfl rfl rfl trivial ?_
 refine kP hC false (kn b82) ?_
 exact Vc.nil kM
 iterate 2 refine kF hC b85 ?_
 refine Xan hC rfl rfl rfl rfl (kn b82) rfl rfl (b := false) b85 rfl rfl rfl trivial ?_
 refine kP hC false (kn b82) ?_
 exact Vc.nil kM
 iterate 3 refine kF hC b84 ?_
 refine Xan hC rfl rfl rfl rfl (kn b82) rfl rfl (b := false) b84 rfl rfl rfl trivial ?_
 refine kI hT hC (kn b82) ?_
 iterate 2 refine kF hC rfl ?_
 refine Xan hC rfl rfl rfl rfl (kn b82) rfl rfl (b := false) rfl rfl rfl rfl trivial ?_
 refine kP hC false (kn b82) ?_
 exact Vc.nil kM
 iterate 2 refine kF hC b83 ?_
 refine Xan hC rfl rfl rfl rfl (kn b82) rfl rfl (b := false) b83 rfl rfl rfl trivial ?_
 refine kP hC false (kn b82) ?_
 refine kO hT hC ?_
 iterate 5 refine kI hT hC rfl ?_
 refine kS h ?_ ?_ <;> intro b86 h
 iterate 3 refine kI hT hC b86 ?_
 refine Xan hC rfl rfl rfl rfl rfl rfl rfl (b := true) b86 rfl rfl rfl trivial ?_
 refine kI hT hC rfl ?_
 refine kS h ?_ ?_ <;> intro b87 h
 iterate 2 refine kI hT hC b87 ?_
 refine Xan hC rfl rfl rfl rfl rfl rfl rfl (b := true) b87 rfl rfl rfl trivial ?_
 refine kO hT hC ?_
 exact Vc.nil kM
 iterate 2 refine kF hC b87 ?_
 refine Xan hC rfl rfl rfl rfl rfl rfl rfl (b := false) b87 rfl rfl rfl trivial ?_
 refine kO hT hC ?_
 exact Vc.nil kM
 iterate 3 refine kF hC b86 ?_
 refine Xan hC rfl rfl rfl rfl rfl rfl rfl (b := false) b86 rfl rfl rfl trivial ?_
 refine kI hT hC rfl ?_
 iterate 2 refine kF hC rfl ?_
 refine Xan hC rfl rfl rfl rfl rfl rfl rfl (b := false) rfl rfl rfl rfl trivial ?_
 refine kO hT hC ?_
 exact Vc.nil kM
 iterate 5 refine kF hC (kn b82) ?_
 iterate 2 refine Xex hC rfl rfl rfl rfl rfl rfl ?_
 refine kF hC (kn b82) ?_
 refine kP hC true (kn b82) ?_
 refine kO hT hC ?_
 iterate 5 refine kF hC rfl ?_
 iterate 3 refine Xex hC rfl rfl rfl rfl rfl rfl ?_
 iterate 2 refine kF hC rfl ?_
 iterate 2 refine Xex hC rfl rfl rfl rfl rfl rfl ?_
 refine kF hC rfl ?_
 refine kO hT hC ?_
 exact Vc.nil kM
 iterate 2 refine kF hC b81 ?_
 refine kP hC false b81 ?_
 refine kO hT hC ?_
 iterate 2 refine kI hT hC rfl ?_
 iterate 2 refine kJ hT hC rfl h fun h => ?_
 refine kI hT hC rfl ?_
 refine kS h ?_ ?_ <;> intro b88 h
 iterate 2 refine kI hT hC b88 ?_
 refine Xan hC rfl rfl rfl rfl rfl rfl rfl (b := true) b88 rfl rfl rfl trivial ?_
 iterate 2 refine kO hT hC ?_
 refine kS h ?_ ?_ <;> intro b89 h
 iterate 5 refine kI hT hC (kn b89) ?_
 refine kS h ?_ ?_ <;> intro b90 h
 iterate 3 refine kI hT hC b90 ?_
 refine Xan hC rfl rfl rfl rfl (kn b89) rfl rfl (b := true) b90 rfl rfl rfl trivial ?_
 refine kI hT hC (kn b89) ?_
 refine kS h ?_ ?_ <;> intro b91 h
 iterate 2 refine kI hT hC b91 ?_
 refine Xan hC rfl rfl rfl rfl (kn b89) rfl rfl (b := true) b91 rfl rfl rfl trivial ?_
 refine kP hC false (kn b89) ?_
 exact Vc.nil kM
 iterate 2 refine kF hC b91 ?_
 refine Xan hC rfl rfl rfl rfl (kn b89) rfl rfl (b := false) b91 rfl rfl rfl trivial ?_
 refine kP hC false (kn b89) ?_
 exact Vc.nil kM
 iterate 3 refine kF hC b90 ?_
 refine Xan hC rfl rfl rfl rfl (kn b89) rfl rfl (b := false) b90 rfl rfl rfl trivial ?_
 refine kI hT hC (kn b89) ?_
 iterate 2 refine kF hC rfl ?_
 refine Xan hC rfl rfl rfl rfl (kn b89) rfl rfl (b := false) rfl rfl rfl rfl trivial ?_
 refine kP hC false (kn b89) ?_
 exact Vc.nil kM
 iterate 5 refine kF hC (kn b89) ?_
 iterate 3 refine Xex hC rfl rfl rfl rfl rfl rfl ?_
 iterate 2 refine kF hC (kn b89) ?_
 iterate 2 refine Xex hC rfl rfl rfl rfl rfl rfl ?_
 refine kF hC (kn b89) ?_
 refine kP hC true (kn b89) ?_
 exact Vc.nil kM
 iterate 2 refine kF hC b88 ?_
 refine Xan hC rfl rfl rfl rfl rfl rfl rfl (b := false) b88 rfl rfl rfl trivial ?_
 iterate 2 refine kO hT hC ?_
 iterate 5 refine kI hT hC rfl ?_
 refine kS h ?_ ?_ <;> intro b92 h
 iterate 3 refine kI hT hC b92 ?_
 refine Xan hC rfl rfl rfl rfl rfl rfl rfl (b := true) b92 rfl rfl rfl trivial ?_
 refine kI hT hC rfl ?_
 refine kS h ?_ ?_ <;> intro b93 h
 iterate 2 refine kI hT hC b93 ?_
 refine Xan hC rfl rfl rfl rfl rfl rfl rfl (b := true) b93 rfl rfl rfl trivial ?_
 refine kO hT hC ?_
 exact Vc.nil kM
 iterate 2 refine kF hC b93 ?_
 refine Xan hC rfl rfl rfl rfl rfl rfl rfl (b := false) b93 rfl rfl rfl trivial ?_
 refine kO hT hC ?_
 exact Vc.nil kM
 iterate 3 refine kF hC b92 ?_
 refine Xan hC rfl rfl rfl rfl rfl rfl rfl (b := false) b92 rfl rfl rfl trivial ?_
 refine kI hT hC rfl ?_
 iterate 2 refine kF hC rfl ?_
 refine Xan hC rfl rfl rfl rfl rfl rfl rfl (b := false) rfl rfl rfl rfl trivial ?_
 refine kO hT hC ?_
 exact Vc.nil kM
 refine kS h ?_ ?_ <;> intro b94 h
 refine kt b94 (Xac ?_)
 refine kO hT hC ?_
 refine Vc.nil (Xah (Xau (Xfv (Xau ?_))))
 obtain rfl := kj h
 refine Xua (Xt9 ?_)
 exact Xct (Xii.refl _) rfl trivial
 refine kf b94 (Xag (Xaf (Xac ?_)))
 iterate 3 refine kO hT hC ?_
 refine kN ?_
 iterate 2 refine kO hT hC ?_
 refine Vc.nil (Xad ?_)
 iterate 2 refine kO hT hC ?_
 refine Vc.nil (Xas (Xaf (Xad ?_)))
 iterate 3 refine kO hT hC ?_
 refine Vc.nil ?_
 obtain rfl := kj h
 exact Yka (kW hC [(336, 800), (337, 801)])
 intro r' σ' e hE
 subst e
 obtain rfl := kj h
 refine Xau (Xfv (Xau (Xua (Xt9 ?_))))
 exact hE
 exact kf b64 (Xaw (Xa0 kb))
 intro v33 e
 subst e
 refine Xaf (Xac ?_)
 refine kO hT hC ?_
 exact Vc.nil (Xah kR)
 intro r' σ' e hE
 subst e
 obtain rfl := kj h
 refine Xau ?_
 exact hE
end
end Go.Proofs.YtnhflbeahbcklaaGreat.A
