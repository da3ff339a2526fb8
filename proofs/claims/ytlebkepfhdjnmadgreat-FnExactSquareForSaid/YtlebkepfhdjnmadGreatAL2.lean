/- An abstract logic for Go functions, part 2: what a state of symbolic values and objects says of a world, and what each operation does to it. Conditions: as each statement tells. -/
import Derived.KernelRfl
import Derived.Test.YtlebkepfhdjnmadGreatAL1
set_option linter.unusedSimpArgs false
/- An abstract logic for Go functions: steps under short names, their plain conditions closed by themselves. Conditions: as each statement tells. -/
namespace Go.Proofs.YtlebkepfhdjnmadGreatAL
open Go.RowKit
set_option linter.unusedVariables false
theorem co {p : Prop} (h : p := by repeat' first | exact CO.nil | apply CO.gone | apply CO.row rfl rfl | apply CO.box rfl rfl | decide) : p := h
theorem kn {a b : Bool} (h : a = b) : (!a) = !b := congrArg Bool.not h
theorem kj {α : Type} {a b : α} (h : some a = some b) : a = b := Option.some.inj h
theorem kS {β : Type} {b : Bool} {x y : Option β} {r : β} {p : Prop} (h : sel b x y = some r) (h1 : b = true → x = some r → p) (h2 : b = false → y = some r → p) : p := (Xgv h).elim (fun h => h1 h.1 h.2) fun h => h2 h.1 h.2
section
variable {P : Program} {T : Nat → Option TI} {C : Ctx} {σ : St} {n : Nat} {objs : Xa0} {x y z : Code} {Q : Exit → St → Prop} {id : Nat} {ops : Array Oper} {o : Oper} {l : List Oper} {rs : List Rec} {K : List Rec → St → Prop}
theorem kN {Q : Exit → St → Prop} {l : List Oper} (h : Vc P C l.toArray l [] σ (fun _ σ' => AWp P C y σ' Q)) : Vc P C ops [] rs σ (fun _ σ' => AWp P C (.seq (.region id l.toArray false) y) σ' Q) := .nil (Xab h)
theorem kD {p : St → Prop} {ls : List Oper} {σ0 : St} (h : p σ) (hf : Xgd ls rs σ0 = true := by kernel_rfl) : Vc P C ops [] rs σ (fun rs σ' => Xgd ls rs σ0 = true ∧ p σ') := .nil ⟨hf, h⟩
theorem kL (ks os : List Nat) (s' : List (Nat × AV)) (o' : List (Nat × Option Obj)) (k : AWp P C x ⟨s', o'⟩ Q) (hs : Ykf ks σ.s = s' := by exact rfl) (ho : Ykf os σ.o = o' := by exact rfl) : AWp P C x σ Q := Yoo ks os hs ho k
theorem kt {t : Nat} {b : Bool} (hb : b = true) (h : AWp P C x σ Q) (hs : lk σ.s t = some (.sv (.bool b)) := by exact rfl) : AWp P C (.cond (.tmp t) x y) σ Q := Yni hs hb h
theorem kf {t : Nat} {b : Bool} (hb : b = false) (h : AWp P C y σ Q) (hs : lk σ.s t = some (.sv (.bool b)) := by exact rfl) : AWp P C (.cond (.tmp t) x y) σ Q := Ymu hs hb h
theorem kA {α R : Type} {x' : Option α} {f : α → Option R} {r : R} (h : bnd x' f = some r) (D : α → Chg) (hx : ∀ v, x' = some v → AWp P C x σ (Yn4 C (σ.upd (D v)) Q)) (hy : ∀ v, f v = some r → AWp P C y (σ.upd (D v)) Q) : AWp P C (.seq x y) σ Q := by
  obtain ⟨v, h1, h2⟩ := Xa4 h
  exact Yn7 (D v) (hx v h1) (hy v h2)
theorem kO (hT : TOk P T) (hC : Xhh C n objs) {e : Eff} {ks : List Key} (k : Vc P C ops l (rs ++ [⟨ks, e.slots, e.objs, e.new⟩]) (Rec.app ⟨ks, e.slots, e.objs, e.new⟩ σ) K) (hg : o.guard = none := by exact rfl) (hr : got (aop T o) σ = some (e, ks) := by exact rfl) (hd : Ycj n o.dst = true := by exact rfl) (hf : frs objs σ e.new = true := by exact rfl) (hc : e.cond := by exact trivial) : Vc P C ops (o :: l) rs σ K := Yhw hT hC hg hr hd hf hc k
theorem kQ (hT : TOk P T) (hC : Xhh C n objs) {β : Type} {c : Prop} {_ : Decidable c} {k' : Option β} {r : β} (h : req c k' = some r) {e : Eff} {ks : List Key} (k : k' = some r → Vc P C ops l (rs ++ [⟨ks, e.slots, e.objs, e.new⟩]) (Rec.app ⟨ks, e.slots, e.objs, e.new⟩ σ) K) (hg : o.guard = none := by exact rfl) (hr : got (aop T o) σ = some (e, ks) := by exact rfl) (hd : Ycj n o.dst = true := by exact rfl) (hf : frs objs σ e.new = true := by exact rfl)
    (hc : c → e.cond := by exact fun hq => hq) : Vc P C ops (o :: l) rs σ K := Yhw hT hC hg hr hd hf (hc (Xau h).1) (k (Xau h).2)
theorem kT (hT : TOk P T) (hC : Xhh C n objs) {β : Type} {c : Prop} {_ : Decidable c} {k' : Option β} {r : β} (h : req c k' = some r) {e : Eff} {ks : List Key} (k : k' = some r → Vc P C ops l (rs ++ [⟨ks, e.slots, e.objs, e.new⟩]) (Rec.app ⟨ks, e.slots, e.objs, e.new⟩ σ) K) (hg : o.guard = none := by exact rfl) (hr : got (aop T o) σ = some (e, ks) := by exact rfl) (hd : Ycj n o.dst = true := by exact rfl) (hf : frs objs σ e.new = true := by exact rfl)
    (hc : c → e.cond := by exact fun hq => ⟨trivial, hq⟩) : Vc P C ops (o :: l) rs σ K := Yhw hT hC hg hr hd hf (hc (Xau h).1) (k (Xau h).2)
theorem kF (hC : Xhh C n objs) {i t d : Nat} {b x : Bool} (hx : x = !b) (k : Vc P C ops l (rs ++ [⟨[.s t], [(d, .tup [])], [], []⟩]) (Rec.app ⟨[.s t], [(d, .tup [])], [], []⟩ σ) K) (hg : o.guard = some (i, b) := by exact rfl) (hdi : (ops[i]?).bind (·.dst) = some t := by exact rfl) (hs : lk σ.s t = some (.sv (.bool x)) := by exact rfl) (ht : Nat.blt t n = true := by exact rfl) (hd : o.dst = some d := by exact rfl) (hdn : Nat.blt d n = true := by exact rfl) : Vc P C ops (o :: l) rs σ K :=
  Yoa hC hg hdi hs ht hx hd hdn k
theorem kI (hT : TOk P T) (hC : Xhh C n objs) {i t : Nat} {b x : Bool} {e : Eff} {ks : List Key} (hx : x = b) (k : Vc P C ops l (rs ++ [⟨.s t :: ks, e.slots, e.objs, e.new⟩]) (Rec.app ⟨.s t :: ks, e.slots, e.objs, e.new⟩ σ) K) (hg : o.guard = some (i, b) := by exact rfl) (hdi : (ops[i]?).bind (·.dst) = some t := by exact rfl) (hs : lk σ.s t = some (.sv (.bool x)) := by exact rfl) (ht : Nat.blt t n = true := by exact rfl)
    (hr : got (aop T o) σ = some (e, ks) := by exact rfl) (hd : Ycj n o.dst = true := by exact rfl) (hf : frs objs σ e.new = true := by exact rfl) (hc : e.cond := by exact trivial) : Vc P C ops (o :: l) rs σ K := Yom hT hC hg hdi hs ht hx hr hd hf hc k
theorem kJ (hT : TOk P T) (hC : Xhh C n objs) {β : Type} {c : Prop} {_ : Decidable c} {k' : Option β} {r : β} {i t : Nat} {b x : Bool} {e : Eff} {ks : List Key} (hx : x = b) (h : req c k' = some r) (k : k' = some r → Vc P C ops l (rs ++ [⟨.s t :: ks, e.slots, e.objs, e.new⟩]) (Rec.app ⟨.s t :: ks, e.slots, e.objs, e.new⟩ σ) K) (hg : o.guard = some (i, b) := by exact rfl) (hdi : (ops[i]?).bind (·.dst) = some t := by exact rfl) (hs : lk σ.s t = some (.sv (.bool x)) := by exact rfl) (ht : Nat.blt t n = true := by exact rfl)
    (hr : got (aop T o) σ = some (e, ks) := by exact rfl) (hd : Ycj n o.dst = true := by exact rfl) (hf : frs objs σ e.new = true := by exact rfl) (hc : c → e.cond := by exact fun hq => hq) : Vc P C ops (o :: l) rs σ K := Yom hT hC hg hdi hs ht hx hr hd hf (hc (Xau h).1) (k (Xau h).2)
theorem kP (hC : Xhh C n objs) {c x y : Operand} (b : Bool) {b' : Bool} {ks1 ks2 : List Key} {e : Eff} (hb : b' = b) (k : Vc P C ops l (rs ++ [⟨ks1 ++ ks2, e.slots, e.objs, e.new⟩]) (Rec.app ⟨ks1 ++ ks2, e.slots, e.objs, e.new⟩ σ) K)
    (hg : o.guard = none := by exact rfl) (ho : o.op = .pick c x y := by exact rfl) (hc : (ev c .ret).get σ [] = some (.sv (.bool b'), ks1) := by exact rfl) (hr : (ev (bif b then x else y) fun v => Xd8 o v True).get σ [] = some (e, ks2) := by exact rfl) (hd : Ycj n o.dst = true := by exact rfl) (hf : frs objs σ e.new = true := by exact rfl) (hco : e.cond := by exact trivial) : Vc P C ops (o :: l) rs σ K := Ynw hC hg ho hc hb hr hd hf hco k
theorem kW (hC : Xhh C n objs) (tab : List (Nat × Nat)) {s : List (Nat × AV)} {o : List (Nat × Option Obj)} {b b' : List Nat} {c : Prop} (ho : CO tab σ o b' := by (try dsimp only); repeat' first | exact CO.nil | apply CO.gone | apply CO.row rfl rfl | apply CO.box rfl rfl | decide) (hs : Ymi σ (Yd3 s) ((Yc6 s).map σ.slot) = some ⟨AV.renL (rn tab) (Yd3 s), b, c⟩ := by rfl) (hc : c := by first | decide | (simp; omega))
    (hok : (Xpt (Xvp (rn tab) (Xqa o)) && Xxa (rn tab) (b ++ b') (Xqa o) && Yid tab objs (Xqa o)) = true := by rfl) : Xkc C σ ⟨s, o⟩ := Xfs hC tab ho hs hc hok
theorem kX {V O R : Type} {f : V → Option (Lp V O)} {v0 : V} {k' : O → Option R} {r : R} (h : bnd (loop f v0) k' = some r) (D : V → Chg) (D' : O → Chg) (h0 : Xkc C σ (σ.upd (D v0)))
    (hb : ∀ v s, f v = some s → AWp P C x (σ.upd (D v)) (Yfx C (fun v => σ.upd (D v)) (Ynz C id fun o => σ.upd (D' o)) s)) (hk : ∀ o, k' o = some r → Q .normal (σ.upd (D' o))) : AWp P C (.block id (.loop x)) σ Q := by
  obtain ⟨o, h1, h2⟩ := Xa4 h
  exact Yjs D D' h1 h0 hb (hk o h2)
theorem kC (hC : Xhh C n objs) {c : Call} {fop : Operand} {f : Nat} {args : List AV} {ob : Xa0} {bor : List Nat} {cond : Prop} {ks : List Key} (tab : List (Nat × Nat)) (hf : Fn P f) {α R : Type} {x' : Option α} {k' : α → Option R} {r : R} (h : bnd x' k' = some r) {res : α → AV} {ob' : α → Xa0} (hA : ∀ q, x' = some q → AC P f args ob (res q) (ob' q))
    (k : ∀ q, k' q = some r → Vc P C ops l (rs ++ [⟨ks ++ Xix tab ob, Xhw tab o.dst (res q), Xfd tab ob (ob' q), Xvp (rn tab) (Xb2 ob (ob' q))⟩]) (Rec.app ⟨ks ++ Xix tab ob, Xhw tab o.dst (res q), Xfd tab ob (ob' q), Xvp (rn tab) (Xb2 ob (ob' q))⟩ σ) K)
    (hg : o.guard = none := by exact rfl) (ho : o.op = .call c := by exact rfl) (hcal : c.callee = .value fop := by exact rfl) (hd : Ycj n o.dst = true := by exact rfl) (hr : (Yhz args fop f c.args.toList).get σ [] = some (⟨args.map (AV.ren (rn tab)), bor, cond⟩, ks) := by exact rfl) (hc : cond := by decide)
    (hh : holds tab σ ob := by first | exact trivial | exact ⟨rfl, trivial⟩ | exact ⟨rfl, rfl, trivial⟩ | exact ⟨rfl, rfl, rfl, trivial⟩ | exact ⟨rfl, rfl, rfl, rfl, trivial⟩) (hok : ∀ q, Xxd tab ob (ob' q) (res q) bor = true := by exact fun _ => rfl)
    (hk : ∀ q, bor = [] ∨ (res q).flat = true ∧ Yel (ob' q) := by first | exact fun _ => .inl rfl | exact fun _ => .inr ⟨rfl, trivial⟩ | exact fun _ => .inr ⟨rfl, ⟨trivial, trivial⟩⟩ | exact fun _ => .inr ⟨rfl, ⟨fun _ => rfl, trivial⟩⟩) (hfr : ∀ q, frs objs σ (Xvp (rn tab) (Xb2 ob (ob' q))) = true := by exact fun _ => rfl) : Vc P C ops (o :: l) rs σ K := by
  obtain ⟨q, h1, h2⟩ := Xa4 h
  exact Yhv hC tab hg ho hcal hd hf (hA q h1) hr hc hh (hok q) (hk q) (hfr q) (k q h2)
theorem kE (hC : Xhh C n objs) {c : Call} {fop : Operand} {f : Nat} {args : List AV} {ob : Xa0} {bor : List Nat} {cond : Prop} {ks : List Key} {i t : Nat} {b x : Bool} (hx : x = b) (tab : List (Nat × Nat)) (hf : Fn P f) {α R : Type} {x' : Option α} {k' : α → Option R} {r : R} (h : bnd x' k' = some r) {res : α → AV} {ob' : α → Xa0} (hA : ∀ q, x' = some q → AC P f args ob (res q) (ob' q))
    (k : ∀ q, k' q = some r → Vc P C ops l (rs ++ [⟨.s t :: (ks ++ Xix tab ob), Xhw tab o.dst (res q), Xfd tab ob (ob' q), Xvp (rn tab) (Xb2 ob (ob' q))⟩]) (Rec.app ⟨.s t :: (ks ++ Xix tab ob), Xhw tab o.dst (res q), Xfd tab ob (ob' q), Xvp (rn tab) (Xb2 ob (ob' q))⟩ σ) K)
    (hg : o.guard = some (i, b) := by exact rfl) (hdi : (ops[i]?).bind (·.dst) = some t := by exact rfl) (hs : lk σ.s t = some (.sv (.bool x)) := by exact rfl) (ht : Nat.blt t n = true := by exact rfl) (ho : o.op = .call c := by exact rfl) (hcal : c.callee = .value fop := by exact rfl) (hd : Ycj n o.dst = true := by exact rfl) (hr : (Yhz args fop f c.args.toList).get σ [] = some (⟨args.map (AV.ren (rn tab)), bor, cond⟩, ks) := by exact rfl) (hc : cond := by decide)
    (hh : holds tab σ ob := by first | exact trivial | exact ⟨rfl, trivial⟩ | exact ⟨rfl, rfl, trivial⟩ | exact ⟨rfl, rfl, rfl, trivial⟩ | exact ⟨rfl, rfl, rfl, rfl, trivial⟩) (hok : ∀ q, Xxd tab ob (ob' q) (res q) bor = true := by exact fun _ => rfl)
    (hk : ∀ q, bor = [] ∨ (res q).flat = true ∧ Yel (ob' q) := by first | exact fun _ => .inl rfl | exact fun _ => .inr ⟨rfl, trivial⟩ | exact fun _ => .inr ⟨rfl, ⟨trivial, trivial⟩⟩ | exact fun _ => .inr ⟨rfl, ⟨fun _ => rfl, trivial⟩⟩) (hfr : ∀ q, frs objs σ (Xvp (rn tab) (Xb2 ob (ob' q))) = true := by exact fun _ => rfl) : Vc P C ops (o :: l) rs σ K := by
  obtain ⟨q, h1, h2⟩ := Xa4 h
  exact Yka hC tab hg hdi hs ht hx ho hcal hd hf (hA q h1) hr hc hh (hok q) (hk q) (hfr q) (k q h2)
end
theorem kM {p : Prop} (k : p := by injection h with h; subst h; exact Xjo (kW hC [])) : p := k
theorem kG {p : Prop} (k : p := by injection h with h; subst h; exact Yby (kW hC [])) : p := k
theorem ku {p : Prop} (k : p := by injection h with h; subst h; exact Yhj (Ymn (kW hC []))) : p := k
theorem kb {p : Prop} (k : p := by injection h with h; subst h; exact Yhj (Yng (kW hC []))) : p := k
theorem kR {p : Prop} (k : p := by injection h with h; subst h; exact Xcl (Xkc.refl _) rfl trivial) : p := k
end Go.Proofs.YtlebkepfhdjnmadGreatAL
