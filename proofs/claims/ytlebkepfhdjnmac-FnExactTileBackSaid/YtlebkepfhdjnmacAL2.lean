/- An abstract logic for Go functions, part 2: what a state of symbolic values and objects says of a world, and what each operation does to it. Conditions: as each statement tells. -/
import Derived.KernelRfl
import Derived.Test.YtlebkepfhdjnmacAL1
set_option linter.unusedSimpArgs false
/- An abstract logic for Go functions: steps under short names, their plain conditions closed by themselves. Conditions: as each statement tells. -/
namespace Go.Proofs.YtlebkepfhdjnmacAL
open Go.RowKit
set_option linter.unusedVariables false
theorem co {p : Prop} (h : p := by repeat' first | exact CO.nil | apply CO.gone | apply CO.row rfl rfl | apply CO.box rfl rfl | decide) : p := h
theorem kn {a b : Bool} (h : a = b) : (!a) = !b := congrArg Bool.not h
theorem kj {α : Type} {a b : α} (h : some a = some b) : a = b := Option.some.inj h
theorem kS {β : Type} {b : Bool} {x y : Option β} {r : β} {p : Prop} (h : sel b x y = some r) (h1 : b = true → x = some r → p) (h2 : b = false → y = some r → p) : p := (Xj0 h).elim (fun h => h1 h.1 h.2) fun h => h2 h.1 h.2
section
variable {P : Program} {T : Nat → Option TI} {C : Ctx} {σ : St} {n : Nat} {objs : Xa2} {x y z : Code} {Q : Exit → St → Prop} {id : Nat} {ops : Array Oper} {o : Oper} {l : List Oper} {rs : List Rec} {K : List Rec → St → Prop}
theorem kN {Q : Exit → St → Prop} {l : List Oper} (h : Vc P C l.toArray l [] σ (fun _ σ' => AWp P C y σ' Q)) : Vc P C ops [] rs σ (fun _ σ' => AWp P C (.seq (.region id l.toArray false) y) σ' Q) := .nil (Xac h)
theorem kD {p : St → Prop} {ls : List Oper} {σ0 : St} (h : p σ) (hf : Xen ls rs σ0 = true := by kernel_rfl) : Vc P C ops [] rs σ (fun rs σ' => Xen ls rs σ0 = true ∧ p σ') := .nil ⟨hf, h⟩
theorem kL (ks os : List Nat) (s' : List (Nat × AV)) (o' : List (Nat × Option Obj)) (k : AWp P C x ⟨s', o'⟩ Q) (hs : Yef ks σ.s = s' := by exact rfl) (ho : Yef os σ.o = o' := by exact rfl) : AWp P C x σ Q := Yi1 ks os hs ho k
theorem kt {t : Nat} {b : Bool} (hb : b = true) (h : AWp P C x σ Q) (hs : lk σ.s t = some (.sv (.bool b)) := by exact rfl) : AWp P C (.cond (.tmp t) x y) σ Q := Yhr hs hb h
theorem kf {t : Nat} {b : Bool} (hb : b = false) (h : AWp P C y σ Q) (hs : lk σ.s t = some (.sv (.bool b)) := by exact rfl) : AWp P C (.cond (.tmp t) x y) σ Q := Ygv hs hb h
theorem kA {α R : Type} {x' : Option α} {f : α → Option R} {r : R} (h : bnd x' f = some r) (D : α → Chg) (hx : ∀ v, x' = some v → AWp P C x σ (Yid C (σ.upd (D v)) Q)) (hy : ∀ v, f v = some r → AWp P C y (σ.upd (D v)) Q) : AWp P C (.seq x y) σ Q := by
  obtain ⟨v, h1, h2⟩ := Xa9 h
  exact Yif (D v) (hx v h1) (hy v h2)
theorem kO (hT : TOk P T) (hC : Xfj C n objs) {e : Eff} {ks : List Key} (k : Vc P C ops l (rs ++ [⟨ks, e.slots, e.objs, e.new⟩]) (Rec.app ⟨ks, e.slots, e.objs, e.new⟩ σ) K) (hg : o.guard = none := by exact rfl) (hr : got (aop T o) σ = some (e, ks) := by exact rfl) (hd : Xwz n o.dst = true := by exact rfl) (hf : frs objs σ e.new = true := by exact rfl) (hc : e.cond := by exact trivial) : Vc P C ops (o :: l) rs σ K := Xz6 hT hC hg hr hd hf hc k
theorem kQ (hT : TOk P T) (hC : Xfj C n objs) {β : Type} {c : Prop} {_ : Decidable c} {k' : Option β} {r : β} (h : req c k' = some r) {e : Eff} {ks : List Key} (k : k' = some r → Vc P C ops l (rs ++ [⟨ks, e.slots, e.objs, e.new⟩]) (Rec.app ⟨ks, e.slots, e.objs, e.new⟩ σ) K) (hg : o.guard = none := by exact rfl) (hr : got (aop T o) σ = some (e, ks) := by exact rfl) (hd : Xwz n o.dst = true := by exact rfl) (hf : frs objs σ e.new = true := by exact rfl)
    (hc : c → e.cond := by exact fun hq => hq) : Vc P C ops (o :: l) rs σ K := Xz6 hT hC hg hr hd hf (hc (Xaw h).1) (k (Xaw h).2)
theorem kT (hT : TOk P T) (hC : Xfj C n objs) {β : Type} {c : Prop} {_ : Decidable c} {k' : Option β} {r : β} (h : req c k' = some r) {e : Eff} {ks : List Key} (k : k' = some r → Vc P C ops l (rs ++ [⟨ks, e.slots, e.objs, e.new⟩]) (Rec.app ⟨ks, e.slots, e.objs, e.new⟩ σ) K) (hg : o.guard = none := by exact rfl) (hr : got (aop T o) σ = some (e, ks) := by exact rfl) (hd : Xwz n o.dst = true := by exact rfl) (hf : frs objs σ e.new = true := by exact rfl)
    (hc : c → e.cond := by exact fun hq => ⟨trivial, hq⟩) : Vc P C ops (o :: l) rs σ K := Xz6 hT hC hg hr hd hf (hc (Xaw h).1) (k (Xaw h).2)
theorem kF (hC : Xfj C n objs) {i t d : Nat} {b x : Bool} (hx : x = !b) (k : Vc P C ops l (rs ++ [⟨[.s t], [(d, .tup [])], [], []⟩]) (Rec.app ⟨[.s t], [(d, .tup [])], [], []⟩ σ) K) (hg : o.guard = some (i, b) := by exact rfl) (hdi : (ops[i]?).bind (·.dst) = some t := by exact rfl) (hs : lk σ.s t = some (.sv (.bool x)) := by exact rfl) (ht : Nat.blt t n = true := by exact rfl) (hd : o.dst = some d := by exact rfl) (hdn : Nat.blt d n = true := by exact rfl) : Vc P C ops (o :: l) rs σ K :=
  Yil hC hg hdi hs ht hx hd hdn k
theorem kI (hT : TOk P T) (hC : Xfj C n objs) {i t : Nat} {b x : Bool} {e : Eff} {ks : List Key} (hx : x = b) (k : Vc P C ops l (rs ++ [⟨.s t :: ks, e.slots, e.objs, e.new⟩]) (Rec.app ⟨.s t :: ks, e.slots, e.objs, e.new⟩ σ) K) (hg : o.guard = some (i, b) := by exact rfl) (hdi : (ops[i]?).bind (·.dst) = some t := by exact rfl) (hs : lk σ.s t = some (.sv (.bool x)) := by exact rfl) (ht : Nat.blt t n = true := by exact rfl)
    (hr : got (aop T o) σ = some (e, ks) := by exact rfl) (hd : Xwz n o.dst = true := by exact rfl) (hf : frs objs σ e.new = true := by exact rfl) (hc : e.cond := by exact trivial) : Vc P C ops (o :: l) rs σ K := Yi0 hT hC hg hdi hs ht hx hr hd hf hc k
theorem kJ (hT : TOk P T) (hC : Xfj C n objs) {β : Type} {c : Prop} {_ : Decidable c} {k' : Option β} {r : β} {i t : Nat} {b x : Bool} {e : Eff} {ks : List Key} (hx : x = b) (h : req c k' = some r) (k : k' = some r → Vc P C ops l (rs ++ [⟨.s t :: ks, e.slots, e.objs, e.new⟩]) (Rec.app ⟨.s t :: ks, e.slots, e.objs, e.new⟩ σ) K) (hg : o.guard = some (i, b) := by exact rfl) (hdi : (ops[i]?).bind (·.dst) = some t := by exact rfl) (hs : lk σ.s t = some (.sv (.bool x)) := by exact rfl) (ht : Nat.blt t n = true := by exact rfl)
    (hr : got (aop T o) σ = some (e, ks) := by exact rfl) (hd : Xwz n o.dst = true := by exact rfl) (hf : frs objs σ e.new = true := by exact rfl) (hc : c → e.cond := by exact fun hq => hq) : Vc P C ops (o :: l) rs σ K := Yi0 hT hC hg hdi hs ht hx hr hd hf (hc (Xaw h).1) (k (Xaw h).2)
theorem kP (hC : Xfj C n objs) {c x y : Operand} (b : Bool) {b' : Bool} {ks1 ks2 : List Key} {e : Eff} (hb : b' = b) (k : Vc P C ops l (rs ++ [⟨ks1 ++ ks2, e.slots, e.objs, e.new⟩]) (Rec.app ⟨ks1 ++ ks2, e.slots, e.objs, e.new⟩ σ) K)
    (hg : o.guard = none := by exact rfl) (ho : o.op = .pick c x y := by exact rfl) (hc : (ev c .ret).get σ [] = some (.sv (.bool b'), ks1) := by exact rfl) (hr : (ev (bif b then x else y) fun v => Xdb o v True).get σ [] = some (e, ks2) := by exact rfl) (hd : Xwz n o.dst = true := by exact rfl) (hf : frs objs σ e.new = true := by exact rfl) (hco : e.cond := by exact trivial) : Vc P C ops (o :: l) rs σ K := Yh6 hC hg ho hc hb hr hd hf hco k
theorem kW (hC : Xfj C n objs) (tab : List (Nat × Nat)) {s : List (Nat × AV)} {o : List (Nat × Option Obj)} {b b' : List Nat} {c : Prop} (ho : CO tab σ o b' := by (try dsimp only); repeat' first | exact CO.nil | apply CO.gone | apply CO.row rfl rfl | apply CO.box rfl rfl | decide) (hs : Ygl σ (Xyc s) ((Xxh s).map σ.slot) = some ⟨AV.renL (rn tab) (Xyc s), b, c⟩ := by rfl) (hc : c := by first | decide | (simp; omega))
    (hok : (Xmb (Xqr (rn tab) (Xmn o)) && Xr1 (rn tab) (b ++ b') (Xmn o) && Ycc tab objs (Xmn o)) = true := by rfl) : Xhs C σ ⟨s, o⟩ := Xg7 hC tab ho hs hc hok
theorem kX {V O R : Type} {f : V → Option (Lp V O)} {v0 : V} {k' : O → Option R} {r : R} (h : bnd (loop f v0) k' = some r) (D : V → Chg) (D' : O → Chg) (h0 : Xhs C σ (σ.upd (D v0)))
    (hb : ∀ v s, f v = some s → AWp P C x (σ.upd (D v)) (Xz9 C (fun v => σ.upd (D v)) (Yh8 C id fun o => σ.upd (D' o)) s)) (hk : ∀ o, k' o = some r → Q .normal (σ.upd (D' o))) : AWp P C (.block id (.loop x)) σ Q := by
  obtain ⟨o, h1, h2⟩ := Xa9 h
  exact Ydv D D' h1 h0 hb (hk o h2)
theorem kC (hC : Xfj C n objs) {c : Call} {fop : Operand} {f : Nat} {args : List AV} {ob : Xa2} {bor : List Nat} {cond : Prop} {ks : List Key} (tab : List (Nat × Nat)) (hf : Fn P f) {α R : Type} {x' : Option α} {k' : α → Option R} {r : R} (h : bnd x' k' = some r) {res : α → AV} {ob' : α → Xa2} (hA : ∀ q, x' = some q → AC P f args ob (res q) (ob' q))
    (k : ∀ q, k' q = some r → Vc P C ops l (rs ++ [⟨ks ++ Xgh tab ob, Xfx tab o.dst (res q), Xdw tab ob (ob' q), Xqr (rn tab) (Xbq ob (ob' q))⟩]) (Rec.app ⟨ks ++ Xgh tab ob, Xfx tab o.dst (res q), Xdw tab ob (ob' q), Xqr (rn tab) (Xbq ob (ob' q))⟩ σ) K)
    (hg : o.guard = none := by exact rfl) (ho : o.op = .call c := by exact rfl) (hcal : c.callee = .value fop := by exact rfl) (hd : Xwz n o.dst = true := by exact rfl) (hr : (Yb0 args fop f c.args.toList).get σ [] = some (⟨args.map (AV.ren (rn tab)), bor, cond⟩, ks) := by exact rfl) (hc : cond := by decide)
    (hh : holds tab σ ob := by first | exact trivial | exact ⟨rfl, trivial⟩ | exact ⟨rfl, rfl, trivial⟩ | exact ⟨rfl, rfl, rfl, trivial⟩ | exact ⟨rfl, rfl, rfl, rfl, trivial⟩) (hok : ∀ q, Xr7 tab ob (ob' q) (res q) bor = true := by exact fun _ => rfl)
    (hk : ∀ q, bor = [] ∨ (res q).flat = true ∧ Xyx (ob' q) := by first | exact fun _ => .inl rfl | exact fun _ => .inr ⟨rfl, trivial⟩ | exact fun _ => .inr ⟨rfl, ⟨trivial, trivial⟩⟩ | exact fun _ => .inr ⟨rfl, ⟨fun _ => rfl, trivial⟩⟩) (hfr : ∀ q, frs objs σ (Xqr (rn tab) (Xbq ob (ob' q))) = true := by exact fun _ => rfl) : Vc P C ops (o :: l) rs σ K := by
  obtain ⟨q, h1, h2⟩ := Xa9 h
  exact Yh4 hC tab hg ho hcal hd hf (hA q h1) hr hc hh (hok q) (hk q) (hfr q) (k q h2)
theorem kE (hC : Xfj C n objs) {c : Call} {fop : Operand} {f : Nat} {args : List AV} {ob : Xa2} {bor : List Nat} {cond : Prop} {ks : List Key} {i t : Nat} {b x : Bool} (hx : x = b) (tab : List (Nat × Nat)) (hf : Fn P f) {α R : Type} {x' : Option α} {k' : α → Option R} {r : R} (h : bnd x' k' = some r) {res : α → AV} {ob' : α → Xa2} (hA : ∀ q, x' = some q → AC P f args ob (res q) (ob' q))
    (k : ∀ q, k' q = some r → Vc P C ops l (rs ++ [⟨.s t :: (ks ++ Xgh tab ob), Xfx tab o.dst (res q), Xdw tab ob (ob' q), Xqr (rn tab) (Xbq ob (ob' q))⟩]) (Rec.app ⟨.s t :: (ks ++ Xgh tab ob), Xfx tab o.dst (res q), Xdw tab ob (ob' q), Xqr (rn tab) (Xbq ob (ob' q))⟩ σ) K)
    (hg : o.guard = some (i, b) := by exact rfl) (hdi : (ops[i]?).bind (·.dst) = some t := by exact rfl) (hs : lk σ.s t = some (.sv (.bool x)) := by exact rfl) (ht : Nat.blt t n = true := by exact rfl) (ho : o.op = .call c := by exact rfl) (hcal : c.callee = .value fop := by exact rfl) (hd : Xwz n o.dst = true := by exact rfl) (hr : (Yb0 args fop f c.args.toList).get σ [] = some (⟨args.map (AV.ren (rn tab)), bor, cond⟩, ks) := by exact rfl) (hc : cond := by decide)
    (hh : holds tab σ ob := by first | exact trivial | exact ⟨rfl, trivial⟩ | exact ⟨rfl, rfl, trivial⟩ | exact ⟨rfl, rfl, rfl, trivial⟩ | exact ⟨rfl, rfl, rfl, rfl, trivial⟩) (hok : ∀ q, Xr7 tab ob (ob' q) (res q) bor = true := by exact fun _ => rfl)
    (hk : ∀ q, bor = [] ∨ (res q).flat = true ∧ Xyx (ob' q) := by first | exact fun _ => .inl rfl | exact fun _ => .inr ⟨rfl, trivial⟩ | exact fun _ => .inr ⟨rfl, ⟨trivial, trivial⟩⟩ | exact fun _ => .inr ⟨rfl, ⟨fun _ => rfl, trivial⟩⟩) (hfr : ∀ q, frs objs σ (Xqr (rn tab) (Xbq ob (ob' q))) = true := by exact fun _ => rfl) : Vc P C ops (o :: l) rs σ K := by
  obtain ⟨q, h1, h2⟩ := Xa9 h
  exact Yeb hC tab hg hdi hs ht hx ho hcal hd hf (hA q h1) hr hc hh (hok q) (hk q) (hfr q) (k q h2)
end
theorem kM {p : Prop} (k : p := by injection h with h; subst h; exact Xil (kW hC [])) : p := k
theorem kG {p : Prop} (k : p := by injection h with h; subst h; exact Yce (kW hC [])) : p := k
theorem ku {p : Prop} (k : p := by injection h with h; subst h; exact Ybq (Ygp (kW hC []))) : p := k
theorem kb {p : Prop} (k : p := by injection h with h; subst h; exact Ybq (Yho (kW hC []))) : p := k
theorem kR {p : Prop} (k : p := by injection h with h; subst h; exact Xea (Xhs.refl _) rfl trivial) : p := k
end Go.Proofs.YtlebkepfhdjnmacAL
