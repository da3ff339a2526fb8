/- Words beside the print's own: an empty slice made with a capacity; shorter ways to say what a walk says often. Conditions: as each statement tells. -/
import Derived.Test.YtfbifogoheajmaaWWords
import Derived.Test.YtfbifogoheajmaaWMore
namespace Go.Proofs.YtfbifogoheajmaaW.PrintMore
open Go.RowKit Go.Proofs.YtfbifogoheajmaaW.PrintWords Go.Proofs.YtfbifogoheajmaaW.PrintWords.Kd
set_option linter.unusedVariables false
namespace Kd
section
variable {P : Program} {ops : Array Oper} {rest : List Oper} {o : Oper} {a : Act} {Q : Exit → Act → World → Prop}
variable {α : Type}
/-- make([]T, 0, c): nothing in it yet. -/
theorem R_makecap (d : Kd α) {w0 W : World} (base e : Nat) (hgd : o.guard = none) {N : Tmp} (hd : o.dst = some N) (t : TypeId) (x y : Operand) (ho : o.op = .makeSlice t x y) (c : Int) (hx : a.eval x = .int .i64 0) (hy : a.eval y = .int .i64 c)
    (ht : P.underlying t = some (.slice e)) (z : Value) (bytes : Nat) (hinfo : (P.info? e).map (fun i => (i.zero, i.size, i.bytes)) = some (some z, d.sz, bytes)) (hb0 : 0 < bytes)
    {ok : Nat → Prop} (hfresh : ok W.heap.size) (h0 : 0 ≤ c) (hl : c.toNat * bytes ≤ 281474976710656) (HB : Below base w0 W) (hbase : base ≤ W.heap.size)
    (h : ∀ v1 w1, d.R e w1 base ok v1 [] → Below base w0 w1 → W.grownBy w1 none → (∃ b, v1.ownBlock = some b ∧ W.heap.size ≤ b) → wpList P ops Q rest (a.put o.dst v1) w1) : wpList P ops Q (o :: rest) a W := by
  obtain ⟨m, rfl⟩ := Int.eq_ofNat_of_zero_le h0
  simp only [Int.toNat_natCast] at hl
  obtain ⟨i0, hi, hzz⟩ := Option.map_eq_some_iff.1 hinfo
  simp only [Prod.mk.injEq] at hzz
  obtain ⟨hz0, hz1, hz2⟩ := hzz
  have hm : m ≤ 281474976710656 := Nat.le_trans (Nat.le_mul_of_pos_right _ hb0) hl
  have hr := run_make (P := P) W t e i0 z ht hi hz0 .i64 .i64 0 (m : Int) (by omega) (by omega)
    (by
      have h3 : ((i0.bytes * m : Nat) : Int) ≤ 281474976710656 := by rw [hz2, Nat.mul_comm]; omega
      rwa [Int.natCast_mul] at h3) (by omega)
  simp only [Int.toNat_natCast, Int.toNat_zero] at hr
  have hw := World.ownsRow_lit (base := base) (e := e) (size := d.sz) W (madeCells z.cells (m * i0.size)) m hbase (by simp only [maxLen]; omega) (by rw [size_madeCells, hz1])
  have h0w := own_take hw (Nat.zero_le _)
  rw [Nat.zero_mul, List.take_zero] at h0w
  refine event_run hgd (v := .slice (some ⟨W.heap.size, 0, none⟩) 0 m) (w1 := W.alloc (.cells (madeCells z.cells (m * i0.size)) e)) (by simp [execOp, ho, hx, hy, hr]) (h _ _ ⟨fun k hk => ?_, [], h0w, Reps.none _ _⟩ (HB.alloc hbase _) (World.grownBy_alloc W _ none) ⟨W.heap.size, by simp [Value.ownBlock], Nat.le_refl _⟩)
  have : W.heap.size = k := by simpa [Value.ownBlock] using hk
  subst this
  exact hfresh
end
end Kd
end Go.Proofs.YtfbifogoheajmaaW.PrintMore
namespace Go.Proofs.YtfbifogoheajmaaW.PrintMore
open Go.RowKit Go.Proofs.YtfbifogoheajmaaW.PrintWords
/-- Below, by the steps since. -/
theorem bl {p : Prop} (h : p := by repeat (first | (with_reducible first | exact HB.out | apply below_alloc | apply pw_below_drewN | apply below_drew1 | refine below_set ?_ (Aside0.out (by with_reducible assumption))) | exact HB.out)) : p := h
theorem blw {p : Prop} (h : p := by repeat (first | (with_reducible first | exact HBW.out | apply below_alloc | apply pw_below_drewN | apply below_drew1 | refine below_set ?_ (Aside0.out (by with_reducible assumption))) | exact HBW.out)) : p := h
theorem bz {w W : World} {g : Nat} (hg : g = W.heap.size) (h : Below w.heap.size w W := by repeat (first | (with_reducible first | exact HB.out | apply below_alloc | apply pw_below_drewN | apply below_drew1 | refine below_set ?_ (Aside0.out (by with_reducible assumption))) | exact HB.out)) : Aside0 (w.heap.size ≤ g) := ⟨by rw [hg]; exact below_size h⟩
theorem bs {w W0 W w2 : World} (_HB : Aside0 (Below w.heap.size w W0)) (k : Below W.heap.size W w2) (h : Below w.heap.size w W := by repeat (first | (with_reducible first | exact HB.out | apply below_alloc | apply pw_below_drewN | apply below_drew1 | refine below_set ?_ (Aside0.out (by with_reducible assumption))) | exact HB.out)) : Aside0 (Below w.heap.size w w2) := ⟨below_step h k⟩
/-- What a result reads as. -/
theorem rr {p : Prop} (h : p := by first | rfl | (simp [errW_none, errW_some] <;> rfl) | (simp [*, errW_none, errW_some] <;> rfl)) : p := h
/-- A block lives on over what was made and drawn since. -/
def BExt (W W' : World) : Prop := ∀ (g : Nat) (o : Obj), W.heap[g]? = some o → W'.heap[g]? = some o
theorem BExt.refl (W : World) : BExt W W := fun _ _ h => h
theorem BExt.drewN {W W' : World} (h : BExt W W') (n : Nat) : BExt W (W'.drewN n) := fun g o k => blk_drewN (h g o k) n
theorem BExt.drew {W W' : World} (h : BExt W W') : BExt W W'.drew := fun g o k => blk_drew (h g o k)
theorem BExt.alloc {W W' : World} (h : BExt W W') (o' : Obj) : BExt W (W'.alloc o') := fun g o k => blk_alloc (h g o k) o'
theorem bx {W W' : World} {g : Nat} {o : Obj} (h : W.heap[g]? = some o) (e : BExt W W' := by (with_reducible repeat (first | exact BExt.refl _ | refine BExt.drewN ?_ _ | refine BExt.drew ?_ | refine BExt.alloc ?_ _))) : W'.heap[g]? = some o := e _ _ h
end Go.Proofs.YtfbifogoheajmaaW.PrintMore
