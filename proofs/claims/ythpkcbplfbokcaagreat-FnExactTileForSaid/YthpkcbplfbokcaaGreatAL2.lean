/- An abstract logic for Go functions, part 2: what a state of symbolic values and objects says of a world, and what each operation does to it. Conditions: as each statement tells. -/
import Derived.KernelRfl
import Derived.Test.YthpkcbplfbokcaaGreatAL1
set_option linter.unusedSimpArgs false
/- An abstract logic for Go functions: arrays, and copy. Conditions: as each statement tells. -/
namespace Go.Proofs.YthpkcbplfbokcaaGreatAL
open Go.RowKit
set_option linter.unusedVariables false
section
variable {P : Program} {T : Nat → Option TI} {C : Ctx} {σ : St} {n : Nat} {objs : Xa1} {ops : Array Oper} {o : Oper} {l : List Oper} {rs : List Rec} {K : List Rec → St → Prop} {w : World} {A : Nat → Prop} {μ : Nat → Value} {a : Act}
def aiL {α : Type 1} (kd : IntKind) : List AV → (List Int → RM α) → RM α
  | [], k => k []
  | .sv (.int k' n) :: l, k => if k' = kd then aiL kd l fun ns => k (n :: ns) else .fail
  | _, _ => .fail
theorem Ygb {α : Type 1} {kd : IntKind} : ∀ {l : List AV} {k : List Int → RM α} {ks : List Key} {r : α × List Key}, (aiL kd l k).run σ ks = some r → ∃ ns, l = ns.map (fun n => .sv (.int kd n)) ∧ (k ns).run σ ks = some r
  | [], k, ks, r, h => ⟨[], rfl, h⟩
  | .sv (.int k' n) :: l, k, ks, r, h => by
    rw [aiL] at h
    split at h
    · rename_i e
      subst e
      obtain ⟨ns, e, h⟩ := Ygb h
      exact ⟨n :: ns, by rw [e]; rfl, h⟩
    · simp [RM.run] at h
  | .sv (.bool _) :: l, _, _, _, h => by simp [aiL, RM.run] at h
  | .sv (.str _) :: l, _, _, _, h => by simp [aiL, RM.run] at h
  | .sv .nil :: l, _, _, _, h => by simp [aiL, RM.run] at h
  | .sv (.ints _ _) :: l, _, _, _, h => by simp [aiL, RM.run] at h
  | .sv (.raw _) :: l, _, _, _, h => by simp [aiL, RM.run] at h
  | .sv (.sl _ _ _ _ _) :: l, _, _, _, h => by simp [aiL, RM.run] at h
  | .any :: l, _, _, _, h => by simp [aiL, RM.run] at h
  | .own _ :: l, _, _, _, h => by simp [aiL, RM.run] at h
  | .sub _ _ _ _ :: l, _, _, _, h => by simp [aiL, RM.run] at h
  | .ptr _ _ :: l, _, _, _, h => by simp [aiL, RM.run] at h
  | .eptr _ _ _ _ :: l, _, _, _, h => by simp [aiL, RM.run] at h
  | .iptr _ _ :: l, _, _, _, h => by simp [aiL, RM.run] at h
  | .agg _ :: l, _, _, _, h => by simp [aiL, RM.run] at h
  | .tup _ :: l, _, _, _, h => by simp [aiL, RM.run] at h
  | .fn _ _ :: l, _, _, _, h => by simp [aiL, RM.run] at h
def Ylk (T : Nat → Option TI) (t : Nat) : Option (Nat × IntKind) := match T t with
  | some ⟨.arr m e, _, _, _, _⟩ => (match T e with | some ⟨.int k, 1, _, _, _⟩ => some (m, k) | _ => none)
  | _ => none
def Yjj (T : Nat → Option TI) (t : Nat) : Option IntKind := match T t with | some ⟨.int k, 1, _, _, _⟩ => some k | _ => none
theorem Yee {t m : Nat} {k : IntKind} (h : Ylk T t = some (m, k)) : ∃ e n b z ek b' z' ek', T t = some ⟨.arr m e, n, b, z, ek⟩ ∧ T e = some ⟨.int k, 1, b', z', ek'⟩ := by
  unfold Ylk at h
  split at h
  · rename_i h1
    split at h
    · rename_i h2; cases h; exact ⟨_, _, _, _, _, _, _, _, h1, h2⟩
    · cases h
  · cases h
theorem Xvr {t : Nat} {k : IntKind} (h : Yjj T t = some k) : ∃ b z ek, T t = some ⟨.int k, 1, b, z, ek⟩ := by
  unfold Yjj at h
  split at h
  · rename_i h1; cases h; exact ⟨_, _, _, h1⟩
  · cases h
structure R3 : Type 1 where
  l : List Int
  i : Int
  j : Nat
/-! An array of numbers, read at a place that is reckoned. -/
def Yrr (kd : IntKind) (x i : Operand) : RM R3 := ev x fun a => ev i fun b => match a, b with
  | .agg cs, .sv (.int _ i) => aiL kd cs fun l => .ret ⟨l, i, 0⟩
  | _, _ => .fail
theorem Yo7 (hT : TOk P T) {t m d : Nat} {x ix : Operand} {kd : IntKind} {l : List Int} {i : Int} {ks : List Key} (hd : ∀ d, o.dst = some d → d < C.n) (ho : o.op = .index t x ix) (ht : Ylk T t = some (m, kd)) (hr : (Yrr kd x ix).run σ [] = some (⟨l, i, 0⟩, ks))
    (hdst : o.dst = some d) (hl : l.length = m) (hc : 0 ≤ i ∧ i < l.length) : Yg0 P C o ⟨ks, [(d, .sv (.int kd (l.getD i.toNat 0)))], [], []⟩ σ := by
  intro τ ha hf a w ⟨μ, A, h⟩
  obtain ⟨e, n, b, z, ek, b', z', ek', h1, h2⟩ := Yee ht
  obtain ⟨v, k1, hv, hr1⟩ := Xbd (Xdo hr ha)
  obtain ⟨u, k2, hu, hr2⟩ := Xbd hr1
  split at hr2
  · rename_i cs kx i'
    obtain ⟨ns, e1, hr2⟩ := Ygb hr2
    simp only [RM.run, Option.some.injEq, Prod.mk.injEq, R3.mk.injEq] at hr2
    obtain ⟨⟨rfl, rfl, _⟩, _⟩ := hr2
    have g1 := h.ev hv
    have g2 := Xbt (h.ev hu)
    generalize hx : a.eval x = y at g1
    cases g1 with
    | agg _ vs hsz hall =>
      have hlt : i'.toNat < vs.size := by rw [hsz, e1, List.length_map]; omega
      have hcell := hall i'.toNat (.sv (.int kd (ns.getD i'.toNat 0))) vs[i'.toNat] (by rw [e1, List.getElem?_map]; simp [List.getD, show i'.toNat < ns.length by omega]) (Array.getElem?_eq_getElem hlt)
      have he := Xbt hcell
      refine Xax (v := .sv (.int kd (ns.getD i'.toNat 0))) (u := .int kd (ns.getD i'.toNat 0)) (c := True) (ks := []) (ks' := []) h (by simp only [Xe8, hdst]; rfl) hd (fun _ => ?_) (fun _ => .sv (.int _ _)) trivial
      have hm : 0 ≤ i' ∧ i' < (m : Int) := by rw [← hl]; exact hc
      have hpart : (part e vs (i'.toNat * 1)).run P w = .ok (.int kd (ns.getD i'.toNat 0)) w := by
        unfold part
        simp only [Sem.run_bind, Xv0 hT h2, Result.andThen_ok, TI.isAgg, Nat.mul_one, Array.getElem?_eq_getElem hlt, Bool.false_eq_true, if_false, Sem.run_pure, he]
      simp only [execOp, ho, hx, g2, Instr.index, asIntOf, Sem.run_bind, Sem.run_pure, Result.andThen_ok, run_underlying (Yqb hT h1), if_pos hm, Xb5 hT h2, hpart]
  · cases hr2
theorem Ysa (hT : TOk P T) (hC : Xgf C n objs) {t m d : Nat} {x ix : Operand} {kd : IntKind} {li : List Int} {i : Int} {ks : List Key} (hg : o.guard = none) (ho : o.op = .index t x ix) (ht : Ylk T t = some (m, kd)) (hr : (Yrr kd x ix).get σ [] = some (⟨li, i, 0⟩, ks))
    (hdst : o.dst = some d) (hd : Xy8 n o.dst = true) (hl : li.length = m) (hc : 0 ≤ i ∧ i < li.length)
    (k : Vc P C ops l (rs ++ [⟨ks, [(d, .sv (.int kd (li.getD i.toNat 0)))], [], []⟩]) (Rec.app ⟨ks, [(d, .sv (.int kd (li.getD i.toNat 0)))], [], []⟩ σ) K) : Vc P C ops (o :: l) rs σ K :=
  .cons _ (Xnh hg (Yo7 hT (Xh3 hC hd) ho ht (Xeu hr) hdst hl hc)) (fun _ h => by simp at h) k
/-! A box of numbers, read at a place that is reckoned. -/
def Yry (kd : IntKind) (x : Operand) : RM R3 := ev x fun
  | .ptr id off => .obj id fun
    | some (.box cells) => aiL kd cells fun l => .ret ⟨l, 0, off⟩
    | _ => .fail
  | _ => .fail
theorem Yo8 (hT : TOk P T) {t d : Nat} {x : Operand} {kd : IntKind} {l : List Int} {i : Nat} {ks : List Key} (hd : ∀ d, o.dst = some d → d < C.n) (ho : o.op = .load t x) (ht : Yjj T t = some kd) (hr : (Yry kd x).run σ [] = some (⟨l, 0, i⟩, ks))
    (hdst : o.dst = some d) (hc : i < l.length) : Yg0 P C o ⟨ks, [(d, .sv (.int kd (l.getD i 0)))], [], []⟩ σ := by
  intro τ ha hf a w ⟨μ, A, h⟩
  obtain ⟨b, z, ek, h1⟩ := Xvr ht
  obtain ⟨v, k1, hv, hr1⟩ := Xbd (Xdo hr ha)
  split at hr1
  · rename_i id off
    simp only [RM.run] at hr1
    split at hr1
    · rename_i cells hob
      obtain ⟨ns, e1, hr2⟩ := Ygb hr1
      simp only [RM.run, Option.some.injEq, Prod.mk.injEq, R3.mk.injEq] at hr2
      obtain ⟨⟨rfl, _, rfl⟩, _⟩ := hr2
      obtain ⟨g, cs, E, fr, hm, hg, hnf, hl, hcell⟩ := h.box hob
      have g1 := h.ev hv
      generalize hx : a.eval x = y at g1
      cases g1 with
      | ptr _ _ g' hm' =>
        rw [hm] at hm'
        injection hm' with e2
        injection e2 with e2
        injection e2 with e2
        subst e2
        have hdrop : ∃ tl, cells.drop off = .sv (.int kd (ns.getD off 0)) :: tl := by
          rw [e1, ← List.map_drop]
          refine ⟨(ns.drop (off + 1)).map (fun n => AV.sv (SV.int kd n)), ?_⟩
          rw [List.drop_eq_getElem_cons hc, List.map_cons]
          simp [List.getD, hc]
        obtain ⟨tl, htl⟩ := hdrop
        obtain ⟨u, hu, hrep⟩ := Xsc (P := P) (w := w) (g := g) (b := 0) (A := A) (μ := μ) (cells := cells) (off := off) (v := .sv (.int kd (ns.getD off 0))) hT h1 (fun j y hj => by
          have hlt : j < cs.size := by rw [hl]; exact (List.getElem?_eq_some_iff.1 hj).1
          refine ⟨cs[j], ?_, (hcell j y _ hj (Array.getElem?_eq_getElem hlt)).1⟩
          rw [cell_of_row w g _ cs E fr hg, Nat.zero_add]; exact Array.getElem?_eq_getElem hlt) (by simp only [Xq7, TI.isAgg, Bool.false_eq_true, if_false, htl])
        rw [Nat.zero_add] at hu
        have he := Xbt hrep
        subst he
        refine Xax (v := .sv (.int kd (ns.getD off 0))) (u := .int kd (ns.getD off 0)) (c := True) (ks := []) (ks' := []) h (by simp only [Xe8, hdst]; rfl) hd (fun _ => ?_) (fun _ => .sv (.int _ _)) trivial
        simp [execOp, ho, hx, Instr.loadAt, Instr.sureAddr, hu]
    · simp [RM.run] at hr1
  · simp [RM.run] at hr1
theorem Ysc (hT : TOk P T) (hC : Xgf C n objs) {t d : Nat} {x : Operand} {kd : IntKind} {li : List Int} {i : Nat} {ks : List Key} (hg : o.guard = none) (ho : o.op = .load t x) (ht : Yjj T t = some kd) (hr : (Yry kd x).get σ [] = some (⟨li, 0, i⟩, ks))
    (hdst : o.dst = some d) (hd : Xy8 n o.dst = true) (hc : i < li.length)
    (k : Vc P C ops l (rs ++ [⟨ks, [(d, .sv (.int kd (li.getD i 0)))], [], []⟩]) (Rec.app ⟨ks, [(d, .sv (.int kd (li.getD i 0)))], [], []⟩ σ) K) : Vc P C ops (o :: l) rs σ K :=
  .cons _ (Xnh hg (Yo8 hT (Xh3 hC hd) ho ht (Xeu hr) hdst hc)) (fun _ h => by simp at h) k
/-! A whole array as a row. -/
def Yro (kd : IntKind) (x : Operand) : RM R3 := ev x fun
  | .ptr id 0 => .obj id fun
    | some (.box cells) => aiL kd cells fun l => .ret ⟨l, 0, id⟩
    | _ => .fail
  | _ => .fail
theorem Yo6 (hT : TOk P T) {t m d id : Nat} {x : Operand} {kd : IntKind} {l : List Int} {ks : List Key} (hd : ∀ d, o.dst = some d → d < C.n) (ho : o.op = .slice t x none none none) (ht : Ylk T t = some (m, kd)) (hr : (Yro kd x).run σ [] = some (⟨l, 0, id⟩, ks))
    (hdst : o.dst = some d) (hl : l.length = m) (hm : m ≤ maxLen) : Yg0 P C o ⟨ks, [(d, .own (d * 16))], [(d * 16, some (.ints kd l)), (id, none)], [d * 16]⟩ σ := by
  intro τ ha hf a w ⟨μ, A, h⟩
  obtain ⟨e, n, b, z, ek, b', z', ek', h1, h2⟩ := Yee ht
  obtain ⟨v, k1, hv, hr1⟩ := Xbd (Xdo hr ha)
  split at hr1
  · rename_i id' 
    simp only [RM.run] at hr1
    split at hr1
    · rename_i cells hob
      obtain ⟨ns, e1, hr2⟩ := Ygb hr1
      simp only [RM.run, Option.some.injEq, Prod.mk.injEq, R3.mk.injEq] at hr2
      obtain ⟨⟨rfl, _, rfl⟩, _⟩ := hr2
      obtain ⟨g, cs, E, fr, hmu, hg, hnf, hcl, hcell⟩ := h.box hob
      have g1 := h.ev hv
      generalize hx : a.eval x = y at g1
      cases g1 with
      | ptr _ _ g' hm' =>
        rw [hmu] at hm'
        injection hm' with e2
        injection e2 with e2
        injection e2 with e2
        subst e2
        have hfr := hf (d * 16) (by simp)
        have hdr := h.drop id'
        have hobr : Xf7 w A (upd μ (d * 16) (.slice (some ⟨g, 0, none⟩) m m)) (.ints kd ns) (.slice (some ⟨g, 0, none⟩) m m) := by
          have hxl : (ns.map fun n => [SV.int kd n]).length = m := by rw [List.length_map]; exact hl
          have := Xf7.row (w := w) (A := A) (μ := upd μ (d * 16) (.slice (some ⟨g, 0, none⟩) m m)) (.ints kd ns) 1 (ns.map fun n => [SV.int kd n]) rfl trivial g 0 m cs E fr hg hnf (by omega) hm (by rw [hcl, e1, List.length_map]; omega) (fun x hx => by obtain ⟨n, _, rfl⟩ := List.mem_map.1 hx; rfl) ?_
          · rw [hxl] at this; exact this
          · intro i j x y hi hj
            rw [List.getElem?_map] at hi
            obtain ⟨q, hq, rfl⟩ := Option.map_eq_some_iff.1 hi
            cases j with
            | zero =>
              cases hj
              have hil := (List.getElem?_eq_some_iff.1 hq).1
              have hlt : i < cs.size := by rw [hcl, e1, List.length_map]; exact hil
              refine ⟨cs[i], by rw [Nat.zero_add, Nat.mul_one, Nat.add_zero]; exact Array.getElem?_eq_getElem hlt, ?_⟩
              have := (hcell i (.sv (.int kd q)) cs[i] (by rw [e1, List.getElem?_map, hq]; rfl) (Array.getElem?_eq_getElem hlt)).1
              cases this with | sv h => exact h
            | succ j => simp at hj
        have hnm := hdr.name (id := d * 16) (ob := .ints kd ns) (v := .slice (some ⟨g, 0, none⟩) m m)
          ⟨hfr.1.1, fun k ob hk => by rw [St.obj_setO] at hk; split at hk; · cases hk
                                      · exact hfr.1.2 k ob hk⟩ hfr.2
          (fun g' hg' => by
            cases hg'
            have hown : Xga (μ id') = some g := by rw [hmu]; rfl
            refine ⟨(h.own id' _ g hob (.inl hown)).1, (h.own id' _ g hob (.inl hown)).2, fun k ob hk e => ?_⟩
            rw [St.obj_setO] at hk
            split at hk
            · cases hk
            · rename_i hne; exact h.sep id' k _ ob g hne hob hk (.inl hown) e) hobr
        have hput := hnm.put (d := o.dst) (x := .own (d * 16)) (v := .slice (some ⟨g, 0, none⟩) m m) (by have := Rep.own (w := w) (A := A) (μ := upd μ (d * 16) (.slice (some ⟨g, 0, none⟩) m m)) (d * 16); rw [Xgd] at this; exact this) hd
        rw [hdst] at hput
        refine Xic (w' := w) (v := .slice (some ⟨g, 0, none⟩) m m) ?_ ⟨upd μ (d * 16) (.slice (some ⟨g, 0, none⟩) m m), A, ?_⟩
        · simp only [execOp, ho, hx, Option.map_none, Instr.sliceAt, Sem.run_bind, Sem.run_pure, run_underlying (Yqb hT h1), Result.andThen_ok, Instr.sureAddr, Instr.sliceBounds, Xb5 hT h2]
          simp [Xkb]
        · rw [hdst]; exact hput
    · simp [RM.run] at hr1
  · simp [RM.run] at hr1
theorem Yr6 (hT : TOk P T) (hC : Xgf C n objs) {t m d id : Nat} {x : Operand} {kd : IntKind} {li : List Int} {ks : List Key} (hg : o.guard = none) (ho : o.op = .slice t x none none none) (ht : Ylk T t = some (m, kd)) (hr : (Yro kd x).get σ [] = some (⟨li, 0, id⟩, ks))
    (hdst : o.dst = some d) (hd : Xy8 n o.dst = true) (hf : frs objs σ [d * 16] = true) (hl : li.length = m) (hm : Nat.ble m 1000 = true)
    (k : Vc P C ops l (rs ++ [⟨ks, [(d, .own (d * 16))], [(d * 16, some (.ints kd li)), (id, none)], [d * 16]⟩]) (Rec.app ⟨ks, [(d, .own (d * 16))], [(d * 16, some (.ints kd li)), (id, none)], [d * 16]⟩ σ) K) : Vc P C ops (o :: l) rs σ K :=
  .cons _ (Xnh hg (Yo6 hT (Xh3 hC hd) ho ht (Xeu hr) hdst hl (Nat.le_trans (Nat.le_of_ble_eq_true hm) (by decide)))) (Xkw hC hf) k
/-! Numbers are copied into a part of a row. -/
structure R6 : Type 1 where
  id : Nat
  off : Nat
  len : Nat
  l : List Int
  l' : List Int
  c : Prop
def Yrp (kd : IntKind) (s x : Operand) : RM R6 := ev s fun a => ev x fun b => match a with
  | .sub id sz off len => if Nat.beq sz 1 then .obj id fun
    | some (.ints k l) => if k = kd then Yhu kd b fun l' c => .ret ⟨id, off, len, l, l', c⟩ else .fail
    | _ => .fail else .fail
  | _ => .fail
def Yox (T : Nat → Option TI) (t : Nat) : Option IntKind := match T t with
  | some ⟨.slice e, _, _, _, _⟩ => Yjj T e
  | _ => none
theorem Ylq {t : Nat} {k : IntKind} (h : Yox T t = some k) : ∃ e n b z ek b' z' ek', T t = some ⟨.slice e, n, b, z, ek⟩ ∧ T e = some ⟨.int k, 1, b', z', ek'⟩ := by
  unfold Yox at h
  split at h
  · rename_i h1
    obtain ⟨b', z', ek', h2⟩ := Xvr h
    exact ⟨_, _, _, _, _, _, _, _, h1, h2⟩
  · cases h
def over (l : List Int) (i : Nat) (m : List Int) : List Int := l.take i ++ m ++ l.drop (i + m.length)
theorem Ya6 {l m : List Int} {i : Nat} (h : i + m.length ≤ l.length) : (over l i m).length = l.length := by
  simp only [over, List.length_append, List.length_take, List.length_drop]; omega
theorem Yky {l m : List Int} {i : Nat} (h : i + m.length ≤ l.length) (j : Nat) : (over l i m)[j]? = if i ≤ j ∧ j < i + m.length then m[j - i]? else l[j]? := by
  unfold over
  have h1 : (l.take i).length = i := by rw [List.length_take]; omega
  rw [List.append_assoc, List.getElem?_append, h1]
  by_cases ha : j < i
  · rw [if_pos ha, if_neg (by omega), List.getElem?_take_of_lt ha]
  · rw [if_neg ha, List.getElem?_append]
    by_cases hb : j < i + m.length
    · rw [if_pos (by omega), if_pos (by omega)]
    · rw [if_neg (by omega), if_neg (by omega), List.getElem?_drop]
      congr 1; omega
theorem Ym8 (hT : TOk P T) {t tx : Nat} {d id off len : Nat} {s x : Operand} {c : Call} {kd : IntKind} {li li' : List Int} {cd : Prop} {ks : List Key} (hd : ∀ d, o.dst = some d → d < C.n) (ho : o.op = .call c) (hcal : c.callee = .builtin .copy) (hty : c.argTypes = #[t, tx]) (hargs : c.args = #[s, x]) (ht : Yox T t = some kd)
    (hr : (Yrp kd s x).run σ [] = some (⟨id, off, len, li, li', cd⟩, ks)) (hdst : o.dst = some d) (hc : (cd ∧ off + len ≤ li.length) ∧ li'.length ≤ len) : Yg0 P C o ⟨ks, [(d, .sv (.int .i64 (li'.length : Int)))], [(id, some (.ints kd (over li off li')))], []⟩ σ := by
  intro τ ha hf a w ⟨μ, A, h⟩
  obtain ⟨e, n, b, z, ek, b', z', ek', h1, h2⟩ := Ylq ht
  obtain ⟨v, k1, hv, hr1⟩ := Xbd (Xdo hr ha)
  obtain ⟨u, k2, hu, hr2⟩ := Xbd hr1
  obtain ⟨⟨hcd, hle⟩, hlen⟩ := hc
  split at hr2
  · rename_i id' sz off' len'
    split at hr2
    · rename_i hsz
      have hsz := Nat.eq_of_beq_eq_true hsz
      subst hsz
      simp only [RM.run] at hr2
      split at hr2
      · rename_i kd' l0 hob
        split at hr2
        · rename_i hk
          subst hk
          obtain ⟨l2, c2, k3, hr3, hapd⟩ := Xvz (P := P) h (h.ev hu) hr2
          simp only [RM.run, Option.some.injEq, Prod.mk.injEq, R6.mk.injEq] at hr3
          obtain ⟨⟨rfl, rfl, rfl, rfl, rfl, rfl⟩, _⟩ := hr3
          obtain ⟨news, n1, n2, n3, n4, n5, n6⟩ := hapd hcd
          rw [List.length_map, Nat.mul_one] at n1
          have g1 := h.ev hv
          generalize hx : a.eval s = y at g1
          cases g1 with
          | sub _ _ _ _ ad0 ad nn cap cap' hm hc1 hc2 hada hadz =>
            have hexec : ∀ {v' : Value} {w' : World}, (Builtin.copy_ #[t, tx] o.type #[a.eval s, a.eval x]).run P w = .ok v' w' → (execOp a.eval o).run P w = .ok (.value v') w' := by
              intro v' w' hh
              simp [execOp, ho, resolve, hcal, invoke, hty, hargs, builtin, hh]
            have hlo : (Builtin.lenOf (a.eval x)).run P w = .ok l2.length w := by have := n4 w; rwa [List.length_map] at this
            have hfc : (Builtin.firstCells 1 l2.length (a.eval x)).run P w = .ok news.toArray w := by have := n3 w (fun _ _ => rfl); rwa [List.length_map] at this
            have hmin : Nat.min l2.length len' = l2.length := Nat.min_eq_left hlen
            by_cases hne : l2 = []
            · subst hne
              have hnews : news = [] := List.eq_nil_of_length_eq_zero (by simpa using n1)
              subst hnews
              have hov : over l0 off' [] = l0 := by simp [over]
              rw [hov]
              refine Xic (w' := w) (v := .int .i64 0) (hexec ?_) ⟨μ, A, ?_⟩
              · rw [hx]
                simp only [List.length_nil] at hlo hfc hmin
                cases ad with
                | none => simp [Builtin.copy_, run_underlying (Xgg hT h1), hlo, Xb5 hT h2, hmin, hfc, goInt]
                | some ad => simp [Builtin.copy_, run_underlying (Xgg hT h1), hlo, Xb5 hT h2, hmin, hfc, goInt, storeCells]
              · have hp := h.put (d := o.dst) (x := .sv (.int .i64 0)) (v := .int .i64 0) (.sv (.int _ _)) hd
                rw [hdst] at hp ⊢
                refine hp.weaken (fun t v hv => .inl hv) fun k ob hk => ?_
                have hk' : (τ.setO id' (some (.ints kd' l0))).obj k = some ob := hk
                rw [St.obj_setO] at hk'
                show τ.obj k = some ob
                split at hk'
                · rename_i e; subst e; cases hk'; exact hob
                · exact hk'
            · have hpos : 0 < l2.length := List.length_pos_iff.2 hne
              obtain ⟨g0, o0, e1, e2⟩ := hada (by omega)
              rcases Xde (h.objs id' _ hob) (sz := 1) (xs := l0.map fun n => [SV.int kd' n]) rfl with ⟨hnil, hn0⟩ | ⟨g, o2, capx, cur, E, fr, hm2, hg, hnf, hxc, hcm, hs, hxl, hcell⟩
              · rw [hm, e1] at hnil; cases hnil
              · rw [hm, e1] at hm2
                injection hm2 with e3 e4 e5
                injection e3 with e3
                injection e3 with e3 e6
                subst e3; subst e6; subst e5
                rw [e2] at hx
                rw [List.length_map] at hxc
                have hown : Xga (μ id') = some g0 := by rw [hm, e1]; rfl
                have hb : o0 + off' * 1 + news.length ≤ cur.size := by omega
                have hst := Xhd (P := P) g0 (o0 + off' * 1) E fr news 0 cur w hg hnf (by omega) n2
                simp only [Nat.add_zero] at hst
                have hA := Yhj h hob hown (cur.toList.take (o0 + off' * 1) ++ news ++ cur.toList.drop (o0 + off' * 1 + news.length)).toArray
                have hw := h.write hob hown (Xsw w g0 (cur.toList.take (o0 + off' * 1) ++ news ++ cur.toList.drop (o0 + off' * 1 + news.length)).toArray) (ob' := .ints kd' (over l0 off' l2)) (by
                  rw [hm, e1]
                  have hol : (over l0 off' l2).length = l0.length := Ya6 (by omega)
                  have := Xf7.row (w := w.setRow g0 (cur.toList.take (o0 + off' * 1) ++ news ++ cur.toList.drop (o0 + off' * 1 + news.length)).toArray) (A := A) (μ := μ) (.ints kd' (over l0 off' l2)) 1 ((over l0 off' l2).map fun n => [SV.int kd' n]) rfl trivial g0 o0 cap _ E fr (setRow_heap w g0 cur _ E fr hg)
                    (fun k hk => hnf k (by rwa [Xfn _ _ _ hb] at hk)) (by rw [List.length_map, hol]; exact hxc) hcm (by rw [Xfn _ _ _ hb]; exact hs) (fun z hz => by obtain ⟨q, _, rfl⟩ := List.mem_map.1 hz; rfl) ?_
                  · rw [List.length_map, hol] at this
                    rw [List.length_map] at e4
                    rw [e4]; exact this
                  · intro i j z v hz hv'
                    rw [List.getElem?_map] at hz
                    obtain ⟨q, hq, rfl⟩ := Option.map_eq_some_iff.1 hz
                    cases j with
                    | succ j => simp at hv'
                    | zero =>
                      cases hv'
                      rw [Yky (by omega)] at hq
                      rw [Xm5 _ _ _ hb]
                      by_cases hin : off' ≤ i ∧ i < off' + l2.length
                      · rw [if_pos hin] at hq
                        rw [if_pos (by omega)]
                        obtain ⟨v, hv1, hr1⟩ := n6 (i - off') 0 [SV.int kd' q] (.int kd' q) (by rw [List.getElem?_map, hq]; rfl) rfl
                        refine ⟨v, ?_, hr1.frame (fun _ h => h) hA⟩
                        rw [← hv1]; congr 1; omega
                      · rw [if_neg hin] at hq
                        rw [if_neg (by omega)]
                        obtain ⟨v, hv1, hr1⟩ := hcell i 0 [SV.int kd' q] (.int kd' q) (by rw [List.getElem?_map, hq]; rfl) rfl
                        exact ⟨v, hv1, hr1.frame (fun _ h => h) hA⟩)
                have hp := hw.put (d := o.dst) (x := .sv (.int .i64 (l2.length : Int))) (v := .int .i64 (l2.length : Int)) (.sv (.int _ _)) hd
                rw [hdst] at hp
                refine Xic (w' := w.setRow g0 (cur.toList.take (o0 + off' * 1) ++ news ++ cur.toList.drop (o0 + off' * 1 + news.length)).toArray) (v := .int .i64 (l2.length : Int)) (hexec ?_) ⟨μ, A, ?_⟩
                · rw [hx]
                  simp only [Nat.mul_one] at hst ⊢
                  simp [Builtin.copy_, run_underlying (Xgg hT h1), hlo, Xb5 hT h2, hmin, hfc, goInt, hst]
                · rw [hdst]; exact hp
        · simp [RM.run] at hr2
      · simp [RM.run] at hr2
    · simp [RM.run] at hr2
  · cases hr2
theorem Yp9 (hT : TOk P T) (hC : Xgf C n objs) {t tx d id off len : Nat} {s x : Operand} {c : Call} {kd : IntKind} {li li' : List Int} {cd : Prop} {ks : List Key} (hg : o.guard = none) (ho : o.op = .call c) (hcal : c.callee = .builtin .copy) (hty : c.argTypes = #[t, tx]) (hargs : c.args = #[s, x]) (ht : Yox T t = some kd)
    (hr : (Yrp kd s x).get σ [] = some (⟨id, off, len, li, li', cd⟩, ks)) (hdst : o.dst = some d) (hd : Xy8 n o.dst = true) (hc : (cd ∧ off + len ≤ li.length) ∧ li'.length ≤ len)
    (k : Vc P C ops l (rs ++ [⟨ks, [(d, .sv (.int .i64 (li'.length : Int)))], [(id, some (.ints kd (over li off li')))], []⟩]) (Rec.app ⟨ks, [(d, .sv (.int .i64 (li'.length : Int)))], [(id, some (.ints kd (over li off li')))], []⟩ σ) K) : Vc P C ops (o :: l) rs σ K :=
  .cons _ (Xnh hg (Ym8 hT (Xh3 hC hd) ho hcal hty hargs ht (Xeu hr) hdst hc)) (fun _ h => by simp at h) k
end
end Go.Proofs.YthpkcbplfbokcaaGreatAL
/- An abstract logic for Go functions: steps under short names, their plain conditions closed by themselves. Conditions: as each statement tells. -/
namespace Go.Proofs.YthpkcbplfbokcaaGreatAL
open Go.RowKit
set_option linter.unusedVariables false
theorem co {p : Prop} (h : p := by repeat' first | exact CO.nil | apply CO.gone | apply CO.row rfl rfl | apply CO.box rfl rfl | decide) : p := h
theorem kn {a b : Bool} (h : a = b) : (!a) = !b := congrArg Bool.not h
theorem kj {α : Type} {a b : α} (h : some a = some b) : a = b := Option.some.inj h
theorem kS {β : Type} {b : Bool} {x y : Option β} {r : β} {p : Prop} (h : sel b x y = some r) (h1 : b = true → x = some r → p) (h2 : b = false → y = some r → p) : p := (Xh0 h).elim (fun h => h1 h.1 h.2) fun h => h2 h.1 h.2
section
variable {P : Program} {T : Nat → Option TI} {C : Ctx} {σ : St} {n : Nat} {objs : Xa1} {x y z : Code} {Q : Exit → St → Prop} {id : Nat} {ops : Array Oper} {o : Oper} {l : List Oper} {rs : List Rec} {K : List Rec → St → Prop}
theorem kN {Q : Exit → St → Prop} {l : List Oper} (h : Vc P C l.toArray l [] σ (fun _ σ' => AWp P C y σ' Q)) : Vc P C ops [] rs σ (fun _ σ' => AWp P C (.seq (.region id l.toArray false) y) σ' Q) := .nil (Xab h)
theorem kD {p : St → Prop} {ls : List Oper} {σ0 : St} (h : p σ) (hf : Xhk ls rs σ0 = true := by kernel_rfl) : Vc P C ops [] rs σ (fun rs σ' => Xhk ls rs σ0 = true ∧ p σ') := .nil ⟨hf, h⟩
theorem kL (ks os : List Nat) (s' : List (Nat × AV)) (o' : List (Nat × Option Obj)) (k : AWp P C x ⟨s', o'⟩ Q) (hs : Yoj ks σ.s = s' := by exact rfl) (ho : Yoj os σ.o = o' := by exact rfl) : AWp P C x σ Q := Ys8 ks os hs ho k
theorem kt {t : Nat} {b : Bool} (hb : b = true) (h : AWp P C x σ Q) (hs : lk σ.s t = some (.sv (.bool b)) := by exact rfl) : AWp P C (.cond (.tmp t) x y) σ Q := Yrx hs hb h
theorem kf {t : Nat} {b : Bool} (hb : b = false) (h : AWp P C y σ Q) (hs : lk σ.s t = some (.sv (.bool b)) := by exact rfl) : AWp P C (.cond (.tmp t) x y) σ Q := Yq2 hs hb h
theorem kA {α R : Type} {x' : Option α} {f : α → Option R} {r : R} (h : bnd x' f = some r) (D : α → Chg) (hx : ∀ v, x' = some v → AWp P C x σ (Ysj C (σ.upd (D v)) Q)) (hy : ∀ v, f v = some r → AWp P C y (σ.upd (D v)) Q) : AWp P C (.seq x y) σ Q := by
  obtain ⟨v, h1, h2⟩ := Xa3 h
  exact Ysm (D v) (hx v h1) (hy v h2)
theorem kO (hT : TOk P T) (hC : Xgf C n objs) {e : Eff} {ks : List Key} (k : Vc P C ops l (rs ++ [⟨ks, e.slots, e.objs, e.new⟩]) (Rec.app ⟨ks, e.slots, e.objs, e.new⟩ σ) K) (hg : o.guard = none := by exact rfl) (hr : got (aop T o) σ = some (e, ks) := by exact rfl) (hd : Xy8 n o.dst = true := by exact rfl) (hf : frs objs σ e.new = true := by exact rfl) (hc : e.cond := by exact trivial) : Vc P C ops (o :: l) rs σ K := Yj5 hT hC hg hr hd hf hc k
theorem kQ (hT : TOk P T) (hC : Xgf C n objs) {β : Type} {c : Prop} {_ : Decidable c} {k' : Option β} {r : β} (h : req c k' = some r) {e : Eff} {ks : List Key} (k : k' = some r → Vc P C ops l (rs ++ [⟨ks, e.slots, e.objs, e.new⟩]) (Rec.app ⟨ks, e.slots, e.objs, e.new⟩ σ) K) (hg : o.guard = none := by exact rfl) (hr : got (aop T o) σ = some (e, ks) := by exact rfl) (hd : Xy8 n o.dst = true := by exact rfl) (hf : frs objs σ e.new = true := by exact rfl)
    (hc : c → e.cond := by exact fun hq => hq) : Vc P C ops (o :: l) rs σ K := Yj5 hT hC hg hr hd hf (hc (Xaw h).1) (k (Xaw h).2)
theorem kT (hT : TOk P T) (hC : Xgf C n objs) {β : Type} {c : Prop} {_ : Decidable c} {k' : Option β} {r : β} (h : req c k' = some r) {e : Eff} {ks : List Key} (k : k' = some r → Vc P C ops l (rs ++ [⟨ks, e.slots, e.objs, e.new⟩]) (Rec.app ⟨ks, e.slots, e.objs, e.new⟩ σ) K) (hg : o.guard = none := by exact rfl) (hr : got (aop T o) σ = some (e, ks) := by exact rfl) (hd : Xy8 n o.dst = true := by exact rfl) (hf : frs objs σ e.new = true := by exact rfl)
    (hc : c → e.cond := by exact fun hq => ⟨trivial, hq⟩) : Vc P C ops (o :: l) rs σ K := Yj5 hT hC hg hr hd hf (hc (Xaw h).1) (k (Xaw h).2)
theorem kF (hC : Xgf C n objs) {i t d : Nat} {b x : Bool} (hx : x = !b) (k : Vc P C ops l (rs ++ [⟨[.s t], [(d, .tup [])], [], []⟩]) (Rec.app ⟨[.s t], [(d, .tup [])], [], []⟩ σ) K) (hg : o.guard = some (i, b) := by exact rfl) (hdi : (ops[i]?).bind (·.dst) = some t := by exact rfl) (hs : lk σ.s t = some (.sv (.bool x)) := by exact rfl) (ht : Nat.blt t n = true := by exact rfl) (hd : o.dst = some d := by exact rfl) (hdn : Nat.blt d n = true := by exact rfl) : Vc P C ops (o :: l) rs σ K :=
  Ysp hC hg hdi hs ht hx hd hdn k
theorem kI (hT : TOk P T) (hC : Xgf C n objs) {i t : Nat} {b x : Bool} {e : Eff} {ks : List Key} (hx : x = b) (k : Vc P C ops l (rs ++ [⟨.s t :: ks, e.slots, e.objs, e.new⟩]) (Rec.app ⟨.s t :: ks, e.slots, e.objs, e.new⟩ σ) K) (hg : o.guard = some (i, b) := by exact rfl) (hdi : (ops[i]?).bind (·.dst) = some t := by exact rfl) (hs : lk σ.s t = some (.sv (.bool x)) := by exact rfl) (ht : Nat.blt t n = true := by exact rfl)
    (hr : got (aop T o) σ = some (e, ks) := by exact rfl) (hd : Xy8 n o.dst = true := by exact rfl) (hf : frs objs σ e.new = true := by exact rfl) (hc : e.cond := by exact trivial) : Vc P C ops (o :: l) rs σ K := Ys6 hT hC hg hdi hs ht hx hr hd hf hc k
theorem kJ (hT : TOk P T) (hC : Xgf C n objs) {β : Type} {c : Prop} {_ : Decidable c} {k' : Option β} {r : β} {i t : Nat} {b x : Bool} {e : Eff} {ks : List Key} (hx : x = b) (h : req c k' = some r) (k : k' = some r → Vc P C ops l (rs ++ [⟨.s t :: ks, e.slots, e.objs, e.new⟩]) (Rec.app ⟨.s t :: ks, e.slots, e.objs, e.new⟩ σ) K) (hg : o.guard = some (i, b) := by exact rfl) (hdi : (ops[i]?).bind (·.dst) = some t := by exact rfl) (hs : lk σ.s t = some (.sv (.bool x)) := by exact rfl) (ht : Nat.blt t n = true := by exact rfl)
    (hr : got (aop T o) σ = some (e, ks) := by exact rfl) (hd : Xy8 n o.dst = true := by exact rfl) (hf : frs objs σ e.new = true := by exact rfl) (hc : c → e.cond := by exact fun hq => hq) : Vc P C ops (o :: l) rs σ K := Ys6 hT hC hg hdi hs ht hx hr hd hf (hc (Xaw h).1) (k (Xaw h).2)
theorem kP (hC : Xgf C n objs) {c x y : Operand} (b : Bool) {b' : Bool} {ks1 ks2 : List Key} {e : Eff} (hb : b' = b) (k : Vc P C ops l (rs ++ [⟨ks1 ++ ks2, e.slots, e.objs, e.new⟩]) (Rec.app ⟨ks1 ++ ks2, e.slots, e.objs, e.new⟩ σ) K)
    (hg : o.guard = none := by exact rfl) (ho : o.op = .pick c x y := by exact rfl) (hc : (ev c .ret).get σ [] = some (.sv (.bool b'), ks1) := by exact rfl) (hr : (ev (bif b then x else y) fun v => Xe8 o v True).get σ [] = some (e, ks2) := by exact rfl) (hd : Xy8 n o.dst = true := by exact rfl) (hf : frs objs σ e.new = true := by exact rfl) (hco : e.cond := by exact trivial) : Vc P C ops (o :: l) rs σ K := Ysb hC hg ho hc hb hr hd hf hco k
theorem kW (hC : Xgf C n objs) (tab : List (Nat × Nat)) {s : List (Nat × AV)} {o : List (Nat × Option Obj)} {b b' : List Nat} {c : Prop} (ho : CO tab σ o b' := by (try dsimp only); repeat' first | exact CO.nil | apply CO.gone | apply CO.row rfl rfl | apply CO.box rfl rfl | decide) (hs : Yqr σ (Ygv s) ((Yfw s).map σ.slot) = some ⟨AV.renL (rn tab) (Ygv s), b, c⟩ := by rfl) (hc : c := by first | decide | (simp; omega))
    (hok : (Xrm (Xxy (rn tab) (Xr2 o)) && Xzu (rn tab) (b ++ b') (Xr2 o) && Ylz tab objs (Xr2 o)) = true := by rfl) : Xka C σ ⟨s, o⟩ := Xes hC tab ho hs hc hok
theorem kX {V O R : Type} {f : V → Option (Lp V O)} {v0 : V} {k' : O → Option R} {r : R} (h : bnd (loop f v0) k' = some r) (D : V → Chg) (D' : O → Chg) (h0 : Xka C σ (σ.upd (D v0)))
    (hb : ∀ v s, f v = some s → AWp P C x (σ.upd (D v)) (Yi0 C (fun v => σ.upd (D v)) (Ysf C id fun o => σ.upd (D' o)) s)) (hk : ∀ o, k' o = some r → Q .normal (σ.upd (D' o))) : AWp P C (.block id (.loop x)) σ Q := by
  obtain ⟨o, h1, h2⟩ := Xa3 h
  exact Ynw D D' h1 h0 hb (hk o h2)
theorem kC (hC : Xgf C n objs) {c : Call} {fop : Operand} {f : Nat} {args : List AV} {ob : Xa1} {bor : List Nat} {cond : Prop} {ks : List Key} (tab : List (Nat × Nat)) (hf : Fn P f) {α R : Type} {x' : Option α} {k' : α → Option R} {r : R} (h : bnd x' k' = some r) {res : α → AV} {ob' : α → Xa1} (hA : ∀ q, x' = some q → AC P f args ob (res q) (ob' q))
    (k : ∀ q, k' q = some r → Vc P C ops l (rs ++ [⟨ks ++ Xj3 tab ob, Xi3 tab o.dst (res q), Xgr tab ob (ob' q), Xxy (rn tab) (Xck ob (ob' q))⟩]) (Rec.app ⟨ks ++ Xj3 tab ob, Xi3 tab o.dst (res q), Xgr tab ob (ob' q), Xxy (rn tab) (Xck ob (ob' q))⟩ σ) K)
    (hg : o.guard = none := by exact rfl) (ho : o.op = .call c := by exact rfl) (hcal : c.callee = .value fop := by exact rfl) (hd : Xy8 n o.dst = true := by exact rfl) (hr : (Yli args fop f c.args.toList).get σ [] = some (⟨args.map (AV.ren (rn tab)), bor, cond⟩, ks) := by exact rfl) (hc : cond := by decide)
    (hh : holds tab σ ob := by first | exact trivial | exact ⟨rfl, trivial⟩ | exact ⟨rfl, rfl, trivial⟩ | exact ⟨rfl, rfl, rfl, trivial⟩ | exact ⟨rfl, rfl, rfl, rfl, trivial⟩) (hok : ∀ q, Xzx tab ob (ob' q) (res q) bor = true := by exact fun _ => rfl)
    (hk : ∀ q, bor = [] ∨ (res q).flat = true ∧ flatO (ob' q) := by first | exact fun _ => .inl rfl | exact fun _ => .inr ⟨rfl, trivial⟩ | exact fun _ => .inr ⟨rfl, ⟨trivial, trivial⟩⟩ | exact fun _ => .inr ⟨rfl, ⟨fun _ => rfl, trivial⟩⟩) (hfr : ∀ q, frs objs σ (Xxy (rn tab) (Xck ob (ob' q))) = true := by exact fun _ => rfl) : Vc P C ops (o :: l) rs σ K := by
  obtain ⟨q, h1, h2⟩ := Xa3 h
  exact Yoc hC tab hg ho hcal hd hf (hA q h1) hr hc hh (hok q) (hk q) (hfr q) (k q h2)
theorem kE (hC : Xgf C n objs) {c : Call} {fop : Operand} {f : Nat} {args : List AV} {ob : Xa1} {bor : List Nat} {cond : Prop} {ks : List Key} {i t : Nat} {b x : Bool} (hx : x = b) (tab : List (Nat × Nat)) (hf : Fn P f) {α R : Type} {x' : Option α} {k' : α → Option R} {r : R} (h : bnd x' k' = some r) {res : α → AV} {ob' : α → Xa1} (hA : ∀ q, x' = some q → AC P f args ob (res q) (ob' q))
    (k : ∀ q, k' q = some r → Vc P C ops l (rs ++ [⟨.s t :: (ks ++ Xj3 tab ob), Xi3 tab o.dst (res q), Xgr tab ob (ob' q), Xxy (rn tab) (Xck ob (ob' q))⟩]) (Rec.app ⟨.s t :: (ks ++ Xj3 tab ob), Xi3 tab o.dst (res q), Xgr tab ob (ob' q), Xxy (rn tab) (Xck ob (ob' q))⟩ σ) K)
    (hg : o.guard = some (i, b) := by exact rfl) (hdi : (ops[i]?).bind (·.dst) = some t := by exact rfl) (hs : lk σ.s t = some (.sv (.bool x)) := by exact rfl) (ht : Nat.blt t n = true := by exact rfl) (ho : o.op = .call c := by exact rfl) (hcal : c.callee = .value fop := by exact rfl) (hd : Xy8 n o.dst = true := by exact rfl) (hr : (Yli args fop f c.args.toList).get σ [] = some (⟨args.map (AV.ren (rn tab)), bor, cond⟩, ks) := by exact rfl) (hc : cond := by decide)
    (hh : holds tab σ ob := by first | exact trivial | exact ⟨rfl, trivial⟩ | exact ⟨rfl, rfl, trivial⟩ | exact ⟨rfl, rfl, rfl, trivial⟩ | exact ⟨rfl, rfl, rfl, rfl, trivial⟩) (hok : ∀ q, Xzx tab ob (ob' q) (res q) bor = true := by exact fun _ => rfl)
    (hk : ∀ q, bor = [] ∨ (res q).flat = true ∧ flatO (ob' q) := by first | exact fun _ => .inl rfl | exact fun _ => .inr ⟨rfl, trivial⟩ | exact fun _ => .inr ⟨rfl, ⟨trivial, trivial⟩⟩ | exact fun _ => .inr ⟨rfl, ⟨fun _ => rfl, trivial⟩⟩) (hfr : ∀ q, frs objs σ (Xxy (rn tab) (Xck ob (ob' q))) = true := by exact fun _ => rfl) : Vc P C ops (o :: l) rs σ K := by
  obtain ⟨q, h1, h2⟩ := Xa3 h
  exact Yod hC tab hg hdi hs ht hx ho hcal hd hf (hA q h1) hr hc hh (hok q) (hk q) (hfr q) (k q h2)
end
theorem kM {p : Prop} (k : p := by injection h with h; subst h; exact Xkt (kW hC [])) : p := k
theorem kG {p : Prop} (k : p := by injection h with h; subst h; exact Yci (kW hC [])) : p := k
theorem ku {p : Prop} (k : p := by injection h with h; subst h; exact Ykz (Yqw (kW hC []))) : p := k
theorem kb {p : Prop} (k : p := by injection h with h; subst h; exact Ykz (Yru (kW hC []))) : p := k
theorem kR {p : Prop} (k : p := by injection h with h; subst h; exact Xch (Xka.refl _) rfl trivial) : p := k
end Go.Proofs.YthpkcbplfbokcaaGreatAL
/- An abstract logic for Go functions: rows whose elements hold rows that are written. Conditions: as each statement tells. -/
namespace Go.Proofs.YthpkcbplfbokcaaGreatAL
open Go.RowKit
set_option linter.unusedVariables false
def Yl1 (n : Nat) (r : List Value) : List SV := (List.range n).map fun j => .raw (r.getD j undef)
theorem Xog (n : Nat) (r : List Value) : (Yl1 n r).length = n := by simp [Yl1]
theorem Xt2 {n j : Nat} (r : List Value) (h : j < n) : (Yl1 n r)[j]? = some (.raw (r.getD j undef)) := by simp [Yl1, h]
def Yss (n : Nat) : Xo7 := ⟨List Value, [], n, Yl1 n, fun _ => none⟩
theorem Yqy {n : Nat} (h : 0 < n) : (Yss n).ok := ⟨fun x => Xog n x, h, fun cs x h => by cases h⟩
def Yl2 (n : Nat) (rows : List (List Value)) : Obj := .row (Yss n) rows
theorem Xhb (n : Nat) (rows : List (List Value)) : (Yl2 n rows).elems = some (n, rows.map (Yl1 n)) := rfl
theorem Ya7 {n : Nat} (h : 0 < n) (rows : List (List Value)) : (Yl2 n rows).wf := Yqy h
theorem Yno {w : World} {A : Nat → Prop} {v u : Value} (h : Xge w A (.raw v) u) : u = v := by
  cases h with
  | raw v h => rfl
  | sl _ _ _ _ _ _ hx => cases hx
section
variable {P : Program} {T : Nat → Option TI} {C : Ctx} {σ : St} {n : Nat} {objs : Xa1} {ops : Array Oper} {o : Oper} {l : List Oper} {rs : List Rec} {K : List Rec → St → Prop} {w w' : World} {A : Nat → Prop} {μ : Nat → Value} {a : Act}
theorem Yga {n : Nat} {rows : List (List Value)} {v : Value} (h : Xf7 w A μ (Yl2 n rows) v) : (v = .slice none 0 0 ∧ rows = []) ∨
    ∃ g o cap cs E fr, v = .slice (some ⟨g, o, none⟩) rows.length cap ∧ w.heap[g]? = some (.cells cs E fr) ∧ NF cs fr ∧ rows.length ≤ cap ∧ cap ≤ maxLen ∧ o + cap * n ≤ cs.size ∧
      ∀ (i j : Nat) (r : List Value), rows[i]? = some r → j < n → cs[o + (i * n + j)]? = some (r.getD j undef) := by
  rcases Xde h (Xhb n rows) with ⟨h1, h2⟩ | ⟨g, o, cap, cs, E, fr, h1, hg, hf, hc, hm, hs, hl, hcell⟩
  · exact .inl ⟨h1, by simpa using h2⟩
  · refine .inr ⟨g, o, cap, cs, E, fr, by simpa using h1, hg, hf, by simpa using hc, hm, hs, fun i j r hi hj => ?_⟩
    obtain ⟨u, hu, hr⟩ := hcell i j (Yl1 n r) (.raw (r.getD j undef)) (by rw [List.getElem?_map, hi]; rfl) (Xt2 r hj)
    rw [Yno hr] at hu; exact hu
structure DV (w : World) (A : Nat → Prop) (c : Xer) (l : List c.α) (rows : List (List Value)) : Prop where
  len : rows.length = l.length
  one : ∀ (i : Nat) (x : c.α) (r : List Value), l[i]? = some x → rows[i]? = some r → (∀ (j : Nat) (y : SV), (c.enc x)[j]? = some y → Xge w A y (r.getD j undef)) ∧ Yiy w (c.sub x) (r.getD c.m undef)
  sep : ∀ (i j : Nat) (r r' : List Value) (k : Nat), i ≠ j → rows[i]? = some r → rows[j]? = some r' → Xga (r.getD c.m undef) = some k → Xga (r'.getD c.m undef) ≠ some k
def Xmd (m : Nat) (rows : List (List Value)) (g : Nat) : Prop := ∃ (i : Nat) (r : List Value), rows[i]? = some r ∧ Xga (r.getD m undef) = some g
theorem DV.frame {c : Xer} {l : List c.α} {rows : List (List Value)} (h : DV w A c l rows) (hA : ∀ g, A g → w'.heap[g]? = w.heap[g]?) (hb : ∀ g, Xmd c.m rows g → w'.heap[g]? = w.heap[g]?) : DV w' A c l rows :=
  ⟨h.len, fun i x r hx hr => ⟨fun j y hy => ((h.one i x r hx hr).1 j y hy).frame (fun _ h => h) hA, (h.one i x r hx hr).2.frame fun g hg => hb g ⟨i, r, hr, hg⟩⟩, h.sep⟩
theorem DV.lt {c : Xer} {l : List c.α} {rows : List (List Value)} (h : DV w A c l rows) {g : Nat} (hg : Xmd c.m rows g) : g < w.heap.size := by
  obtain ⟨i, r, hr, hb⟩ := hg
  have hi : i < l.length := by rw [← h.len]; exact (List.getElem?_eq_some_iff.1 hr).1
  exact (h.one i _ r (List.getElem?_eq_getElem hi) hr).2.lt hb
theorem Xm4 {c : Xer} {l : List c.α} {v : Value} (h : Xf7 w A μ (.deep c l) v) : ∃ rows, Xf7 w A μ (Yl2 (c.m + 1) rows) v ∧ DV w A c l rows ∧ (∀ g, Xmd c.m rows g → Xga v ≠ some g) ∧ ∀ g, Own w (.deep c l) v g ↔ Xga v = some g ∨ Xmd c.m rows g := by
  have hwf : ∀ x, (c.enc x).length = c.m := h.wf
  cases h with
  | none _ _ hx => cases hx
  | row _ _ _ hx => cases hx
  | deep0 =>
    refine ⟨[], .none _ (c.m + 1) (Xhb _ []) (Ya7 (Nat.succ_pos _) _), ⟨rfl, fun i x r hx => by simp at hx, fun i j r r' k _ hr => by simp at hr⟩, fun g ⟨i, r, hr, _⟩ => by simp at hr, fun g => ⟨fun h => h.elim .inl fun ⟨i, u, hi, _⟩ => by simp at hi, fun h => h.elim .inl fun ⟨i, r, hr, _⟩ => by simp at hr⟩⟩
  | deep _ _ _ g o cap cs E fr hg hf hc hm hs hh hd hn =>
    have key : ∃ rows : List (List Value), rows.length = l.length ∧ ∀ i r, rows[i]? = some r → i < l.length ∧ ∀ j, j < c.m + 1 → cs[o + (i * (c.m + 1) + j)]? = some (r.getD j undef) := by
      refine ⟨(List.range l.length).map fun i => (List.range (c.m + 1)).map fun j => (cs[o + (i * (c.m + 1) + j)]?).getD undef, by simp, fun i r hr => ?_⟩
      have hi : i < l.length := by have := (List.getElem?_eq_some_iff.1 hr).1; simpa using this
      refine ⟨hi, fun j hj => ?_⟩
      simp [hi] at hr
      have hlt : o + (i * (c.m + 1) + j) < cs.size := by
        have := Nat.mul_le_mul_right (c.m + 1) (show i + 1 ≤ cap by omega)
        rw [Nat.add_mul, Nat.one_mul] at this; omega
      rw [← hr]
      simp [List.getD, hj, hlt]
    obtain ⟨rows, hlen, hrow⟩ := key
    refine ⟨rows, ?_, ⟨hlen, fun i x r hx hr => ?_, fun i j r r' k hij hr hr' hk => ?_⟩, fun k ⟨i, r, hr, hk⟩ => ?_, fun k => ⟨fun h => ?_, fun h => ?_⟩⟩
    · have := Xf7.row (w := w) (A := A) (μ := μ) (Yl2 (c.m + 1) rows) (c.m + 1) (rows.map (Yl1 (c.m + 1))) (Xhb _ _) (Ya7 (Nat.succ_pos _) _) g o cap cs E fr hg hf (by rw [List.length_map, hlen]; exact hc) hm hs (fun x hx => by obtain ⟨r, _, rfl⟩ := List.mem_map.1 hx; exact Xog _ _) fun i j x y hi hj => ?_
      · rw [List.length_map, hlen] at this; exact this
      · rw [List.getElem?_map] at hi
        obtain ⟨r, hr, rfl⟩ := Option.map_eq_some_iff.1 hi
        have hjl : j < c.m + 1 := by have := (List.getElem?_eq_some_iff.1 hj).1; rwa [Xog] at this
        rw [Xt2 r hjl] at hj
        have hy : y = .raw (r.getD j undef) := (Option.some.inj hj).symm
        obtain ⟨hil, hcell⟩ := hrow i r hr
        refine ⟨_, hcell j hjl, ?_⟩
        rw [hy]
        refine .raw _ ?_
        obtain ⟨h1, u, hu, hru⟩ := hh i _ (List.getElem?_eq_getElem hil)
        rcases Nat.lt_or_ge j c.m with hjm | hjm
        · obtain ⟨u', hu', hr'⟩ := h1 j _ (List.getElem?_eq_getElem (show j < (c.enc l[i]).length by rw [hwf]; exact hjm))
          rw [hcell j hjl] at hu'
          cases hu'
          exact hr'.one
        · obtain rfl : j = c.m := by omega
          rw [hcell c.m hjl] at hu
          cases hu
          exact hru.one
    · obtain ⟨hil, hcell⟩ := hrow i r hr
      obtain ⟨h1, u, hu, hru⟩ := hh i x hx
      refine ⟨fun j y hy => ?_, ?_⟩
      · obtain ⟨u', hu', hr'⟩ := h1 j y hy
        have hj : j < c.m := by rw [← hwf x]; exact (List.getElem?_eq_some_iff.1 hy).1
        rw [hcell j (by omega)] at hu'
        cases hu'
        exact hr'
      · rw [hcell c.m (by omega)] at hu
        cases hu
        exact hru
    · exact hd i j _ _ k (hrow i r hr).1 (hrow j r' hr').1 hij ((hrow i r hr).2 c.m (by omega)) ((hrow j r' hr').2 c.m (by omega)) hk
    · intro e
      cases e
      exact hn i _ (hrow i r hr).1 ((hrow i r hr).2 c.m (by omega)) hk
    · rcases h with h | ⟨i, u, hi, hu, hk⟩
      · exact .inl h
      · rw [Xr3 hg] at hu
        have hr : rows[i]? = some (rows[i]'(by omega)) := List.getElem?_eq_getElem (by omega)
        rw [(hrow i _ hr).2 c.m (by omega)] at hu
        cases hu
        exact .inr ⟨i, _, hr, hk⟩
    · rcases h with h | ⟨i, r, hr, hk⟩
      · exact .inl h
      · exact .inr ⟨i, _, (hrow i r hr).1, by rw [Xr3 hg]; exact (hrow i r hr).2 c.m (by omega), hk⟩
theorem Xu0 {c : Xer} {l : List c.α} {v : Value} {rows : List (List Value)} (hwf : ∀ x, (c.enc x).length = c.m) (h : Xf7 w A μ (Yl2 (c.m + 1) rows) v) (hD : DV w A c l rows) (hn : ∀ g, Xmd c.m rows g → Xga v ≠ some g) :
    Xf7 w A μ (.deep c l) v ∧ ∀ g, Own w (.deep c l) v g ↔ Xga v = some g ∨ Xmd c.m rows g := by
  rcases Yga h with ⟨rfl, rfl⟩ | ⟨g, o, cap, cs, E, fr, rfl, hg, hf, hc, hm, hs, hcell⟩
  · obtain rfl : l = [] := List.eq_nil_of_length_eq_zero hD.len.symm
    exact ⟨.deep0 c hwf, fun g => ⟨fun h => h.elim .inl fun ⟨i, u, hi, _⟩ => by simp at hi, fun h => h.elim .inl fun ⟨i, r, hr, _⟩ => by simp at hr⟩⟩
  · have hlen := hD.len
    have hget : ∀ i, i < l.length → ∃ r, rows[i]? = some r := fun i hi => ⟨_, List.getElem?_eq_getElem (by omega)⟩
    refine ⟨?_, fun k => ⟨fun h => ?_, fun h => ?_⟩⟩
    · rw [hlen]
      refine .deep c l hwf g o cap cs E fr hg hf (by omega) hm hs (fun i x hx => ?_) (fun i j u u' k hi hj hij hu hu' hk => ?_) fun i u hi hu => ?_
      · obtain ⟨r, hr⟩ := hget i (List.getElem?_eq_some_iff.1 hx).1
        obtain ⟨h1, h2⟩ := hD.one i x r hx hr
        refine ⟨fun j y hy => ⟨_, hcell i j r hr ?_, h1 j y hy⟩, _, hcell i c.m r hr (by omega), h2⟩
        have := (List.getElem?_eq_some_iff.1 hy).1
        rw [hwf] at this; omega
      · obtain ⟨r, hr⟩ := hget i hi
        obtain ⟨r', hr'⟩ := hget j hj
        rw [hcell i c.m r hr (by omega)] at hu
        rw [hcell j c.m r' hr' (by omega)] at hu'
        cases hu; cases hu'
        exact hD.sep i j r r' k hij hr hr' hk
      · obtain ⟨r, hr⟩ := hget i hi
        rw [hcell i c.m r hr (by omega)] at hu
        cases hu
        exact fun e => hn g ⟨i, r, hr, e⟩ rfl
    · rcases h with h | ⟨i, u, hi, hu, hk⟩
      · exact .inl h
      · obtain ⟨r, hr⟩ := hget i hi
        rw [Xr3 hg, hcell i c.m r hr (by omega)] at hu
        cases hu
        exact .inr ⟨i, r, hr, hk⟩
    · rcases h with h | ⟨i, r, hr, hk⟩
      · exact .inl h
      · refine .inr ⟨i, _, ?_, by rw [Xr3 hg]; exact hcell i c.m r hr (by omega), hk⟩
        rw [← hlen]; exact (List.getElem?_eq_some_iff.1 hr).1

/-! ### Objects that are used up -/
theorem Xbs.worldK (h : Xbs C μ A σ a w) {q : List (Nat × Option Obj)} (hq : Xqq q) (hf : Fr (fun g => g < w.heap.size ∧ ∀ k ob, inQ k q = true → σ.obj k = some ob → ¬ Own w ob (μ k) g) w w') : Xbs C μ A (σ.kill q) a w' := by
  have hk' : ∀ k ob, (σ.kill q).obj k = some ob → inQ k q ≠ true ∧ σ.obj k = some ob := fun k ob hk => by
    rw [Xmn hq] at hk
    split at hk
    · cases hk
    · exact ⟨by assumption, hk⟩
  have hA : ∀ g, A g → w'.heap[g]? = w.heap[g]? := fun g hg => hf.block g ⟨(h.stab g hg).1, fun k ob _ hk e => (h.own k ob g hk e).2 hg⟩
  have hB : ∀ k ob, inQ k q ≠ true → σ.obj k = some ob → ∀ g, Own w ob (μ k) g → w'.heap[g]? = w.heap[g]? := fun k ob hn hk g hg => hf.block g ⟨(h.objs k ob hk).lt hg, fun j oj hj hoj e => h.sep j k oj ob g (fun e => hn (e ▸ hj)) hoj hk e hg⟩
  have hO : ∀ k ob, inQ k q ≠ true → σ.obj k = some ob → ∀ g, Own w' ob (μ k) g → Own w ob (μ k) g := fun k ob hn hk g hg => hg.frame fun g hg => hB k ob hn hk g (.inl hg)
  refine { cok := h.cok, tmps := h.tmps, defers := h.defers, slots := fun t x hx => (h.slots t x hx).frame (fun _ h => h) hA (fun _ _ => rfl), objs := fun k ob hk => ?_, sep := fun i j oi oj g hij hi hj hgi hgj => ?_, own := fun k ob g hk hg => ?_,
           stab := fun g hg => ⟨Nat.lt_of_lt_of_le (h.stab g hg).1 hf.size, (h.stab g hg).2⟩, base := h.base, frame := h.frame.trans (hf.mono fun g hg => ⟨Nat.lt_of_lt_of_le (h.cok.lt g hg) h.frame.size, fun k ob _ hk e => (h.own k ob g hk e).1 hg⟩), pins := fun k u ob hu hk => h.pins k u ob hu (hk' k ob hk).2, mu1 := h.mu1 }
  · obtain ⟨hn, hk⟩ := hk' k ob hk
    exact (h.objs k ob hk).frame (fun _ h => h) hA (hB k ob hn hk) (fun _ _ => rfl)
  · obtain ⟨ni, hi⟩ := hk' i oi hi
    obtain ⟨nj, hj⟩ := hk' j oj hj
    exact h.sep i j oi oj g hij hi hj (hO i oi ni hi g hgi) (hO j oj nj hj g hgj)
  · obtain ⟨hn, hk⟩ := hk' k ob hk
    exact h.own k ob g hk (hO k ob hn hk g hg)
theorem Xbs.moveK (h : Xbs C μ A σ a w) {q : List (Nat × Option Obj)} {id' : Nat} {ob' : Obj} {v' : Value} (hq : Xqq q) (hf : Fr (fun g => g < w.heap.size ∧ ∀ k ob, inQ k q = true → σ.obj k = some ob → ¬ Own w ob (μ k) g) w w')
    (hv : ∀ g, Own w' ob' v' g → (∃ k ob, inQ k q = true ∧ σ.obj k = some ob ∧ Own w ob (μ k) g) ∨ w.heap.size ≤ g) (hfr : σ.fresh id') (hpin : C.pin id' = none) (ho : Xf7 w' A μ ob' v') (hrow : ∀ i, ob'.has i = false) :
    Xbs C (upd μ id' v') A ((σ.kill q).setO id' (some ob')) a w' := by
  have hk' : ∀ k ob, (σ.kill q).obj k = some ob → inQ k q ≠ true ∧ σ.obj k = some ob := fun k ob hk => by
    rw [Xmn hq] at hk
    split at hk
    · cases hk
    · exact ⟨by assumption, hk⟩
  have h1 := h.worldK hq hf
  refine h1.nameD (Yej hq hfr) hpin (fun g hg => ?_) (ho.frame (fun _ h => h) (fun _ _ => rfl) (fun _ _ => rfl) fun i hi => by rw [hrow i] at hi; cases hi)
  have hO : ∀ k ob, inQ k q ≠ true → σ.obj k = some ob → Own w' ob (μ k) g → Own w ob (μ k) g := fun k ob hn hk hg => hg.frame fun g hg => hf.block g ⟨(h.objs k ob hk).lt (.inl hg), fun j oj hj hoj e => h.sep j k oj ob g (fun e => hn (e ▸ hj)) hoj hk e (.inl hg)⟩
  rcases hv g hg with ⟨k, ob, hkq, hk, hb⟩ | hge
  · refine ⟨(h.own k ob g hk hb).1, (h.own k ob g hk hb).2, fun j oj hj e => ?_⟩
    obtain ⟨hn, hj⟩ := hk' j oj hj
    exact h.sep k j ob oj g (fun e => hn (e ▸ hkq)) hk hj hb (hO j oj hn hj e)
  · refine ⟨fun hF => ?_, fun hA => ?_, fun j oj hj e => ?_⟩
    · have := h.cok.lt g hF; have := h.frame.size; omega
    · have := (h.stab g hA).1; omega
    · obtain ⟨hn, hj⟩ := hk' j oj hj
      have := (h.objs j oj hj).lt (hO j oj hn hj e); omega
end
end Go.Proofs.YthpkcbplfbokcaaGreatAL
/- An abstract logic for Go functions: rows whose elements hold rows that are written: operations. Conditions: as each statement tells. -/
namespace Go.Proofs.YthpkcbplfbokcaaGreatAL
open Go.RowKit
set_option linter.unusedVariables false
section
variable {P : Program} {T : Nat → Option TI} {C : Ctx} {σ : St} {n : Nat} {objs : Xa1} {ops : Array Oper} {o : Oper} {l : List Oper} {rs : List Rec} {K : List Rec → St → Prop} {w w' : World} {A : Nat → Prop} {μ : Nat → Value} {a : Act}
theorem Ym3 {l : List Int} {u : Value} (h : Xf7 w A μ (.ints .i64 l) u) : Yiy w l u := by
  rcases Xde h rfl with ⟨h1, h2⟩ | ⟨g, o, cap, cs, E, fr, h1, hg, hf, hc, hm, hs, hl, hcell⟩
  · exact .inl ⟨by simpa using h2, h1⟩
  · refine .inr ⟨g, o, cap, cs, E, fr, by simpa using h1, hg, hf, by simpa using hc, hm, by omega, fun i n hi => ?_⟩
    obtain ⟨v, hv, hr⟩ := hcell i 0 [.int .i64 n] (.int .i64 n) (by rw [List.getElem?_map, hi]; rfl) rfl
    rw [Yk9 hr] at hv
    simpa using hv
theorem Yeh {c : Xer} {l : List c.α} {v : Value} (h : Xf7 w A μ (.deep c l) v) : ∃ ad cap, v = .slice ad l.length cap ∧ (0 < l.length → ∃ g o, ad = some ⟨g, o, none⟩) := by
  obtain ⟨rows, hr, hD, _⟩ := Xm4 h
  rcases Yga hr with ⟨rfl, rfl⟩ | ⟨g, o, cap, cs, E, fr, rfl, _⟩
  · have hl : l.length = 0 := hD.len.symm
    exact ⟨none, 0, by rw [hl], fun h => by omega⟩
  · exact ⟨_, cap, by rw [hD.len], fun _ => ⟨g, o, rfl⟩⟩
def Yok (T : Nat → Option TI) (t : Nat) : Option (Nat × Nat) := match T t with
  | some ⟨.slice e, _, _, _, _⟩ => (match T e with | some ei => some (ei.size, ei.bytes) | none => none)
  | _ => none
theorem Xt7 {t m b : Nat} (h : Yok T t = some (m, b)) : ∃ e n b' z ek ei, T t = some ⟨.slice e, n, b', z, ek⟩ ∧ T e = some ei ∧ ei.size = m ∧ ei.bytes = b := by
  unfold Yok at h
  split at h
  · rename_i h1
    split at h
    · rename_i h2; cases h; exact ⟨_, _, _, _, _, _, h1, h2, rfl, rfl⟩
    · cases h
  · cases h
theorem Yh5 {τ : St} {id : Nat} {ob : Obj} (h : lk σ.o id = some (some ob)) (ha : lk τ.o id = lk σ.o id) : τ.obj id = some ob := by unfold St.obj; rw [ha, h]; rfl
/-! An empty row. -/
theorem Ynp {s : List (Nat × AV)} {ob1 : List (Nat × Option Obj)} {d id : Nat} {cc : Xo7} {c : Xer} (hsz : cc.sz = c.m + 1) (hwf : ∀ x, (c.enc x).length = c.m) {a : Act} {w : World} (h : Rel C ⟨(d, .own id) :: s, (id, some (.row cc [])) :: ob1⟩ a w) :
    Rel C ⟨(d, .own id) :: s, (id, some (.deep c [])) :: (id, some (.row cc [])) :: ob1⟩ a w := by
  obtain ⟨μ, A, hR⟩ := h
  have hid : St.obj ⟨(d, .own id) :: s, (id, some (.row cc [])) :: ob1⟩ id = some (.row cc []) := by
    unfold St.obj; simp only [Xbm, if_true, Option.getD_some]
  refine ⟨μ, A, hR.writeD hid (ob' := .deep c []) (Fr.refl _ _) ?_ fun g hg => hg.elim .inl fun ⟨i, u, hi, _⟩ => by simp at hi⟩
  rcases Xde (hR.objs id _ hid) rfl with ⟨h1, _⟩ | ⟨g, o, cap, cs, E, fr, h1, hg, hf, hc, hm, hs, _⟩
  · rw [h1]; exact .deep0 c hwf
  · rw [h1]
    exact .deep c [] hwf g o cap cs E fr hg hf (Nat.zero_le _) hm (by rw [← hsz]; exact hs) (fun i x hx => by simp at hx) (fun i j u u' k hi => by simp at hi) fun i u hi => by simp at hi
theorem Ylv {rd : List Key} {kl : List (Nat × Option Obj)} {d id : Nat} {cc : Xo7} {c : Xer} (hsz : cc.sz = c.m + 1) (hwf : ∀ x, (c.enc x).length = c.m) (h : Yg0 P C o ⟨rd, [(d, .own id)], (id, some (.row cc [])) :: kl, [id]⟩ σ) :
    Yg0 P C o ⟨rd, [(d, .own id)], (id, some (.deep c [])) :: (id, some (.row cc [])) :: kl, [id]⟩ σ := fun τ ha hf a w hR => Ymw (h τ ha hf a w hR) fun _ _ h => Ynp hsz hwf h
theorem Yoe (hT : TOk P T) (hC : Xgf C n objs) {d id : Nat} {cc : Xo7} (c : Xer) {kl : List (Nat × Option Obj)} {cnd : Prop} {ks : List Key} (hg : o.guard = none) (hr : got (aop T o) σ = some (⟨[(d, .own id)], (id, some (.row cc [])) :: kl, [id], cnd⟩, ks)) (hd : Xy8 n o.dst = true) (hf : frs objs σ [id] = true) (hc : cnd) (hsz : cc.sz = c.m + 1) (hwf : ∀ x, (c.enc x).length = c.m)
    (k : Vc P C ops l (rs ++ [⟨ks, [(d, .own id)], (id, some (.deep c [])) :: (id, some (.row cc [])) :: kl, [id]⟩]) (Rec.app ⟨ks, [(d, .own id)], (id, some (.deep c [])) :: (id, some (.row cc [])) :: kl, [id]⟩ σ) K) : Vc P C ops (o :: l) rs σ K :=
  .cons _ (Xnh hg (Ylv hsz hwf (Yjn hT (Xh3 hC hd) (Yjc hr) hc))) (Xkw hC hf) k
/-! One element, written out. -/
structure D1 : Type 1 where
  cs : List AV
  id : Nat
  l : List Int
def Yqm (cs : List AV) : List AV → RM D1
  | [.own L] => .obj L fun
    | some (.ints .i64 l) => .ret ⟨cs, L, l⟩
    | _ => .fail
  | _ => .fail
def Yp1 (m : Nat) (x : Operand) : RM D1 := ev x fun
  | .agg cs => Yqm (cs.take m) (cs.drop m)
  | _ => .fail
theorem Ynt {cs0 cs1 cs : List AV} {L : Nat} {l : List Int} {ks ks' : List Key} (h : (Yqm cs0 cs1).run σ ks = some (⟨cs, L, l⟩, ks')) : cs = cs0 ∧ cs1 = [.own L] ∧ σ.obj L = some (.ints .i64 l) := by
  unfold Yqm at h
  split at h
  · simp only [RM.run] at h
    split at h
    · rename_i hob
      simp only [RM.run, Option.some.injEq, Prod.mk.injEq, D1.mk.injEq] at h
      obtain ⟨⟨rfl, rfl, rfl⟩, _⟩ := h
      exact ⟨rfl, rfl, hob⟩
    · simp [RM.run] at h
  · simp [RM.run] at h
theorem Ync (hT : TOk P T) {t d L b : Nat} {x : Operand} {c : Xer} {v : c.α} {cs : List AV} {li : List Int} {ks : List Key} (hd : ∀ d, o.dst = some d → d < C.n) (ho : o.op = .buildSlice t 1 #[(0, x)]) (ht : Yok T t = some (c.m + 1, b)) (hr : (Yp1 c.m x).run σ [] = some (⟨cs, L, li⟩, ks))
    (hdst : o.dst = some d) (hcs : cs = (c.enc v).map .sv) (hsub : c.sub v = li) (hwf : ∀ x, (c.enc x).length = c.m) (hm : c.m + 1 ≤ 16777216) : Yg0 P C o ⟨ks, [(d, .own (d * 16))], [(d * 16, some (.deep c [v])), (L, none)], [d * 16]⟩ σ := by
  intro τ ha hf a w ⟨μ, A, h⟩
  obtain ⟨e, n, b', z, ek, ei, h1, h2, hsz, _⟩ := Xt7 ht
  obtain ⟨v0, k1, hv, hr1⟩ := Xbd (Xdo hr ha)
  split at hr1
  · rename_i cs'
    obtain ⟨e1, e2, hob⟩ := Ynt hr1
    have hx := h.ev hv
    generalize hxe : a.eval x = u at hx
    cases hx with
    | agg _ vs hl hall =>
      have hcs' : cs' = (c.enc v).map .sv ++ [.own L] := by rw [← List.take_append_drop c.m cs', ← e1, e2, hcs]
      have hlen : cs'.length = c.m + 1 := by rw [hcs', List.length_append, List.length_map, hwf]; rfl
      have hvs : vs.size = c.m + 1 := by rw [hl, hlen]
      obtain ⟨cc, hrun, hcc, hcell⟩ := Xmy (P := P) (len := 1) hT h1 h2 w #[(0, a.eval x)] (by rw [hsz]; omega) rfl (fun m p hp => by
        cases m with
        | zero => simp at hp; subst hp; exact ⟨rfl, by rw [hxe, hsz]; exact hvs⟩
        | succ m => simp at hp)
      have hcell' : ∀ j, j < c.m + 1 → cc[j]? = vs[j]? := fun j hj => by
        have := hcell 0 (0, a.eval x) j rfl (by rw [hsz]; exact hj)
        rw [hxe] at this
        simpa [Value.cells] using this
      have hget : ∀ j, j < c.m + 1 → vs[j]? = some (vs.toList.getD j undef) := fun j hj => by
        have : j < vs.size := by omega
        simp [List.getD, this]
      have hrepj : ∀ (j : Nat) (y : SV), (c.enc v)[j]? = some y → Xge w A y (vs.toList.getD j undef) := fun j y hy => by
        have hjl : j < c.m := by rw [← hwf v]; exact (List.getElem?_eq_some_iff.1 hy).1
        have := hall j (.sv y) _ (by rw [hcs', List.getElem?_append_left (by rw [List.length_map, hwf]; exact hjl), List.getElem?_map, hy]; rfl) (hget j (by omega))
        cases this with | sv h => exact h
      have hlast : vs.toList.getD c.m undef = μ L := by
        have := hall c.m (.own L) _ (by rw [hcs', List.getElem?_append_right (by rw [List.length_map, hwf]; exact Nat.le_refl _), List.length_map, hwf, Nat.sub_self]; rfl) (hget c.m (by omega))
        generalize vs.toList.getD c.m undef = q at this
        cases this with | own => rfl
      have hL : Yiy w li (μ L) := Ym3 (h.objs L _ hob)
      have hown : ∀ g, Xga (μ L) = some g → g < w.heap.size := fun g hg => hL.lt hg
      have hNest : ∀ g, Xmd c.m [vs.toList] g → Xga (μ L) = some g := fun g ⟨i, r, hri, hg⟩ => by
        cases i with
        | zero => simp at hri; subst hri; rw [hlast] at hg; exact hg
        | succ i => simp at hri
      have hR : Xf7 (w.alloc (.cells cc e)) A μ (Yl2 (c.m + 1) [vs.toList]) (.slice (some ⟨w.heap.size, 0, none⟩) 1 1) := by
        refine Xf7.row (w := w.alloc (.cells cc e)) (A := A) (μ := μ) (Yl2 (c.m + 1) [vs.toList]) (c.m + 1) ([vs.toList].map (Yl1 (c.m + 1))) (Xhb _ _) (Ya7 (Nat.succ_pos _) _) w.heap.size 0 1 cc e (0, 0) (heap_alloc_new w _) (fun k _ => by simp) (by simp) (by decide) (by rw [hcc, hsz]; omega) (fun x hx => by obtain ⟨r, _, rfl⟩ := List.mem_map.1 hx; exact Xog _ _) fun i j x y hi hj => ?_
        cases i with
        | succ i => simp at hi
        | zero =>
          simp at hi
          subst hi
          have hjl : j < c.m + 1 := by have := (List.getElem?_eq_some_iff.1 hj).1; rwa [Xog] at this
          rw [Xt2 _ hjl] at hj
          cases hj
          refine ⟨_, by rw [Nat.zero_mul, Nat.zero_add, Nat.zero_add, hcell' j hjl]; exact hget j hjl, .raw _ ?_⟩
          rcases Nat.lt_or_ge j c.m with hjm | hjm
          · exact (hrepj j _ (List.getElem?_eq_getElem (by rw [hwf]; exact hjm))).one
          · obtain rfl : j = c.m := by omega
            rw [hlast]; exact h.mu1 L
      have hD : DV (w.alloc (.cells cc e)) A c [v] [vs.toList] := by
        refine ⟨rfl, fun i x r hx hri => ?_, fun i j r r' k hij hri hrj => ?_⟩
        · cases i with
          | succ i => simp at hx
          | zero =>
            simp at hx hri
            subst hx; subst hri
            refine ⟨fun j y hy => (hrepj j y hy).frame (fun _ h => h) fun g hg => heap_alloc_old w _ g (h.stab g hg).1, ?_⟩
            rw [hlast, hsub]
            exact hL.frame fun g hg => heap_alloc_old w _ g (hown g hg)
        · have h1 := (List.getElem?_eq_some_iff.1 hri).1
          have h2 := (List.getElem?_eq_some_iff.1 hrj).1
          simp at h1 h2; omega
      obtain ⟨hO, hOw⟩ := Xu0 hwf hR hD (fun g hg e => by
        have := hown g (hNest g hg)
        simp [Xga] at e; omega)
      obtain ⟨hfr, hpin⟩ := hf (d * 16) (by simp)
      have h2 := (h.moveK (q := [(L, none)]) (Xjy Xgq) ((Xqg w (.cells cc e)).mono fun g hg => hg.1) (fun g hg => by
        rcases (hOw g).1 hg with e | hn
        · simp [Xga] at e; exact .inr (by omega)
        · exact .inl ⟨L, _, by simp [inQ], hob, .inl (hNest g hn)⟩) hfr hpin hO (fun _ => rfl)).put (d := some d) (x := .own (d * 16)) (v := .slice (some ⟨w.heap.size, 0, none⟩) 1 1)
        (by have := Rep.own (w := w.alloc (.cells cc e)) (A := A) (μ := upd μ (d * 16) (.slice (some ⟨w.heap.size, 0, none⟩) 1 1)) (d * 16); rwa [Xgd] at this) (fun t ht => hd t (hdst.trans ht))
      refine Xic (w' := w.alloc (.cells cc e)) (v := .slice (some ⟨w.heap.size, 0, none⟩) 1 1) ?_ ⟨upd μ (d * 16) (.slice (some ⟨w.heap.size, 0, none⟩) 1 1), A, ?_⟩
      · simp [execOp, ho, hrun]
      · rw [hdst]; exact h2
  · simp [RM.run] at hr1
theorem Yr9 (hT : TOk P T) (hC : Xgf C n objs) {t d L b : Nat} {x : Operand} (c : Xer) (v : c.α) {cs : List AV} {li : List Int} {ks : List Key} (hg : o.guard = none) (ho : o.op = .buildSlice t 1 #[(0, x)]) (ht : Yok T t = some (c.m + 1, b)) (hr : (Yp1 c.m x).get σ [] = some (⟨cs, L, li⟩, ks))
    (hdst : o.dst = some d) (hd : Xy8 n o.dst = true) (hcs : cs = (c.enc v).map .sv) (hsub : c.sub v = li) (hwf : ∀ x, (c.enc x).length = c.m) (hm : Nat.ble (c.m + 1) 1000 = true) (hf : frs objs σ [d * 16] = true)
    (k : Vc P C ops l (rs ++ [⟨ks, [(d, .own (d * 16))], [(d * 16, some (.deep c [v])), (L, none)], [d * 16]⟩]) (Rec.app ⟨ks, [(d, .own (d * 16))], [(d * 16, some (.deep c [v])), (L, none)], [d * 16]⟩ σ) K) : Vc P C ops (o :: l) rs σ K :=
  .cons _ (Xnh hg (Ync hT (Xh3 hC hd) ho ht (Xeu hr) hdst hcs hsub hwf (Nat.le_trans (Nat.le_of_ble_eq_true hm) (by decide)))) (Xkw hC hf) k
end
end Go.Proofs.YthpkcbplfbokcaaGreatAL
/- An abstract logic for Go functions: rows whose elements hold rows that are written: append, places, stores. Conditions: as each statement tells. -/
namespace Go.Proofs.YthpkcbplfbokcaaGreatAL
open Go.RowKit
set_option linter.unusedVariables false
section
variable {P : Program} {T : Nat → Option TI} {C : Ctx} {σ : St} {n : Nat} {objs : Xa1} {ops : Array Oper} {o : Oper} {l : List Oper} {rs : List Rec} {K : List Rec → St → Prop} {w w' : World} {A : Nat → Prop} {μ : Nat → Value} {a : Act}
/-! Such a row behind another one. -/
def Ypz (x y : Operand) : RM R3 := ev x fun
  | .own i => ev y fun
    | .own j => .ret ⟨[], i, j⟩
    | _ => .fail
  | _ => .fail
theorem Xmd.app {m g : Nat} {rows rows' : List (List Value)} : Xmd m (rows ++ rows') g ↔ Xmd m rows g ∨ Xmd m rows' g := by
  constructor
  · rintro ⟨i, r, hr, hg⟩
    rcases Nat.lt_or_ge i rows.length with h | h
    · rw [List.getElem?_append_left h] at hr; exact .inl ⟨i, r, hr, hg⟩
    · rw [List.getElem?_append_right h] at hr; exact .inr ⟨_, r, hr, hg⟩
  · rintro (⟨i, r, hr, hg⟩ | ⟨i, r, hr, hg⟩)
    · exact ⟨i, r, by rw [List.getElem?_append_left (List.getElem?_eq_some_iff.1 hr).1]; exact hr, hg⟩
    · exact ⟨rows.length + i, r, by rw [List.getElem?_append_right (Nat.le_add_right _ _), Nat.add_sub_cancel_left]; exact hr, hg⟩
theorem DV.app {c : Xer} {l1 l2 : List c.α} {rows1 rows2 : List (List Value)} (h1 : DV w A c l1 rows1) (h2 : DV w A c l2 rows2) (hs : ∀ g, Xmd c.m rows1 g → ¬ Xmd c.m rows2 g) : DV w A c (l1 ++ l2) (rows1 ++ rows2) := by
  refine ⟨by rw [List.length_append, List.length_append, h1.len, h2.len], fun i x r hx hr => ?_, fun i j r r' k hij hr hr' hk hk' => ?_⟩
  · rcases Nat.lt_or_ge i l1.length with h | h
    · rw [List.getElem?_append_left h] at hx
      rw [List.getElem?_append_left (by rw [h1.len]; exact h)] at hr
      exact h1.one i x r hx hr
    · rw [List.getElem?_append_right h] at hx
      rw [List.getElem?_append_right (by rw [h1.len]; exact h), h1.len] at hr
      exact h2.one _ x r hx hr
  · rcases Nat.lt_or_ge i rows1.length with hi | hi
    · rw [List.getElem?_append_left hi] at hr
      rcases Nat.lt_or_ge j rows1.length with hj | hj
      · rw [List.getElem?_append_left hj] at hr'
        exact h1.sep i j r r' k hij hr hr' hk hk'
      · rw [List.getElem?_append_right hj] at hr'
        exact hs k ⟨i, r, hr, hk⟩ ⟨_, r', hr', hk'⟩
    · rw [List.getElem?_append_right hi] at hr
      rcases Nat.lt_or_ge j rows1.length with hj | hj
      · rw [List.getElem?_append_left hj] at hr'
        exact hs k ⟨j, r', hr', hk'⟩ ⟨_, r, hr, hk⟩
      · rw [List.getElem?_append_right hj] at hr'
        exact h2.sep _ _ r r' k (fun e => hij (by omega)) hr hr' hk hk'
theorem Ym9 (hT : TOk P T) {cl : Call} {t tx d i j b : Nat} {x y : Operand} {c : Xer} {l1 l2 : List c.α} {ks : List Key} (hd : ∀ d, o.dst = some d → d < C.n) (ho : o.op = .call cl) (hcal : cl.callee = .builtin .append) (hty : cl.argTypes = #[t, tx]) (hargs : cl.args = #[x, y])
    (ht : Yok T t = some (c.m + 1, b)) (htx : Ynm T tx = true) (hr : (Ypz x y).run σ [] = some (⟨[], (i : Int), j⟩, ks)) (hob1 : lk σ.o i = some (some (.deep c l1))) (hob2 : lk σ.o j = some (some (.deep c l2))) (hij : i ≠ j) (hdst : o.dst = some d)
    (hc : (l1.length + l2.length) * b ≤ 140737488355328 ∧ l1.length + l2.length ≤ maxLen) : Yg0 P C o ⟨.o i :: .o j :: ks, [(d, .own (d * 16))], [(d * 16, some (.deep c (l1 ++ l2))), (i, none), (j, none)], [d * 16]⟩ σ := by
  intro τ ha hf a w ⟨μ, A, h⟩
  obtain ⟨e, n, b', z, ek, ei, h1, h2, hsz, hby⟩ := Xt7 ht
  have hoi : τ.obj i = some (.deep c l1) := Yh5 hob1 (ha (.o i) (by simp))
  have hoj : τ.obj j = some (.deep c l2) := Yh5 hob2 (ha (.o j) (by simp))
  have hnm : Ymi P tx := by
    unfold Ynm at htx
    split at htx
    · exact .inr ⟨_, Xgg hT (by assumption)⟩
    · exact .inl (Ye2 hT (by assumption))
    · cases htx
  obtain ⟨v0, k1, hv, hr1⟩ := Xbd (Xdo hr fun k hk => ha k (by simp [hk]))
  split at hr1
  · obtain ⟨v1, k2, hv1, hr2⟩ := Xbd hr1
    split at hr2
    · rename_i i0 _ j0
      simp only [RM.run, Option.some.injEq, Prod.mk.injEq, R3.mk.injEq] at hr2
      obtain ⟨⟨_, e1, rfl⟩, _⟩ := hr2
      have e1 : i0 = i := by omega
      subst e1
      have hx := h.ev hv
      have hy := h.ev hv1
      generalize hxe : a.eval x = u at hx
      generalize hye : a.eval y = u' at hy
      cases hx with
      | own =>
      cases hy with
      | own =>
      have hwf : ∀ x, (c.enc x).length = c.m := (h.objs i0 _ hoi).wf
      obtain ⟨rows1, R1, D1, n1, O1⟩ := Xm4 (h.objs i0 _ hoi)
      obtain ⟨rows2, R2, D2, n2, O2⟩ := Xm4 (h.objs j0 _ hoj)
      have hsep : ∀ g, Own w (.deep c l1) (μ i0) g → ¬ Own w (.deep c l2) (μ j0) g := fun g => h.sep i0 j0 _ _ g hij hoi hoj
      obtain ⟨news, m1, m2, m3, m4, m5, m6⟩ := Xrk (P := P) (Xwn R2 (Xhb _ _)) (Nat.succ_pos _)
      have hlen2 : (rows2.map (Yl1 (c.m + 1))).length = l2.length := by rw [List.length_map, D2.len]
      have hlen1 : (rows1.map (Yl1 (c.m + 1))).length = l1.length := by rw [List.length_map, D1.len]
      have hA : ∀ g, A g → g < w.heap.size ∧ Xga (μ i0) ≠ some g := fun g hg => ⟨(h.stab g hg).1, fun e => (h.own i0 _ g hoi (.inl e)).2 hg⟩
      generalize hys : rows2.map (Yl1 (c.m + 1)) = ys at m1 m3 m4 m5 m6 hlen2
      rw [← hsz] at m1 m3 m5 m6
      obtain ⟨v', w', hrun, hfr, hb, hrep⟩ := Xsb (P := P) hT h1 h2 hnm R1 (by rw [hsz]; exact Xhb _ _) hA m1 m2 m3 m4 (by rw [hlen1, hlen2, hby]; exact hc.1) (by rw [hlen1, hlen2]; exact hc.2) o.type
      have hR := hrep (Yl2 (c.m + 1) (rows1 ++ rows2)) ys (by rw [hsz, Xhb, List.map_append, hys]) (Ya7 (Nat.succ_pos _) _) rfl m5 m6
      have hA' : ∀ g, A g → w'.heap[g]? = w.heap[g]? := fun g hg => hfr.block g (hA g hg)
      have hN1 : ∀ g, Xmd c.m rows1 g → w'.heap[g]? = w.heap[g]? := fun g hg => hfr.block g ⟨D1.lt hg, n1 g hg⟩
      have hN2 : ∀ g, Xmd c.m rows2 g → Xga (μ i0) ≠ some g := fun g hg e => hsep g (.inl e) ((O2 g).2 (.inr hg))
      have hD : DV w' A c (l1 ++ l2) (rows1 ++ rows2) := (D1.frame hA' hN1).app (D2.frame hA' fun g hg => hfr.block g ⟨D2.lt hg, hN2 g hg⟩) fun g hg hg' => hsep g ((O1 g).2 (.inr hg)) ((O2 g).2 (.inr hg'))
      obtain ⟨hO, hOw⟩ := Xu0 hwf hR hD (fun g hg e => by
        rcases hb g e with e | e
        · rcases Xmd.app.1 hg with hg | hg
          · exact n1 g hg e
          · exact hN2 g hg e
        · rcases Xmd.app.1 hg with hg | hg
          · have := D1.lt hg; omega
          · have := D2.lt hg; omega)
      obtain ⟨hfr', hpin⟩ := hf (d * 16) (by simp)
      have hq1 : inQ i0 [(i0, (none : Option Obj)), (j0, none)] = true := by simp [inQ]
      have hq2 : inQ j0 [(i0, (none : Option Obj)), (j0, none)] = true := by simp [inQ]
      have h3 := (h.moveK (q := [(i0, none), (j0, none)]) (Xjy (Xjy Xgq)) (hfr.mono fun g hg => ⟨hg.1, fun e => hg.2 i0 _ hq1 hoi (.inl e)⟩) (fun g hg => by
        rcases (hOw g).1 hg with e | hn
        · rcases hb g e with e | e
          · exact .inl ⟨i0, _, hq1, hoi, .inl e⟩
          · exact .inr e
        · rcases Xmd.app.1 hn with hn | hn
          · exact .inl ⟨i0, _, hq1, hoi, (O1 g).2 (.inr hn)⟩
          · exact .inl ⟨j0, _, hq2, hoj, (O2 g).2 (.inr hn)⟩) hfr' hpin hO (fun _ => rfl)).put (d := some d) (x := .own (d * 16)) (v := v')
        (by have := Rep.own (w := w') (A := A) (μ := upd μ (d * 16) v') (d * 16); rwa [Xgd] at this) (fun t ht => hd t (hdst.trans ht))
      refine Xic (w' := w') (v := v') ?_ ⟨upd μ (d * 16) v', A, ?_⟩
      · simp [execOp, ho, resolve, hcal, hty, hargs, invoke, builtin, hxe, hye, hrun]
      · rw [hdst]; exact h3
    · simp [RM.run] at hr2
  · simp [RM.run] at hr1
theorem Yr7 (hT : TOk P T) (hC : Xgf C n objs) {cl : Call} {t tx d i j b : Nat} {x y : Operand} (c : Xer) {l1 l2 : List c.α} {ks : List Key} (hg : o.guard = none) (ho : o.op = .call cl) (hcal : cl.callee = .builtin .append) (hty : cl.argTypes = #[t, tx]) (hargs : cl.args = #[x, y])
    (ht : Yok T t = some (c.m + 1, b)) (htx : Ynm T tx = true) (hr : (Ypz x y).get σ [] = some (⟨[], (i : Int), j⟩, ks)) (hob1 : lk σ.o i = some (some (.deep c l1))) (hob2 : lk σ.o j = some (some (.deep c l2))) (hij : Nat.beq i j = false) (hdst : o.dst = some d) (hd : Xy8 n o.dst = true)
    (hf : frs objs σ [d * 16] = true) (hc : (l1.length + l2.length) * b ≤ 140737488355328 ∧ l1.length + l2.length ≤ maxLen)
    (k : Vc P C ops l (rs ++ [⟨.o i :: .o j :: ks, [(d, .own (d * 16))], [(d * 16, some (.deep c (l1 ++ l2))), (i, none), (j, none)], [d * 16]⟩]) (Rec.app ⟨.o i :: .o j :: ks, [(d, .own (d * 16))], [(d * 16, some (.deep c (l1 ++ l2))), (i, none), (j, none)], [d * 16]⟩ σ) K) : Vc P C ops (o :: l) rs σ K :=
  .cons _ (Xnh hg (Ym9 hT (Xh3 hC hd) ho hcal hty hargs ht htx (Xeu hr) hob1 hob2 (fun e => by rw [e, Nat.beq_refl] at hij; cases hij) hdst hc)) (Xkw hC hf) k
/-! How long it is. -/
def Yrv (x : Operand) : RM R3 := ev x fun
  | .own i => .ret ⟨[], 0, i⟩
  | _ => .fail
theorem Ynb (hT : TOk P T) {cl : Call} {t d i m b : Nat} {x : Operand} {c : Xer} {l1 : List c.α} {ks : List Key} (hd : ∀ d, o.dst = some d → d < C.n) (ho : o.op = .call cl) (hcal : cl.callee = .builtin .len) (hty : cl.argTypes = #[t]) (hargs : cl.args = #[x])
    (ht : Yok T t = some (m, b)) (hr : (Yrv x).run σ [] = some (⟨[], 0, i⟩, ks)) (hob1 : lk σ.o i = some (some (.deep c l1))) (hdst : o.dst = some d) : Yg0 P C o ⟨.o i :: ks, [(d, .sv (.int .i64 (l1.length : Int)))], [], []⟩ σ := by
  intro τ ha hf a w ⟨μ, A, h⟩
  obtain ⟨e, n, b', z, ek, ei, h1, h2, hsz, hby⟩ := Xt7 ht
  have hoi : τ.obj i = some (.deep c l1) := Yh5 hob1 (ha (.o i) (by simp))
  obtain ⟨v0, k1, hv, hr1⟩ := Xbd (Xdo hr fun k hk => ha k (by simp [hk]))
  split at hr1
  · rename_i i0
    simp only [RM.run, Option.some.injEq, Prod.mk.injEq, R3.mk.injEq] at hr1
    obtain ⟨⟨_, _, rfl⟩, _⟩ := hr1
    have hx := h.ev hv
    generalize hxe : a.eval x = u at hx
    cases hx with
    | own =>
    obtain ⟨ad, cap, hm, _⟩ := Yeh (h.objs i0 _ hoi)
    refine Xax (v := .sv (.int .i64 (l1.length : Int))) (u := .int .i64 (l1.length : Int)) (c := True) (ks := []) (ks' := []) h (by simp only [Xe8, hdst]; rfl) hd (fun _ => ?_) (fun _ => .sv (.int _ _)) trivial
    have hl := Ynu (P := P) t (μ i0) w l1.length (.inr ⟨_, ad, cap, Xgg hT h1, hm⟩) [] o.type
    simp [execOp, ho, resolve, hcal, hty, hargs, invoke, builtin, hxe, hl]
  · simp [RM.run] at hr1
theorem Yr8 (hT : TOk P T) (hC : Xgf C n objs) {cl : Call} {t d i m b : Nat} {x : Operand} (c : Xer) {l1 : List c.α} {ks : List Key} (hg : o.guard = none) (ho : o.op = .call cl) (hcal : cl.callee = .builtin .len) (hty : cl.argTypes = #[t]) (hargs : cl.args = #[x])
    (ht : Yok T t = some (m, b)) (hr : (Yrv x).get σ [] = some (⟨[], 0, i⟩, ks)) (hob1 : lk σ.o i = some (some (.deep c l1))) (hdst : o.dst = some d) (hd : Xy8 n o.dst = true)
    (k : Vc P C ops l (rs ++ [⟨.o i :: ks, [(d, .sv (.int .i64 (l1.length : Int)))], [], []⟩]) (Rec.app ⟨.o i :: ks, [(d, .sv (.int .i64 (l1.length : Int)))], [], []⟩ σ) K) : Vc P C ops (o :: l) rs σ K :=
  .cons _ (Xnh hg (Ynb hT (Xh3 hC hd) ho hcal hty hargs ht (Xeu hr) hob1 hdst)) (fun _ h => by simp at h) k
/-! A place in it. -/
def Yp0 (x y : Operand) : RM R3 := ev x fun
  | .own i => ev y fun
    | .sv (.int _ k) => .ret ⟨[], k, i⟩
    | _ => .fail
  | _ => .fail
theorem Yna (hT : TOk P T) {t d i m b : Nat} {x y : Operand} {c : Xer} {l1 : List c.α} {j : Int} {ks : List Key} (hd : ∀ d, o.dst = some d → d < C.n) (ho : o.op = .indexAddr t x y)
    (ht : Yok T t = some (m, b)) (hr : (Yp0 x y).run σ [] = some (⟨[], j, i⟩, ks)) (hob1 : lk σ.o i = some (some (.deep c l1))) (hdst : o.dst = some d) (hc : 0 ≤ j ∧ j < l1.length) : Yg0 P C o ⟨.o i :: ks, [(d, .eptr i m j.toNat 0)], [], []⟩ σ := by
  intro τ ha hf a w ⟨μ, A, h⟩
  obtain ⟨e, n, b', z, ek, ei, h1, h2, hsz, hby⟩ := Xt7 ht
  have hoi : τ.obj i = some (.deep c l1) := Yh5 hob1 (ha (.o i) (by simp))
  obtain ⟨v0, k1, hv, hr1⟩ := Xbd (Xdo hr fun k hk => ha k (by simp [hk]))
  split at hr1
  · obtain ⟨v1, k2, hv1, hr2⟩ := Xbd hr1
    split at hr2
    · rename_i i0 _ kd j0
      simp only [RM.run, Option.some.injEq, Prod.mk.injEq, R3.mk.injEq] at hr2
      obtain ⟨⟨_, rfl, rfl⟩, _⟩ := hr2
      have hx := h.ev hv
      have hy := Xbt (h.ev hv1)
      generalize hxe : a.eval x = u at hx
      cases hx with
      | own =>
      obtain ⟨ad, cap, hm, had⟩ := Yeh (h.objs i0 _ hoi)
      obtain ⟨g, o', rfl⟩ := had (by omega)
      refine Xax (v := .eptr i0 m j0.toNat 0) (u := .pointer (some ⟨g, o' + j0.toNat * ei.size, none⟩)) (c := True) (ks := []) (ks' := []) h (by simp only [Xe8, hdst]; rfl) hd (fun _ => ?_) (fun _ => ?_) trivial
      · simp [execOp, ho, hxe, hm, hy, Xhc hT h1 h2 w g o' l1.length cap kd j0 hc]
      · rw [hsz]; exact .eptr i0 m j0.toNat 0 g o' l1.length cap hm
    · simp [RM.run] at hr2
  · simp [RM.run] at hr1
theorem Yiw (hT : TOk P T) (hC : Xgf C n objs) {t d i m b : Nat} {x y : Operand} (c : Xer) {l1 : List c.α} {j : Int} {ks : List Key} (hg : o.guard = none) (ho : o.op = .indexAddr t x y)
    (ht : Yok T t = some (m, b)) (hr : (Yp0 x y).get σ [] = some (⟨[], j, i⟩, ks)) (hob1 : lk σ.o i = some (some (.deep c l1))) (hdst : o.dst = some d) (hd : Xy8 n o.dst = true) (hc : 0 ≤ j ∧ j < l1.length)
    (k : Vc P C ops l (rs ++ [⟨.o i :: ks, [(d, .eptr i m j.toNat 0)], [], []⟩]) (Rec.app ⟨.o i :: ks, [(d, .eptr i m j.toNat 0)], [], []⟩ σ) K) : Vc P C ops (o :: l) rs σ K :=
  .cons _ (Xnh hg (Yna hT (Xh3 hC hd) ho ht (Xeu hr) hob1 hdst hc)) (fun _ h => by simp at h) k
/-! A number is put into a field. -/
structure R7 : Type 1 where
  id : Nat
  sz : Nat
  i : Nat
  off : Nat
  k : IntKind
  n : Int
def Yp2 (x y : Operand) : RM R7 := ev x fun
  | .eptr id sz i off => ev y fun
    | .sv (.int k n) => .ret ⟨id, sz, i, off, k, n⟩
    | _ => .fail
  | _ => .fail
theorem Yo9 {i j m p q : Nat} (hp : p ≤ m) (hq : q ≤ m) (h : i * (m + 1) + p = j * (m + 1) + q) : i = j ∧ p = q := by
  rcases Nat.lt_trichotomy i j with hlt | heq | hgt
  · have := Nat.mul_le_mul_right (m + 1) (show i + 1 ≤ j by omega)
    rw [Nat.add_mul, Nat.one_mul] at this; omega
  · subst heq; exact ⟨rfl, by omega⟩
  · have := Nat.mul_le_mul_right (m + 1) (show j + 1 ≤ i by omega)
    rw [Nat.add_mul, Nat.one_mul] at this; omega
theorem Ynd (hT : TOk P T) {t id i off : Nat} {x y : Operand} {c : Xer} {l1 l2 : List c.α} {x' : c.α} {kd : IntKind} {m : Int} {ks : List Key} (ho : o.op = .store t x y) (hdst : o.dst = none) (ht : Yjj T t = some kd)
    (hr : (Yp2 x y).run σ [] = some (⟨id, c.m + 1, i, off, kd, m⟩, ks)) (hob1 : lk σ.o id = some (some (.deep c l1))) (hoff : off < c.m) (hi : i < l1.length) (hl2 : l2 = l1.set i x')
    (hx' : c.enc x' = (c.enc (l1.getD i c.d)).set off (.int kd m)) (hs' : c.sub x' = c.sub (l1.getD i c.d)) : Yg0 P C o ⟨.o id :: ks, [], [(id, some (.deep c l2))], []⟩ σ := by
  intro τ ha hf a w ⟨μ, A, h⟩
  obtain ⟨b, z, ek, h1⟩ := Xvr ht
  have hoi : τ.obj id = some (.deep c l1) := Yh5 hob1 (ha (.o id) (by simp))
  obtain ⟨v0, k1, hv, hr1⟩ := Xbd (Xdo hr fun k hk => ha k (by simp [hk]))
  split at hr1
  · obtain ⟨v1, k2, hv1, hr2⟩ := Xbd hr1
    split at hr2
    · rename_i id0 sz0 i0 off0 _ kd0 m0
      simp only [RM.run, Option.some.injEq, Prod.mk.injEq, R7.mk.injEq] at hr2
      obtain ⟨⟨rfl, rfl, rfl, rfl, rfl, rfl⟩, _⟩ := hr2
      have hx := h.ev hv
      have hy := Xbt (h.ev hv1)
      generalize hxe : a.eval x = u at hx
      cases hx with
      | eptr _ _ _ _ g o' n cap hm =>
      have hput : a.put o.dst undef = a := by rw [hdst]; rfl
      have hwf : ∀ x, (c.enc x).length = c.m := (h.objs id0 _ hoi).wf
      obtain ⟨rows, R, D, n1, O⟩ := Xm4 (h.objs id0 _ hoi)
      have hri : rows[i0]? = some (rows[i0]'(by rw [D.len]; exact hi)) := List.getElem?_eq_getElem _
      generalize rows[i0]'(by rw [D.len]; exact hi) = r at hri
      rcases Yga R with ⟨hnil, rfl⟩ | ⟨g2, o2, cap2, cs, E, fr, hm2, hg, hnf, hcl, hcm, hs, hcell⟩
      · simp at hri
      rw [hm] at hm2
      injection hm2 with e1 e2 e3
      injection e1 with e1
      injection e1 with e1 e4
      subst e1; subst e4
      have hbnd : (i0 + 1) * (c.m + 1) ≤ cap2 * (c.m + 1) := Nat.mul_le_mul_right _ (by have := D.len; omega)
      rw [Nat.add_mul, Nat.one_mul] at hbnd
      have hb : o' + (i0 * (c.m + 1) + off0) + 1 ≤ cs.size := by omega
      have hone : ∀ u ∈ (a.eval y).cells.toList, u.oneCell' = true := by rw [hy]; intro u hu; simp [Value.cells] at hu; subst hu; rfl
      have hrun := Xsd (P := P) (o := o) hT h1 ho hxe hg hnf (by rw [hy]; rfl) hb hone
      have hcy : (a.eval y).cells.toList = [.int kd0 m0] := by rw [hy]; rfl
      rw [hcy] at hrun
      have hst : ∀ j, ((cs.toList.take (o' + (i0 * (c.m + 1) + off0)) ++ [Value.int kd0 m0] ++ cs.toList.drop (o' + (i0 * (c.m + 1) + off0) + 1)).toArray)[j]? = if j = o' + (i0 * (c.m + 1) + off0) then some (.int kd0 m0) else cs[j]? := by
        intro j
        have := Xm5 cs [Value.int kd0 m0] (o' + (i0 * (c.m + 1) + off0)) (by simpa using hb) j
        rw [show [Value.int kd0 m0].length = 1 from rfl] at this
        rw [this]
        by_cases e : j = o' + (i0 * (c.m + 1) + off0)
        · subst e; rw [if_pos ⟨Nat.le_refl _, by omega⟩, if_pos rfl]; simp
        · rw [if_neg (fun h => e (by omega)), if_neg e]
      have hsz : ((cs.toList.take (o' + (i0 * (c.m + 1) + off0)) ++ [Value.int kd0 m0] ++ cs.toList.drop (o' + (i0 * (c.m + 1) + off0) + 1)).toArray).size = cs.size := Xfn cs [Value.int kd0 m0] _ (by simpa using hb)
      generalize (cs.toList.take (o' + (i0 * (c.m + 1) + off0)) ++ [Value.int kd0 m0] ++ cs.toList.drop (o' + (i0 * (c.m + 1) + off0) + 1)).toArray = cs' at hrun hst hsz
      have hown : Xga (μ id0) = some g := by rw [hm]; rfl
      -- the rows behind it
      let r' : List Value := (List.range (c.m + 1)).map fun j => if j = off0 then .int kd0 m0 else r.getD j undef
      have hr' : ∀ j, j < c.m + 1 → r'.getD j undef = if j = off0 then .int kd0 m0 else r.getD j undef := fun j hj => by simp [r', List.getD, hj]
      have hlast : r'.getD c.m undef = r.getD c.m undef := by rw [hr' c.m (by omega), if_neg (by omega)]
      have hrow : ∀ i r2, (rows.set i0 r')[i]? = some r2 → (i = i0 ∧ r2 = r') ∨ (i ≠ i0 ∧ rows[i]? = some r2) := fun i r2 hi2 => by
        by_cases e : i0 = i
        · subst e
          rw [List.getElem?_set_self (by rw [D.len]; exact hi)] at hi2
          cases hi2; exact .inl ⟨rfl, rfl⟩
        · rw [List.getElem?_set_ne e] at hi2; exact .inr ⟨fun h => e h.symm, hi2⟩
      have hnest : ∀ k, Xmd c.m (rows.set i0 r') k → Xmd c.m rows k := fun k ⟨i, r2, hi2, hk⟩ => by
        rcases hrow i r2 hi2 with ⟨rfl, rfl⟩ | ⟨_, h2⟩
        · rw [hlast] at hk; exact ⟨i, r, hri, hk⟩
        · exact ⟨i, r2, h2, hk⟩
      have hA : ∀ k, A k → (w.setRow g cs').heap[k]? = w.heap[k]? := fun k hk => setRow_other w g k _ fun e => (h.own id0 _ g hoi (.inl hown)).2 (e ▸ hk)
      have hN : ∀ k, Xmd c.m rows k → (w.setRow g cs').heap[k]? = w.heap[k]? := fun k hk => setRow_other w g k _ fun e => n1 k hk (by rw [e]; exact hown)
      have hR : Xf7 (w.setRow g cs') A μ (Yl2 (c.m + 1) (rows.set i0 r')) (μ id0) := by
        have := Xf7.row (w := w.setRow g cs') (A := A) (μ := μ) (Yl2 (c.m + 1) (rows.set i0 r')) (c.m + 1) ((rows.set i0 r').map (Yl1 (c.m + 1))) (Xhb _ _) (Ya7 (Nat.succ_pos _) _) g o' cap2 cs' E fr (setRow_heap w g cs _ E fr hg) (fun k hk => hnf k (by rwa [hsz] at hk)) (by simpa using hcl) hcm (by rw [hsz]; exact hs)
          (fun x hx => by obtain ⟨r, _, rfl⟩ := List.mem_map.1 hx; exact Xog _ _) fun i j x y hi2 hj => ?_
        · rw [List.length_map, List.length_set] at this; rw [hm, e2, e3]; exact this
        · rw [List.getElem?_map] at hi2
          obtain ⟨r2, hr2, rfl⟩ := Option.map_eq_some_iff.1 hi2
          have hjl : j < c.m + 1 := by have := (List.getElem?_eq_some_iff.1 hj).1; rwa [Xog] at this
          rw [Xt2 _ hjl] at hj
          cases hj
          have hold : ∀ r3, rows[i]? = some r3 → Xge (w.setRow g cs') A (.raw (r3.getD j undef)) (r3.getD j undef) := fun r3 h3 => by
            have hx3 := (Xde R (Xhb _ _)).resolve_left (by rw [hm]; intro h; cases h.1)
            obtain ⟨_, _, _, _, _, _, _, _, _, _, _, _, _, hc3⟩ := hx3
            obtain ⟨u, _, hu⟩ := hc3 i j _ _ (by rw [List.getElem?_map, h3]; rfl) (Xt2 r3 hjl)
            have := Yno hu
            subst this
            exact .raw _ hu.one
          refine ⟨r2.getD j undef, ?_, ?_⟩
          · rw [hst]
            rcases hrow i r2 hr2 with ⟨rfl, rfl⟩ | ⟨hne, h3⟩
            · rw [hr' j hjl]
              by_cases e : j = off0
              · subst e; rw [if_pos rfl, if_pos rfl]
              · rw [if_neg (by omega), if_neg e]; exact hcell i j r hri hjl
            · rw [if_neg (fun e => hne (Yo9 (p := j) (q := off0) (m := c.m) (by omega) (by omega) (by omega)).1)]; exact hcell i j r2 h3 hjl
          · rcases hrow i r2 hr2 with ⟨rfl, rfl⟩ | ⟨hne, h3⟩
            · rw [hr' j hjl]
              by_cases e : j = off0
              · rw [if_pos e]; exact .raw _ rfl
              · rw [if_neg e]; exact hold r hri
            · exact hold r2 h3
      have hgetD : l1[i0]? = some (l1.getD i0 c.d) := by simp [List.getD, hi]
      have hD : DV (w.setRow g cs') A c l2 (rows.set i0 r') := by
        subst hl2
        refine ⟨by rw [List.length_set, List.length_set, D.len], fun i z r2 hz hr2 => ?_, fun i j ra rb k hij hra hrb hk hk' => ?_⟩
        · rcases hrow i r2 hr2 with ⟨rfl, rfl⟩ | ⟨hne, h3⟩
          · rw [List.getElem?_set_self hi] at hz
            cases hz
            obtain ⟨q1, q2⟩ := D.one i _ r hgetD hri
            refine ⟨fun j yy hyy => ?_, by rw [hlast, hs']; exact q2.frame fun k hk => hN k ⟨i, r, hri, hk⟩⟩
            have hjm : j < c.m := by rw [← hwf x']; exact (List.getElem?_eq_some_iff.1 hyy).1
            rw [hx'] at hyy
            rw [hr' j (by omega)]
            by_cases e : j = off0
            · subst e
              rw [List.getElem?_set_self (by rw [hwf]; exact hjm)] at hyy
              cases hyy
              rw [if_pos rfl]; exact .int _ _
            · rw [List.getElem?_set_ne (fun h => e h.symm)] at hyy
              rw [if_neg e]
              exact (q1 j yy hyy).frame (fun _ h => h) hA
          · rw [List.getElem?_set_ne (fun h => hne h.symm)] at hz
            obtain ⟨q1, q2⟩ := D.one i z r2 hz h3
            exact ⟨fun j yy hyy => (q1 j yy hyy).frame (fun _ h => h) hA, q2.frame fun k hk => hN k ⟨i, r2, h3, hk⟩⟩
        · rcases hrow i ra hra with ⟨rfl, rfl⟩ | ⟨hne, h3⟩
          · rcases hrow j rb hrb with ⟨rfl, rfl⟩ | ⟨hne', h3'⟩
            · exact hij rfl
            · rw [hlast] at hk; exact D.sep i j r rb k hij hri h3' hk hk'
          · rcases hrow j rb hrb with ⟨rfl, rfl⟩ | ⟨hne', h3'⟩
            · rw [hlast] at hk'; exact D.sep i j ra r k hij h3 hri hk hk'
            · exact D.sep i j ra rb k hij h3 h3' hk hk'
      obtain ⟨hO, hOw⟩ := Xu0 hwf hR hD (fun k hk => n1 k (hnest k hk))
      refine Xz3 hrun ?_
      rw [hput]
      refine ⟨μ, A, h.writeD hoi ((Xsw w g cs').mono fun k hk => ⟨hk.1, fun e => hk.2 ((O k).2 (.inl (by rw [e]; exact hown)))⟩) hO fun k hk => ?_⟩
      rcases (hOw k).1 hk with hk | hk
      · exact (O k).2 (.inl hk)
      · exact (O k).2 (.inr (hnest k hk))
    · simp [RM.run] at hr2
  · simp [RM.run] at hr1
theorem Yld (hT : TOk P T) {t id i off : Nat} {x y : Operand} (c : Xer) {l1 : List c.α} (l2 : List c.α) (x' : c.α) {kd : IntKind} {m : Int} {ks : List Key} (hg : o.guard = none) (ho : o.op = .store t x y) (hdst : o.dst = none) (ht : Yjj T t = some kd)
    (hr : (Yp2 x y).get σ [] = some (⟨id, c.m + 1, i, off, kd, m⟩, ks)) (hob1 : lk σ.o id = some (some (.deep c l1))) (hoff : Nat.blt off c.m = true) (hi : i < l1.length) (hl2 : l2 = l1.set i x')
    (hx' : c.enc x' = (c.enc (l1.getD i c.d)).set off (.int kd m)) (hs' : c.sub x' = c.sub (l1.getD i c.d))
    (k : Vc P C ops l (rs ++ [⟨.o id :: ks, [], [(id, some (.deep c l2))], []⟩]) (Rec.app ⟨.o id :: ks, [], [(id, some (.deep c l2))], []⟩ σ) K) : Vc P C ops (o :: l) rs σ K :=
  .cons _ (Xnh hg (Ynd hT ho hdst ht (Xeu hr) hob1 (Xom hoff) hi hl2 hx' hs')) (fun _ h => by simp at h) k
end
end Go.Proofs.YthpkcbplfbokcaaGreatAL
/- An abstract logic for Go functions: rows whose elements hold rows that are written: an element's row is handed to a call. Conditions: as each statement tells. -/
namespace Go.Proofs.YthpkcbplfbokcaaGreatAL
open Go.RowKit
set_option linter.unusedVariables false
section
variable {P : Program} {T : Nat → Option TI} {C : Ctx} {σ : St} {n : Nat} {objs : Xa1} {ops : Array Oper} {o : Oper} {l : List Oper} {rs : List Rec} {K : List Rec → St → Prop} {w w' : World} {A : Nat → Prop} {μ : Nat → Value} {a : Act}
theorem Yg9 {c : Xer} {l : List c.α} {v : Value} {rows : List (List Value)} {i : Nat} {r : List Value} (hR : Xf7 w A μ (Yl2 (c.m + 1) rows) v) (hr : rows[i]? = some r) : ∃ g o cap, v = .slice (some ⟨g, o, none⟩) rows.length cap ∧ w.cell? ⟨g, o + (i * (c.m + 1) + c.m), none⟩ = some (r.getD c.m undef) := by
  rcases Yga hR with ⟨_, rfl⟩ | ⟨g, o, cap, cs, E, fr, hv, hg, _, _, _, _, hcell⟩
  · simp at hr
  · exact ⟨g, o, cap, hv, by rw [cell_of_row w g _ cs E fr hg]; exact hcell i c.m r hr (by omega)⟩
theorem Yhz {k id : Nat} {x ob : Obj} (h : lk [(k, x)] id = some ob) : id = k ∧ ob = x := by
  rw [Xbm] at h
  split at h
  · rename_i e; cases h; exact ⟨e.symm, rfl⟩
  · simp [lk] at h
theorem Ynh (h : Xbs C μ A σ a w) {id i : Nat} {c : Xer} {l1 l2 : List c.α} {x x' : c.α} (hid : σ.obj id = some (.deep c l1)) (hx : l1[i]? = some x) (hl2 : l2 = l1.set i x') {f : Nat} {k k' : Int} {s' : List Int}
    (hA : AC P f [.own 0, .sv (.int .i64 k)] [(0, .ints .i64 (c.sub x))] (.sv (.int .i64 k')) [(0, .ints .i64 s')]) (hx' : c.enc x' = c.enc x) (hs' : c.sub x' = s') {g o n cap : Nat} {u : Value} (hm : μ id = .slice (some ⟨g, o, none⟩) n cap) (hu : w.cell? ⟨g, o + (i * (c.m + 1) + c.m), none⟩ = some u)
    {dst : Option Nat} (hd : ∀ d, dst = some d → d < C.n) {Q : Ending → World → Prop} (hQ : ∀ w', Rel C ((σ.setO id (some (.deep c l2))).put dst (.sv (.int .i64 k'))) (a.put dst (.int .i64 k')) w' → Q (.returned (.int .i64 k')) w') : Calls P f #[u, .int .i64 k] w Q := by
  have hwf : ∀ x, (c.enc x).length = c.m := (h.objs id _ hid).wf
  obtain ⟨rows, R, D, n1, O⟩ := Xm4 (h.objs id _ hid)
  have hil : i < l1.length := (List.getElem?_eq_some_iff.1 hx).1
  obtain ⟨r, hr⟩ : ∃ r, rows[i]? = some r := ⟨_, List.getElem?_eq_getElem (by rw [D.len]; exact hil)⟩
  obtain ⟨g2, o2, cap2, hv, hcl⟩ := Yg9 (l := l1) R hr
  rw [hm] at hv
  injection hv with e1 e2 e3
  injection e1 with e1
  injection e1 with e1 e4
  subst e1; subst e4
  rw [hu] at hcl
  injection hcl with hcl
  have hI : Yiy w (c.sub x) u := by rw [hcl]; exact (D.one i x r hx hr).2
  have hnu : ∀ k, Xga u = some k → Xmd c.m rows k := fun k hk => ⟨i, r, hr, by rw [← hcl]; exact hk⟩
  have hE : Yqa w (fun _ => u) A [(0, .ints .i64 (c.sub x))] := by
    refine ⟨fun _ => hI.one, fun j ob hj => ?_, fun j1 j2 o1 o2 g hne h1 h2 => ?_, fun j ob g hj hg hAg => ?_, fun g hg => (h.stab g hg).1⟩
    · obtain ⟨_, rfl⟩ := Yhz hj; exact hI.orep
    · obtain ⟨r1, _⟩ := Yhz h1
      obtain ⟨r2, _⟩ := Yhz h2
      exact absurd (r1.trans r2.symm) hne
    · obtain ⟨_, rfl⟩ := Yhz hj
      exact (h.own id _ g hid ((O g).2 (.inr (hnu g ((Xmo rfl).1 hg))))).2 hAg
  have hargs : Ysd w A (fun _ => u) [.own 0, .sv (.int .i64 k)] #[u, .int .i64 k] := by
    refine ⟨rfl, fun j y v hy hv => ?_⟩
    match j with
    | 0 => simp at hy hv; subst hy; subst hv; exact Rep.own (μ := fun _ => u) 0
    | 1 => simp at hy hv; subst hy; subst hv; exact .sv (.int _ _)
    | j + 2 => simp at hy
  refine Calls.mono (hA (fun _ => u) A w _ hE hargs) ?_
  rintro e w' ⟨v, μ', A', rfl, hL, hres⟩
  have hv := Xbt hres
  subst hv
  refine hQ w' ?_
  have hFo : ∀ g, g < w.heap.size → Xga u ≠ some g → w'.heap[g]? = w.heap[g]? := fun g hg hne => hL.frame.block g ⟨hg, fun j ob hj ho => by
    obtain ⟨_, rfl⟩ := Yhz hj
    exact hne ((Xmo rfl).1 ho)⟩
  have hI' : Yiy w' s' u := by
    have h1 := hL.reps 0 _ rfl
    have h2 : μ' 0 = u := hL.pins 0 _ _ rfl rfl
    rw [h2] at h1
    exact Ym3 h1
  have hA' : ∀ g, A g → w'.heap[g]? = w.heap[g]? := fun g hg => hFo g (h.stab g hg).1 fun e => (h.own id _ g hid ((O g).2 (.inr (hnu g e)))).2 hg
  have hR' : Xf7 w' A μ (Yl2 (c.m + 1) rows) (μ id) := R.frame (fun _ h => h) hA' (fun k hk => by
    have hk : Xga (μ id) = some k := (Xmo rfl).1 hk
    exact hFo k ((h.objs id _ hid).lt (.inl hk)) fun e => n1 k (hnu k e) hk) fun _ _ => rfl
  have hD : DV w' A c l2 rows := by
    subst hl2
    refine ⟨by rw [List.length_set, D.len], fun j z r2 hz hr2 => ?_, D.sep⟩
    by_cases e : i = j
    · subst e
      rw [List.getElem?_set_self hil] at hz
      cases hz
      rw [hr] at hr2
      cases hr2
      rw [hx', hs', ← hcl]
      exact ⟨fun j y hy => ((D.one i x r hx hr).1 j y hy).frame (fun _ h => h) hA', hI'⟩
    · rw [List.getElem?_set_ne e] at hz
      obtain ⟨q1, q2⟩ := D.one j z r2 hz hr2
      exact ⟨fun j y hy => (q1 j y hy).frame (fun _ h => h) hA', q2.frame fun k hk => hFo k (q2.lt hk) fun e' => D.sep i j r r2 k e hr hr2 (by rw [← hcl]; exact e') hk⟩
  obtain ⟨hO2, hOw⟩ := Xu0 hwf hR' hD n1
  refine ⟨μ, A, (h.writeD hid (ob' := .deep c l2) ⟨hL.frame.os, hL.frame.tape, hL.frame.output, hL.frame.size, fun k hk => hFo k hk.1 fun e => hk.2 ((O k).2 (.inr (hnu k e)))⟩ hO2 fun k hk => (O k).2 ((hOw k).1 hk)).put (.sv (.int _ _)) hd⟩

theorem Yj6 {Q : Exit → Act → World → Prop} {l2 : List Oper} : ∀ {l : List Oper} {rs : List Rec} {σ : St} {K : List Rec → St → Prop}, Vc P C ops l rs σ K → (∀ rs σ' a w, K rs σ' → Rel C σ' a w → wpList P ops Q l2 a w) → ∀ a w, Rel C σ a w → wpList P ops Q (l ++ l2) a w
  | _, _, _, _, .nil h, hQ, a, w, hR => hQ _ _ a w h hR
  | _, _, σ, _, .cons (o := o) r h hf hk, hQ, a, w, hR => by
    have h1 := h _ (fun k _ => by cases k <;> rfl) hf a w hR
    rw [List.cons_append]
    unfold wpList
    split
    · rename_i hw
      rw [if_pos hw] at h1
      refine .inl ?_
      have h2 : Oper.wp P o a w (fun a' w' => Rel C (r.app σ) a' w') Q := by
        unfold Xkm at h1
        unfold Oper.wp at h1 ⊢
        generalize (execOp a.eval o).run P w = res at h1
        cases res with
        | ok n w' =>
          cases n <;> simp only [Oper.upon] at h1 ⊢ <;> first
            | exact h1
            | exact Calls.mono h1 (fun e w'' he => by cases e <;> first | exact he | exact he.elim | (obtain ⟨_, _, hf⟩ := he; exact hf.elim))
        | halt x w' => cases x <;> simp only [Oper.upon] at h1
      exact Oper.wp_mono (fun a' w' hR' => Yj6 hk hQ a' w' hR') h2
    · rename_i hw
      rw [if_neg hw] at h1
      exact Yj6 hk hQ _ _ h1
theorem Yle {Q : Exit → Act → World → Prop} {v : Value} (hg : o.guard = none) (hr : (execOp a.eval o).run P w = .ok (.value v) w) (h : wpList P ops Q l (a.put o.dst v) w) : wpList P ops Q (o :: l) a w := by
  unfold wpList
  rw [if_pos (by simp [Region.wanted, hg])]
  refine .inl ?_
  unfold Oper.wp
  rw [hr]; exact h
def Yrs (T : Nat → Option TI) (t : Nat) : Bool := match T t with | some ⟨.slice _, _, _, _, _⟩ => true | _ => false
inductive Ymh (P : Program) (T : Nat → Option TI) (n : Nat) (oL oM oC : Oper) (σ : St) (K : St → Prop) : Prop
  | mk {t tp tv tk tw td id i f : Nat} {c : Xer} {l1 l2 : List c.α} {x x' : c.α} {k k' : Int} {s' : List Int} {cl : Call}
      (gL : oL.guard = none) (pL : oL.op = .load t (.tmp tp)) (dL : oL.dst = some tv) (gM : oM.guard = none) (pM : oM.op = .move (.tmp tk)) (dM : oM.dst = some tw)
      (gC : oC.guard = none) (pC : oC.op = .call cl) (calC : cl.callee = .value (.func f)) (argC : cl.args = #[.tmp tv, .tmp tw]) (dC : oC.dst = some td)
      (ht : Yrs T t = true) (hp : lk σ.s tp = some (.eptr id (c.m + 1) i c.m)) (hk : lk σ.s tk = some (.sv (.int .i64 k))) (hid : lk σ.o id = some (some (.deep c l1))) (hx : l1[i]? = some x)
      (hl2 : l2 = l1.set i x') (hx' : c.enc x' = c.enc x) (hs' : c.sub x' = s') (hf : Fn P f) (hA : AC P f [.own 0, .sv (.int .i64 k)] [(0, .ints .i64 (c.sub x))] (.sv (.int .i64 k')) [(0, .ints .i64 s')])
      (hn : (Nat.blt tv n && Nat.blt tw n && Nat.blt td n && !Nat.beq tk tv && !Nat.beq tw tv) = true)
      (hK : K ⟨(td, .sv (.int .i64 k')) :: (tw, .sv (.int .i64 k)) :: (tv, .any) :: σ.s, (id, some (.deep c l2)) :: σ.o⟩) : Ymh P T n oL oM oC σ K
theorem Xz0 {a : Act} {d t : Nat} {v : Value} (h : d ≠ t) : (a.put (some d) v).eval (.tmp t) = a.eval (.tmp t) := by
  show ((a.put (some d) v).tmps.getD t undef) = a.tmps.getD t undef
  rw [Act.put_tmps, Array.getD_eq_getD_getElem?, Array.getElem?_setIfInBounds_ne h, ← Array.getD_eq_getD_getElem?]
theorem Xsu {a : Act} {d : Nat} {v : Value} (h : d < a.tmps.size) : (a.put (some d) v).eval (.tmp d) = v := by
  show ((a.put (some d) v).tmps.getD d undef) = v
  rw [Act.put_tmps, Array.getD_eq_getD_getElem?, Array.getElem?_setIfInBounds_self_of_lt h]; rfl
theorem Yqg (hT : TOk P T) (hC : Xgf C n objs) {rid : Nat} (l1 l2 : List Oper) {oL oM oC : Oper} {Q : Exit → St → Prop}
    (h1 : Vc P C (l1 ++ oL :: oM :: oC :: l2).toArray l1 [] σ (fun _ σ1 => Ymh P T n oL oM oC σ1 fun σ2 => Vc P C (l1 ++ oL :: oM :: oC :: l2).toArray l2 [] σ2 fun _ σ' => Q .normal σ')) : AWp P C (.region rid (l1 ++ oL :: oM :: oC :: l2).toArray false) σ Q := by
  intro a w hR
  refine wp_region_lit (Yj6 h1 (fun _ σ1 a w hM hR => ?_) a w hR)
  obtain ⟨μ, A, h⟩ := hR
  cases hM with
  | mk gL pL dL gM pM dM gC pC calC argC dC ht hp hk hid hx hl2 hx' hs' hf hA hn hK =>
    rename_i t tp tv tk tw td id i f c li lj x x' k k' s' cl
    simp only [Bool.and_eq_true, Bool.not_eq_true'] at hn
    obtain ⟨⟨⟨⟨b1, b2⟩, b3⟩, b4⟩, b5⟩ := hn
    have htv : tv < C.n := by rw [hC.n]; exact Xom b1
    have htw : tw < C.n := by rw [hC.n]; exact Xom b2
    have htd : td < C.n := by rw [hC.n]; exact Xom b3
    have hkv : tv ≠ tk := fun e => by rw [e, Nat.beq_refl] at b4; cases b4
    have hwv : tw ≠ tv := fun e => by rw [e, Nat.beq_refl] at b5; cases b5
    have hoi : σ1.obj id = some (.deep c li) := by unfold St.obj; rw [hid]; rfl
    have hpt := h.slots tp _ hp
    have hkt := Xbt (h.slots tk _ hk)
    generalize hpe : a.tmps.getD tp undef = u0 at hpt
    cases hpt with
    | eptr _ _ _ _ g o' n' cap hm =>
    obtain ⟨rows, R, D, n1, O⟩ := Xm4 (h.objs id _ hoi)
    obtain ⟨r, hr⟩ : ∃ r, rows[i]? = some r := ⟨_, List.getElem?_eq_getElem (by rw [D.len]; exact (List.getElem?_eq_some_iff.1 hx).1)⟩
    obtain ⟨g2, o2, cap2, hv, hcl⟩ := Yg9 (l := li) R hr
    rw [hm] at hv
    injection hv with e1 e2 e3
    injection e1 with e1
    injection e1 with e1 e4
    subst e1; subst e4
    generalize r.getD c.m undef = u at hcl
    obtain ⟨ti, hti, hag⟩ : ∃ ti, T t = some ti ∧ ti.isAgg = false := by
      unfold Yrs at ht
      split at ht
      · exact ⟨_, by assumption, rfl⟩
      · cases ht
    have hload : (execOp a.eval oL).run P w = .ok (.value u) w := by
      have hpa : a.eval (.tmp tp) = .pointer (some ⟨g, o' + (i * (c.m + 1) + c.m), none⟩) := hpe
      have ha := Xv0 (P := P) hT hti w
      rw [hag] at ha
      have hl : (loadVar t ⟨g, o' + (i * (c.m + 1) + c.m), none⟩).run P w = .ok u w := by
        simp only [loadVar, Sem.run_bind, ha, Result.andThen_ok, Bool.false_eq_true, if_false, run_load, hcl]
      simp [execOp, pL, hpa, Instr.loadAt, Instr.sureAddr, hl]
    refine Yle gL hload ?_
    have hR1 := h.skip (d := some tv) u (fun t e => by cases e; exact htv)
    rw [dL]
    have hmove : (execOp (a.put (some tv) u).eval oM).run P w = .ok (.value (.int .i64 k)) w := by
      have : (a.put (some tv) u).eval (.tmp tk) = .int .i64 k := by rw [Xz0 hkv]; exact hkt
      simp [execOp, pM, this]
    refine Yle gM hmove ?_
    rw [dM]
    have hR2 := hR1.put (d := some tw) (.sv (.int .i64 k)) (fun t e => by cases e; exact htw)
    unfold wpList
    rw [if_pos (by simp [Region.wanted, gC])]
    refine .inl ?_
    unfold Oper.wp
    rw [Yet (ty := oC.type) (cap := #[]) pC calC hf rfl, Oper.upon_enter]
    have hc1 : ((a.put (some tv) u).put (some tw) (.int .i64 k)).eval (.tmp tv) = u := by rw [Xz0 hwv, Xsu (by rw [h.tmps]; exact htv)]
    have hc2 : ((a.put (some tv) u).put (some tw) (.int .i64 k)).eval (.tmp tw) = .int .i64 k := Xsu (by rw [hR1.tmps]; exact htw)
    rw [argC, show (#[Operand.tmp tv, Operand.tmp tw].map ((a.put (some tv) u).put (some tw) (.int .i64 k)).eval ++ #[]) = #[u, .int .i64 k] by simp [hc1, hc2]]
    refine Ynh hR2 (id := id) (i := i) (l1 := li) (l2 := lj) (dst := oC.dst) ?_ hx hl2 hA hx' hs' hm hcl (fun d e => by rw [dC] at e; cases e; exact htd) fun w' hR' => ?_
    · rw [St.obj_put, St.obj_put]; exact hoi
    · rw [dC] at hR' ⊢
      exact Xzl hK (fun _ σ' a' w' hq hr => ⟨σ', hq, hr⟩) _ _ hR'
end
end Go.Proofs.YthpkcbplfbokcaaGreatAL
