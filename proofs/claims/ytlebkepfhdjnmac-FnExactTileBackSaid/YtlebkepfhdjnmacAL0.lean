/- An abstract logic for Go functions, part 0: what a state of symbolic values and objects says of a world, and what each operation does to it. Conditions: as each statement tells. -/
import Derived.Calls
import Derived.ChangeKeysEq
import Derived.Laws.AppendOwn
import Derived.Laws.BytesArg
import Derived.Laws.BytesString
import Derived.Laws.CopyRow
import Derived.Laws.Entries
import Derived.Laws.MakeOwn
import Derived.Laws.Rows
import Derived.Laws.Slices
import Derived.Laws.Small
import Derived.Lib.ConvBytes
import Derived.Orders
import Derived.RowKit
set_option linter.unusedSimpArgs false
/- An abstract logic for Go functions: values, objects, what they stand for in a world. Conditions: as each statement tells. -/
namespace Go.Proofs.YtlebkepfhdjnmacAL
inductive SV : Type 1 where
  | int (k : IntKind) (n : Int)
  | bool (b : Bool)
  | str (s : ByteArray)
  | nil
  | ints (k : IntKind) (l : List Int)
  | sl (α : Type) (d : α) (sz : Nat) (enc : α → List SV) (l : List α)
def SV.elems : SV → Option (Nat × List (List SV))
  | .ints k l => some (1, l.map fun n => [.int k n])
  | .sl _ _ sz enc l => some (sz, l.map enc)
  | _ => none
inductive AV : Type 1 where
  | any
  | sv (x : SV)
  | own (id : Nat)
  | sub (id sz off len : Nat)
  | ptr (id off : Nat)
  | eptr (id sz i off : Nat)
  | iptr (cells : List SV) (off : Nat)
  | agg (cs : List AV)
  | tup (vs : List AV)
  | fn (f : Nat) (cap : List AV)
structure Xmx : Type 1 where
  α : Type
  d : α
  sz : Nat
  enc : α → List SV
  dec : List SV → Option α
inductive Obj : Type 1 where
  | box (cells : List AV)
  | ints (k : IntKind) (l : List Int)
  | row (c : Xmx) (l : List c.α)
def Obj.elems : Obj → Option (Nat × List (List SV))
  | .ints k l => some (1, l.map fun n => [.int k n])
  | .row c l => some (c.sz, l.map c.enc)
  | .box _ => none
def Obj.toSV : Obj → SV
  | .ints k l => .ints k l
  | .row c l => .sl c.α c.d c.sz c.enc l
  | .box _ => .nil
structure St : Type 1 where
  s : List (Nat × AV)
  o : List (Nat × Option Obj)
def lk {β : Type 1} : List (Nat × β) → Nat → Option β
  | [], _ => none
  | (k, v) :: l, t => bif Nat.beq k t then some v else lk l t
def St.slot (σ : St) (t : Nat) : AV := (lk σ.s t).getD .any
def St.obj (σ : St) (id : Nat) : Option Obj := (lk σ.o id).getD none
theorem Xa8 {β : Type 1} (k : Nat) (v : β) (l : List (Nat × β)) (t : Nat) : lk ((k, v) :: l) t = if k = t then some v else lk l t := by
  show (bif Nat.beq k t then some v else lk l t) = _
  by_cases h : k = t
  · rw [if_pos h, h, Nat.beq_refl]; rfl
  · have hb : Nat.beq k t = false := by
      cases hb : Nat.beq k t with
      | false => rfl
      | true => exact absurd (Nat.eq_of_beq_eq_true hb) h
    rw [if_neg h, hb]; rfl
theorem Xzg {β : Type 1} (l l' : List (Nat × β)) (t : Nat) : lk (l ++ l') t = match lk l t with | some v => some v | none => lk l' t := by
  induction l with
  | nil => rfl
  | cons p l ih =>
    obtain ⟨k, v⟩ := p
    rw [List.cons_append, Xa8, Xa8, ih]
    split <;> rfl

def Xem : Value → Option Nat
  | .slice (some a) _ _ => some a.block
  | .pointer (some a) => some a.block
  | _ => none

inductive Xek (w : World) (A : Nat → Prop) : SV → Value → Prop
  | int (k : IntKind) (n : Int) : Xek w A (.int k n) (.int k n)
  | bool (b : Bool) : Xek w A (.bool b) (.bool b)
  | str (s : ByteArray) : Xek w A (.str s) (.string s)
  | nil : Xek w A .nil (.slice none 0 0)
  | sl (x : SV) (sz : Nat) (xs : List (List SV)) (ad : Option Addr) (cap : Nat) (c : Nat → Nat → Value) (hx : x.elems = some (sz, xs))
      (hlen : ∀ x ∈ xs, x.length = sz)
      (hrep : ∀ i j x y, xs[i]? = some x → x[j]? = some y → Xek w A y (c i j))
      (hmem : ∀ i j, i < xs.length → j < sz → ∃ g o, ad = some ⟨g, o, none⟩ ∧ A g ∧ w.cell? ⟨g, o + (i * sz + j), none⟩ = some (c i j))
      (had : xs ≠ [] → ∃ g o, ad = some ⟨g, o, none⟩)
      (hcap : xs.length ≤ cap) : Xek w A x (.slice ad xs.length cap)

theorem Xr8 {w w' : World} {g o : Nat} (h : w'.heap[g]? = w.heap[g]?) : w'.cell? ⟨g, o, none⟩ = w.cell? ⟨g, o, none⟩ := World.cell?_of_block (w := w) (a := ⟨g, o, none⟩) h

theorem Xek.frame {w w' : World} {A A' : Nat → Prop} {x : SV} {v : Value} (h : Xek w A x v) (hA : ∀ g, A g → A' g) (hw : ∀ g, A g → w'.heap[g]? = w.heap[g]?) : Xek w' A' x v := by
  induction h with
  | int k n => exact .int k n
  | bool b => exact .bool b
  | str s => exact .str s
  | nil => exact .nil
  | sl x sz xs ad cap c hx hlen _ hmem had hcap ih =>
    refine .sl x sz xs ad cap c hx hlen ih (fun i j hi hj => ?_) had hcap
    obtain ⟨g, o, e, ha, hc⟩ := hmem i j hi hj
    exact ⟨g, o, e, hA g ha, by rw [Xr8 (hw g ha)]; exact hc⟩
theorem Xek.one {w : World} {A : Nat → Prop} {x : SV} {v : Value} (h : Xek w A x v) : v.oneCell' = true := by cases h <;> rfl

inductive Rep (w : World) (A : Nat → Prop) (μ : Nat → Value) : AV → Value → Prop
  | any (v : Value) : Rep w A μ .any v
  | sv {x : SV} {v : Value} (h : Xek w A x v) : Rep w A μ (.sv x) v
  | own (id : Nat) : Rep w A μ (.own id) (μ id)
  | sub (id sz off len : Nat) (ad0 ad : Option Addr) (n cap cap' : Nat) (hm : μ id = .slice ad0 n cap) (hc : len ≤ cap') (hc' : off + cap' ≤ cap)
      (ha : 0 < cap' → ∃ g o, ad0 = some ⟨g, o, none⟩ ∧ ad = some ⟨g, o + off * sz, none⟩) (hz : cap' = 0 → ad = ad0) : Rep w A μ (.sub id sz off len) (.slice ad len cap')
  | ptr (id off g : Nat) (hm : μ id = .pointer (some ⟨g, 0, none⟩)) : Rep w A μ (.ptr id off) (.pointer (some ⟨g, off, none⟩))
  | eptr (id sz i off g o n cap : Nat) (hm : μ id = .slice (some ⟨g, o, none⟩) n cap) : Rep w A μ (.eptr id sz i off) (.pointer (some ⟨g, o + (i * sz + off), none⟩))
  | iptr (cells : List SV) (off g o : Nat) (hA : A g) (hc : ∀ j y, cells[j]? = some y → ∃ u, w.cell? ⟨g, o + j, none⟩ = some u ∧ Xek w A y u) :
      Rep w A μ (.iptr cells off) (.pointer (some ⟨g, o + off, none⟩))
  | agg (cs : List AV) (vs : Array Value) (hl : vs.size = cs.length) (h : ∀ (j : Nat) (y : AV) (u : Value), cs[j]? = some y → vs[j]? = some u → Rep w A μ y u) : Rep w A μ (.agg cs) (.agg vs)
  | tup (cs : List AV) (vs : Array Value) (hl : vs.size = cs.length) (h : ∀ (j : Nat) (y : AV) (u : Value), cs[j]? = some y → vs[j]? = some u → Rep w A μ y u) : Rep w A μ (.tup cs) (.tuple vs)
  | fn (f : Nat) (cs : List AV) (vs : Array Value) (hl : vs.size = cs.length) (h : ∀ (j : Nat) (y : AV) (u : Value), cs[j]? = some y → vs[j]? = some u → Rep w A μ y u) : Rep w A μ (.fn f cs) (.func (.func f) #[] vs)

mutual
def AV.has (i : Nat) : AV → Bool
  | .own k | .sub k _ _ _ | .ptr k _ | .eptr k _ _ _ => Nat.beq k i
  | .agg cs | .tup cs | .fn _ cs => AV.hasL i cs
  | _ => false
def AV.hasL (i : Nat) : List AV → Bool
  | [] => false
  | x :: l => AV.has i x || AV.hasL i l
end
theorem AV.hasL_false {i : Nat} : ∀ {l : List AV}, AV.hasL i l = false → ∀ x ∈ l, AV.has i x = false
  | [], _, x, hx => by simp at hx
  | y :: l, h, x, hx => by
    rw [AV.hasL, Bool.or_eq_false_iff] at h
    rcases List.mem_cons.1 hx with rfl | hx
    · exact h.1
    · exact AV.hasL_false h.2 x hx

theorem Rep.frame {w w' : World} {A A' : Nat → Prop} {μ μ' : Nat → Value} {x : AV} {v : Value} (h : Rep w A μ x v) (hA : ∀ g, A g → A' g) (hw : ∀ g, A g → w'.heap[g]? = w.heap[g]?)
    (hm : ∀ i, x.has i = true → μ' i = μ i) : Rep w' A' μ' x v := by
  induction h with
  | any v => exact .any v
  | sv h => exact .sv (h.frame hA hw)
  | own id => rw [← hm id (by simp [AV.has])]; exact .own id
  | sub id sz off len ad0 ad n cap cap' h1 h2 h3 h4 h5 => exact .sub id sz off len ad0 ad n cap cap' ((hm id (by simp [AV.has])).trans h1) h2 h3 h4 h5
  | ptr id off g h1 => exact .ptr id off g ((hm id (by simp [AV.has])).trans h1)
  | eptr id sz i off g o n cap h1 => exact .eptr id sz i off g o n cap ((hm id (by simp [AV.has])).trans h1)
  | iptr cells off g o h1 h2 =>
    refine .iptr cells off g o (hA g h1) fun j y hj => ?_
    obtain ⟨u, hu, hr⟩ := h2 j y hj
    exact ⟨u, by rw [Xr8 (hw g h1)]; exact hu, hr.frame hA hw⟩
  | agg cs vs hl h ih =>
    refine .agg cs vs hl fun j y u hy hu => ih j y u hy hu fun i hi => hm i ?_
    by_cases hf : AV.hasL i cs = true
    · simpa [AV.has] using hf
    · have := AV.hasL_false (by simpa using hf) y (List.mem_of_getElem? hy); rw [this] at hi; cases hi
  | tup cs vs hl h ih =>
    refine .tup cs vs hl fun j y u hy hu => ih j y u hy hu fun i hi => hm i ?_
    by_cases hf : AV.hasL i cs = true
    · simpa [AV.has] using hf
    · have := AV.hasL_false (by simpa using hf) y (List.mem_of_getElem? hy); rw [this] at hi; cases hi
  | fn f cs vs hl h ih =>
    refine .fn f cs vs hl fun j y u hy hu => ih j y u hy hu fun i hi => hm i ?_
    by_cases hf : AV.hasL i cs = true
    · simpa [AV.has] using hf
    · have := AV.hasL_false (by simpa using hf) y (List.mem_of_getElem? hy); rw [this] at hi; cases hi

def NF (cs : Array Value) (fr : Nat × Nat) : Prop := ∀ k, k < cs.size → ¬ (fr.1 ≤ k ∧ k < fr.2)

def Xmx.ok (c : Xmx) : Prop := (∀ x, (c.enc x).length = c.sz) ∧ 0 < c.sz ∧
  ∀ (cs : List SV) x, c.dec cs = some x → cs.length = c.sz ∧ ∀ (j : Nat) (y : SV), (c.enc x)[j]? = some y → ∃ y', cs[j]? = some y' ∧ ∀ w A v, Xek w A y' v → Xek w A y v
def Obj.wf : Obj → Prop
  | .row c _ => c.ok
  | _ => True
inductive Xg8 (w : World) (A : Nat → Prop) (μ : Nat → Value) : Obj → Value → Prop
  | box (cells : List AV) (g : Nat) (cs : Array Value) (E : TypeId) (fr : Nat × Nat) (hg : w.heap[g]? = some (.cells cs E fr)) (hf : NF cs fr) (hl : cs.size = cells.length)
      (h : ∀ (j : Nat) (y : AV) (u : Value), cells[j]? = some y → cs[j]? = some u → Rep w A μ y u ∧ u.oneCell' = true) : Xg8 w A μ (.box cells) (.pointer (some ⟨g, 0, none⟩))
  | none (ob : Obj) (sz : Nat) (hx : ob.elems = some (sz, [])) (hwf : ob.wf) : Xg8 w A μ ob (.slice none 0 0)
  | row (ob : Obj) (sz : Nat) (xs : List (List SV)) (hx : ob.elems = some (sz, xs)) (hwf : ob.wf) (g o cap : Nat) (cs : Array Value) (E : TypeId) (fr : Nat × Nat) (hg : w.heap[g]? = some (.cells cs E fr)) (hf : NF cs fr)
      (hc : xs.length ≤ cap) (hm : cap ≤ maxLen) (hs : o + cap * sz ≤ cs.size) (hlen : ∀ x ∈ xs, x.length = sz)
      (h : ∀ (i j : Nat) (x : List SV) (y : SV), xs[i]? = some x → x[j]? = some y → ∃ u, cs[o + (i * sz + j)]? = some u ∧ Xek w A y u) :
      Xg8 w A μ ob (.slice (some ⟨g, o, none⟩) xs.length cap)

def Obj.has (i : Nat) : Obj → Bool
  | .box cs => AV.hasL i cs
  | _ => false

theorem Xg8.lt {w : World} {A : Nat → Prop} {μ : Nat → Value} {ob : Obj} {v : Value} (h : Xg8 w A μ ob v) {g : Nat} (hb : Xem v = some g) : g < w.heap.size := by
  cases h with
  | box cells g' cs E fr hg hf hl h => simp [Xem] at hb; subst hb; exact (Array.getElem?_eq_some_iff.1 hg).1
  | none ob sz hx hwf => simp [Xem] at hb
  | row ob sz xs hx hwf g' o cap cs E fr hg _ _ _ _ _ _ => simp [Xem] at hb; subst hb; exact (Array.getElem?_eq_some_iff.1 hg).1

theorem Xg8.frame {w w' : World} {A A' : Nat → Prop} {μ μ' : Nat → Value} {ob : Obj} {v : Value} (h : Xg8 w A μ ob v) (hA : ∀ g, A g → A' g) (hw : ∀ g, A g → w'.heap[g]? = w.heap[g]?)
    (hb : ∀ g, Xem v = some g → w'.heap[g]? = w.heap[g]?) (hm : ∀ i, ob.has i = true → μ' i = μ i) : Xg8 w' A' μ' ob v := by
  cases h with
  | box cells g cs E fr hg hf hl h =>
    refine .box cells g cs E fr ((hb g rfl).trans hg) hf hl fun j y u hy hu => ?_
    refine ⟨(h j y u hy hu).1.frame hA hw fun i hi => hm i ?_, (h j y u hy hu).2⟩
    by_cases hf : AV.hasL i cells = true
    · simpa [Obj.has] using hf
    · have := AV.hasL_false (by simpa using hf) y (List.mem_of_getElem? hy); rw [this] at hi; cases hi
  | none ob sz hx hwf => exact .none ob sz hx hwf
  | row ob sz xs hx hwf g o cap cs E fr hg hf hc hm' hs hlen h =>
    refine .row ob sz xs hx hwf g o cap cs E fr ((hb g rfl).trans hg) hf hc hm' hs hlen fun i j x y hx hy => ?_
    obtain ⟨u, hu, hr⟩ := h i j x y hx hy
    exact ⟨u, hu, hr.frame hA hw⟩

theorem Xg8.wf {w : World} {A : Nat → Prop} {μ : Nat → Value} {ob : Obj} {v : Value} (h : Xg8 w A μ ob v) : ob.wf := by
  cases h with
  | box => trivial
  | none _ _ _ hwf => exact hwf
  | row _ _ _ _ hwf => exact hwf
theorem Xg8.one {w : World} {A : Nat → Prop} {μ : Nat → Value} {ob : Obj} {v : Value} (h : Xg8 w A μ ob v) : v.oneCell' = true := by cases h <;> rfl
structure Fr (F : Nat → Prop) (w w' : World) : Prop where
  os : w'.os = w.os
  tape : w'.tape = w.tape
  output : w'.output = w.output
  size : w.heap.size ≤ w'.heap.size
  block : ∀ g, F g → w'.heap[g]? = w.heap[g]?
theorem Fr.refl (F : Nat → Prop) (w : World) : Fr F w w := ⟨rfl, rfl, rfl, Nat.le_refl _, fun _ _ => rfl⟩
theorem Fr.trans {F : Nat → Prop} {a b c : World} (h : Fr F a b) (k : Fr F b c) : Fr F a c :=
  ⟨k.os.trans h.os, k.tape.trans h.tape, k.output.trans h.output, Nat.le_trans h.size k.size, fun g hg => (k.block g hg).trans (h.block g hg)⟩
theorem Fr.mono {F F' : Nat → Prop} {a b : World} (h : Fr F a b) (hF : ∀ g, F' g → F g) : Fr F' a b := ⟨h.os, h.tape, h.output, h.size, fun g hg => h.block g (hF g hg)⟩

structure Ctx where
  w0 : World
  F : Nat → Prop
  A0 : Nat → Prop
  n : Nat
  pin : Nat → Option Value
structure Ctx.ok (C : Ctx) : Prop where
  lt : ∀ g, C.F g → g < C.w0.heap.size
  af : ∀ g, C.A0 g → C.F g

structure Xbv (C : Ctx) (μ : Nat → Value) (A : Nat → Prop) (σ : St) (a : Act) (w : World) : Prop where
  cok : C.ok
  tmps : a.tmps.size = C.n
  defers : a.defers = []
  slots : ∀ t v, lk σ.s t = some v → Rep w A μ v (a.tmps.getD t undef)
  objs : ∀ id ob, σ.obj id = some ob → Xg8 w A μ ob (μ id)
  sep : ∀ i j oi oj g, i ≠ j → σ.obj i = some oi → σ.obj j = some oj → Xem (μ i) = some g → Xem (μ j) ≠ some g
  own : ∀ id ob g, σ.obj id = some ob → Xem (μ id) = some g → ¬ C.F g ∧ ¬ A g
  stab : ∀ g, A g → g < w.heap.size ∧ (C.A0 g ∨ ¬ C.F g)
  base : ∀ g, C.A0 g → A g
  frame : Fr C.F C.w0 w
  pins : ∀ id v ob, C.pin id = some v → σ.obj id = some ob → μ id = v
  mu1 : ∀ id, (μ id).oneCell' = true
def Rel (C : Ctx) (σ : St) (a : Act) (w : World) : Prop := ∃ μ A, Xbv C μ A σ a w

theorem Xbv.slot {C : Ctx} {μ : Nat → Value} {A : Nat → Prop} {σ : St} {a : Act} {w : World} (h : Xbv C μ A σ a w) (t : Nat) : Rep w A μ (σ.slot t) (a.tmps.getD t undef) := by
  unfold St.slot
  cases e : lk σ.s t with
  | none => exact .any _
  | some v => exact h.slots t v e

/-! ### How a state goes on -/
section
variable {C : Ctx} {μ : Nat → Value} {A : Nat → Prop} {σ : St} {a : Act} {w : World}

def St.put (σ : St) (d : Option Nat) (v : AV) : St := match d with | some t => { σ with s := (t, v) :: σ.s } | none => σ
def St.setO (σ : St) (id : Nat) (ob : Option Obj) : St := { σ with o := (id, ob) :: σ.o }
theorem St.obj_setO (σ : St) (id : Nat) (ob : Option Obj) (k : Nat) : (σ.setO id ob).obj k = if id = k then ob else σ.obj k := by
  unfold St.obj St.setO
  rw [Xa8]
  split <;> rfl
theorem Act.put_tmps (a : Act) (d : Nat) (v : Value) : (a.put (some d) v).tmps = a.tmps.setIfInBounds d v := rfl

theorem Xbv.put (h : Xbv C μ A σ a w) {d : Option Nat} {x : AV} {v : Value} (hr : Rep w A μ x v) (hd : ∀ t, d = some t → t < C.n) : Xbv C μ A (σ.put d x) (a.put d v) w := by
  cases d with
  | none => exact h
  | some t =>
    refine { h with tmps := ?_, defers := h.defers, slots := ?_, objs := h.objs, sep := h.sep, own := h.own, pins := h.pins }
    · rw [Act.put_tmps, Array.size_setIfInBounds]; exact h.tmps
    · intro k y hk
      have hk' : lk ((t, x) :: σ.s) k = some y := hk
      rw [Xa8] at hk'
      rw [Act.put_tmps]
      by_cases e : t = k
      · subst e
        rw [if_pos rfl] at hk'
        cases hk'
        have : t < a.tmps.size := by rw [h.tmps]; exact hd t rfl
        rw [Array.getD_eq_getD_getElem?, Array.getElem?_setIfInBounds_self_of_lt this]
        exact hr
      · rw [if_neg e] at hk'
        rw [Array.getD_eq_getD_getElem?, Array.getElem?_setIfInBounds_ne e, ← Array.getD_eq_getD_getElem?]
        exact h.slots k y hk'

theorem Xbv.weaken (h : Xbv C μ A σ a w) {σ' : St} (hs : ∀ t v, lk σ'.s t = some v → lk σ.s t = some v ∨ v = .any) (ho : ∀ id ob, σ'.obj id = some ob → σ.obj id = some ob) : Xbv C μ A σ' a w :=
  { h with
    slots := fun t v hv => by
      rcases hs t v hv with h1 | rfl
      · exact h.slots t v h1
      · exact .any _
    objs := fun id ob hb => h.objs id ob (ho id ob hb)
    sep := fun i j oi oj g hij hi hj => h.sep i j oi oj g hij (ho i oi hi) (ho j oj hj)
    own := fun id ob g hb => h.own id ob g (ho id ob hb)
    pins := fun id v ob hv hb => h.pins id v ob hv (ho id ob hb) }

theorem Xbv.skip (h : Xbv C μ A σ a w) {d : Option Nat} (v : Value) (hd : ∀ t, d = some t → t < C.n) : Xbv C μ A (σ.put d .any) (a.put d v) w := h.put (.any v) hd

def St.fresh (σ : St) (id : Nat) : Prop := (∀ t v, lk σ.s t = some v → v.has id = false) ∧ (∀ k ob, σ.obj k = some ob → ob.has id = false)

theorem Xbv.world (h : Xbv C μ A σ a w) {w' : World} (hf : Fr (fun g => g < w.heap.size) w w') : Xbv C μ A σ a w' :=
  { h with
    slots := fun t v hv => (h.slots t v hv).frame (fun _ h => h) (fun g hg => hf.block g (h.stab g hg).1) (fun _ _ => rfl)
    objs := fun id ob hb => (h.objs id ob hb).frame (fun _ h => h) (fun g hg => hf.block g (h.stab g hg).1) (fun g hg => hf.block g ((h.objs id ob hb).lt hg)) (fun _ _ => rfl)
    stab := fun g hg => ⟨Nat.lt_of_lt_of_le (h.stab g hg).1 hf.size, (h.stab g hg).2⟩
    frame := h.frame.trans (hf.mono fun g hg => Nat.lt_of_lt_of_le (h.cok.lt g hg) h.frame.size) }

def upd (μ : Nat → Value) (id : Nat) (v : Value) : Nat → Value := fun k => if k = id then v else μ k
theorem Xe3 (μ : Nat → Value) (id : Nat) (v : Value) : upd μ id v id = v := if_pos rfl
theorem Xuo (μ : Nat → Value) {id k : Nat} (v : Value) (h : k ≠ id) : upd μ id v k = μ k := if_neg h

theorem Xbv.new (h : Xbv C μ A σ a w) {w' : World} (hf : Fr (fun g => g < w.heap.size) w w') {id : Nat} {ob : Obj} {v : Value} (hfr : σ.fresh id) (hpin : C.pin id = none)
    (hv : ∀ g, Xem v = some g → w.heap.size ≤ g) (ho : Xg8 w' A (upd μ id v) ob v) : Xbv C (upd μ id v) A (σ.setO id (some ob)) a w' := by
  have h' := h.world hf
  have hmu : ∀ k, k ≠ id → upd μ id v k = μ k := fun k hk => Xuo μ v hk
  refine { h' with slots := ?_, objs := ?_, sep := ?_, own := ?_, pins := ?_, mu1 := fun k => by unfold upd; split; exact ho.one; exact h.mu1 k }
  · intro t x hx
    refine (h'.slots t x hx).frame (fun _ h => h) (fun _ _ => rfl) fun i hi => hmu i fun e => ?_
    subst e
    rw [hfr.1 t x hx] at hi; cases hi
  · intro k o hk
    rw [St.obj_setO] at hk
    by_cases e : id = k
    · subst e
      rw [if_pos rfl] at hk; cases hk
      rw [Xe3]; exact ho
    · rw [if_neg e] at hk
      rw [hmu k (fun h => e h.symm)]
      refine (h'.objs k o hk).frame (fun _ h => h) (fun _ _ => rfl) (fun _ _ => rfl) fun i hi => hmu i fun e' => ?_
      subst e'
      rw [hfr.2 k o hk] at hi; cases hi
  · intro i j oi oj g hij hi hj hgi hgj
    rw [St.obj_setO] at hi hj
    by_cases ei : id = i
    · subst ei
      rw [if_neg hij] at hj
      rw [Xe3] at hgi
      rw [hmu j (fun e => hij e.symm)] at hgj
      have h1 := hv g hgi
      have h2 := (h.objs j oj hj).lt hgj
      omega
    · rw [if_neg ei] at hi
      rw [hmu i (fun e => ei e.symm)] at hgi
      by_cases ej : id = j
      · subst ej
        rw [Xe3] at hgj
        have h1 := hv g hgj
        have h2 := (h.objs i oi hi).lt hgi
        omega
      · rw [if_neg ej] at hj
        rw [hmu j (fun e => ej e.symm)] at hgj
        exact h.sep i j oi oj g hij hi hj hgi hgj
  · intro k o g hk hg
    rw [St.obj_setO] at hk
    by_cases e : id = k
    · subst e
      rw [Xe3] at hg
      have h1 := hv g hg
      refine ⟨fun hF => ?_, fun hA => ?_⟩
      · have := h.cok.lt g hF; have := h.frame.size; omega
      · have := (h.stab g hA).1; omega
    · rw [if_neg e] at hk
      rw [hmu k (fun h => e h.symm)] at hg
      exact h.own k o g hk hg
  · intro k u o hk hko
    rw [St.obj_setO] at hko
    by_cases e : id = k
    · subst e; rw [hpin] at hk; cases hk
    · rw [if_neg e] at hko
      rw [hmu k (fun h => e h.symm)]
      exact h.pins k u o hk hko

theorem Xbv.write (h : Xbv C μ A σ a w) {w' : World} {id g0 : Nat} {ob ob' : Obj} (hid : σ.obj id = some ob) (hg0 : Xem (μ id) = some g0) (hf : Fr (fun g => g < w.heap.size ∧ g ≠ g0) w w')
    (ho : Xg8 w' A μ ob' (μ id)) : Xbv C μ A (σ.setO id (some ob')) a w' := by
  have hA : ∀ g, A g → w'.heap[g]? = w.heap[g]? := fun g hg => hf.block g ⟨(h.stab g hg).1, fun e => (h.own id ob g0 hid hg0).2 (e ▸ hg)⟩
  refine { h with slots := ?_, objs := ?_, sep := ?_, own := ?_, pins := ?_, stab := ?_, frame := ?_ }
  · exact fun t x hx => (h.slots t x hx).frame (fun _ h => h) hA (fun _ _ => rfl)
  · intro k o hk
    rw [St.obj_setO] at hk
    by_cases e : id = k
    · subst e; rw [if_pos rfl] at hk; cases hk; exact ho
    · rw [if_neg e] at hk
      refine (h.objs k o hk).frame (fun _ h => h) hA (fun g hg => hf.block g ⟨(h.objs k o hk).lt hg, fun e' => ?_⟩) (fun _ _ => rfl)
      subst e'
      exact h.sep id k ob o g e hid hk hg0 hg
  · intro i j oi oj g hij hi hj
    rw [St.obj_setO] at hi hj
    by_cases ei : id = i
    · subst ei
      rw [if_neg hij] at hj
      exact h.sep id j ob oj g hij hid hj
    · rw [if_neg ei] at hi
      by_cases ej : id = j
      · subst ej; exact h.sep i id oi ob g hij hi hid
      · rw [if_neg ej] at hj; exact h.sep i j oi oj g hij hi hj
  · intro k o g hk hg
    rw [St.obj_setO] at hk
    by_cases e : id = k
    · subst e; exact h.own id ob g hid hg
    · rw [if_neg e] at hk; exact h.own k o g hk hg
  · exact fun g hg => ⟨Nat.lt_of_lt_of_le (h.stab g hg).1 hf.size, (h.stab g hg).2⟩
  · exact h.frame.trans (hf.mono fun g hg => ⟨Nat.lt_of_lt_of_le (h.cok.lt g hg) h.frame.size, fun e => (h.own id ob g0 hid hg0).1 (e ▸ hg)⟩)
  · intro k u o hk hko
    rw [St.obj_setO] at hko
    by_cases e : id = k
    · subst e; exact h.pins id u ob hk hid
    · rw [if_neg e] at hko; exact h.pins k u o hk hko

theorem Xbv.drop (h : Xbv C μ A σ a w) (id : Nat) : Xbv C μ A (σ.setO id none) a w :=
  h.weaken (fun _ _ h => .inl h) fun k ob hk => by
    rw [St.obj_setO] at hk
    split at hk
    · cases hk
    · exact hk

theorem Xbv.free (h : Xbv C μ A σ a w) {w' : World} {id g0 : Nat} {ob : Obj} (hid : σ.obj id = some ob) (hg0 : Xem (μ id) = some g0) (hf : Fr (fun g => g < w.heap.size ∧ g ≠ g0) w w') :
    Xbv C μ A (σ.setO id none) a w' := by
  have hA : ∀ g, A g → w'.heap[g]? = w.heap[g]? := fun g hg => hf.block g ⟨(h.stab g hg).1, fun e => (h.own id ob g0 hid hg0).2 (e ▸ hg)⟩
  have hd := h.drop id
  refine { hd with slots := ?_, objs := ?_, stab := ?_, frame := ?_ }
  · exact fun t x hx => (h.slots t x hx).frame (fun _ h => h) hA (fun _ _ => rfl)
  · intro k o hk
    rw [St.obj_setO] at hk
    by_cases e : id = k
    · subst e; rw [if_pos rfl] at hk; cases hk
    · rw [if_neg e] at hk
      refine (h.objs k o hk).frame (fun _ h => h) hA (fun g hg => hf.block g ⟨(h.objs k o hk).lt hg, fun e' => ?_⟩) (fun _ _ => rfl)
      subst e'
      exact h.sep id k ob o g e hid hk hg0 hg
  · exact fun g hg => ⟨Nat.lt_of_lt_of_le (h.stab g hg).1 hf.size, (h.stab g hg).2⟩
  · exact h.frame.trans (hf.mono fun g hg => ⟨Nat.lt_of_lt_of_le (h.cok.lt g hg) h.frame.size, fun e => (h.own id ob g0 hid hg0).1 (e ▸ hg)⟩)

theorem Xbv.name (h : Xbv C μ A σ a w) {id : Nat} {ob : Obj} {v : Value} (hfr : σ.fresh id) (hpin : C.pin id = none)
    (hv : ∀ g, Xem v = some g → ¬ C.F g ∧ ¬ A g ∧ ∀ k o, σ.obj k = some o → Xem (μ k) ≠ some g) (ho : Xg8 w A (upd μ id v) ob v) : Xbv C (upd μ id v) A (σ.setO id (some ob)) a w := by
  have hmu : ∀ k, k ≠ id → upd μ id v k = μ k := fun k hk => Xuo μ v hk
  refine { h with slots := ?_, objs := ?_, sep := ?_, own := ?_, pins := ?_, mu1 := fun k => by unfold upd; split; exact ho.one; exact h.mu1 k }
  · intro t x hx
    refine (h.slots t x hx).frame (fun _ h => h) (fun _ _ => rfl) fun i hi => hmu i fun e => ?_
    subst e
    rw [hfr.1 t x hx] at hi; cases hi
  · intro k o hk
    rw [St.obj_setO] at hk
    by_cases e : id = k
    · subst e
      rw [if_pos rfl] at hk; cases hk
      rw [Xe3]; exact ho
    · rw [if_neg e] at hk
      rw [hmu k (fun h => e h.symm)]
      refine (h.objs k o hk).frame (fun _ h => h) (fun _ _ => rfl) (fun _ _ => rfl) fun i hi => hmu i fun e' => ?_
      subst e'
      rw [hfr.2 k o hk] at hi; cases hi
  · intro i j oi oj g hij hi hj hgi hgj
    rw [St.obj_setO] at hi hj
    by_cases ei : id = i
    · subst ei
      rw [if_neg hij] at hj
      rw [Xe3] at hgi
      rw [hmu j (fun e => hij e.symm)] at hgj
      exact (hv g hgi).2.2 j oj hj hgj
    · rw [if_neg ei] at hi
      rw [hmu i (fun e => ei e.symm)] at hgi
      by_cases ej : id = j
      · subst ej
        rw [Xe3] at hgj
        exact (hv g hgj).2.2 i oi hi hgi
      · rw [if_neg ej] at hj
        rw [hmu j (fun e => ej e.symm)] at hgj
        exact h.sep i j oi oj g hij hi hj hgi hgj
  · intro k o g hk hg
    rw [St.obj_setO] at hk
    by_cases e : id = k
    · subst e
      rw [Xe3] at hg
      exact ⟨(hv g hg).1, (hv g hg).2.1⟩
    · rw [if_neg e] at hk
      rw [hmu k (fun h => e h.symm)] at hg
      exact h.own k o g hk hg
  · intro k u o hk hko
    rw [St.obj_setO] at hko
    by_cases e : id = k
    · subst e; rw [hpin] at hk; cases hk
    · rw [if_neg e] at hko
      rw [hmu k (fun h => e h.symm)]
      exact h.pins k u o hk hko

theorem Xbv.back (h : Xbv C μ A σ a w) {id : Nat} {ob : Obj} (hb : ∀ g, Xem (μ id) = some g → ¬ C.F g ∧ ¬ A g ∧ ∀ k o, k ≠ id → σ.obj k = some o → Xem (μ k) ≠ some g)
    (ho : Xg8 w A μ ob (μ id)) (hp : ∀ v, C.pin id = some v → μ id = v) : Xbv C μ A (σ.setO id (some ob)) a w := by
  refine { h with objs := ?_, sep := ?_, own := ?_, pins := ?_ }
  · intro k o hk
    rw [St.obj_setO] at hk
    by_cases e : id = k
    · subst e
      rw [if_pos rfl] at hk; cases hk
      exact ho
    · rw [if_neg e] at hk
      exact h.objs k o hk
  · intro i j oi oj g hij hi hj hgi hgj
    rw [St.obj_setO] at hi hj
    by_cases ei : id = i
    · subst ei
      rw [if_neg hij] at hj
      exact (hb g hgi).2.2 j oj (fun e => hij e.symm) hj hgj
    · rw [if_neg ei] at hi
      by_cases ej : id = j
      · subst ej
        exact (hb g hgj).2.2 i oi hij hi hgi
      · rw [if_neg ej] at hj
        exact h.sep i j oi oj g hij hi hj hgi hgj
  · intro k o g hk hg
    rw [St.obj_setO] at hk
    by_cases e : id = k
    · subst e
      exact ⟨(hb g hg).1, (hb g hg).2.1⟩
    · rw [if_neg e] at hk
      exact h.own k o g hk hg
  · intro k u o hk hko
    rw [St.obj_setO] at hko
    by_cases e : id = k
    · subst e; exact hp u hk
    · rw [if_neg e] at hko
      exact h.pins k u o hk hko

theorem Obj.elems_toSV {ob : Obj} {sz : Nat} {xs : List (List SV)} (h : ob.elems = some (sz, xs)) : ob.toSV.elems = some (sz, xs) := by cases ob <;> simp_all [Obj.elems, Obj.toSV, SV.elems]
theorem Xbv.shutRow (h : Xbv C μ A σ a w) {id sz : Nat} {xs : List (List SV)} {ob : Obj} (hid : σ.obj id = some ob) (hx : ob.elems = some (sz, xs)) :
    ∃ A', Xbv C μ A' (σ.setO id none) a w ∧ (∀ g, A g → A' g) ∧ Xek w A' ob.toSV (μ id) ∧ ∀ g, A' g → A g ∨ Xem (μ id) = some g := by
  have hd := h.drop id
  have ho := h.objs id _ hid
  generalize hm : μ id = v at ho
  cases ho with
  | box cells g cs E fr hg hf hl h => cases hx
  | none ob sz' hx' hwf =>
    rw [hx] at hx'
    cases hx'
    refine ⟨A, hd, fun _ h => h, ?_, fun _ h => .inl h⟩
    exact Xek.sl _ sz [] none 0 (fun _ _ => undef) (Obj.elems_toSV hx) (by simp) (by simp) (by simp) (by simp) (by simp)
  | row ob sz' xs' hx' hwf g o cap cs E fr hg hf hc hmx hs hlen hxx =>
    rw [hx] at hx'
    cases hx'

    have hob : Xem (μ id) = some g := by rw [hm]; rfl
    have hF := (h.own id _ g hid hob).1
    refine ⟨fun k => A k ∨ k = g, ?_, fun _ h => .inl h, ?_, fun k hk => hk.imp (fun h => h) (fun e => by rw [e]; rfl)⟩
    · refine { hd with slots := ?_, objs := ?_, own := ?_, stab := ?_, base := fun k hk => .inl (h.base k hk) }
      · exact fun t x hx => (h.slots t x hx).frame (fun _ h => .inl h) (fun _ _ => rfl) (fun _ _ => rfl)
      · exact fun k o hk => (hd.objs k o hk).frame (fun _ h => .inl h) (fun _ _ => rfl) (fun _ _ => rfl) (fun _ _ => rfl)
      · intro k o g' hk hg'
        refine ⟨(hd.own k o g' hk hg').1, fun hA => ?_⟩
        rcases hA with hA | rfl
        · exact (hd.own k o g' hk hg').2 hA
        · rw [St.obj_setO] at hk
          by_cases e : id = k
          · rw [if_pos e] at hk; cases hk
          · rw [if_neg e] at hk
            exact h.sep id k _ o g' e hid hk hob hg'
      · intro k hk
        rcases hk with hk | rfl
        · exact h.stab k hk
        · exact ⟨(Array.getElem?_eq_some_iff.1 hg).1, .inr hF⟩
    · refine Xek.sl _ sz xs (some ⟨g, o, none⟩) cap (fun i j => (cs[o + (i * sz + j)]?).getD undef) (Obj.elems_toSV hx) hlen ?_ ?_ (fun _ => ⟨g, o, rfl⟩) hc
      · intro i j x y hix hjy
        obtain ⟨u, hu, hr⟩ := hxx i j x y hix hjy
        rw [hu]
        exact hr.frame (fun _ h => .inl h) (fun _ _ => rfl)
      · intro i j hi hj
        refine ⟨g, o, rfl, .inr rfl, ?_⟩
        have hix : xs[i]? = some xs[i] := List.getElem?_eq_getElem hi
        have hl : j < xs[i].length := by rw [hlen _ (List.getElem_mem hi)]; exact hj
        obtain ⟨u, hu, hr⟩ := hxx i j _ _ hix (List.getElem?_eq_getElem hl)
        rw [cell_of_row w g _ cs E fr hg, hu]; rfl
end
end Go.Proofs.YtlebkepfhdjnmacAL
/- An abstract logic for Go functions: what an operation comes to. Conditions: as each statement tells. -/
namespace Go.Proofs.YtlebkepfhdjnmacAL
open Go.RowKit
inductive Key | s (t : Nat) | o (id : Nat)
inductive RM (α : Type 1) : Type 1
  | ret (a : α)
  | fail
  | slot (t : Nat) (k : AV → RM α)
  | obj (id : Nat) (k : Option Obj → RM α)
def RM.run {α : Type 1} (σ : St) : RM α → List Key → Option (α × List Key)
  | .ret a, ks => some (a, ks)
  | .fail, _ => none
  | .slot t k, ks => (k (σ.slot t)).run σ (.s t :: ks)
  | .obj id k, ks => (k (σ.obj id)).run σ (.o id :: ks)
structure Eff : Type 1 where
  slots : List (Nat × AV)
  objs : List (Nat × Option Obj)
  new : List Nat
  cond : Prop
def Eff.app (e : Eff) (σ : St) : St := { s := e.slots ++ σ.s, o := e.objs ++ σ.o }

inductive TK | int (k : IntKind) | bool | str | slice (e : Nat) | ptr | struct (fs : List (Nat × Nat × Nat)) | arr (n e : Nat) | fn
inductive EK : Type 1 | ints (k : IntKind) | row (c : Xmx) | none
structure TI : Type 1 where
  kind : TK
  size : Nat
  bytes : Nat
  zero : List SV
  ek : EK

def Xmp : Value → Option AV
  | .int k n => some (.sv (.int k n))
  | .bool b => some (.sv (.bool b))
  | .string s => some (.sv (.str s))
  | .slice none 0 0 => some (.sv .nil)
  | .pointer none => some .any
  | _ => none
def ev {α : Type 1} (x : Operand) (k : AV → RM α) : RM α :=
  match x with
  | .tmp t => .slot t k
  | .const v => match Xmp v with | some x => k x | none => .fail
  | .func f => k (.fn f [])
  | .global _ => .fail
def Xdb (o : Oper) (v : AV) (c : Prop) : RM Eff := match o.dst with | some d => .ret ⟨[(d, v)], [], [], c⟩ | none => .fail
def Xxw (o : Oper) (v : Nat → AV) (ob : Obj) (kill : List (Nat × Option Obj)) (c : Prop) : RM Eff :=
  match o.dst with | some d => .ret ⟨[(d, v (d * 16))], (d * 16, some ob) :: kill, [d * 16], c⟩ | none => .fail

def AV.one : AV → Bool
  | .any | .agg _ | .tup _ => false
  | _ => true
def AV.allOne : List AV → Bool
  | [] => true
  | x :: l => x.one && AV.allOne l
def AV.cells : AV → Option (List AV)
  | .agg cs => if AV.allOne cs then some cs else none
  | .any | .tup _ => none
  | x => some [x]
def inQ (id : Nat) : List (Nat × Option Obj) → Bool
  | [] => false
  | p :: l => Nat.beq p.1 id || inQ id l
def Yii {α : Type 1} (q : List (Nat × Option Obj)) (x : AV) (k : SV → List (Nat × Option Obj) → RM α) : RM α :=
  match x with
  | .sv s => k s q
  | .own id => match inQ id q with
    | true => .fail
    | false => .obj id fun
      | some (.ints kd l) => k (.ints kd l) ((id, none) :: q)
      | some (.row c l) => k (.sl c.α c.d c.sz c.enc l) ((id, none) :: q)
      | _ => .fail
  | _ => .fail
def Yd8 {α : Type 1} : List (Nat × Option Obj) → List AV → (List SV → List (Nat × Option Obj) → RM α) → RM α
  | q, [], k => k [] q
  | q, x :: l, k => Yii q x fun y q => Yd8 q l fun ys r => k (y :: ys) r

def TI.isAgg (ti : TI) : Bool := match ti.kind with | .struct _ | .arr _ _ => true | _ => false
def Xlv (ti : TI) (cells : List AV) (off : Nat) : Option AV :=
  if ti.isAgg then (if Nat.ble (off + ti.size) cells.length then some (.agg ((cells.drop off).take ti.size)) else none)
  else match cells.drop off with | y :: _ => some y | [] => none
def Xl7 {β : Type 1} (cells : List β) (off : Nat) (cs : List β) : List β := cells.take off ++ cs ++ cells.drop (off + cs.length)

def Yhg (T : Nat → Option TI) (o : Oper) (t : Nat) (a : AV) : RM Eff :=
  match T t with
  | none => .fail
  | some ti =>
    match a with
    | .ptr id off => .obj id fun
      | some (.box cells) => (match Xlv ti cells off with | some v => Xdb o v True | none => .fail)
      | _ => .fail
    | .eptr id sz i off => .obj id fun
      | some (.ints k l) => if Nat.beq sz 1 then (match Xlv ti ([SV.int k (l.getD i 0)].map .sv) off with | some v => Xdb o v (i < l.length) | none => .fail) else .fail
      | some (.row c l) => if Nat.beq sz c.sz then (match Xlv ti ((c.enc (l.getD i c.d)).map .sv) off with | some v => Xdb o v (i < l.length) | none => .fail) else .fail
      | _ => .fail
    | .iptr cells off => (match Xlv ti (cells.map .sv) off with | some v => Xdb o v True | none => .fail)
    | _ => .fail

def Yfz (T : Nat → Option TI) (t : Nat) (a v : AV) : RM Eff :=
  match T t, v.cells with
  | some ti, some cs =>
    if Nat.beq cs.length ti.size then
      match a with
      | .ptr id off => .obj id fun
        | some (.box cells) => if Nat.ble (off + cs.length) cells.length then .ret ⟨[], [(id, some (.box (Xl7 cells off cs)))], [], True⟩ else .fail
        | _ => .fail
      | .eptr id sz i off => Yd8 [(id, none)] cs fun ys q => .obj id fun
        | some (.ints k l) => if Nat.beq sz 1 then (match off, ys with | 0, [.int k' n] => if k = k' then .ret ⟨[], (id, some (.ints k (l.set i n))) :: q, [], i < l.length⟩ else .fail | _, _ => .fail) else .fail
        | some (.row c l) => if Nat.beq sz c.sz && Nat.ble (off + ys.length) (c.enc (l.getD i c.d)).length then
            (match c.dec (Xl7 (c.enc (l.getD i c.d)) off ys) with | some x => .ret ⟨[], (id, some (.row c (l.set i x))) :: q, [], i < l.length⟩ | none => .fail) else .fail
        | _ => .fail
      | _ => .fail
    else .fail
  | _, _ => .fail

def Ycs (place : Nat → Option (Nat × Nat)) : List (Nat × AV) → List AV → Option (List AV)
  | [], cells => some cells
  | (i, v) :: rest, cells =>
    match place i, v.cells with
    | some (off, size), some cs => if Nat.beq cs.length size && Nat.ble (off + size) cells.length then Ycs place rest (Xl7 cells off cs) else none
    | _, _ => none
def evs {α : Type 1} : List (Nat × Operand) → (List (Nat × AV) → RM α) → RM α
  | [], k => k []
  | (i, x) :: l, k => ev x fun v => evs l fun vs => k ((i, v) :: vs)
def Yae (fs : List (Nat × Nat × Nat)) (i : Nat) : Option (Nat × Nat) :=
  match fs[i]? with
  | some (off, _, size) => some (off, size)
  | none => none
def Yfu (T : Nat → Option TI) (o : Oper) (t : Nat) (parts : List (Nat × Operand)) : RM Eff :=
  match T t with
  | none => .fail
  | some ti =>
    match ti.kind with
    | .struct fs => evs parts fun vs => (match Ycs (Yae fs) vs (ti.zero.map .sv) with | some cells => Xdb o (.agg cells) True | none => .fail)
    | .arr _ e => (match T e with
      | some ei => evs parts fun vs => (match Ycs (fun i => some (i * ei.size, ei.size)) vs (ti.zero.map .sv) with | some cells => Xdb o (.agg cells) True | none => .fail)
      | none => .fail)
    | _ => .fail
def Xw2 {α : Type 1} (c : Xmx) : List (Nat × Option Obj) → Nat → List (Nat × AV) → (List c.α → List (Nat × Option Obj) → RM α) → RM α
  | q, _, [], k => k [] q
  | q, n, (i, v) :: l, k =>
    if Nat.beq i n then
      match v.cells with
      | some cs => Yd8 q cs fun ys q => (match c.dec ys with | some x => Xw2 c q (n + 1) l fun xs r => k (x :: xs) r | none => .fail)
      | none => .fail
    else .fail
def Xze (kd : IntKind) : Nat → List (Nat × AV) → Option (List Int)
  | _, [] => some []
  | n, (i, .sv (.int k x)) :: l => if Nat.beq i n then (if k = kd then (match Xze kd (n + 1) l with | some xs => some (x :: xs) | none => none) else none) else none
  | _, _ => none
def Xr0 (T : Nat → Option TI) (o : Oper) (t n : Nat) (parts : List (Nat × Operand)) : RM Eff :=
  match T t with
  | some ⟨.slice e, _, _, _, _⟩ =>
    (match T e with
    | some ei => if Nat.beq parts.length n && Nat.ble (n * ei.size) 16777216 then
        (match ei.ek with
        | .ints k => evs parts fun vs => (match Xze k 0 vs with | some l => Xxw o .own (.ints k l) [] True | none => .fail)
        | .row c => evs parts fun vs => Xw2 c [] 0 vs fun l q => Xxw o .own (.row c l) q True
        | .none => .fail) else .fail
    | none => .fail)
  | _ => .fail

def Xaa (k : IntKind) (n : Int) : Int := match k with | .i64 => wrap64 n | k => k.wrap n
def Yin (T : Nat → Option TI) (o : Oper) (op : BinOp) (t : Nat) (x y : AV) : RM Eff :=
  match op, x, y with
  | .add, .sv (.int k a), .sv (.int k' b) => if k = k' then Xdb o (.sv (.int k (Xaa k (a + b)))) True else .fail
  | .sub, .sv (.int k a), .sv (.int k' b) => if k = k' then Xdb o (.sv (.int k (Xaa k (a - b)))) True else .fail
  | .mul, .sv (.int k a), .sv (.int k' b) => if k = k' then Xdb o (.sv (.int k (Xaa k (a * b)))) True else .fail
  | .quo, .sv (.int k a), .sv (.int k' b) => if k = k' then Xdb o (.sv (.int k (Xaa k (a.tdiv b)))) (b ≠ 0) else .fail
  | .rem, .sv (.int k a), .sv (.int k' b) => if k = k' then Xdb o (.sv (.int k (a.tmod b))) (b ≠ 0) else .fail
  | .and, .sv (.int k a), .sv (.int k' b) => if k = k' then Xdb o (.sv (.int k (k.wrap (BitVec.ofInt k.bits a &&& BitVec.ofInt k.bits b).toNat))) True else .fail
  | .or, .sv (.int k a), .sv (.int k' b) => if k = k' then Xdb o (.sv (.int k (k.wrap (BitVec.ofInt k.bits a ||| BitVec.ofInt k.bits b).toNat))) True else .fail
  | .xor, .sv (.int k a), .sv (.int k' b) => if k = k' then Xdb o (.sv (.int k (k.wrap (BitVec.ofInt k.bits a ^^^ BitVec.ofInt k.bits b).toNat))) True else .fail
  | .shl, .sv (.int k a), .sv (.int _ b) => Xdb o (.sv (.int k (Xaa k (a * 2 ^ min b.toNat k.bits)))) (0 ≤ b)
  | .shr, .sv (.int k a), .sv (.int _ b) => Xdb o (.sv (.int k (a / 2 ^ min b.toNat k.bits))) (0 ≤ b)
  | .eql, .sv (.int k a), .sv (.int k' b) => if k = k' then Xdb o (.sv (.bool (a == b))) True else .fail
  | .neq, .sv (.int k a), .sv (.int k' b) => if k = k' then Xdb o (.sv (.bool (a != b))) True else .fail
  | .lss, .sv (.int k a), .sv (.int k' b) => if k = k' then Xdb o (.sv (.bool (decide (a < b)))) True else .fail
  | .leq, .sv (.int k a), .sv (.int k' b) => if k = k' then Xdb o (.sv (.bool (decide (a ≤ b)))) True else .fail
  | .gtr, .sv (.int k a), .sv (.int k' b) => if k = k' then Xdb o (.sv (.bool (decide (a > b)))) True else .fail
  | .geq, .sv (.int k a), .sv (.int k' b) => if k = k' then Xdb o (.sv (.bool (decide (a ≥ b)))) True else .fail
  | .add, .sv (.str a), .sv (.str b) => Xdb o (.sv (.str (a ++ b))) (a.size + b.size ≤ 9223372036854775807)
  | .eql, .sv (.str a), .sv (.str b) => Xdb o (.sv (.bool (a.toList == b.toList))) True
  | .neq, .sv (.str a), .sv (.str b) => Xdb o (.sv (.bool (!(a.toList == b.toList)))) True
  | .eql, .sv (.bool a), .sv (.bool b) => (match T t with | some ⟨.bool, _, _, _, _⟩ => Xdb o (.sv (.bool (a == b))) True | _ => .fail)
  | .neq, .sv (.bool a), .sv (.bool b) => (match T t with | some ⟨.bool, _, _, _, _⟩ => Xdb o (.sv (.bool (!(a == b)))) True | _ => .fail)
  | _, _, _ => .fail
def aun (o : Oper) (op : UnOp) (x : AV) : RM Eff :=
  match op, x with
  | .neg, .sv (.int k a) => Xdb o (.sv (.int k (Xaa k (0 - a)))) True
  | .not, .sv (.bool b) => Xdb o (.sv (.bool (!b))) True
  | _, _ => .fail
def Xdj (s : ByteArray) : List Int := s.data.toList.map fun b => (b.toNat : Int)
def Yhf (T : Nat → Option TI) (o : Oper) (src dst : Nat) (x : AV) : RM Eff :=
  match T src, T dst with
  | some ⟨.int _, _, _, _, _⟩, some ⟨.int k, _, _, _, _⟩ => (match x with | .sv (.int _ n) => Xdb o (.sv (.int k (Xaa k n))) True | _ => .fail)
  | some ⟨.slice e, _, _, _, _⟩, some ⟨.str, _, _, _, _⟩ => (match T e with
    | some ⟨.int .u8, _, _, _, _⟩ => (match x with
      | .own id => .obj id fun | some (.ints .u8 l) => Xdb o (.sv (.str (strOfNums l))) True | _ => .fail
      | .sv (.ints .u8 l) => Xdb o (.sv (.str (strOfNums l))) True
      | .sub id sz off len => .obj id fun | some (.ints .u8 l) => if Nat.beq sz 1 then Xdb o (.sv (.str (strOfNums ((l.drop off).take len)))) (off + len ≤ l.length) else .fail | _ => .fail
      | _ => .fail)
    | _ => .fail)
  | some ⟨.str, _, _, _, _⟩, some ⟨.slice e, _, _, _, _⟩ => (match T e with
    | some ⟨.int .u8, _, _, _, _⟩ => (match x with | .sv (.str s) => Xxw o .own (.ints .u8 (Xdj s)) [] (s.size ≤ maxLen) | _ => .fail)
    | _ => .fail)
  | _, _ => .fail
def Yhh (T : Nat → Option TI) (o : Oper) (t : Nat) (len cap : AV) : RM Eff :=
  match T t, len, cap with
  | some ⟨.slice e, _, _, _, _⟩, .sv (.int .i64 n), .sv (.int .i64 c) => (match T e with
    | some ei => (match ei.ek with
      | .ints k => Xxw o .own (.ints k (List.replicate n.toNat 0)) [] (0 ≤ n ∧ n ≤ c ∧ c * ei.bytes ≤ 281474976710656 ∧ 0 < ei.bytes)
      | .row cd => Xxw o .own (.row cd (List.replicate n.toNat cd.d)) [] (0 ≤ n ∧ n ≤ c ∧ c * ei.bytes ≤ 281474976710656 ∧ 0 < ei.bytes)
      | .none => .fail)
    | none => .fail)
  | _, _, _ => .fail
def ixO {α : Type 1} (x : Option Operand) (d : Int) (k : Int → RM α) : RM α := match x with | none => k d | some x => ev x fun | .sv (.int _ n) => k n | _ => .fail
def Yfy (T : Nat → Option TI) (o : Oper) (t : Nat) (x : AV) (lo hi : Option Operand) : RM Eff :=
  match T t with
  | some ⟨.str, _, _, _, _⟩ => (match x with
    | .sv (.str s) => ixO lo 0 fun l => ixO hi s.size fun h => Xdb o (.sv (.str (s.extract l.toNat h.toNat))) (0 ≤ l ∧ l ≤ h ∧ h ≤ s.size)
    | _ => .fail)
  | some ⟨.slice e, _, _, _, _⟩ => (match T e with
    | some ei => (match x with
      | .sv (.ints k xs) => if Nat.beq ei.size 1 then ixO lo 0 fun l => ixO hi xs.length fun h => Xdb o (.sv (.ints k ((xs.drop l.toNat).take (h.toNat - l.toNat)))) (0 ≤ l ∧ l ≤ h ∧ h ≤ xs.length) else .fail
      | .sv (.sl α d sz enc xs) => if Nat.beq ei.size sz then ixO lo 0 fun l => ixO hi xs.length fun h => Xdb o (.sv (.sl α d sz enc ((xs.drop l.toNat).take (h.toNat - l.toNat)))) (0 ≤ l ∧ l ≤ h ∧ h ≤ xs.length) else .fail
      | .own id => .obj id fun
        | some (.ints _ xs) => ixO lo 0 fun l => ixO hi xs.length fun h => Xdb o (.sub id ei.size l.toNat (h.toNat - l.toNat)) (0 ≤ l ∧ l ≤ h ∧ h ≤ xs.length)
        | some (.row _ xs) => ixO lo 0 fun l => ixO hi xs.length fun h => Xdb o (.sub id ei.size l.toNat (h.toNat - l.toNat)) (0 ≤ l ∧ l ≤ h ∧ h ≤ xs.length)
        | _ => .fail
      | _ => .fail)
    | none => .fail)
  | _ => .fail
def Xv7 (T : Nat → Option TI) (o : Oper) (t : Nat) (x i : AV) : RM Eff :=
  match T t, i with
  | some ⟨.slice e, _, _, _, _⟩, .sv (.int _ i) => (match T e with
    | some ei => (match x with
      | .own id => .obj id fun
        | some (.ints _ l) => Xdb o (.eptr id ei.size i.toNat 0) (0 ≤ i ∧ i < l.length)
        | some (.row _ l) => Xdb o (.eptr id ei.size i.toNat 0) (0 ≤ i ∧ i < l.length)
        | _ => .fail
      | .sub id sz off len => if Nat.beq ei.size sz then Xdb o (.eptr id ei.size (off + i.toNat) 0) (0 ≤ i ∧ i < len) else .fail
      | .sv (.ints k l) => if Nat.beq ei.size 1 then Xdb o (.iptr [.int k (l.getD i.toNat 0)] 0) (0 ≤ i ∧ i < l.length) else .fail
      | .sv (.sl _ d sz enc l) => if Nat.beq ei.size sz then Xdb o (.iptr (enc (l.getD i.toNat d)) 0) (0 ≤ i ∧ i < l.length) else .fail
      | _ => .fail)
    | none => .fail)
  | some ⟨.arr n e, _, _, _, _⟩, .sv (.int _ i) => (match T e with
    | some ei => (match x with | .ptr id off => Xdb o (.ptr id (off + i.toNat * ei.size)) (0 ≤ i ∧ i < n) | _ => .fail)
    | none => .fail)
  | _, _ => .fail
def Xv6 (T : Nat → Option TI) (o : Oper) (t : Nat) (x : AV) (f : Nat) : RM Eff :=
  match T t with
  | some ⟨.struct fs, _, _, _, _⟩ => (match fs[f]? with
    | some (fo, ty, _) => (match T ty with
      | some _ => (match x with
        | .ptr id off => Xdb o (.ptr id (off + fo)) True
        | .eptr id sz i off => Xdb o (.eptr id sz i (off + fo)) True
        | .iptr cells off => Xdb o (.iptr cells (off + fo)) True
        | _ => .fail)
      | none => .fail)
    | none => .fail)
  | _ => .fail
def Yer (s : ByteArray) (i : Int) : Int := if h : i.toNat < s.size then ((s[i.toNat]'h).toNat : Int) else 0
def Yfv (T : Nat → Option TI) (o : Oper) (t : Nat) (x i : AV) : RM Eff :=
  match T t, x, i with
  | some ⟨.str, _, _, _, _⟩, .sv (.str s), .sv (.int _ i) => Xdb o (.sv (.int .u8 (Yer s i))) (0 ≤ i ∧ i < s.size)
  | _, _, _ => .fail
def Yie (T : Nat → Option TI) (o : Oper) (t : Nat) (x : AV) : RM Eff :=
  let n (k : Int) : RM Eff := Xdb o (.sv (.int .i64 k)) True
  match T t with
  | some ⟨.str, _, _, _, _⟩ => (match x with | .sv (.str s) => n s.size | _ => .fail)
  | some ⟨.slice _, _, _, _, _⟩ => (match x with
    | .sv (.ints _ l) => n l.length
    | .sv (.sl _ _ _ _ l) => n l.length
    | .sv .nil => n 0
    | .sub _ _ _ len => n len
    | .own id => .obj id fun | some (.ints _ l) => n l.length | some (.row _ l) => n l.length | _ => .fail
    | _ => .fail)
  | _ => .fail
def Xzd {α : Type 1} (kd : IntKind) (x : AV) (k : List Int → Prop → RM α) : RM α :=
  match x with
  | .sv (.ints k' l) => if k' = kd then k l True else .fail
  | .sv .nil => k [] True
  | .sv (.str s) => if kd = .u8 then k (Xdj s) True else .fail
  | .own id => .obj id fun | some (.ints k' l) => if k' = kd then k l True else .fail | _ => .fail
  | .sub id sz off len => .obj id fun | some (.ints k' l) => if k' = kd then (if Nat.beq sz 1 then k ((l.drop off).take len) (off + len ≤ l.length) else .fail) else .fail | _ => .fail
  | _ => .fail
def Ybs {α : Type 1} (c : Xmx) (x : AV) (k : List c.α → Prop → RM α) : RM α :=
  match x with
  | .sv (.sl _ _ sz enc l) => if Nat.beq sz c.sz then k (l.filterMap fun y => c.dec (enc y)) (∀ y ∈ l, (c.dec (enc y)).isSome) else .fail
  | .sv .nil => k [] True
  | .own id => .obj id fun | some (.row c' l) => if Nat.beq c'.sz c.sz then k (l.filterMap fun y => c.dec (c'.enc y)) (∀ y ∈ l, (c.dec (c'.enc y)).isSome) else .fail | _ => .fail
  | .sub id sz off len => .obj id fun
    | some (.row c' l) => if Nat.beq sz c'.sz && Nat.beq c'.sz c.sz then k (((l.drop off).take len).filterMap fun y => c.dec (c'.enc y)) (off + len ≤ l.length ∧ ∀ y ∈ (l.drop off).take len, (c.dec (c'.enc y)).isSome) else .fail
    | _ => .fail
  | _ => .fail
def Yhp (T : Nat → Option TI) (tx : Nat) : Bool := match T tx with | some ⟨.slice _, _, _, _, _⟩ => true | some ⟨.str, _, _, _, _⟩ => true | _ => false
def Yaa (T : Nat → Option TI) (o : Oper) (ts tx : Nat) (s x : AV) : RM Eff :=
  if Yhp T tx then
  match T ts with
  | some ⟨.slice e, _, _, _, _⟩ => (match T e with
    | some ei =>
      (match ei.ek with
      | .ints kd => (match s with
        | .own id => .obj id fun
          | some (.ints k l) => if k = kd then Xzd kd x fun l' c => Xxw o .own (.ints kd (l ++ l')) [(id, none)] (c ∧ (l.length + l'.length) * ei.bytes ≤ 140737488355328 ∧ l.length + l'.length ≤ maxLen) else .fail
          | _ => .fail
        | .sv .nil => Xzd kd x fun l' c => Xxw o .own (.ints kd l') [] (c ∧ l'.length * ei.bytes ≤ 140737488355328 ∧ l'.length ≤ maxLen)
        | _ => .fail)
      | .row cd => (match s with
        | .own id => .obj id fun
          | some (.row c' l) => if Nat.beq c'.sz ei.size then Ybs c' x fun l' c => Xxw o .own (.row c' (l ++ l')) [(id, none)] (c ∧ (l.length + l'.length) * ei.bytes ≤ 140737488355328 ∧ l.length + l'.length ≤ maxLen) else .fail
          | _ => .fail
        | .sv .nil => Ybs cd x fun l' c => Xxw o .own (.row cd l') [] (c ∧ l'.length * ei.bytes ≤ 140737488355328 ∧ l'.length ≤ maxLen)
        | _ => .fail)
      | .none => .fail)
    | none => .fail)
  | _ => .fail
  else .fail
def Xws (T : Nat → Option TI) (o : Oper) (b : Builtin) (ts : List Nat) (args : List Operand) : RM Eff :=
  match b, ts, args with
  | .len, [t], [x] => ev x fun v => Yie T o t v
  | .append, [t1, t2], [s, x] => ev s fun a => ev x fun b => Yaa T o t1 t2 a b
  | .max, _, [x, y] => ev x fun a => ev y fun b => (match a, b with | .sv (.int k m), .sv (.int k' n) => if k = k' then Xdb o (.sv (.int k (if n > m then n else m))) True else .fail | _, _ => .fail)
  | .min, _, [x, y] => ev x fun a => ev y fun b => (match a, b with | .sv (.int k m), .sv (.int k' n) => if k = k' then Xdb o (.sv (.int k (if n < m then n else m))) True else .fail | _, _ => .fail)
  | _, _, _ => .fail
def aop (T : Nat → Option TI) (o : Oper) : RM Eff :=
  match o.op with
  | .move x | .assign x => ev x fun v => Xdb o v True
  | .pick c a b => ev c fun | .sv (.bool true) => (ev a fun v => Xdb o v True) | .sv (.bool false) => (ev b fun v => Xdb o v True) | _ => .fail
  | .alloc e => (match T e with | some ti => Xxw o (.ptr · 0) (.box (ti.zero.map .sv)) [] True | none => .fail)
  | .box _ x => ev x fun v => (match v.cells with | some cs => Xxw o (.ptr · 0) (.box cs) [] True | none => .fail)
  | .build t parts => Yfu T o t parts.toList
  | .buildSlice t n parts => Xr0 T o t n parts.toList
  | .load t a => ev a fun v => Yhg T o t v
  | .store t a x => ev a fun v => ev x fun u => (match o.dst with | none => Yfz T t v u | some _ => .fail)
  | .nilCheck x => ev x fun | .ptr id off => Xdb o (.ptr id off) True | .eptr id sz i off => Xdb o (.eptr id sz i off) True | .iptr cs off => Xdb o (.iptr cs off) True | _ => .fail
  | .binOp op t x y _ => ev x fun a => ev y fun b => Yin T o op t a b
  | .unOp op _ x => ev x fun a => aun o op a
  | .convert src dst x => ev x fun a => Yhf T o src dst a
  | .makeSlice t l c => ev l fun a => ev c fun b => Yhh T o t a b
  | .slice t x lo hi none => ev x fun a => Yfy T o t a lo hi
  | .fieldAddr t x f => ev x fun a => Xv6 T o t a f
  | .indexAddr t x i => ev x fun a => ev i fun b => Xv7 T o t a b
  | .index t x i => ev x fun a => ev i fun b => Yfv T o t a b
  | .extract x i => ev x fun | .tup vs => (match vs[i]? with | some v => Xdb o v True | none => .fail) | _ => .fail
  | .call c => (match c.callee with | .builtin b => Xws T o b c.argTypes.toList c.args.toList | _ => .fail)
  | _ => .fail
end Go.Proofs.YtlebkepfhdjnmacAL
/- An abstract logic for Go functions: what it tells of an operation holds of the program. Conditions: as each statement tells. -/
namespace Go.Proofs.YtlebkepfhdjnmacAL
open Go.RowKit
set_option linter.unusedVariables false

theorem Xgn (g o i : Nat) : (⟨g, o, none⟩ : Addr).add i = ⟨g, o + i, none⟩ := by unfold Addr.add; split <;> simp_all
theorem Xm5 (w : World) (o : Go.Obj) : Fr (fun g => g < w.heap.size) w (w.alloc o) := ⟨rfl, rfl, rfl, by simp, fun g hg => heap_alloc_old w o g hg⟩
theorem Ygi (w : World) (F : Nat → Prop) : Fr F w w.drew := ⟨rfl, rfl, rfl, Nat.le_refl _, fun _ _ => rfl⟩
theorem Xsc (w : World) (g : Nat) (cs : Array Value) : Fr (fun k => k < w.heap.size ∧ k ≠ g) w (w.setRow g cs) := ⟨rfl, rfl, rfl, by simp, fun k hk => setRow_other w g k cs hk.2⟩

def SV.val : SV → Value
  | .int k n => .int k n
  | .bool b => .bool b
  | .str s => .string s
  | _ => .slice none 0 0
def SV.flat : SV → Bool
  | .int _ _ | .bool _ | .str _ | .nil => true
  | _ => false
def Xop : List SV → Bool
  | [] => true
  | x :: l => x.flat && Xop l
theorem Xmd : ∀ {l : List SV}, Xop l = true → ∀ x ∈ l, x.flat = true
  | [], _, x, hx => by simp at hx
  | y :: l, h, x, hx => by
    rw [Xop, Bool.and_eq_true] at h
    rcases List.mem_cons.1 hx with rfl | hx
    · exact h.1
    · exact Xmd h.2 x hx
theorem SV.flat_rep {x : SV} (h : x.flat = true) (w : World) (A : Nat → Prop) : Xek w A x x.val := by
  cases x with
  | int k n => exact .int k n
  | bool b => exact .bool b
  | str s => exact .str s
  | nil => exact .nil
  | ints => cases h
  | sl => cases h

def TK.ok (P : Program) (t : Nat) : TK → Prop
  | .int k => P.underlying t = some (.int k)
  | .bool => P.underlying t = some .bool
  | .str => P.underlying t = some .string
  | .slice e => P.underlying t = some (.slice e)
  | .ptr => ∃ e, P.underlying t = some (.pointer e)
  | .struct fs => ∃ fields : Array Field, P.underlying t = some (.struct fields) ∧ fields.toList.map (fun f => (f.offset, f.type)) = fs.map (fun p => (p.1, p.2.1)) ∧
      ∀ w, (fields.mapM fun f => do pure (f.offset, ← sizeOf f.type) : Sem (Array (Nat × Nat))).run P w = .ok (fs.map fun p => (p.1, p.2.2)).toArray w
  | .arr n e => P.underlying t = some (.array n e)
  | .fn => ∃ a b c, P.underlying t = some (.func a b c)
def Xrv (zs ys : List SV) : Prop := ∀ (j : Nat) (y : SV), ys[j]? = some y → ∃ z, zs[j]? = some z ∧ ∀ (w : World) (A : Nat → Prop) (v : Value), Xek w A z v → Xek w A y v
theorem Xrv.refl (zs : List SV) : Xrv zs zs := fun _ y h => ⟨y, h, fun _ _ _ h => h⟩
structure TI.ok (P : Program) (t : Nat) (ti : TI) : Prop where
  kind : ti.kind.ok P t
  info : ∃ i z, P.info? t = some i ∧ i.size = ti.size ∧ i.bytes = ti.bytes ∧ i.zero = some z ∧ z.cells.toList = ti.zero.map SV.val
  flat : Xop ti.zero = true
  zsz : ti.zero.length = ti.size
  pos : 0 < ti.size
  ek : match ti.ek with
    | .ints k => ti.size = 1 ∧ ti.zero = [.int k 0]
    | .row c => c.ok ∧ c.sz = ti.size ∧ Xrv ti.zero (c.enc c.d)
    | .none => True
def TOk (P : Program) (T : Nat → Option TI) : Prop := ∀ t ti, T t = some ti → ti.ok P t

section
variable {P : Program} {T : Nat → Option TI} {w : World}
theorem Xbj (hT : TOk P T) {t : Nat} {ti : TI} (ht : T t = some ti) (w : World) : (sizeOf t).run P w = .ok ti.size w := by
  obtain ⟨i, z, h1, h2, _⟩ := (hT t ti ht).info
  simp [sizeOf, typeInfo, h1, h2]
theorem Xwh (hT : TOk P T) {t : Nat} {ti : TI} (ht : T t = some ti) (w : World) : (isAgg t).run P w = .ok ti.isAgg w := by
  have hk := (hT t ti ht).kind
  unfold isAgg TI.isAgg
  cases hq : ti.kind with
  | ptr => rw [hq] at hk; obtain ⟨e, he⟩ := hk; simp [run_underlying he]
  | struct fs => rw [hq] at hk; obtain ⟨e, he, _⟩ := hk; simp [run_underlying he]
  | fn => rw [hq] at hk; obtain ⟨a, b, c, he⟩ := hk; simp [run_underlying he]
  | _ => rw [hq] at hk; simp [run_underlying hk]
theorem Xxz (hT : TOk P T) {t : Nat} {ti : TI} (ht : T t = some ti) (w : World) : ∃ z, (zeroValue t).run P w = .ok z w ∧ z.cells.toList = ti.zero.map SV.val := by
  obtain ⟨i, z, h1, h2, h3, h4, h5⟩ := (hT t ti ht).info
  exact ⟨z, by simp [zeroValue, typeInfo, h1, h4], h5⟩
theorem Xe4 (hT : TOk P T) {t e n b : Nat} {z : List SV} {ek : EK} (ht : T t = some ⟨.slice e, n, b, z, ek⟩) : P.underlying t = some (.slice e) := (hT t _ ht).kind

theorem Yih {w : World} {g b : Nat} {A : Nat → Prop} {μ : Nat → Value} {cells : List AV} (hc : ∀ (j : Nat) (y : AV), cells[j]? = some y → ∃ u, w.cell? ⟨g, b + j, none⟩ = some u ∧ Rep w A μ y u) (off n : Nat) (h : off + n ≤ cells.length) :
    ∃ vs : Array Value, (loadCells ⟨g, b + off, none⟩ n).run P w = .ok vs w ∧ vs.size = n ∧ ∀ (j : Nat) (y : AV) (u : Value), ((cells.drop off).take n)[j]? = some y → vs[j]? = some u → Rep w A μ y u := by
  have hall : ∀ j, j < n → ∃ y u, cells[off + j]? = some y ∧ w.cell? ⟨g, b + (off + j), none⟩ = some u ∧ Rep w A μ y u := by
    intro j hj
    have hlt : off + j < cells.length := by omega
    obtain ⟨u, h1, h2⟩ := hc (off + j) _ (List.getElem?_eq_getElem hlt)
    exact ⟨_, u, List.getElem?_eq_getElem hlt, h1, h2⟩
  refine ⟨((List.range n).map fun j => (w.cell? ⟨g, b + (off + j), none⟩).getD undef).toArray, ?_, by simp, ?_⟩
  · have := run_loadCells_list (P := P) w ⟨g, b + off, none⟩ ((List.range n).map fun j => (w.cell? ⟨g, b + (off + j), none⟩).getD undef) ?_
    · simpa using this
    · intro j v hv
      have hj : j < n := by
        have := (List.getElem?_eq_some_iff.1 hv).1
        simpa using this
      obtain ⟨y, u, h1, h2, h3⟩ := hall j hj
      simp [hj] at hv
      rw [Xgn, Nat.add_assoc, h2, ← hv, h2]; rfl
  · intro j y u hy hu
    by_cases hj : j < n
    · obtain ⟨y', u', h1, h2, h3⟩ := hall j hj
      simp [hj, List.getElem?_drop, h1] at hy
      simp [hj] at hu
      rw [h2] at hu
      simp at hu
      rw [← hy, ← hu]; exact h3
    · simp [hj, List.getElem?_take] at hy

theorem Xmr (hT : TOk P T) {t : Nat} {ti : TI} (ht : T t = some ti) {g b : Nat} {A : Nat → Prop} {μ : Nat → Value} {cells : List AV} {off : Nat} {v : AV}
    (hc : ∀ (j : Nat) (y : AV), cells[j]? = some y → ∃ u, w.cell? ⟨g, b + j, none⟩ = some u ∧ Rep w A μ y u) (hp : Xlv ti cells off = some v) :
    ∃ u, (loadVar t ⟨g, b + off, none⟩).run P w = .ok u w ∧ Rep w A μ v u := by
  unfold Xlv at hp
  have ha := Xwh (P := P) hT ht w
  cases hq : ti.isAgg with
  | true =>
    rw [hq] at hp ha
    simp only [if_true] at hp
    split at hp
    · rename_i hle
      cases hp
      obtain ⟨vs, h1, h2, h3⟩ := Yih (P := P) hc off ti.size (Nat.le_of_ble_eq_true hle)
      refine ⟨.agg vs, ?_, .agg _ vs (by rw [h2, List.length_take, List.length_drop]; have := Nat.le_of_ble_eq_true hle; omega) h3⟩
      simp only [loadVar, Sem.run_bind, ha, Result.andThen_ok, Xbj hT ht, h1, if_true, Sem.run_pure]
    · cases hp
  | false =>
    rw [hq] at hp ha
    simp only [Bool.false_eq_true, if_false] at hp
    split at hp
    · rename_i y l hd
      cases hp
      have h0 : cells[off]? = some v := by
        have : (cells.drop off)[0]? = some v := by rw [hd]; rfl
        simpa using this
      obtain ⟨u, hu, hr⟩ := hc off v h0
      refine ⟨u, ?_, hr⟩
      simp only [loadVar, Sem.run_bind, ha, Result.andThen_ok, Bool.false_eq_true, if_false, run_load, hu]
    · cases hp

theorem Xeg (g o : Nat) (t : TypeId) (fr : Nat × Nat) : ∀ (vs : List Value) (i : Nat) (cur : Array Value) (w : World), w.heap[g]? = some (.cells cur t fr) → NF cur fr → o + i + vs.length ≤ cur.size → (∀ v ∈ vs, v.oneCell' = true) →
    (storeCells ⟨g, o, none⟩ vs i).run P w = .ok () (w.setRow g (cur.toList.take (o + i) ++ vs ++ cur.toList.drop (o + i + vs.length)).toArray)
  | [], i, cur, w, hg, _, _, _ => by
    simp only [storeCells, List.append_nil, List.length_nil, Nat.add_zero, List.take_append_drop, Array.toArray_toList]
    rw [setRow_self w g cur t fr hg]
    rfl
  | v :: rest, i, cur, w, hg, hf, hl, h1 => by
    have hi : o + i < cur.size := by simp at hl; omega
    have hcell : w.cell? ⟨g, o + i, none⟩ = some cur[o + i] := by simp [World.cell?, hg, hi]
    have hfro : w.frozen? ⟨g, o + i, none⟩ = false := by
      have := hf (o + i) hi
      obtain ⟨lo, hi'⟩ := fr
      simp only [World.frozen?, hg]
      simpa using this
    have hst : (store ((⟨g, o, none⟩ : Addr).add i) v).run P w = .ok () (w.setRow g (cur.setIfInBounds (o + i) v)) := by
      rw [Xgn, run_store P w _ v _ (h1 v (by simp)), hcell]
      simp [hfro, setCell_eq_setRow w g (o + i) cur t fr v hg]
    have ih := Xeg g o t fr rest (i + 1) (cur.setIfInBounds (o + i) v) (w.setRow g (cur.setIfInBounds (o + i) v)) (setRow_heap w g cur _ t _ hg)
      (fun k hk => hf k (by simpa using hk)) (by simp at hl ⊢; omega) (fun x hx => h1 x (by simp [hx]))
    simp only [storeCells, Sem.run_bind, hst, Result.andThen_ok, ih, setRow_setRow]
    congr 3
    have e := list_seg_step cur.toList (o + i) v rest (by simp at hl ⊢; omega)
    simpa [Array.toList_setIfInBounds, Nat.add_assoc] using e
theorem Xzs (hT : TOk P T) {t : Nat} {ti : TI} (ht : T t = some ti) {g o : Nat} {E : TypeId} {fr : Nat × Nat} {cur : Array Value} (hg : w.heap[g]? = some (.cells cur E fr)) (hf : NF cur fr) {v : Value}
    (hs : v.cells.size = ti.size) (hl : o + ti.size ≤ cur.size) (h1 : ∀ u ∈ v.cells.toList, u.oneCell' = true) :
    (storeVar t ⟨g, o, none⟩ v).run P w = .ok () (w.setRow g (cur.toList.take o ++ v.cells.toList ++ cur.toList.drop (o + ti.size)).toArray) := by
  have h := Xeg (P := P) g o E fr v.cells.toList 0 cur w hg hf (by simpa [hs] using hl) h1
  simp only [Nat.add_zero, Array.length_toList, hs] at h
  simp only [storeVar, Sem.run_bind, Xbj hT ht, Result.andThen_ok, hs, ne_eq, not_true_eq_false, if_false, h]
end

/-! ### An operation in its frame -/
def Xhj (P : Program) (C : Ctx) (o : Oper) (σ' : St) (a : Act) (w : World) : Prop := Oper.wp P o a w (fun a' w' => Rel C σ' a' w') (fun _ _ _ => False)
section
variable {P : Program} {T : Nat → Option TI} {C : Ctx} {μ : Nat → Value} {A : Nat → Prop} {σ σ' : St} {a : Act} {w w' : World} {o : Oper}
theorem Xhu {v : Value} (hr : (execOp a.eval o).run P w = .ok (.value v) w') (h : Rel C σ' (a.put o.dst v) w') : Xhj P C o σ' a w := by
  unfold Xhj Oper.wp; rw [hr]; exact h
theorem Xy1 (hr : (execOp a.eval o).run P w = .ok .skip w') (h : Rel C σ' (a.put o.dst undef) w') : Xhj P C o σ' a w := by
  unfold Xhj Oper.wp; rw [hr]; exact h

def Ev (σ : St) : Operand → AV → Prop
  | .tmp t, v => v = σ.slot t
  | .const c, v => Xmp c = some v
  | .func f, v => v = .fn f []
  | .global _, _ => False
theorem Xbc {α : Type 1} {x : Operand} {k : AV → RM α} {ks : List Key} {r : α × List Key} (h : (ev x k).run σ ks = some r) : ∃ v ks', Ev σ x v ∧ (k v).run σ ks' = some r := by
  cases x with
  | tmp t => exact ⟨_, _, rfl, h⟩
  | const c =>
    cases e : Xmp c with
    | none => simp [ev, e, RM.run] at h
    | some v => simp only [ev, e] at h; exact ⟨v, ks, e, h⟩
  | func f => exact ⟨_, _, rfl, h⟩
  | global g => simp [ev, RM.run] at h
theorem Ydq {c : Value} {v : AV} (h : Xmp c = some v) : Rep w A μ v c := by
  unfold Xmp at h
  split at h <;> cases h
  · exact .sv (.int _ _)
  · exact .sv (.bool _)
  · exact .sv (.str _)
  · exact .sv .nil
  · exact .any _
theorem Xbv.ev (h : Xbv C μ A σ a w) {x : Operand} {v : AV} (he : Ev σ x v) : Rep w A μ v (a.eval x) := by
  cases x with
  | tmp t => cases he; exact h.slot t
  | const c => exact Ydq he
  | func f => cases he; exact .fn f [] #[] rfl (fun j y u hy => by simp at hy)
  | global g => exact he.elim

theorem Xlj {v : AV} {c : Prop} {ks ks' : List Key} {e : Eff} (h : (Xdb o v c).run σ ks = some (e, ks')) : ∃ d, o.dst = some d ∧ e = ⟨[(d, v)], [], [], c⟩ := by
  unfold Xdb at h
  cases hd : o.dst with
  | none => simp [hd, RM.run] at h
  | some d => rw [hd] at h; simp [RM.run] at h; exact ⟨d, rfl, h.1.symm⟩
theorem Xlk {v : Nat → AV} {ob : Obj} {q : List (Nat × Option Obj)} {c : Prop} {ks ks' : List Key} {e : Eff} (h : (Xxw o v ob q c).run σ ks = some (e, ks')) :
    ∃ d, o.dst = some d ∧ e = ⟨[(d, v (d * 16))], (d * 16, some ob) :: q, [d * 16], c⟩ := by
  unfold Xxw at h
  cases hd : o.dst with
  | none => simp [hd, RM.run] at h
  | some d => rw [hd] at h; simp [RM.run] at h; exact ⟨d, rfl, h.1.symm⟩
theorem Xat (h : Xbv C μ A σ a w) {v : AV} {u : Value} {c : Prop} {ks ks' : List Key} {e : Eff} (hr : (Xdb o v c).run σ ks = some (e, ks')) (hd : ∀ d, o.dst = some d → d < C.n)
    (hrun : c → (execOp a.eval o).run P w = .ok (.value u) w) (hrep : c → Rep w A μ v u) (hc : e.cond) : Xhj P C o (e.app σ) a w := by
  obtain ⟨d, h1, rfl⟩ := Xlj hr
  refine Xhu (hrun hc) ⟨μ, A, ?_⟩
  have := h.put (d := o.dst) (hrep hc) hd
  rw [h1] at this ⊢
  exact this

theorem Xru (k : IntKind) (n : Int) : Xaa k n = k.wrap n := by
  cases k <;> first
    | rfl
    | (simp only [Xaa, wrap64, IntKind.wrap, IntKind.signed, IntKind.bits, Bool.true_and, decide_eq_true_eq, show (2 : Int) ^ 64 = 18446744073709551616 from rfl, show (2 : Int) ^ (64 - 1) = 9223372036854775808 from rfl]; split <;> omega)
def Xut (C : Ctx) (σ : St) (e : Eff) : Prop := ∀ id ∈ e.new, σ.fresh id ∧ C.pin id = none

theorem Xwk (h : Xbv C μ A σ a w) (hd : ∀ d, o.dst = some d → d < C.n) {x : Operand} (ho : o.op = .move x ∨ o.op = .assign x) {ks ks' : List Key} {e : Eff}
    (hr : (ev x fun v => Xdb o v True).run σ ks = some (e, ks')) (hc : e.cond) : Xhj P C o (e.app σ) a w := by
  obtain ⟨v, k1, hv, hr⟩ := Xbc hr
  refine Xat h hr hd (fun _ => ?_) (fun _ => h.ev hv) hc
  rcases ho with ho | ho <;> simp [execOp, ho]

theorem Xho {b : Bool} {u : Value} (h : Rep w A μ (.sv (.bool b)) u) : u = .bool b := by cases h with | sv h => cases h with | bool => rfl | sl _ _ _ _ _ _ hx => cases hx
theorem Xbr {k : IntKind} {n : Int} {u : Value} (h : Rep w A μ (.sv (.int k n)) u) : u = .int k n := by cases h with | sv h => cases h with | int => rfl | sl _ _ _ _ _ _ hx => cases hx
theorem Xh7 {s : ByteArray} {u : Value} (h : Rep w A μ (.sv (.str s)) u) : u = .string s := by cases h with | sv h => cases h with | str => rfl | sl _ _ _ _ _ _ hx => cases hx
theorem Xkx {u : Value} (h : Rep w A μ (.sv .nil) u) : u = .slice none 0 0 := by cases h with | sv h => cases h with | nil => rfl | sl _ _ _ _ _ _ hx => cases hx

theorem Ycn (h : Xbv C μ A σ a w) (hd : ∀ d, o.dst = some d → d < C.n) {c x y : Operand} (ho : o.op = .pick c x y) {ks ks' : List Key} {e : Eff}
    (hr : (aop T o).run σ ks = some (e, ks')) (hc : e.cond) : Xhj P C o (e.app σ) a w := by
  simp only [aop, ho] at hr
  obtain ⟨v, k1, hv, hr⟩ := Xbc hr
  split at hr
  · obtain ⟨v, k2, hv2, hr⟩ := Xbc hr
    refine Xat h hr hd (fun _ => ?_) (fun _ => h.ev hv2) hc
    simp [execOp, ho, Xho (h.ev hv), asBool]
  · obtain ⟨v, k2, hv2, hr⟩ := Xbc hr
    refine Xat h hr hd (fun _ => ?_) (fun _ => h.ev hv2) hc
    simp [execOp, ho, Xho (h.ev hv), asBool]
  · simp [RM.run] at hr

theorem Xvk (h : Xbv C μ A σ a w) (hd : ∀ d, o.dst = some d → d < C.n) {x : Operand} (ho : o.op = .nilCheck x) {ks ks' : List Key} {e : Eff}
    (hr : (aop T o).run σ ks = some (e, ks')) (hc : e.cond) : Xhj P C o (e.app σ) a w := by
  simp only [aop, ho] at hr
  obtain ⟨v, k1, hv, hr⟩ := Xbc hr
  have hrep := h.ev hv
  split at hr
  all_goals first
    | (refine Xat h hr hd (fun _ => ?_) (fun _ => hrep) hc
       generalize hu : a.eval x = u at hrep
       cases hrep
       all_goals simp [execOp, ho, hu])
    | (simp [RM.run] at hr)

theorem Xx3 (h : Xbv C μ A σ a w) (hd : ∀ d, o.dst = some d → d < C.n) {x : Operand} {i : Nat} (ho : o.op = .extract x i) {ks ks' : List Key} {e : Eff}
    (hr : (aop T o).run σ ks = some (e, ks')) (hc : e.cond) : Xhj P C o (e.app σ) a w := by
  simp only [aop, ho] at hr
  obtain ⟨v, k1, hv, hr⟩ := Xbc hr
  have hrep := h.ev hv
  split at hr
  · split at hr
    · rename_i vs v hv
      generalize hu : a.eval x = u at hrep
      cases hrep with
      | tup _ us hl hall =>
        have hi : i < us.size := by rw [hl]; exact (List.getElem?_eq_some_iff.1 hv).1
        have hui : us[i]? = some us[i] := Array.getElem?_eq_getElem hi
        refine Xat h hr hd (u := us[i]) (fun _ => ?_) (fun _ => hall i v _ hv hui) hc
        simp [execOp, ho, hu, Instr.extract, hui]
    · simp [RM.run] at hr
  · simp [RM.run] at hr

theorem Yff (h : Xbv C μ A σ a w) (hd : ∀ d, o.dst = some d → d < C.n) {op : UnOp} {t : Nat} {x : Operand} (ho : o.op = .unOp op t x) {ks ks' : List Key} {e : Eff}
    (hr : (aop T o).run σ ks = some (e, ks')) (hc : e.cond) : Xhj P C o (e.app σ) a w := by
  simp only [aop, ho] at hr
  obtain ⟨v, k1, hv, hr⟩ := Xbc hr
  have hrep := h.ev hv
  unfold aun at hr
  split at hr
  · refine Xat h hr hd (fun _ => ?_) (fun _ => .sv (.int _ _)) hc
    rw [Xru]
    simp [execOp, ho, Xbr hrep, Op.unary, Op.intArith]
  · refine Xat h hr hd (fun _ => ?_) (fun _ => .sv (.bool _)) hc
    simp [execOp, ho, Xho hrep, Op.unary]
  · simp [RM.run] at hr

theorem Yd3 (hT : TOk P T) (h : Xbv C μ A σ a w) (hd : ∀ d, o.dst = some d → d < C.n) {op : BinOp} {t ty : Nat} {x y : Operand} (ho : o.op = .binOp op t x y ty) {ks ks' : List Key} {e : Eff}
    (hr : (aop T o).run σ ks = some (e, ks')) (hc : e.cond) : Xhj P C o (e.app σ) a w := by
  simp only [aop, ho] at hr
  obtain ⟨v, k1, hv, hr⟩ := Xbc hr
  obtain ⟨v2, k2, hv2, hr⟩ := Xbc hr
  have h1 := h.ev hv
  have h2 := h.ev hv2
  unfold Yin at hr
  split at hr
  all_goals (try (split at hr))
  all_goals first
    | (simp [RM.run] at hr; done)
    | (rename_i hk
       subst hk
       refine Xat h hr hd (fun hcond => ?_) (fun _ => .sv (.int _ _)) hc
       try rw [Xru]
       simp [execOp, ho, Xbr h1, Xbr h2, eqGuard, binOp, Op.intArith, Op.intDiv, Op.intBits, hcond]; done)
    | (rename_i hk
       subst hk
       refine Xat h hr hd (fun hcond => ?_) (fun _ => .sv (.bool _)) hc
       simp [execOp, ho, Xbr h1, Xbr h2, eqGuard, binOp, Op.intCmp]; done)
    | (refine Xat h hr hd (fun hcond => ?_) (fun _ => .sv (.str _)) hc
       simp [execOp, ho, Xh7 h1, Xh7 h2, eqGuard, binOp, Op.stringOp]; done)
    | (refine Xat h hr hd (fun hcond => ?_) (fun _ => .sv (.bool _)) hc
       simp [execOp, ho, Xh7 h1, Xh7 h2, eqGuard, binOp, Op.stringOp]; done)
    | (refine Xat h hr hd (fun hcond => ?_) (fun _ => .sv (.int _ _)) hc
       simp [execOp, ho, Xbr h1, Xbr h2, eqGuard, binOp, Op.shift, Int.not_lt.2 hcond, Xru]; done)
    | (refine Xat h hr hd (fun hcond => ?_) (fun _ => .sv (.int _ _)) hc
       simp [execOp, ho, Xbr h1, Xbr h2, eqGuard, binOp, Op.shift, Int.not_lt.2 hcond]
       rw [Int.fdiv_eq_ediv_of_nonneg _ (Int.pow_nonneg (by decide))]; done)
    | (rename_i hT1
       refine Xat h hr hd (fun hcond => ?_) (fun _ => .sv (.bool _)) hc
       have hu : P.underlying t = some .bool := (hT t _ hT1).kind
       simp [execOp, ho, Xho h1, Xho h2, eqGuard, binOp, run_equal_bool w t _ _ hu]; done)
    | (refine Xat h hr hd (fun hcond => ?_) (fun _ => .sv (.str _)) hc
       simp [execOp, ho, Xh7 h1, Xh7 h2, eqGuard, binOp, Op.stringOp]; omega; done)

theorem Xvj (hT : TOk P T) (h : Xbv C μ A σ a w) (hd : ∀ d, o.dst = some d → d < C.n) {src dst : Nat} {x : Operand} (ho : o.op = .convert src dst x) {k1 k2 : IntKind} {n1 n2 b1 b2 : Nat} {z1 z2 : List SV} {e1 e2 : EK}
    (ht1 : T src = some ⟨.int k1, n1, b1, z1, e1⟩) (ht2 : T dst = some ⟨.int k2, n2, b2, z2, e2⟩) {kd : IntKind} {n : Int} (hv : Ev σ x (.sv (.int kd n))) {ks ks' : List Key} {e : Eff}
    (hr : (Xdb o (.sv (.int k2 (Xaa k2 n))) True).run σ ks = some (e, ks')) (hc : e.cond) : Xhj P C o (e.app σ) a w := by
  have h1 : P.underlying src = some (.int k1) := (hT src _ ht1).kind
  have h2 : P.underlying dst = some (.int k2) := (hT dst _ ht2).kind
  refine Xat h hr hd (fun hcond => ?_) (fun _ => .sv (.int _ _)) hc
  rw [Xru]
  simp [execOp, ho, Xbr (h.ev hv), convert, run_underlying h1, run_underlying h2, Conv.intToInt]

theorem Xiy {α : Type 1} {x : Option Operand} {d : Int} {k : Int → RM α} {ks : List Key} {r : α × List Key} (h : (ixO x d k).run σ ks = some r) :
    ∃ n ks', (k n).run σ ks' = some r ∧ ((x = none ∧ n = d) ∨ ∃ y kd, x = some y ∧ Ev σ y (.sv (.int kd n))) := by
  cases x with
  | none => exact ⟨d, ks, h, .inl ⟨rfl, rfl⟩⟩
  | some y =>
    simp only [ixO] at h
    obtain ⟨v, k1, hv, hr⟩ := Xbc h
    split at hr
    · exact ⟨_, k1, hr, .inr ⟨y, _, rfl, hv⟩⟩
    · simp [RM.run] at hr
theorem Xwg (h : Xbv C μ A σ a w) {len cap : Nat} {lo hi : Option Operand} {l hh : Int} (isSl : Bool)
    (h1 : (lo = none ∧ l = 0) ∨ ∃ y kd, lo = some y ∧ Ev σ y (.sv (.int kd l))) (h2 : (hi = none ∧ hh = len) ∨ ∃ y kd, hi = some y ∧ Ev σ y (.sv (.int kd hh))) (c : 0 ≤ l ∧ l ≤ hh ∧ hh ≤ len) (hlc : len ≤ cap) (w' : World) :
    (Instr.sliceBounds isSl len cap (lo.map a.eval) (hi.map a.eval) none).run P w' = .ok (l.toNat, hh.toNat, cap) w' := by
  have hi' : (match hi.map a.eval with | some v => Instr.sliceBound v cap (if isSl then .sliceAcap else .sliceAlen) | none => pure len : Sem Nat).run P w' = .ok hh.toNat w' := by
    rcases h2 with ⟨rfl, rfl⟩ | ⟨y, kd, rfl, hy⟩
    · simp
    · simp only [Option.map_some, Xbr (h.ev hy)]
      exact run_sliceBound (P := P) w' kd hh cap _ (by omega) (by omega)
  have lo' : (match lo.map a.eval with | some v => Instr.sliceBound v hh.toNat .sliceB | none => pure 0 : Sem Nat).run P w' = .ok l.toNat w' := by
    rcases h1 with ⟨rfl, rfl⟩ | ⟨y, kd, rfl, hy⟩
    · simp
    · simp only [Option.map_some, Xbr (h.ev hy)]
      exact run_sliceBound (P := P) w' kd l hh.toNat _ (by omega) (by omega)
  unfold Instr.sliceBounds
  simp only [Sem.run_bind, Sem.run_pure, Result.andThen_ok]
  rcases h2 with ⟨rfl, rfl⟩ | ⟨y, kd, rfl, hy⟩
  · rcases h1 with ⟨rfl, rfl⟩ | ⟨y2, kd2, rfl, hy2⟩
    · simp
    · simp at lo'
      simp [lo']
  · simp only [Option.map_some] at hi' ⊢
    rcases h1 with ⟨rfl, rfl⟩ | ⟨y2, kd2, rfl, hy2⟩
    · simp [hi']
    · simp only [Option.map_some] at lo' ⊢
      simp [hi', lo']
end
end Go.Proofs.YtlebkepfhdjnmacAL
/- An abstract logic for Go functions: operations that read and make memory. Conditions: as each statement tells. -/
namespace Go.Proofs.YtlebkepfhdjnmacAL
open Go.RowKit
set_option linter.unusedVariables false
section
variable {P : Program} {T : Nat → Option TI} {C : Ctx} {μ : Nat → Value} {A : Nat → Prop} {σ σ' : St} {a : Act} {w w' : World} {o : Oper}

theorem Xyk (hT : TOk P T) {t n b : Nat} {z : List SV} {ek : EK} (ht : T t = some ⟨.str, n, b, z, ek⟩) : P.underlying t = some .string := (hT t _ ht).kind
theorem Yel (hT : TOk P T) {t n b : Nat} {k : IntKind} {z : List SV} {ek : EK} (ht : T t = some ⟨.int k, n, b, z, ek⟩) : P.underlying t = some (.int k) := (hT t _ ht).kind
theorem Yf8 (hT : TOk P T) {t m e n b : Nat} {z : List SV} {ek : EK} (ht : T t = some ⟨.arr m e, n, b, z, ek⟩) : P.underlying t = some (.array m e) := (hT t _ ht).kind
theorem Xgm {x : SV} {u : Value} {sz : Nat} {xs : List (List SV)} (h : Xek w A x u) (hx : x.elems = some (sz, xs)) :
    ∃ ad cap, u = .slice ad xs.length cap ∧ xs.length ≤ cap ∧ (∀ x ∈ xs, x.length = sz) ∧ (xs ≠ [] → ∃ g o, ad = some ⟨g, o, none⟩) ∧
      ∀ (i j : Nat) (x : List SV) (y : SV), xs[i]? = some x → x[j]? = some y → ∃ g o u, ad = some ⟨g, o, none⟩ ∧ A g ∧ w.cell? ⟨g, o + (i * sz + j), none⟩ = some u ∧ Xek w A y u := by
  cases h with
  | sl _ sz' xs' ad cap c hx' hlen hrep hmem had hcap =>
    rw [hx] at hx'
    cases hx'
    refine ⟨ad, cap, rfl, hcap, hlen, had, fun i j x y hi hj => ?_⟩
    have hil := (List.getElem?_eq_some_iff.1 hi).1
    have hjl : j < sz := by rw [← hlen x (List.mem_of_getElem? hi)]; exact (List.getElem?_eq_some_iff.1 hj).1
    obtain ⟨g, o, e, ha, hc⟩ := hmem i j hil hjl
    exact ⟨g, o, _, e, ha, hc, hrep i j x y hi hj⟩
  | _ => cases hx
theorem Xef {ob : Obj} {u : Value} {sz : Nat} {xs : List (List SV)} (h : Xg8 w A μ ob u) (hx : ob.elems = some (sz, xs)) :
    (u = .slice none 0 0 ∧ xs = []) ∨ ∃ g o cap cs E fr, u = .slice (some ⟨g, o, none⟩) xs.length cap ∧ w.heap[g]? = some (.cells cs E fr) ∧ NF cs fr ∧ xs.length ≤ cap ∧ cap ≤ maxLen ∧ o + cap * sz ≤ cs.size ∧ (∀ x ∈ xs, x.length = sz) ∧
      ∀ (i j : Nat) (x : List SV) (y : SV), xs[i]? = some x → x[j]? = some y → ∃ u, cs[o + (i * sz + j)]? = some u ∧ Xek w A y u := by
  cases h with
  | box => cases hx
  | none _ sz' hx' hwf => rw [hx] at hx'; cases hx'; exact .inl ⟨rfl, rfl⟩
  | row _ sz' xs' hx' hwf g o cap cs E fr hg hf hc hm hs hlen h =>
    rw [hx] at hx'; cases hx'
    exact .inr ⟨g, o, cap, cs, E, fr, rfl, hg, hf, hc, hm, hs, hlen, h⟩

theorem Xrq {k : IntKind} {l : List Int} {i : Nat} (h : i < l.length) : (l.map fun n => [SV.int k n])[i]? = some [.int k (l.getD i 0)] := by
  simp [h, List.getD]

theorem Yfi {k : IntKind} {n : Int} {u : Value} (h : Xek w A (.int k n) u) : u = .int k n := by cases h with | int => rfl | sl _ _ _ _ _ _ hx => cases hx
theorem Xxy {t : Nat} (hu : P.underlying t = some .string) (w : World) (s : ByteArray) (kd : IntKind) (i : Int) (hc : 0 ≤ i ∧ i < s.size) :
    (Instr.index t (.string s) (.int kd i)).run P w = .ok (.int .u8 (Yer s i)) w := by
  have hlt : i.toNat < s.size := by omega
  simp [Instr.index, asIntOf, run_underlying hu, hc.1, Yer, hlt]
theorem Yay (hT : TOk P T) (h : Xbv C μ A σ a w) (hd : ∀ d, o.dst = some d → d < C.n) {t : Nat} {x i : Operand} (ho : o.op = .index t x i) {ks ks' : List Key} {e : Eff}
    (hr : (aop T o).run σ ks = some (e, ks')) (hc : e.cond) : Xhj P C o (e.app σ) a w := by
  simp only [aop, ho] at hr
  obtain ⟨v, k1, hv, hr⟩ := Xbc hr
  obtain ⟨v2, k2, hv2, hr⟩ := Xbc hr
  have h1 := h.ev hv
  have h2 := h.ev hv2
  unfold Yfv at hr
  split at hr
  · refine Xat h hr hd (fun hcond => ?_) (fun _ => .sv (.int _ _)) hc
    simp [execOp, ho, Xh7 h1, Xbr h2, Xxy (P := P) (Xyk hT ‹_›) w _ _ _ hcond]
  · simp [RM.run] at hr

theorem Xvh (hT : TOk P T) {t f : Nat} {fi : TI} (ht : T t = some fi) (g o : Nat) (fd : Field) (hf : fd.type = t) (w : World) : (fieldPlace ⟨g, o, none⟩ fd).run P w = .ok ⟨g, o + fd.offset, none⟩ w := by
  have hp : fi.size ≠ 0 := Nat.pos_iff_ne_zero.1 (hT t fi ht).pos
  unfold fieldPlace
  rw [hf]
  simp only [Sem.run_bind, Xbj hT ht, Result.andThen_ok, hp, if_false, Sem.run_pure, Xgn]

theorem Xtq (hT : TOk P T) (h : Xbv C μ A σ a w) (hd : ∀ d, o.dst = some d → d < C.n) {t f : Nat} {x : Operand} (ho : o.op = .fieldAddr t x f) {ks ks' : List Key} {e : Eff}
    (hr : (aop T o).run σ ks = some (e, ks')) (hc : e.cond) : Xhj P C o (e.app σ) a w := by
  simp only [aop, ho] at hr
  obtain ⟨v, k1, hv, hr⟩ := Xbc hr
  have hrep := h.ev hv
  have key : ∀ {fs : List (Nat × Nat × Nat)} {n b : Nat} {z : List SV} {ek : EK} {fo ty fz : Nat} {fi : TI}, T t = some ⟨.struct fs, n, b, z, ek⟩ → fs[f]? = some (fo, ty, fz) → T ty = some fi → ∀ g off, a.eval x = .pointer (some ⟨g, off, none⟩) →
      (execOp a.eval o).run P w = .ok (.value (.pointer (some ⟨g, off + fo, none⟩))) w := by
    intro fs n b z ek fo ty fz fi ht hf hfi g off hx
    obtain ⟨fields, hu, hfs, _⟩ := (hT t _ ht).kind
    have h0 : fields.toList[f]?.map (fun f => (f.offset, f.type)) = some (fo, ty) := by rw [← List.getElem?_map, hfs, List.getElem?_map, hf]; rfl
    obtain ⟨fd, hfd, he⟩ := Option.map_eq_some_iff.1 h0
    have hfd' : fields[f]? = some fd := by simpa using hfd
    cases he
    have hp := Xvh (P := P) (f := 0) hT hfi g off fd rfl w
    simp only [execOp, ho, hx, Instr.fieldAt, Sem.run_bind, run_underlying hu, Result.andThen_ok, hfd', Instr.sureAddr, Sem.run_pure, hp]
  unfold Xv6 at hr
  split at hr
  · rename_i ht
    split at hr
    · rename_i hf
      split at hr
      · rename_i hfi
        split at hr
        all_goals first
          | (simp [RM.run] at hr; done)
          | (generalize hu : a.eval x = u at hrep
             cases hrep
             first
             | exact Xat h hr hd (fun _ => key ht hf hfi _ _ hu) (fun _ => .ptr _ _ _ ‹_›) hc
             | exact Xat h hr hd (fun _ => key ht hf hfi _ _ hu) (fun _ => by rw [Nat.add_assoc, Nat.add_assoc]; exact .eptr _ _ _ _ _ _ _ _ ‹_›) hc
             | exact Xat h hr hd (fun _ => key ht hf hfi _ _ hu) (fun _ => by rw [Nat.add_assoc]; exact .iptr _ _ _ _ ‹_› ‹_›) hc)
      · simp [RM.run] at hr
    · simp [RM.run] at hr
  · simp [RM.run] at hr

theorem Xgi (hT : TOk P T) {t e' n b : Nat} {z : List SV} {ek : EK} {ei : TI} (ht : T t = some ⟨.slice e', n, b, z, ek⟩) (he : T e' = some ei) (w : World) (g off len cap : Nat) (kd : IntKind) (i : Int) (hc : 0 ≤ i ∧ i < len) :
    (Instr.indexAt t (.slice (some ⟨g, off, none⟩) len cap) (.int kd i)).run P w = .ok (.pointer (some ⟨g, off + i.toNat * ei.size, none⟩)) w := by
  have hu := Xe4 hT ht
  simp [Instr.indexAt, asIntOf, run_underlying hu, hc, Xbj hT he, Xgn]

theorem Xtn (hT : TOk P T) {t m e' n b : Nat} {z : List SV} {ek : EK} {ei : TI} (ht : T t = some ⟨.arr m e', n, b, z, ek⟩) (he : T e' = some ei) (w : World) (g off : Nat) (kd : IntKind) (i : Int) (hc : 0 ≤ i ∧ i < m) :
    (Instr.indexAt t (.pointer (some ⟨g, off, none⟩)) (.int kd i)).run P w = .ok (.pointer (some ⟨g, off + i.toNat * ei.size, none⟩)) w := by
  have hu := Yf8 hT ht
  simp [Instr.indexAt, asIntOf, run_underlying hu, hc, Xbj hT he, Xgn, Instr.sureAddr]

theorem Xtr (hT : TOk P T) (h : Xbv C μ A σ a w) (hd : ∀ d, o.dst = some d → d < C.n) {t : Nat} {x i : Operand} (ho : o.op = .indexAddr t x i) {ks ks' : List Key} {e : Eff}
    (hr : (aop T o).run σ ks = some (e, ks')) (hc : e.cond) : Xhj P C o (e.app σ) a w := by
  simp only [aop, ho] at hr
  obtain ⟨v, k1, hv, hr⟩ := Xbc hr
  obtain ⟨v2, k2, hv2, hr⟩ := Xbc hr
  have h1 := h.ev hv
  have h2 := h.ev hv2
  -- a row of the call's own
  have own : ∀ {id : Nat} {ob : Obj} {sz len : Nat} {xs : List (List SV)} {kd : IntKind} {i' : Int} {e' n b : Nat} {z : List SV} {ek : EK} {ei : TI} {ks : List Key}, T t = some ⟨.slice e', n, b, z, ek⟩ → T e' = some ei → v = .own id → v2 = .sv (.int kd i') → σ.obj id = some ob → ob.elems = some (sz, xs) → xs.length = len →
      (Xdb o (.eptr id ei.size i'.toNat 0) (0 ≤ i' ∧ i' < len)).run σ ks = some (e, ks') → Xhj P C o (e.app σ) a w := by
    intro id ob sz len xs kd i' e' n b z ek ei ks ht he hv1 hv2' hob hx hlen hr
    subst hv1; subst hv2'; subst hlen
    generalize hu : a.eval x = u at h1
    cases h1 with
    | own =>
      have hb : 0 ≤ i' ∧ i' < xs.length → ∃ g o, ∃ cap, μ id = .slice (some ⟨g, o, none⟩) xs.length cap := by
        intro hcond
        rcases Xef (h.objs id ob hob) hx with ⟨_, hnil⟩ | ⟨g, o, cap, cs, E, fr, hm, _⟩
        · subst hnil; simp at hcond; omega
        · exact ⟨g, o, cap, hm⟩
      obtain ⟨d, hd1, rfl⟩ := Xlj hr
      obtain ⟨g, o', cap, hm⟩ := hb hc
      refine Xat (u := .pointer (some ⟨g, o' + i'.toNat * ei.size, none⟩)) h hr hd (fun hcond => ?_) (fun hcond => ?_) hc
      · simp [execOp, ho, hu, hm, Xbr h2, Xgi hT ht he w g o' xs.length cap kd i' hcond]
      · exact .eptr id ei.size i'.toNat 0 g o' xs.length cap hm
  -- a part of a row of the call's own
  have part : ∀ {id sz off len : Nat} {kd : IntKind} {i' : Int} {e' n b : Nat} {z : List SV} {ek : EK} {ei : TI} {ks : List Key}, T t = some ⟨.slice e', n, b, z, ek⟩ → T e' = some ei → ei.size = sz →
      v = .sub id sz off len → v2 = .sv (.int kd i') → (Xdb o (.eptr id ei.size (off + i'.toNat) 0) (0 ≤ i' ∧ i' < len)).run σ ks = some (e, ks') → Xhj P C o (e.app σ) a w := by
    intro id sz off len kd i' e' n b z ek ei ks ht he hsz hv1 hv2' hr0
    subst hv1; subst hv2'; subst hsz
    generalize hu : a.eval x = u at h1
    cases h1 with
    | sub _ _ _ _ ad0 ad n cap cap' hm hc1 hc2 ha hz =>
      obtain ⟨d, hd1, rfl⟩ := Xlj hr0
      have hc0 : 0 ≤ i' ∧ i' < len := hc
      obtain ⟨g, o', rfl, rfl⟩ := ha (by omega)
      refine Xat (u := .pointer (some ⟨g, o' + off * ei.size + i'.toNat * ei.size, none⟩)) h hr0 hd (fun hcond => ?_) (fun hcond => ?_) hc
      · have hll : 0 ≤ i' ∧ i' < (len : Int) := hcond
        simp only [execOp, ho, hu, Xbr h2, Sem.run_bind, Xgi hT ht he w g _ len cap' kd i' hll, Result.andThen_ok, Sem.run_pure]
      · rw [Nat.add_assoc, ← Nat.add_mul]; exact .eptr _ _ _ 0 g o' n cap hm
  -- a row that stays
  have still : ∀ {y : SV} {xs : List (List SV)} {cells : List SV} {len : Nat} {kd : IntKind} {i' : Int} {e' n b : Nat} {z : List SV} {ek : EK} {ei : TI} {ks : List Key}, T t = some ⟨.slice e', n, b, z, ek⟩ → T e' = some ei →
      y.elems = some (ei.size, xs) → (i'.toNat < len → xs[i'.toNat]? = some cells) → v = .sv y → v2 = .sv (.int kd i') → xs.length = len →
      (Xdb o (.iptr cells 0) (0 ≤ i' ∧ i' < len)).run σ ks = some (e, ks') → Xhj P C o (e.app σ) a w := by
    intro y xs cells len kd i' e' n b z ek ei ks ht he hy hget hv1 hv2' hlen hr
    subst hv1; subst hv2'; subst hlen
    generalize hu : a.eval x = u at h1
    cases h1 with
    | sv h1 =>
      obtain ⟨ad, cap, rfl, _, hxl, had, hcell⟩ := Xgm h1 hy
      obtain ⟨d, hd1, rfl⟩ := Xlj hr
      have hc0 : 0 ≤ i' ∧ i' < xs.length := hc
      have hlt : i'.toNat < xs.length := by omega
      have hx := hget hlt
      have hpos : 0 < cells.length := by rw [hxl cells (List.mem_of_getElem? hx)]; exact (hT e' ei he).pos
      obtain ⟨g, o', u, rfl, hA, _⟩ := hcell i'.toNat 0 cells _ hx (List.getElem?_eq_getElem hpos)
      refine Xat h hr hd (u := .pointer (some ⟨g, (o' + i'.toNat * ei.size) + 0, none⟩)) (fun hcond => ?_) (fun hcond => .iptr cells 0 g _ hA fun j y hj => ?_) hc
      · simp [execOp, ho, hu, Xbr h2, Xgi hT ht he w g _ _ cap kd i' hcond]
      · obtain ⟨g2, o2, u, e2, _, hc2, hr2⟩ := hcell i'.toNat j cells y hx hj
        cases e2
        exact ⟨u, by rw [Nat.add_assoc]; exact hc2, hr2⟩
  unfold Xv7 at hr
  split at hr
  · rename_i ht
    split at hr
    · rename_i he
      split at hr
      · -- own
        simp only [RM.run] at hr
        split at hr
        · exact own ht he rfl rfl ‹_› rfl (by simp) hr
        · exact own ht he rfl rfl ‹_› rfl (by simp) hr
        · simp [RM.run] at hr
      · -- sub
        split at hr
        · rename_i hsz
          exact part ht he (Nat.eq_of_beq_eq_true hsz) rfl rfl hr
        · simp [RM.run] at hr
      · -- ints
        split at hr
        · rename_i hsz
          have hsz := Nat.eq_of_beq_eq_true hsz
          exact still ht he (by rw [hsz]; rfl) (fun hlt => Xrq hlt) rfl rfl (by simp) hr
        · simp [RM.run] at hr
      · split at hr
        · rename_i hsz
          have hsz := Nat.eq_of_beq_eq_true hsz
          exact still ht he (by rw [hsz]; rfl) (fun hlt => by simp [hlt, List.getD]) rfl rfl (by simp) hr
        · simp [RM.run] at hr
      · simp [RM.run] at hr
    · simp [RM.run] at hr
  · rename_i ht
    split at hr
    · rename_i he
      split at hr
      · generalize hu : a.eval x = u at h1
        cases h1
        refine Xat h hr hd (fun hcond => ?_) (fun hcond => .ptr _ _ _ ‹_›) hc
        simp [execOp, ho, hu, Xbr h2, Xtn hT ht he w _ _ _ _ hcond]
      · simp [RM.run] at hr
    · simp [RM.run] at hr
  · simp [RM.run] at hr
end
end Go.Proofs.YtlebkepfhdjnmacAL
/- An abstract logic for Go functions: operations that read memory, and such as make or write it. Conditions: as each statement tells. -/
namespace Go.Proofs.YtlebkepfhdjnmacAL
open Go.RowKit
set_option linter.unusedVariables false
section
variable {P : Program} {T : Nat → Option TI} {C : Ctx} {μ : Nat → Value} {A : Nat → Prop} {σ σ' : St} {a : Act} {w w' : World} {o : Oper}

theorem Ygu (t : Nat) (v : Value) (w : World) (n : Nat) (h : (∃ s, P.underlying t = some .string ∧ v = .string s ∧ n = s.size) ∨ (∃ e ad c, P.underlying t = some (.slice e) ∧ v = .slice ad n c)) (ts : List Nat) (ty : Nat) :
    (Builtin.len_ (t :: ts).toArray ty #[v]).run P w = .ok (.int .i64 n) w := by
  rcases h with ⟨s, hu, rfl, rfl⟩ | ⟨e, ad, c, hu, rfl⟩ <;> simp [Builtin.len_, run_underlying hu, goInt]

theorem Ygq (hT : TOk P T) (h : Xbv C μ A σ a w) {t : Nat} {v : AV} {u : Value} {ks ks' : List Key} {e : Eff} (hr : (Yie T o t v).run σ ks = some (e, ks')) (hrep : Rep w A μ v u) :
    ∃ n : Nat, ((∃ s, P.underlying t = some .string ∧ u = .string s ∧ n = s.size) ∨ (∃ e ad c, P.underlying t = some (.slice e) ∧ u = .slice ad n c)) ∧ ∃ k1 k2, (Xdb o (.sv (.int .i64 (n : Int))) True).run σ k1 = some (e, k2) := by
  have own : ∀ {e' : Nat} {id : Nat} {ob : Obj} {sz len : Nat} {xs : List (List SV)} {ks : List Key}, P.underlying t = some (.slice e') → σ.obj id = some ob → ob.elems = some (sz, xs) → xs.length = len → (Xdb o (.sv (.int .i64 (len : Int))) True).run σ ks = some (e, ks') →
      ∃ n : Nat, ((∃ s, P.underlying t = some .string ∧ μ id = .string s ∧ n = s.size) ∨ (∃ e ad c, P.underlying t = some (.slice e) ∧ μ id = .slice ad n c)) ∧ ∃ k1 k2, (Xdb o (.sv (.int .i64 (n : Int))) True).run σ k1 = some (e, k2) := by
    intro e' id ob sz len xs ks ht hob hx hlen hr
    subst hlen
    refine ⟨xs.length, .inr ?_, _, _, hr⟩
    rcases Xef (h.objs id _ hob) hx with ⟨hm, hnil⟩ | ⟨g, o', cap, cs, E, fr, hm, _⟩
    · subst hnil; exact ⟨e', none, 0, ht, hm⟩
    · exact ⟨e', _, cap, ht, hm⟩
  unfold Yie at hr
  split at hr
  · rename_i ht
    have hu := Xyk hT ht
    split at hr
    · exact ⟨_, .inl ⟨_, hu, Xh7 hrep, rfl⟩, _, _, hr⟩
    · simp [RM.run] at hr
  · rename_i ht
    have hu := Xe4 hT ht
    split at hr
    · cases hrep with
      | sv h1 =>
        obtain ⟨ad, cap, rfl, _⟩ := Xgm h1 rfl
        exact ⟨_, .inr ⟨_, ad, cap, hu, by simp⟩, _, _, hr⟩
    · cases hrep with
      | sv h1 =>
        obtain ⟨ad, cap, rfl, _⟩ := Xgm h1 rfl
        exact ⟨_, .inr ⟨_, ad, cap, hu, by simp⟩, _, _, hr⟩
    · rw [Xkx hrep]; exact ⟨0, .inr ⟨_, none, 0, hu, rfl⟩, _, _, hr⟩
    · cases hrep with
      | sub _ _ _ _ ad0 ad n cap cap' hm hc1 hc2 ha hz => exact ⟨_, .inr ⟨_, ad, cap', hu, rfl⟩, _, _, hr⟩
    · cases hrep with
      | own id =>
        simp only [RM.run] at hr
        split at hr
        · exact own hu ‹_› rfl (by simp) hr
        · exact own hu ‹_› rfl (by simp) hr
        · simp [RM.run] at hr
    · simp [RM.run] at hr
  · simp [RM.run] at hr

theorem Xpg (hT : TOk P T) {src dst e' n b n1 b1 n2 b2 : Nat} {z z1 z2 : List SV} {ek ek1 ek2 : EK} (hs : T src = some ⟨.slice e', n, b, z, ek⟩) (hd : T dst = some ⟨.str, n1, b1, z1, ek1⟩) (he : T e' = some ⟨.int .u8, n2, b2, z2, ek2⟩)
    (w : World) (g o cap : Nat) (xs : List Int) (hcell : ∀ i, i < xs.length → w.cell? ⟨g, o + i, none⟩ = some (.int .u8 (xs.getD i 0))) :
    (convert src dst (.slice (some ⟨g, o, none⟩) xs.length cap)).run P w = .ok (.string (strOfNums xs)) w :=
  run_convert_bytes_arg w src e' (Xe4 hT hs) (Yel hT he) g o xs.length cap xs rfl hcell dst (Xyk hT hd)
theorem Xtk (hT : TOk P T) {src dst e' n b n1 b1 n2 b2 : Nat} {z z1 z2 : List SV} {ek ek1 ek2 : EK} (hs : T src = some ⟨.slice e', n, b, z, ek⟩) (hd : T dst = some ⟨.str, n1, b1, z1, ek1⟩) (he : T e' = some ⟨.int .u8, n2, b2, z2, ek2⟩) (w : World) (l c : Nat) (ad : Option Addr) (hl : ad = none ∨ l = 0) :
    (convert src dst (.slice ad l c)).run P w = .ok (.string (strOfNums [])) w := by
  cases ad with
  | none => simp [convert, run_underlying (Xe4 hT hs), run_underlying (Xyk hT hd), run_underlying (Yel hT he), Conv.bytesToString]; rfl
  | some ad =>
    rcases hl with hl | rfl
    · cases hl
    · rw [run_convert_bytes_string w src dst e' _ 0 c (Xe4 hT hs) (Yel hT he) (Xyk hT hd), run_bytesToString w ad 0 c [] (by simp [loadCells, loadCellsFrom])]; rfl

theorem Ybw {y y' : SV} {sz l m cap len : Nat} {xs ys : List (List SV)} {ad : Option Addr} (h : Xek w A y (.slice ad len cap)) (hy : y.elems = some (sz, xs)) (hlen0 : xs.length = len) (hy' : y'.elems = some (sz, ys)) (hys : ys = (xs.drop l).take m) (hlm : l + m ≤ len) :
    Xek w A y' (.slice (if cap = l then ad else ad.map (·.add (l * sz))) m (cap - l)) := by
  subst hlen0; subst hys
  obtain ⟨ad', cap', e, hcap, hxl, had, hcell⟩ := Xgm h hy
  injection e with e1 _ e2
  subst e1; subst e2
  have hlen : ((xs.drop l).take m).length = m := by rw [List.length_take, List.length_drop]; omega
  rcases Nat.eq_zero_or_pos m with hm | hm
  · subst hm
    have := Xek.sl (w := w) (A := A) y' sz _ (if cap = l then ad else ad.map (·.add (l * sz))) (cap - l) (fun _ _ => undef) hy' (by simp) (by simp) (by simp) (by simp) (by simp)
    simpa using this
  · have hne : xs ≠ [] := by intro e; subst e; simp at hlm; omega
    obtain ⟨g, o, rfl⟩ := had hne
    have hcl : ¬ cap = l := by omega
    have hx' : ∀ i, i < m → ((xs.drop l).take m)[i]? = xs[l + i]? := by intro i hi; rw [List.getElem?_take_of_lt hi, List.getElem?_drop]
    have := Xek.sl (w := w) (A := A) y' sz ((xs.drop l).take m) (some ⟨g, o + l * sz, none⟩) (cap - l) (fun i j => (w.cell? ⟨g, o + ((l + i) * sz + j), none⟩).getD undef) hy'
      (fun x hx => hxl x (List.mem_of_mem_drop (List.mem_of_mem_take hx))) (fun i j x z hi hj => ?_) (fun i j hi hj => ?_) (fun _ => ⟨_, _, rfl⟩) (by omega)
    · rw [hlen] at this
      simpa [hcl, Xgn] using this
    · have him : i < m := by have := (List.getElem?_eq_some_iff.1 hi).1; omega
      rw [hx' i him] at hi
      obtain ⟨g', o', u, e, _, hc, hr⟩ := hcell (l + i) j x z hi hj
      cases e
      rw [hc]; exact hr
    · rw [hlen] at hi
      have hli : l + i < xs.length := by omega
      have hjx : j < xs[l + i].length := by rw [hxl _ (List.getElem_mem hli)]; exact hj
      obtain ⟨g', o', u, e, hA, hc, hr⟩ := hcell (l + i) j _ _ (List.getElem?_eq_getElem hli) (List.getElem?_eq_getElem hjx)
      cases e
      refine ⟨g, _, rfl, hA, ?_⟩
      have e1 : o + l * sz + (i * sz + j) = o + ((l + i) * sz + j) := by rw [Nat.add_mul]; omega
      rw [e1, hc]; rfl

theorem Yaz (hT : TOk P T) (h : Xbv C μ A σ a w) (hd : ∀ d, o.dst = some d → d < C.n) {t : Nat} {x : Operand} {lo hi : Option Operand} (ho : o.op = .slice t x lo hi none) {ks ks' : List Key} {e : Eff}
    (hr : (aop T o).run σ ks = some (e, ks')) (hc : e.cond) : Xhj P C o (e.app σ) a w := by
  simp only [aop, ho] at hr
  obtain ⟨v, k1, hv, hr⟩ := Xbc hr
  have h1 := h.ev hv
  -- a slice's cut, as the program Xp2 it
  have cut : ∀ {e' n b : Nat} {z : List SV} {ek : EK} {ei : TI} {len cap : Nat} {ad : Option Addr} {l hh : Int}, T t = some ⟨.slice e', n, b, z, ek⟩ → T e' = some ei → a.eval x = .slice ad len cap → len ≤ cap →
      ((lo = none ∧ l = 0) ∨ ∃ y kd, lo = some y ∧ Ev σ y (.sv (.int kd l))) → ((hi = none ∧ hh = len) ∨ ∃ y kd, hi = some y ∧ Ev σ y (.sv (.int kd hh))) → 0 ≤ l ∧ l ≤ hh ∧ hh ≤ len →
      (execOp a.eval o).run P w = .ok (.value (.slice (if cap = l.toNat then ad else ad.map (·.add (l.toNat * ei.size))) (hh.toNat - l.toNat) (cap - l.toNat))) w := by
    intro e' n b z ek ei len cap ad l hh ht he hx hlc hl hh' hc'
    have hb := Xwg (P := P) h (cap := cap) true hl hh' hc' hlc w
    simp [execOp, ho, hx, Instr.sliceAt, Instr.slice, run_underlying (Xe4 hT ht), hb, Xbj hT he]
  -- a part of a row of the call's own
  have own : ∀ {id e' n b : Nat} {z : List SV} {ek : EK} {ob : Obj} {sz len : Nat} {xs : List (List SV)} {l hh : Int} {ks : List Key} {ei : TI}, a.eval x = μ id → T t = some ⟨.slice e', n, b, z, ek⟩ → σ.obj id = some ob → ob.elems = some (sz, xs) → xs.length = len → ((lo = none ∧ l = 0) ∨ ∃ y kd, lo = some y ∧ Ev σ y (.sv (.int kd l))) → ((hi = none ∧ hh = len) ∨ ∃ y kd, hi = some y ∧ Ev σ y (.sv (.int kd hh))) →
      (Xdb o (.sub id ei.size l.toNat (hh.toNat - l.toNat)) (0 ≤ l ∧ l ≤ hh ∧ hh ≤ len)).run σ ks = some (e, ks') → T e' = some ei → Xhj P C o (e.app σ) a w := by
    intro id e' n b z ek ob sz len xs l hh ks ei hu ht hob hx hlen hl hh' hr he
    subst hlen
    rcases Xef (h.objs id _ hob) hx with ⟨hm, hnil⟩ | ⟨g, o', cap, cs, E, fr, hm, hg, hf, hxc, hcm, hs, _⟩
    · subst hnil
      refine Xat h hr hd (fun hcond => cut ht he (hu.trans hm) (Nat.le_refl _) hl hh' hcond) (fun hcond => ?_) hc
      simp at hcond
      refine .sub _ _ _ _ none _ 0 0 _ hm (by simp; omega) (by simp; omega) (fun hp => by simp at hp) (fun _ => by split <;> rfl)
    · refine Xat h hr hd (fun hcond => cut ht he (hu.trans hm) hxc hl hh' hcond) (fun hcond => ?_) hc
      refine .sub _ _ _ _ _ _ _ cap _ hm (by omega) (by omega) (fun hp => ⟨g, o', rfl, ?_⟩) (fun hp => by rw [if_pos (by omega)])
      rw [if_neg (by omega)]
      simp [Xgn]
  unfold Yfy at hr
  split at hr
  · rename_i ht
    split at hr
    · obtain ⟨l, k2, hr, hl⟩ := Xiy hr
      obtain ⟨hh, k3, hr, hh'⟩ := Xiy hr
      refine Xat h hr hd (fun hcond => ?_) (fun _ => .sv (.str _)) hc
      have hb := Xwg (P := P) h (cap := _) false hl hh' hcond (Nat.le_refl _) w
      simp [execOp, ho, Xh7 h1, Instr.sliceAt, Instr.slice, run_underlying (Xyk hT ht), hb]
    · simp [RM.run] at hr
  · rename_i ht
    split at hr
    · rename_i he
      split at hr
      · split at hr
        · rename_i hsz
          have hsz := Nat.eq_of_beq_eq_true hsz
          obtain ⟨l, k2, hr, hl⟩ := Xiy hr
          obtain ⟨hh, k3, hr, hh'⟩ := Xiy hr
          generalize hu : a.eval x = u at h1
          cases h1 with
          | sv h1 =>
            obtain ⟨ad, cap, rfl, hcap, _⟩ := Xgm h1 rfl
            simp only [List.length_map] at hu hcap h1
            refine Xat h hr hd (fun hcond => cut ht he hu hcap hl hh' hcond) (fun hcond => .sv ?_) hc
            rw [hsz]
            exact Ybw h1 rfl (by simp) rfl (by simp [List.map_drop, List.map_take]) (by omega)
        · simp [RM.run] at hr
      · split at hr
        · rename_i hsz
          have hsz := Nat.eq_of_beq_eq_true hsz
          obtain ⟨l, k2, hr, hl⟩ := Xiy hr
          obtain ⟨hh, k3, hr, hh'⟩ := Xiy hr
          generalize hu : a.eval x = u at h1
          cases h1 with
          | sv h1 =>
            obtain ⟨ad, cap, rfl, hcap, _⟩ := Xgm h1 rfl
            simp only [List.length_map] at hu hcap h1
            refine Xat h hr hd (fun hcond => cut ht he hu hcap hl hh' hcond) (fun hcond => .sv ?_) hc
            rw [hsz]
            exact Ybw h1 rfl (by simp) rfl (by simp [List.map_drop, List.map_take]) (by omega)
        · simp [RM.run] at hr
      · generalize hu : a.eval x = u at h1
        cases h1 with
        | own id =>
          simp only [RM.run] at hr
          split at hr
          · obtain ⟨l, k2, hr, hl⟩ := Xiy hr
            obtain ⟨hh, k3, hr, hh'⟩ := Xiy hr
            exact own hu ht ‹_› rfl (by simp) hl hh' hr he
          · obtain ⟨l, k2, hr, hl⟩ := Xiy hr
            obtain ⟨hh, k3, hr, hh'⟩ := Xiy hr
            exact own hu ht ‹_› rfl (by simp) hl hh' hr he
          · simp [RM.run] at hr
      · simp [RM.run] at hr
    · simp [RM.run] at hr
  · simp [RM.run] at hr
end
end Go.Proofs.YtlebkepfhdjnmacAL
/- An abstract logic for Go functions: operations that make memory. Conditions: as each statement tells. -/
namespace Go.Proofs.YtlebkepfhdjnmacAL
open Go.RowKit
set_option linter.unusedVariables false
section
variable {P : Program} {T : Nat → Option TI} {C : Ctx} {μ : Nat → Value} {A : Nat → Prop} {σ σ' : St} {a : Act} {w w' : World} {o : Oper}

def St.kill (σ : St) (q : List (Nat × Option Obj)) : St := { σ with o := q ++ σ.o }
def Xok (q : List (Nat × Option Obj)) : Prop := ∀ p ∈ q, p.2 = none
theorem Xfw : Xok [] := fun p hp => by simp at hp
theorem Xle {id : Nat} {q : List (Nat × Option Obj)} (h : Xok q) : Xok ((id, none) :: q) := fun p hp => by
  rcases List.mem_cons.1 hp with rfl | hp
  · rfl
  · exact h p hp
theorem Xlh {q : List (Nat × Option Obj)} (hq : Xok q) (σ : St) (id : Nat) : (σ.kill q).obj id = if inQ id q = true then none else σ.obj id := by
  induction q with
  | nil => rfl
  | cons p q ih =>
    obtain ⟨k, ob⟩ := p
    have hk : ob = none := hq (k, ob) (by simp)
    subst hk
    have e : (σ.kill ((k, none) :: q)).obj id = if k = id then none else (σ.kill q).obj id := St.obj_setO (σ.kill q) k none id
    rw [e, ih (fun p hp => hq p (by simp [hp]))]
    by_cases hkid : k = id
    · subst hkid; simp [inQ]
    · have hb : Nat.beq k id = false := by
        cases hb : Nat.beq k id with
        | false => rfl
        | true => exact absurd (Nat.eq_of_beq_eq_true hb) hkid
      simp [inQ, hb, hkid]
theorem Yb6 {q : List (Nat × Option Obj)} (hq : Xok q) {id : Nat} (h : σ.fresh id) : (σ.kill q).fresh id :=
  ⟨h.1, fun k ob hk => by
    rw [Xlh hq] at hk
    split at hk
    · cases hk
    · exact h.2 k ob hk⟩
theorem Yey {id : Nat} {x : Operand} {v : AV} (h : σ.fresh id) (hv : Ev σ x v) : v.has id = false := by
  cases x with
  | tmp t =>
    cases hv
    unfold St.slot
    cases e : lk σ.s t with
    | none => rfl
    | some v => exact h.1 t v e
  | const c =>
    have hv' : Xmp c = some v := hv
    unfold Xmp at hv'
    split at hv' <;> cases hv' <;> rfl
  | func f => cases hv; rfl
  | global g => exact hv.elim
theorem Yc8 (id : Nat) : ∀ l : List SV, AV.hasL id (l.map .sv) = false
  | [] => rfl
  | x :: l => by simp [AV.hasL, AV.has, Yc8 id l]
theorem Yc2 {id : Nat} {x : AV} {cs : List AV} (h : x.cells = some cs) (hx : x.has id = false) : AV.hasL id cs = false := by
  unfold AV.cells at h
  split at h
  · split at h
    · cases h; simpa [AV.has] using hx
    · cases h
  · cases h
  · cases h
  · cases h; simp [AV.hasL, hx]

theorem Xjo {q : List (Nat × Option Obj)} {v : Nat → AV} {ob : Obj} {c : Prop} {ks ks' : List Key} {e : Eff} {u : Value} (h : Xbv C μ A (σ.kill q) a w) (hk : Xok q) (hr : (Xxw o v ob q c).run σ ks = some (e, ks'))
    (hd : ∀ d, o.dst = some d → d < C.n) (hn : Xut C σ e) (hrun : (execOp a.eval o).run P w = .ok (.value u) w') (hf : Fr (fun g => g < w.heap.size) w w') (hv : ∀ g, Xem u = some g → w.heap.size ≤ g)
    (hhas : ∀ id, σ.fresh id → ob.has id = false) (ho : Xg8 w' A μ ob u) (hrep : ∀ μ' id, μ' id = u → Rep w' A μ' (v id) u) : Xhj P C o (e.app σ) a w := by
  obtain ⟨d, h1, rfl⟩ := Xlk hr
  obtain ⟨hfr, hpin⟩ := hn (d * 16) (by simp)
  have ho' : Xg8 w' A (upd μ (d * 16) u) ob u := ho.frame (fun _ h => h) (fun _ _ => rfl) (fun _ _ => rfl) fun i hi => Xuo μ u fun e => by
    subst e
    rw [hhas _ hfr] at hi; cases hi
  have h2 := (h.new hf (Yb6 hk hfr) hpin hv ho').put (d := some d) (hrep _ _ (Xe3 μ (d * 16) u)) (fun t ht => hd t (h1.trans ht))
  refine Xhu hrun ⟨upd μ (d * 16) u, A, ?_⟩
  rw [h1]
  exact h2

theorem Xbv.one (hR : Xbv C μ A σ a w) {w1 : World} {A1 : Nat → Prop} {x : AV} (hx : x.one = true) {u : Value} (h : Rep w1 A1 μ x u) : u.oneCell' = true := by
  cases h with
  | any => cases hx
  | sv h => exact h.one
  | own id => exact hR.mu1 id
  | agg => cases hx
  | tup => cases hx
  | _ => rfl
theorem Xv8 : ∀ {l : List AV}, AV.allOne l = true → ∀ x ∈ l, x.one = true
  | [], _, x, hx => by simp at hx
  | y :: l, h, x, hx => by
    rw [AV.allOne, Bool.and_eq_true] at h
    rcases List.mem_cons.1 hx with rfl | hx
    · exact h.1
    · exact Xv8 h.2 x hx
theorem Xbv.cells (hR : Xbv C μ A σ a w) {x : AV} {cs : List AV} {u : Value} (hx : x.cells = some cs) (h : Rep w A μ x u) :
    u.cells.size = cs.length ∧ ∀ (j : Nat) (y : AV) (v : Value), cs[j]? = some y → u.cells[j]? = some v → Rep w A μ y v ∧ v.oneCell' = true := by
  unfold AV.cells at hx
  split at hx
  · split at hx
    · rename_i hall
      cases hx
      cases h with
      | agg _ vs hl hv => exact ⟨hl, fun j y v hy hu => ⟨hv j y v hy hu, hR.one (Xv8 hall y (List.mem_of_getElem? hy)) (hv j y v hy hu)⟩⟩
    · cases hx
  · cases hx
  · cases hx
  · rename_i h1 h2 h3
    cases hx
    have hone : x.one = true := by
      cases x <;> first | rfl | exact absurd rfl h2 | exact absurd rfl (h1 _) | exact absurd rfl (h3 _)
    have hu1 := hR.one hone h
    have hc : u.cells = #[u] := by cases u <;> first | rfl | (cases hu1)
    rw [hc]
    refine ⟨rfl, fun j y v hy hv => ?_⟩
    cases j with
    | zero => simp at hy hv; subst hy; subst hv; exact ⟨h, hu1⟩
    | succ j => simp at hy

theorem Yd4 (h : Xbv C μ A σ a w) (hd : ∀ d, o.dst = some d → d < C.n) {t : Nat} {x : Operand} (ho : o.op = .box t x) {ks ks' : List Key} {e : Eff}
    (hr : (aop T o).run σ ks = some (e, ks')) (hn : Xut C σ e) : Xhj P C o (e.app σ) a w := by
  simp only [aop, ho] at hr
  obtain ⟨v, k1, hv, hr⟩ := Xbc hr
  split at hr
  · rename_i cs hcs
    obtain ⟨hsz, hrep⟩ := h.cells hcs (h.ev hv)
    refine Xjo (w' := w.alloc (.cells (a.eval x).cells t)) (u := .pointer (some ⟨w.heap.size, 0, none⟩)) h Xfw hr hd hn ?_ (Xm5 w _) (fun g hg => by simp [Xem] at hg; omega) (fun id hf => Yc2 hcs (Yey hf hv)) ?_ (fun μ' id hm => .ptr id 0 _ hm)
    · simp [execOp, ho, Instr.box, newVar, newRow]
    · refine .box cs w.heap.size _ t (0, 0) (heap_alloc_new w _) (fun k _ => by simp) hsz fun j y u hy hu => ⟨(hrep j y u hy hu).1.frame (fun _ h => h) (fun g hg => heap_alloc_old w _ g (h.stab g hg).1) (fun _ _ => rfl), (hrep j y u hy hu).2⟩
  · simp [RM.run] at hr

theorem Xpu {z : Value} {l : List SV} (hz : z.cells.toList = l.map SV.val) (hf : Xop l = true) (w : World) (A : Nat → Prop) (μ : Nat → Value) :
    z.cells.size = l.length ∧ ∀ (j : Nat) (y : AV) (u : Value), (l.map AV.sv)[j]? = some y → z.cells[j]? = some u → Rep w A μ y u ∧ u.oneCell' = true := by
  refine ⟨by rw [← Array.length_toList, hz, List.length_map], fun j y u hy hu => ?_⟩
  have hu' : z.cells.toList[j]? = some u := by simpa using hu
  rw [hz, List.getElem?_map] at hu'
  rw [List.getElem?_map] at hy
  obtain ⟨x, hx, rfl⟩ := Option.map_eq_some_iff.1 hy
  rw [hx] at hu'
  cases hu'
  have := SV.flat_rep (Xmd hf x (List.mem_of_getElem? hx)) w A
  exact ⟨.sv this, this.one⟩

theorem Yaw (hT : TOk P T) (h : Xbv C μ A σ a w) (hd : ∀ d, o.dst = some d → d < C.n) {t : Nat} (ho : o.op = .alloc t) {ks ks' : List Key} {e : Eff}
    (hr : (aop T o).run σ ks = some (e, ks')) (hn : Xut C σ e) : Xhj P C o (e.app σ) a w := by
  simp only [aop, ho] at hr
  split at hr
  · rename_i ti ht
    obtain ⟨z, hz, hzc⟩ := Xxz (P := P) hT ht w
    obtain ⟨hsz, hrep⟩ := Xpu hzc (hT t ti ht).flat (w.alloc (.cells z.cells t)) A μ
    refine Xjo (w' := w.alloc (.cells z.cells t)) (u := .pointer (some ⟨w.heap.size, 0, none⟩)) h Xfw hr hd hn ?_ (Xm5 w _) (fun g hg => by simp [Xem] at hg; omega) (fun id hf => Yc8 id _) ?_ (fun μ' id hm => .ptr id 0 _ hm)
    · simp [execOp, ho, Instr.alloc, hz, newVar, newRow]
    · exact .box _ w.heap.size _ t (0, 0) (heap_alloc_new w _) (fun k _ => by simp) (by simpa using hsz) hrep
  · simp [RM.run] at hr
end
end Go.Proofs.YtlebkepfhdjnmacAL
/- An abstract logic for Go functions: loads and stores. Conditions: as each statement tells. -/
namespace Go.Proofs.YtlebkepfhdjnmacAL
open Go.RowKit
set_option linter.unusedVariables false
section
variable {P : Program} {T : Nat → Option TI} {C : Ctx} {μ : Nat → Value} {A : Nat → Prop} {σ σ' : St} {a : Act} {w w' : World} {o : Oper}

theorem Xbv.box (h : Xbv C μ A σ a w) {id : Nat} {cells : List AV} (hid : σ.obj id = some (.box cells)) :
    ∃ g cs E fr, μ id = .pointer (some ⟨g, 0, none⟩) ∧ w.heap[g]? = some (.cells cs E fr) ∧ NF cs fr ∧ cs.size = cells.length ∧
      ∀ (j : Nat) (y : AV) (u : Value), cells[j]? = some y → cs[j]? = some u → Rep w A μ y u ∧ u.oneCell' = true := by
  have ho := h.objs id _ hid
  generalize hm : μ id = v at ho
  cases ho with
  | box _ g cs E fr hg hf hl h' => exact ⟨g, cs, E, fr, rfl, hg, hf, hl, h'⟩
  | none _ sz hx => cases hx
  | row _ sz xs hx => cases hx

theorem Yds {α : Type} {β : Type 1} (enc : α → β) (l : List α) (d : α) {i : Nat} (h : i < l.length) : (l.map enc)[i]? = some (enc (l.getD i d)) := by simp [h]

theorem Ycl (hT : TOk P T) (h : Xbv C μ A σ a w) (hd : ∀ d, o.dst = some d → d < C.n) {t : Nat} {x : Operand} (ho : o.op = .load t x) {ks ks' : List Key} {e : Eff}
    (hr : (aop T o).run σ ks = some (e, ks')) (hc : e.cond) : Xhj P C o (e.app σ) a w := by
  simp only [aop, ho] at hr
  obtain ⟨v, k1, hv, hr⟩ := Xbc hr
  have h1 := h.ev hv
  -- a load out of cells that are known
  have key : ∀ {ti : TI} {cells : List AV} {g b off : Nat} {y : AV} {c : Prop} {ks : List Key}, T t = some ti → a.eval x = .pointer (some ⟨g, b + off, none⟩) →
      (c → ∀ (j : Nat) (y : AV), cells[j]? = some y → ∃ u, w.cell? ⟨g, b + j, none⟩ = some u ∧ Rep w A μ y u) → Xlv ti cells off = some y → (Xdb o y c).run σ ks = some (e, ks') → Xhj P C o (e.app σ) a w := by
    intro ti cells g b off y c ks ht hx hcell hp hr
    obtain ⟨d, hd1, rfl⟩ := Xlj hr
    obtain ⟨u, hu, hrep⟩ := Xmr (P := P) hT ht (hcell hc) hp
    refine Xat h hr hd (fun _ => ?_) (fun _ => hrep) hc
    simp [execOp, ho, hx, Instr.loadAt, Instr.sureAddr, hu]
  -- an element of a row of the call's own
  have elem : ∀ {ti : TI} {id sz i off : Nat} {ob : Obj} {xs : List (List SV)} {cells : List SV} {len : Nat} {y : AV} {ks : List Key}, T t = some ti → v = .eptr id sz i off → σ.obj id = some ob → ob.elems = some (sz, xs) → (i < len → xs[i]? = some cells) →
      Xlv ti (cells.map .sv) off = some y → (Xdb o y (i < len)).run σ ks = some (e, ks') → Xhj P C o (e.app σ) a w := by
    intro ti id sz i off ob xs cells len y ks ht hv1 hob hx hget hp hr0
    subst hv1
    obtain ⟨d, hd1, rfl⟩ := Xlj hr0
    have hlt : i < len := hc
    have hxi := hget hlt
    generalize hu : a.eval x = u at h1
    cases h1 with
    | eptr _ _ _ _ g o' n cap hm =>
      rcases Xef (h.objs id ob hob) hx with ⟨hnil, hn0⟩ | ⟨g', o2, cap', cs, E, fr, hm', hg, hf, hxc, hcm, hs, hlen, hcell⟩
      · subst hn0; simp at hxi
      · rw [hm] at hm'
        injection hm' with e1 e2 e3
        injection e1 with e1
        injection e1 with e1 e4
        subst e1; subst e4
        refine key (cells := cells.map .sv) (b := o' + i * sz) ht (by rw [hu, Nat.add_assoc]) (fun _ j y hy => ?_) hp hr0
        rw [List.getElem?_map] at hy
        obtain ⟨z, hz, rfl⟩ := Option.map_eq_some_iff.1 hy
        obtain ⟨u, hu, hr⟩ := hcell i j cells z hxi hz
        exact ⟨u, by rw [cell_of_row w g _ cs E fr hg, Nat.add_assoc]; exact hu, .sv hr⟩
  unfold Yhg at hr
  split at hr
  · simp [RM.run] at hr
  · rename_i ti ht
    split at hr
    · -- a box
      simp only [RM.run] at hr
      split at hr
      · rename_i cells hob
        split at hr
        · rename_i y hp
          obtain ⟨g, cs, E, fr, hm, hg, hf, hl, hcell⟩ := h.box hob
          generalize hu : a.eval x = u at h1
          cases h1 with
          | ptr _ _ g' hm' =>
            rw [hm] at hm'
            injection hm' with e1
            injection e1 with e1
            injection e1 with e1
            subst e1
            refine key (cells := cells) (b := 0) ht (by rw [hu, Nat.zero_add]) (fun _ j y hy => ?_) hp hr
            have hj : j < cs.size := by rw [hl]; exact (List.getElem?_eq_some_iff.1 hy).1
            refine ⟨cs[j], ?_, (hcell j y _ hy (Array.getElem?_eq_getElem hj)).1⟩
            rw [cell_of_row w g _ cs E fr hg, Nat.zero_add]; exact Array.getElem?_eq_getElem hj
        · simp [RM.run] at hr
      · simp [RM.run] at hr
    · -- an element
      simp only [RM.run] at hr
      split at hr
      · split at hr
        · rename_i hsz
          have hsz := Nat.eq_of_beq_eq_true hsz
          split at hr
          · exact elem ht (by rw [hsz]) ‹_› rfl (fun hlt => Xrq hlt) ‹_› hr
          · simp [RM.run] at hr
        · simp [RM.run] at hr
      · split at hr
        · rename_i hsz
          have hsz := Nat.eq_of_beq_eq_true hsz
          split at hr
          · exact elem ht (by rw [hsz]) ‹_› rfl (fun hlt => Yds _ _ _ hlt) ‹_› hr
          · simp [RM.run] at hr
        · simp [RM.run] at hr
      · simp [RM.run] at hr
    · split at hr
      · rename_i hp
        generalize hu : a.eval x = u at h1
        cases h1 with
        | iptr _ _ g o' hA hcell =>
          refine key (b := o') ht hu (fun _ j y hy => ?_) hp hr
          rw [List.getElem?_map] at hy
          obtain ⟨z, hz, rfl⟩ := Option.map_eq_some_iff.1 hy
          obtain ⟨u, hc, hr⟩ := hcell j z hz
          exact ⟨u, hc, .sv hr⟩
      · simp [RM.run] at hr
    · simp [RM.run] at hr

/-! ### Stores -/
theorem Xoq {β : Type 1} (l cs : List β) (off : Nat) (h : off + cs.length ≤ l.length) (j : Nat) : (Xl7 l off cs)[j]? = if off ≤ j ∧ j < off + cs.length then cs[j - off]? else l[j]? := by
  unfold Xl7
  rw [List.append_assoc]
  by_cases h1 : j < off
  · rw [List.getElem?_append_left (by rw [List.length_take]; omega), List.getElem?_take_of_lt h1, if_neg (by omega)]
  · rw [List.getElem?_append_right (by rw [List.length_take]; omega), List.length_take, Nat.min_eq_left (by omega)]
    by_cases h2 : j < off + cs.length
    · rw [List.getElem?_append_left (by omega), if_pos (by omega)]
    · rw [List.getElem?_append_right (by omega), List.getElem?_drop, if_neg (by omega)]
      congr 1; omega
theorem Xn0 {β : Type 1} (l cs : List β) (off : Nat) (h : off + cs.length ≤ l.length) : (Xl7 l off cs).length = l.length := by
  unfold Xl7; simp; omega
theorem Xlb (cur : Array Value) (cs : List Value) (b : Nat) (h : b + cs.length ≤ cur.size) (j : Nat) :
    ((cur.toList.take b ++ cs ++ cur.toList.drop (b + cs.length)).toArray)[j]? = if b ≤ j ∧ j < b + cs.length then cs[j - b]? else cur[j]? := by
  have hl : cur.toList.length = cur.size := by simp
  have hcur : cur[j]? = cur.toList[j]? := by simp
  rw [List.getElem?_toArray, List.append_assoc, hcur]
  generalize cur.toList = l at hl
  rw [← hl] at h
  by_cases h1 : j < b
  · rw [List.getElem?_append_left (by rw [List.length_take]; omega), List.getElem?_take_of_lt h1, if_neg (by omega)]
  · rw [List.getElem?_append_right (by rw [List.length_take]; omega), List.length_take, Nat.min_eq_left (by omega)]
    by_cases h2 : j < b + cs.length
    · rw [List.getElem?_append_left (by omega), if_pos (by omega)]
    · rw [List.getElem?_append_right (by omega), List.getElem?_drop, if_neg (by omega)]
      congr 1; omega
theorem Xdy (cur : Array Value) (cs : List Value) (b : Nat) (h : b + cs.length ≤ cur.size) : (cur.toList.take b ++ cs ++ cur.toList.drop (b + cs.length)).toArray.size = cur.size := by
  simp; omega

theorem Xuu {k id : Nat} (h : k ≠ id) : Nat.beq k id = false := by
  cases hb : Nat.beq k id with
  | false => rfl
  | true => exact absurd (Nat.eq_of_beq_eq_true hb) h
theorem Yfc {α : Type 1} {q : List (Nat × Option Obj)} {x : AV} {k : SV → List (Nat × Option Obj) → RM α} {ks : List Key} {r : α × List Key} (hr : (Yii q x k).run σ ks = some r) (hq : Xok q)
    {A1 : Nat → Prop} (h : Xbv C μ A1 (σ.kill q) a w) {u : Value} (hrep : Rep w A1 μ x u) :
    ∃ y q' A2 ks', (k y q').run σ ks' = some r ∧ Xok q' ∧ (∀ g, A1 g → A2 g) ∧ Xbv C μ A2 (σ.kill q') a w ∧ Xek w A2 y u ∧ (∀ id, inQ id q = true → inQ id q' = true) ∧ ∀ g, A2 g → A1 g ∨ ∃ k ob, (σ.kill q).obj k = some ob ∧ Xem (μ k) = some g := by
  unfold Yii at hr
  split at hr
  · cases hrep with
    | sv h1 => exact ⟨_, q, A1, ks, hr, hq, fun _ h => h, h, h1, fun _ h => h, fun _ h => .inl h⟩
  · rename_i id
    split at hr
    · simp [RM.run] at hr
    · rename_i hin
      simp only [RM.run] at hr
      have hob' : (σ.kill q).obj id = σ.obj id := by rw [Xlh hq, hin]; simp
      have go : ∀ {ob : Obj} {sz : Nat} {xs : List (List SV)}, σ.obj id = some ob → ob.elems = some (sz, xs) → ∃ A2, Xbv C μ A2 (σ.kill ((id, none) :: q)) a w ∧ (∀ g, A1 g → A2 g) ∧ Xek w A2 ob.toSV u ∧ ∀ g, A2 g → A1 g ∨ ∃ k ob, (σ.kill q).obj k = some ob ∧ Xem (μ k) = some g := by
        intro ob sz xs hob hx
        obtain ⟨A2, h2, h3, h4, h5⟩ := h.shutRow (hob'.trans hob) hx
        have h6 : ∀ g, A2 g → A1 g ∨ ∃ k ob, (σ.kill q).obj k = some ob ∧ Xem (μ k) = some g := fun g hg => (h5 g hg).imp (fun h => h) (fun e => ⟨id, _, hob'.trans hob, e⟩)
        generalize hu : u = u' at hrep
        cases hrep with
        | own => exact ⟨A2, h2, h3, h4, h6⟩
      have hmono : ∀ i, inQ i q = true → inQ i ((id, none) :: q) = true := fun i hi => by simp [inQ, hi]
      split at hr
      · obtain ⟨A2, h2, h3, h4, h5⟩ := go ‹_› rfl
        exact ⟨_, _, A2, _, hr, Xle hq, h3, h2, h4, hmono, h5⟩
      · obtain ⟨A2, h2, h3, h4, h5⟩ := go ‹_› rfl
        exact ⟨_, _, A2, _, hr, Xle hq, h3, h2, h4, hmono, h5⟩
      · simp [RM.run] at hr
  · simp [RM.run] at hr

theorem Xtp {α : Type 1} : ∀ {cs : List AV} {q : List (Nat × Option Obj)} {k : List SV → List (Nat × Option Obj) → RM α} {ks : List Key} {r : α × List Key} (_ : (Yd8 q cs k).run σ ks = some r) (_ : Xok q)
    {A1 : Nat → Prop} (_ : Xbv C μ A1 (σ.kill q) a w) {us : List Value} (_ : us.length = cs.length) (_ : ∀ (j : Nat) (y : AV) (v : Value), cs[j]? = some y → us[j]? = some v → Rep w A1 μ y v),
    ∃ ys q' A2 ks', (k ys q').run σ ks' = some r ∧ Xok q' ∧ (∀ g, A1 g → A2 g) ∧ Xbv C μ A2 (σ.kill q') a w ∧ ys.length = cs.length ∧ (∀ (j : Nat) (y : SV) (v : Value), ys[j]? = some y → us[j]? = some v → Xek w A2 y v) ∧ (∀ id, inQ id q = true → inQ id q' = true) ∧ ∀ g, A2 g → A1 g ∨ ∃ k ob, (σ.kill q).obj k = some ob ∧ Xem (μ k) = some g
  | [], q, k, ks, r, hr, hq, A1, h, us, hl, hrep => ⟨[], q, A1, ks, hr, hq, fun _ h => h, h, rfl, fun j y v hy => by simp at hy, fun _ h => h, fun _ h => .inl h⟩
  | x :: l, q, k, ks, r, hr, hq, A1, h, [], hl, hrep => by simp at hl
  | x :: l, q, k, ks, r, hr, hq, A1, h, u :: us, hl, hrep => by
    rw [Yd8] at hr
    obtain ⟨y, q1, A2, k1, hr, hq1, hA, h1, hy, hm1, hg1⟩ := Yfc hr hq h (hrep 0 x u rfl rfl)
    obtain ⟨ys, q2, A3, k2, hr, hq2, hA', h2, hyl, hys, hm2, hg2⟩ := Xtp hr hq1 h1 (us := us) (by simpa using hl) (fun j y v hy hv => (hrep (j + 1) y v hy hv).frame hA (fun _ _ => rfl) (fun _ _ => rfl))
    refine ⟨y :: ys, q2, A3, k2, hr, hq2, fun g hg => hA' g (hA g hg), h2, by simp [hyl], fun j z v hz hv => ?_, fun id hi => hm2 id (hm1 id hi), fun g hg => ?_⟩
    rotate_left
    · rcases hg2 g hg with hg | ⟨k, ob, hk, e⟩
      · exact hg1 g hg
      · refine .inr ⟨k, ob, ?_, e⟩
        rw [Xlh hq1] at hk
        rw [Xlh hq]
        split at hk
        · cases hk
        · rename_i hn
          rw [if_neg (fun h => hn (hm1 k h))]; exact hk
    cases j with
    | zero => simp at hz hv; subst hz; subst hv; exact hy.frame hA' (fun _ _ => rfl)
    | succ j => exact hys j z v hz hv

theorem Xy3 (h : Xbv C μ A σ a w) {id g0 : Nat} {ob : Obj} (hid : σ.obj id = some ob) (hg0 : Xem (μ id) = some g0) (cs : Array Value) (g : Nat) (hg : A g) : (w.setRow g0 cs).heap[g]? = w.heap[g]? :=
  setRow_other w g0 g cs fun e => (h.own id ob g0 hid hg0).2 (e ▸ hg)
theorem Xto (hT : TOk P T) {t : Nat} {ti : TI} (ht : T t = some ti) {x y : Operand} (ho : o.op = .store t x y) {g b : Nat} {E : TypeId} {fr : Nat × Nat} {cur : Array Value} (hx : a.eval x = .pointer (some ⟨g, b, none⟩)) (hg : w.heap[g]? = some (.cells cur E fr)) (hf : NF cur fr)
    (hs : (a.eval y).cells.size = ti.size) (hl : b + ti.size ≤ cur.size) (h1 : ∀ u ∈ (a.eval y).cells.toList, u.oneCell' = true) :
    (execOp a.eval o).run P w = .ok .skip (w.setRow g (cur.toList.take b ++ (a.eval y).cells.toList ++ cur.toList.drop (b + ti.size)).toArray) := by
  have h := Xzs (P := P) hT ht hg hf hs hl h1
  simp [execOp, ho, hx, Instr.storeAt, Instr.sureAddr, h]

theorem Xyq (h : Xbv C μ A σ a w) {u : AV} {cs : List AV} {z : Value} (hcs : u.cells = some cs) (h2 : Rep w A μ u z) : ∀ v ∈ z.cells.toList, v.oneCell' = true := by
  obtain ⟨hsz, hrep⟩ := h.cells hcs h2
  intro v hv
  obtain ⟨j, hj, he⟩ := List.getElem_of_mem hv
  have hj' : j < z.cells.size := by simpa using hj
  have : z.cells[j]? = some v := by rw [Array.getElem?_eq_getElem hj', ← he]; simp
  exact (hrep j cs[j] v (List.getElem?_eq_getElem (by omega)) this).2
theorem Yd6 (hT : TOk P T) (h : Xbv C μ A σ a w) {t : Nat} {x y : Operand} (ho : o.op = .store t x y) (hdst : o.dst = none) {ti : TI} (ht : T t = some ti) {id off : Nat} {u : AV} {cs cells : List AV} (h1 : Rep w A μ (.ptr id off) (a.eval x)) (h2 : Rep w A μ u (a.eval y))
    (hcs : u.cells = some cs) (hlen : cs.length = ti.size) (hob : σ.obj id = some (.box cells)) (hle : off + cs.length ≤ cells.length) : Xhj P C o (σ.setO id (some (.box (Xl7 cells off cs)))) a w := by
  have hput : a.put o.dst undef = a := by rw [hdst]; rfl
  obtain ⟨hsz, hrep⟩ := h.cells hcs h2
  have hone := Xyq h hcs h2
  obtain ⟨g, cur, E, fr, hm, hg, hf, hl, hcell⟩ := h.box hob
  generalize hx : a.eval x = z at h1
  cases h1 with
  | ptr _ _ g' hm' =>
    rw [hm] at hm'
    injection hm' with e1
    injection e1 with e1
    injection e1 with e1
    subst e1
    have hb : off + ti.size ≤ cur.size := by omega
    have hlc : (a.eval y).cells.toList.length = ti.size := by simp; omega
    have hown : Xem (μ id) = some g := by rw [hm]; rfl
    refine Xy1 (Xto (P := P) hT ht ho hx hg hf (by omega) hb hone) ?_
    rw [hput]
    refine ⟨μ, A, h.write hob hown (Xsc w g _) ?_⟩
    have hA := Xy3 h hob hown (cur.toList.take off ++ (a.eval y).cells.toList ++ cur.toList.drop (off + ti.size)).toArray
    rw [← hlc] at hb hA ⊢
    rw [hm]
    refine .box _ g _ E fr (setRow_heap w g cur _ E fr hg) (fun k hk => hf k (by rwa [Xdy _ _ _ hb] at hk)) (by rw [Xdy _ _ _ hb, Xn0 _ _ _ hle]; exact hl) fun j y' u' hy' hu' => ?_
    rw [Xlb _ _ _ hb] at hu'
    rw [Xoq _ _ _ hle] at hy'
    have hcl : cs.length = (a.eval y).cells.toList.length := by omega
    rw [hcl] at hy'
    by_cases hin : off ≤ j ∧ j < off + (a.eval y).cells.toList.length
    · rw [if_pos hin] at hy' hu'
      have := hrep (j - off) y' u' hy' (by simpa using hu')
      exact ⟨this.1.frame (fun _ h => h) hA (fun _ _ => rfl), this.2⟩
    · rw [if_neg hin] at hy' hu'
      have := hcell j y' u' hy' hu'
      exact ⟨this.1.frame (fun _ h => h) hA (fun _ _ => rfl), this.2⟩

theorem Xwl (hT : TOk P T) (h : Xbv C μ A σ a w) {t : Nat} {x y : Operand} (ho : o.op = .store t x y) (hdst : o.dst = none) {ti : TI} (ht : T t = some ti) {id sz i off : Nat} {u : AV} {cs : List AV} (h1 : Rep w A μ (.eptr id sz i off) (a.eval x)) (h2 : Rep w A μ u (a.eval y))
    (hcs : u.cells = some cs) (hlen : cs.length = ti.size) {ob ob' : Obj} {xs : List (List SV)} {el el' : List SV} (hob : σ.obj id = some ob) (hx : ob.elems = some (sz, xs)) (hi : xs[i]? = some el) (hle : off + cs.length ≤ el.length) (hx' : ob'.elems = some (sz, xs.set i el')) (hwf : ob'.wf) (hel' : el'.length = sz)
    {ys : List SV} {q : List (Nat × Option Obj)} {A2 : Nat → Prop} (hq : Xok q) (hA2 : ∀ g, A g → A2 g) (hR : Xbv C μ A2 (σ.kill q) a w) (hyl : ys.length = cs.length) (hys : ∀ (j : Nat) (z : SV) (v : Value), ys[j]? = some z → (a.eval y).cells.toList[j]? = some v → Xek w A2 z v)
    (hin : inQ id q = true) (hg2 : ∀ g, A2 g → A g ∨ ∃ k ob, k ≠ id ∧ σ.obj k = some ob ∧ Xem (μ k) = some g)
    (hnew : ∀ (j : Nat) (z : SV), el'[j]? = some z → ∃ z', (Xl7 el off ys)[j]? = some z' ∧ ∀ w A v, Xek w A z' v → Xek w A z v) : Xhj P C o ((σ.kill q).setO id (some ob')) a w := by
  have hput : a.put o.dst undef = a := by rw [hdst]; rfl
  obtain ⟨hsz, hrep⟩ := h.cells hcs h2
  have hone := Xyq h hcs h2
  rcases Xef (h.objs id ob hob) hx with ⟨hnil, hn0⟩ | ⟨g, o2, cap, cur, E, fr, hm, hg, hf, hxc, hcm, hs, hxl, hcell⟩
  · subst hn0; simp at hi
  generalize hxe : a.eval x = z at h1
  cases h1 with
  | eptr _ _ _ _ g' o3 n' cap' hm' =>
    rw [hm] at hm'
    injection hm' with e1 e2 e3
    injection e1 with e1
    injection e1 with e1 e4
    subst e1; subst e4
    have hilt : i < xs.length := (List.getElem?_eq_some_iff.1 hi).1
    have hell : el.length = sz := hxl el (List.mem_of_getElem? hi)
    have hbnd : (i + 1) * sz ≤ cap * sz := Nat.mul_le_mul_right _ (by omega)
    rw [Nat.add_mul, Nat.one_mul] at hbnd
    have hb : o2 + (i * sz + off) + ti.size ≤ cur.size := by omega
    have hlc : (a.eval y).cells.toList.length = ti.size := by simp; omega
    have hown : Xem (μ id) = some g := by rw [hm]; rfl
    have hgA2 : ¬ A2 g := fun hA => by
      rcases hg2 g hA with hA | ⟨k, ob2, hk, hko, e⟩
      · exact (h.own id ob g hob hown).2 hA
      · exact h.sep k id ob2 ob g hk hko hob e hown
    refine Xy1 (Xto (P := P) hT ht ho hxe hg hf (by omega) hb hone) ?_
    rw [hput]
    have hback : Xbv C μ A2 ((σ.kill q).setO id (some ob)) a w := by
      refine hR.back (fun g' hg' => ?_) ((h.objs id ob hob).frame hA2 (fun _ _ => rfl) (fun _ _ => rfl) (fun _ _ => rfl)) (fun v hv => h.pins id v ob hv hob)
      rw [hown] at hg'
      cases hg'
      refine ⟨(h.own id ob g hob hown).1, hgA2, fun k o' hk hko => ?_⟩
      rw [Xlh hq] at hko
      split at hko
      · cases hko
      · exact fun e => h.sep k id o' ob g hk hko hob e hown
    have hwr := hback.write (w' := w.setRow g (cur.toList.take (o2 + (i * sz + off)) ++ (a.eval y).cells.toList ++ cur.toList.drop (o2 + (i * sz + off) + ti.size)).toArray) (ob' := ob') (by rw [St.obj_setO, if_pos rfl]) hown (Xsc w g _) ?_
    · refine ⟨μ, A2, hwr.weaken (fun _ _ h => .inl h) fun k ob3 hk => ?_⟩
      rw [St.obj_setO] at hk ⊢
      by_cases e : id = k
      · rw [if_pos e] at hk ⊢; exact hk
      · rw [if_neg e] at hk ⊢
        rw [St.obj_setO, if_neg e]; exact hk
    · have hA : ∀ k, A2 k → (w.setRow g (cur.toList.take (o2 + (i * sz + off)) ++ (a.eval y).cells.toList ++ cur.toList.drop (o2 + (i * sz + off) + ti.size)).toArray).heap[k]? = w.heap[k]? := fun k hk => setRow_other w g k _ fun e => hgA2 (e ▸ hk)
      rw [← hlc] at hb hA ⊢
      rw [hm, show xs.length = (xs.set i el').length by simp]
      refine .row ob' sz (xs.set i el') hx' hwf g o2 cap _ E fr (setRow_heap w g cur _ E fr hg) (fun k hk => hf k (by rwa [Xdy _ _ _ hb] at hk)) (by simpa using hxc) hcm (by rw [Xdy _ _ _ hb]; exact hs) (fun z hz => ?_) fun i' j z v hz hv => ?_
      · rcases List.mem_or_eq_of_mem_set hz with hz | rfl
        · exact hxl z hz
        · exact hel'
      · rw [Xlb _ _ _ hb]
        by_cases hii : i = i'
        · subst hii
          rw [List.getElem?_set_self hilt] at hz
          cases hz
          have hj : j < sz := by rw [← hel']; exact (List.getElem?_eq_some_iff.1 hv).1
          obtain ⟨z', hz', hr'⟩ := hnew j v hv
          rw [Xoq _ _ _ (by omega)] at hz'
          by_cases hjo : off ≤ j ∧ j < off + ys.length
          · rw [if_pos hjo] at hz'
            rw [if_pos (by omega)]
            have hjl : j - off < (a.eval y).cells.toList.length := by omega
            refine ⟨(a.eval y).cells.toList[j - off], ?_, ?_⟩
            · rw [show o2 + (i * sz + j) - (o2 + (i * sz + off)) = j - off by omega]; exact List.getElem?_eq_getElem hjl
            · exact (hr' _ _ _ (hys (j - off) z' _ hz' (List.getElem?_eq_getElem hjl))).frame (fun _ h => h) hA
          · rw [if_neg hjo] at hz'
            rw [if_neg (by omega)]
            obtain ⟨u', hu', hru⟩ := hcell i j el z' hi hz'
            exact ⟨u', hu', (hr' _ _ _ (hru.frame hA2 (fun _ _ => rfl))).frame (fun _ h => h) hA⟩
        · rw [List.getElem?_set_ne hii] at hz
          have hj : j < sz := by rw [← hxl z (List.mem_of_getElem? hz)]; exact (List.getElem?_eq_some_iff.1 hv).1
          have hne : ¬ (o2 + (i * sz + off) ≤ o2 + (i' * sz + j) ∧ o2 + (i' * sz + j) < o2 + (i * sz + off) + (a.eval y).cells.toList.length) := by
            intro ⟨hlo, hhi⟩
            rcases Nat.lt_or_gt_of_ne hii with hlt | hgt
            · have := Nat.mul_le_mul_right sz (show i + 1 ≤ i' by omega)
              rw [Nat.add_mul, Nat.one_mul] at this; omega
            · have := Nat.mul_le_mul_right sz (show i' + 1 ≤ i by omega)
              rw [Nat.add_mul, Nat.one_mul] at this; omega
          rw [if_neg hne]
          obtain ⟨u', hu', hru⟩ := hcell i' j z v hz hv
          exact ⟨u', hu', (hru.frame hA2 (fun _ _ => rfl)).frame (fun _ h => h) hA⟩

theorem Ya0 (hT : TOk P T) (h : Xbv C μ A σ a w) {t : Nat} {x y : Operand} (ho : o.op = .store t x y) {ks ks' : List Key} {e : Eff}
    (hr : (aop T o).run σ ks = some (e, ks')) (hc : e.cond) : Xhj P C o (e.app σ) a w := by
  simp only [aop, ho] at hr
  obtain ⟨v, k1, hv, hr⟩ := Xbc hr
  obtain ⟨u, k2, hu, hr⟩ := Xbc hr
  have h1 := h.ev hv
  have h2 := h.ev hu
  split at hr
  · rename_i hdst
    unfold Yfz at hr
    split at hr
    · rename_i ti cs ht hcs
      split at hr
      · rename_i hlen
        have hlen := Nat.eq_of_beq_eq_true hlen
        split at hr
        · -- a box
          simp only [RM.run] at hr
          split at hr
          · rename_i hob
            split at hr
            · rename_i hle
              have hle := Nat.le_of_ble_eq_true hle
              simp only [RM.run, Option.some.injEq, Prod.mk.injEq] at hr
              obtain ⟨rfl, _⟩ := hr
              exact Yd6 hT h ho hdst ht h1 h2 hcs hlen hob hle
            · simp [RM.run] at hr
          · simp [RM.run] at hr
        · -- an element of a row
          rename_i id sz i off _
          obtain ⟨ys, q, A2, k3, hr, hq, hA2, hR, hyl, hys, hin, hg⟩ := Xtp hr (Xle Xfw) (h.drop id) (us := (a.eval y).cells.toList)
            (by have := (h.cells hcs h2).1; simpa using this) (fun j z v hz hv => ((h.cells hcs h2).2 j z v hz (by simpa using hv)).1)
          have hin' := hin id (by simp [inQ])
          have hg2 : ∀ g, A2 g → A g ∨ ∃ k ob, k ≠ id ∧ σ.obj k = some ob ∧ Xem (μ k) = some g := by
            intro g hgA
            rcases hg g hgA with hA | ⟨k, ob, hk, e⟩
            · exact .inl hA
            · rw [Xlh (Xle Xfw)] at hk
              by_cases hki : k = id
              · subst hki; simp [inQ] at hk
              · exact .inr ⟨k, ob, hki, by simpa [inQ, Xuu (fun e => hki e.symm)] using hk, e⟩
          simp only [RM.run] at hr
          split at hr
          · rename_i kd l hob
            split at hr
            · rename_i hsz
              have hsz := Nat.eq_of_beq_eq_true hsz
              split at hr
              · split at hr
                · rename_i n _ _ hk
                  simp only [RM.run, Option.some.injEq, Prod.mk.injEq] at hr
                  obtain ⟨rfl, _⟩ := hr
                  subst hk
                  have hc' : i < l.length := hc
                  refine Xwl hT h ho hdst ht h1 h2 hcs hlen (ob' := .ints kd (l.set i n)) (xs := l.map fun n => [SV.int kd n]) (el' := [SV.int kd n]) hob (by rw [hsz]; rfl) (Xrq hc') ?_ ?_ trivial (by rw [hsz]; rfl) hq hA2 hR hyl hys hin' hg2 ?_
                  · rw [← hyl]; simp
                  · rw [hsz]; simp [Obj.elems, List.map_set]
                  · intro j z hz
                    cases j with
                    | zero => simp at hz; subst hz; exact ⟨_, rfl, fun _ _ _ h => h⟩
                    | succ j => simp at hz
                · simp [RM.run] at hr
              · simp [RM.run] at hr
            · simp [RM.run] at hr
          · rename_i c l hob
            have hwf : c.ok := (h.objs id _ hob).wf
            split at hr
            · rename_i hsz
              rw [Bool.and_eq_true] at hsz
              have hsz1 := Nat.eq_of_beq_eq_true hsz.1
              have hsz2 := Nat.le_of_ble_eq_true hsz.2
              split at hr
              · rename_i z hdec
                simp only [RM.run, Option.some.injEq, Prod.mk.injEq] at hr
                obtain ⟨rfl, _⟩ := hr
                have hc' : i < l.length := hc
                refine Xwl hT h ho hdst ht h1 h2 hcs hlen (ob' := .row c (l.set i z)) (xs := l.map c.enc) (el := c.enc (l.getD i c.d)) (el' := c.enc z) hob (by rw [hsz1]; rfl) (Yds _ _ _ hc') (by omega) ?_ hwf (by rw [hsz1]; exact hwf.1 z) hq hA2 hR hyl hys hin' hg2 ?_
                · rw [hsz1]; simp [Obj.elems, List.map_set]
                · intro j v hv
                  exact (hwf.2.2 _ z hdec).2 j v hv
              · simp [RM.run] at hr
            · simp [RM.run] at hr
          · simp [RM.run] at hr
        · simp [RM.run] at hr
      · simp [RM.run] at hr
    · simp [RM.run] at hr
  · simp [RM.run] at hr
end
end Go.Proofs.YtlebkepfhdjnmacAL
/- An abstract logic for Go functions: structs and rows that are written out. Conditions: as each statement tells. -/
namespace Go.Proofs.YtlebkepfhdjnmacAL
open Go.RowKit
set_option linter.unusedVariables false
section
variable {P : Program} {T : Nat → Option TI} {C : Ctx} {μ : Nat → Value} {A : Nat → Prop} {σ σ' : St} {a : Act} {w w' : World} {o : Oper}

inductive EvL (σ : St) : List (Nat × Operand) → List (Nat × AV) → Prop
  | nil : EvL σ [] []
  | cons (i : Nat) (x : Operand) (v : AV) (l : List (Nat × Operand)) (vs : List (Nat × AV)) (h : Ev σ x v) (hl : EvL σ l vs) : EvL σ ((i, x) :: l) ((i, v) :: vs)
theorem Xtm {α : Type 1} : ∀ {l : List (Nat × Operand)} {k : List (Nat × AV) → RM α} {ks : List Key} {r : α × List Key} (_ : (evs l k).run σ ks = some r), ∃ vs ks', EvL σ l vs ∧ (k vs).run σ ks' = some r
  | [], k, ks, r, h => ⟨[], ks, .nil, h⟩
  | (i, x) :: l, k, ks, r, h => by
    rw [evs] at h
    obtain ⟨v, k1, hv, h⟩ := Xbc h
    obtain ⟨vs, k2, hvs, h⟩ := Xtm h
    exact ⟨(i, v) :: vs, k2, .cons i x v l vs hv hvs, h⟩

inductive Xz8 (w : World) (A : Nat → Prop) (μ : Nat → Value) : List (Nat × AV) → List (Nat × Value) → Prop
  | nil : Xz8 w A μ [] []
  | cons (i : Nat) (v : AV) (u : Value) (l : List (Nat × AV)) (us : List (Nat × Value)) (h : Rep w A μ v u) (hl : Xz8 w A μ l us) : Xz8 w A μ ((i, v) :: l) ((i, u) :: us)
theorem Xbv.evL (h : Xbv C μ A σ a w) : ∀ {l : List (Nat × Operand)} {vs : List (Nat × AV)}, EvL σ l vs → Xz8 w A μ vs (l.map fun p => (p.1, a.eval p.2))
  | _, _, .nil => .nil
  | _, _, .cons i x v l vs hv hl => .cons i v (a.eval x) vs _ (h.ev hv) (h.evL hl)
theorem Xz8.frame {A' : Nat → Prop} (hA : ∀ g, A g → A' g) : ∀ {l : List (Nat × AV)} {us : List (Nat × Value)}, Xz8 w A μ l us → Xz8 w A' μ l us
  | _, _, .nil => .nil
  | _, _, .cons i v u l us h hl => .cons i v u l us (h.frame hA (fun _ _ => rfl) (fun _ _ => rfl)) (Xz8.frame hA hl)
theorem Xyz (off : Nat) : ∀ (l : List Value) (n : Nat) (cs : Array Value), let r := (l.zipIdx n).foldl (fun (cs : Array Value) p => cs.setIfInBounds (off + p.2) p.1) cs
    r.size = cs.size ∧ ∀ k, off + n + l.length ≤ cs.size → r[k]? = if off + n ≤ k ∧ k < off + n + l.length then l[k - (off + n)]? else cs[k]?
  | [], n, cs => ⟨rfl, fun k _ => by simp; omega⟩
  | v :: l, n, cs => by
    obtain ⟨h1, h2⟩ := Xyz off l (n + 1) (cs.setIfInBounds (off + n) v)
    refine ⟨by simpa using h1, fun k hle => ?_⟩
    have hle' : off + (n + 1) + l.length ≤ (cs.setIfInBounds (off + n) v).size := by simp at hle ⊢; omega
    have := h2 k hle'
    simp only [List.zipIdx_cons, List.foldl_cons] at this ⊢
    rw [this]
    by_cases hk : k = off + n
    · subst hk
      rw [if_neg (by omega), if_pos (by simp)]
      have : off + n < cs.size := by simp at hle; omega
      simp [Array.getElem?_setIfInBounds_self_of_lt this]
    · by_cases hin : off + (n + 1) ≤ k ∧ k < off + (n + 1) + l.length
      · rw [if_pos hin, if_pos (by simp; omega)]
        obtain ⟨j, hj⟩ : ∃ j, k - (off + n) = j + 1 := ⟨k - (off + n) - 1, by omega⟩
        rw [hj, List.getElem?_cons_succ]
        congr 1; omega
      · rw [if_neg hin, if_neg (by simp; omega), Array.getElem?_setIfInBounds_ne (by omega)]
theorem Xsa (off : Nat) (v : Value) (cs : Array Value) (h : off + v.cells.size ≤ cs.size) :
    (v.cells.zipIdx.foldl (fun (cs : Array Value) p => cs.setIfInBounds (off + p.2) p.1) cs).size = cs.size ∧
      ∀ k, (v.cells.zipIdx.foldl (fun (cs : Array Value) p => cs.setIfInBounds (off + p.2) p.1) cs)[k]? = if off ≤ k ∧ k < off + v.cells.size then v.cells[k - off]? else cs[k]? := by
  have := Xyz off v.cells.toList 0 cs
  rw [← Array.foldl_toList, Array.toList_zipIdx]
  refine ⟨this.1, fun k => ?_⟩
  have h2 := this.2 k (by simpa using h)
  simpa using h2

def Yei (w : World) (A : Nat → Prop) (μ : Nat → Value) (cells : List AV) (cs : Array Value) : Prop :=
  cs.size = cells.length ∧ ∀ (j : Nat) (y : AV) (u : Value), cells[j]? = some y → cs[j]? = some u → Rep w A μ y u ∧ u.oneCell' = true
theorem Xoo (h : Xbv C μ A σ a w) {pl place : Nat → Option (Nat × Nat)} (hpl : ∀ i x, pl i = some x → place i = some x) :
    ∀ {vs : List (Nat × AV)} {us : List (Nat × Value)} {cells cells' : List AV} {cs : Array Value}, Xz8 w A μ vs us → Ycs pl vs cells = some cells' → Yei w A μ cells cs → ∃ cs', Instr.fill place cs us = some cs' ∧ Yei w A μ cells' cs'
  | _, _, cells, cells', cs, .nil, hf, hc => by cases hf; exact ⟨cs, rfl, hc⟩
  | _, _, cells, cells', cs, .cons i v u l us hv hl, hf, hc => by
    rw [Ycs] at hf
    split at hf
    · rename_i off size xs hp hx
      split at hf
      · rename_i hb
        rw [Bool.and_eq_true] at hb
        have h1 := Nat.eq_of_beq_eq_true hb.1
        have h2 := Nat.le_of_ble_eq_true hb.2
        obtain ⟨hs, hr⟩ := h.cells hx hv
        obtain ⟨g1, g2⟩ := Xsa off u cs (by rw [hs, h1, hc.1]; exact h2)
        have hc' : Yei w A μ (Xl7 cells off xs) (u.cells.zipIdx.foldl (fun (cs : Array Value) p => cs.setIfInBounds (off + p.2) p.1) cs) := by
          refine ⟨by rw [g1, hc.1, Xn0 _ _ _ (by omega)], fun j y z hy hz => ?_⟩
          rw [g2] at hz
          rw [Xoq _ _ _ (by omega)] at hy
          by_cases hin : off ≤ j ∧ j < off + xs.length
          · rw [if_pos hin] at hy
            rw [if_pos (by omega)] at hz
            exact hr (j - off) y z hy hz
          · rw [if_neg hin] at hy
            rw [if_neg (by omega)] at hz
            exact hc.2 j y z hy hz
        obtain ⟨cs', hcs, hcc⟩ := Xoo h hpl hl hf hc'
        refine ⟨cs', ?_, hcc⟩
        have hno : ¬ (u.cells.size ≠ size ∨ cs.size < off + u.cells.size) := by
          rw [hs, hc.1]; omega
        simp only [Instr.fill, hpl i _ hp]
        rw [if_neg (by simpa using hno)]
        exact hcs
      · cases hf
    · cases hf

theorem Xbv.zeros (hT : TOk P T) {t : Nat} {ti : TI} (ht : T t = some ti) (h : Xbv C μ A σ a w) : ∃ z, (zeroValue t).run P w = .ok z w ∧ Yei w A μ (ti.zero.map .sv) z.cells := by
  obtain ⟨z, hz, hzc⟩ := Xxz (P := P) hT ht w
  obtain ⟨hsz, hrep⟩ := Xpu hzc (hT t ti ht).flat w A μ
  exact ⟨z, hz, by simpa using hsz, hrep⟩

theorem Yax (hT : TOk P T) (h : Xbv C μ A σ a w) (hd : ∀ d, o.dst = some d → d < C.n) {t : Nat} {parts : Array (Nat × Operand)} (ho : o.op = .build t parts) {ks ks' : List Key} {e : Eff}
    (hr : (aop T o).run σ ks = some (e, ks')) (hc : e.cond) : Xhj P C o (e.app σ) a w := by
  simp only [aop, ho] at hr
  unfold Yfu at hr
  split at hr
  · simp [RM.run] at hr
  · rename_i ti ht
    obtain ⟨z, hz, hzc⟩ := h.zeros (P := P) hT ht
    have hparts : ∀ {vs : List (Nat × AV)}, EvL σ parts.toList vs → Xz8 w A μ vs (parts.map fun (i, x) => (i, a.eval x)).toList := by
      intro vs hvs
      have := h.evL hvs
      simpa using this
    split at hr
    · rename_i fs hk
      obtain ⟨vs, k1, hvs, hr⟩ := Xtm hr
      split at hr
      · rename_i cells hf
        have hkind := (hT t ti ht).kind
        rw [hk] at hkind
        obtain ⟨fields, hu, hfs, hmap⟩ := hkind
        obtain ⟨cs', h1, h2⟩ := Xoo h (pl := Yae fs) (place := fun i => (fs.map fun p => (p.1, p.2.2)).toArray[i]?) (fun i x hx => by
          unfold Yae at hx
          split at hx
          · rename_i off ty size hget
            cases hx
            simp [hget]
          · cases hx) (hparts hvs) hf hzc
        refine Xat (u := .agg cs') h hr hd (fun _ => ?_) (fun _ => .agg _ _ h2.1 fun j y u hy hu => (h2.2 j y u hy hu).1) hc
        simp only [execOp, ho, Instr.build, Sem.run_bind, hz, Result.andThen_ok, run_underlying hu, hmap, Sem.run_pure]
        rw [h1]
        rfl
      · simp [RM.run] at hr
    · rename_i n e' hk
      split at hr
      · rename_i ei he
        obtain ⟨vs, k1, hvs, hr⟩ := Xtm hr
        split at hr
        · rename_i cells hf
          have hkind := (hT t ti ht).kind
          rw [hk] at hkind
          have hu : P.underlying t = some (.array n e') := hkind
          obtain ⟨cs', h1, h2⟩ := Xoo h (place := fun i => some (i * ei.size, ei.size)) (fun i x hx => hx) (hparts hvs) hf hzc
          refine Xat (u := .agg cs') h hr hd (fun _ => ?_) (fun _ => .agg _ _ h2.1 fun j y u hy hu => (h2.2 j y u hy hu).1) hc
          simp only [execOp, ho, Instr.build, Sem.run_bind, hz, Result.andThen_ok, run_underlying hu, Xbj hT he, Sem.run_pure]
          rw [h1]
          rfl
        · simp [RM.run] at hr
      · simp [RM.run] at hr
    · simp [RM.run] at hr
end
end Go.Proofs.YtlebkepfhdjnmacAL
/- An abstract logic for Go functions: rows that are made, rows that grow. Conditions: as each statement tells. -/
namespace Go.Proofs.YtlebkepfhdjnmacAL
open Go.RowKit
set_option linter.unusedVariables false
section
variable {P : Program} {T : Nat → Option TI} {C : Ctx} {μ : Nat → Value} {A : Nat → Prop} {σ σ' : St} {a : Act} {w w' : World} {o : Oper}

theorem Xyw (sz : Nat) : ∀ (us : List (Nat × Value)) (n0 : Nat) (cs : Array Value), (∀ (m : Nat) (p : Nat × Value), us[m]? = some p → p.1 = n0 + m ∧ p.2.cells.size = sz) → (n0 + us.length) * sz ≤ cs.size →
    ∃ cs', Instr.fill (fun i => some (i * sz, sz)) cs us = some cs' ∧ cs'.size = cs.size ∧ (∀ k, k < n0 * sz → cs'[k]? = cs[k]?) ∧ ∀ (m : Nat) (p : Nat × Value) (j : Nat), us[m]? = some p → j < sz → cs'[(n0 + m) * sz + j]? = p.2.cells[j]?
  | [], n0, cs, _, _ => ⟨cs, rfl, rfl, fun _ _ => rfl, fun m p j h => by simp at h⟩
  | (i, u) :: us, n0, cs, h, hl => by
    obtain ⟨h1, h2⟩ := h 0 (i, u) rfl
    simp only [Nat.add_zero] at h1 h2
    subst h1
    have hle : (i + 1) * sz ≤ (i + (us.length + 1)) * sz := Nat.mul_le_mul_right _ (by omega)
    rw [Nat.add_mul, Nat.one_mul] at hle
    have hl' : (i + (us.length + 1)) * sz ≤ cs.size := by simpa using hl
    obtain ⟨g1, g2⟩ := Xsa (i * sz) u cs (by omega)
    obtain ⟨cs', e1, e2, e3, e4⟩ := Xyw sz us (i + 1) (u.cells.zipIdx.foldl (fun (cs : Array Value) p => cs.setIfInBounds (i * sz + p.2) p.1) cs)
      (fun m p hp => by obtain ⟨a1, a2⟩ := h (m + 1) p (by simpa using hp); exact ⟨by omega, a2⟩) (by rw [g1]; rw [show i + 1 + us.length = i + (us.length + 1) by omega]; exact hl')
    refine ⟨cs', ?_, by rw [e2, g1], fun k hk => ?_, fun m p j hp hj => ?_⟩
    · simp only [Instr.fill]
      rw [if_neg (by simp; omega)]
      exact e1
    · rw [e3 k (by rw [Nat.add_mul, Nat.one_mul]; omega), g2, if_neg (by omega)]
    · cases m with
      | zero =>
        simp at hp; subst hp
        rw [Nat.add_zero, e3 _ (by rw [Nat.add_mul, Nat.one_mul]; omega), g2, if_pos (by omega)]
        congr 1; omega
      | succ m =>
        have := e4 m p j (by simpa using hp) hj
        rw [show i + (m + 1) = i + 1 + m by omega]; exact this

theorem Xtl {α : Type 1} {c : Xmx} (hc : c.ok) : ∀ {vs : List (Nat × AV)} {us : List (Nat × Value)} {q : List (Nat × Option Obj)} {n : Nat} {k : List c.α → List (Nat × Option Obj) → RM α} {ks : List Key} {r : α × List Key} {A1 : Nat → Prop}
    (_ : (Xw2 c q n vs k).run σ ks = some r) (_ : Xok q) (_ : Xbv C μ A1 (σ.kill q) a w) (_ : Xz8 w A1 μ vs us),
    ∃ l q' A2 ks', (k l q').run σ ks' = some r ∧ Xok q' ∧ (∀ g, A1 g → A2 g) ∧ Xbv C μ A2 (σ.kill q') a w ∧ l.length = us.length ∧ (∀ (m : Nat) (p : Nat × Value), us[m]? = some p → p.1 = n + m ∧ p.2.cells.size = c.sz) ∧
      (∀ (m : Nat) (x : c.α) (p : Nat × Value), l[m]? = some x → us[m]? = some p → ∀ (j : Nat) (y : SV), (c.enc x)[j]? = some y → ∃ v, p.2.cells[j]? = some v ∧ Xek w A2 y v)
  | [], us, q, n, k, ks, r, A1, hr, hq, h, hL => by
    cases hL
    exact ⟨[], q, A1, ks, hr, hq, fun _ h => h, h, rfl, fun m p hp => by simp at hp, fun m x p hx => by simp at hx⟩
  | (i, v) :: vs, us0, q, n, k, ks, r, A1, hr, hq, h, hL => by
    obtain ⟨u, us, rfl, hv, hl⟩ : ∃ u us, us0 = (i, u) :: us ∧ Rep w A1 μ v u ∧ Xz8 w A1 μ vs us := by cases hL with | cons _ _ u _ us hv hl => exact ⟨u, us, rfl, hv, hl⟩
    rw [Xw2] at hr
    split at hr
    · rename_i hin
      have hin := Nat.eq_of_beq_eq_true hin
      subst hin
      split at hr
      · rename_i cs hcs
        obtain ⟨hsz, hrep⟩ := h.cells hcs hv
        obtain ⟨ys, q1, A2, k1, hr, hq1, hA, h1, hyl, hys, _, _⟩ := Xtp hr hq h (us := u.cells.toList) (by simpa using hsz) (fun j z v hz hv => (hrep j z v hz (by simpa using hv)).1)
        split at hr
        · rename_i x hdec
          obtain ⟨hd1, hd2⟩ := hc.2.2 ys x hdec
          obtain ⟨l, q2, A3, k2, hr, hq2, hA', h2, hll, hidx, hel⟩ := Xtl hc hr hq1 h1 (hl.frame hA)
          refine ⟨x :: l, q2, A3, k2, hr, hq2, fun g hg => hA' g (hA g hg), h2, by simp [hll], fun m p hp => ?_, fun m x' p hx hp j y hy => ?_⟩
          · cases m with
            | zero => simp at hp; subst hp; exact ⟨rfl, by show u.cells.size = c.sz; omega⟩
            | succ m => obtain ⟨a1, a2⟩ := hidx m p (by simpa using hp); exact ⟨by omega, a2⟩
          · cases m with
            | zero =>
              simp at hx hp; subst hx; subst hp
              obtain ⟨y', hy', hcv⟩ := hd2 j y hy
              have hj : j < u.cells.toList.length := by rw [show u.cells.toList.length = ys.length by simp; omega]; exact (List.getElem?_eq_some_iff.1 hy').1
              refine ⟨u.cells.toList[j], by simp, (hcv _ _ _ (hys j y' _ hy' (List.getElem?_eq_getElem hj))).frame hA' (fun _ _ => rfl)⟩
            | succ m => exact hel m x' p (by simpa using hx) (by simpa using hp) j y hy
        · simp [RM.run] at hr
      · simp [RM.run] at hr
    · simp [RM.run] at hr

theorem Xpz {kd : IntKind} : ∀ {vs : List (Nat × AV)} {us : List (Nat × Value)} {n : Nat} {l : List Int}, Xze kd n vs = some l → Xz8 w A μ vs us →
    l.length = us.length ∧ (∀ (m : Nat) (p : Nat × Value), us[m]? = some p → p.1 = n + m ∧ p.2.cells.size = 1) ∧ ∀ (m : Nat) (x : Int) (p : Nat × Value), l[m]? = some x → us[m]? = some p → p.2.cells[0]? = some (.int kd x)
  | [], us, n, l, h, hL => by cases hL; rw [Xze] at h; cases h; exact ⟨rfl, fun m p hp => by simp at hp, fun m x p hx => by simp at hx⟩
  | (i, v) :: vs, us0, n, l, h, hL => by
    obtain ⟨u, us, rfl, hv, hl⟩ : ∃ u us, us0 = (i, u) :: us ∧ Rep w A μ v u ∧ Xz8 w A μ vs us := by cases hL with | cons _ _ u _ us hv hl => exact ⟨u, us, rfl, hv, hl⟩
    unfold Xze at h
    split at h
    · cases ‹_ :: _ = []›
    · rename_i heq
      injection heq with e1 e2
      injection e1 with e3 e4
      subst e2; subst e3; subst e4
      split at h
      · rename_i hin
        have hin := Nat.eq_of_beq_eq_true hin
        split at h
        · rename_i hk
          split at h
          · rename_i xs hxs
            cases h
            subst hk; subst hin
            obtain ⟨h1, h2, h3⟩ := Xpz hxs hl
            have hu := Xbr hv
            subst hu
            refine ⟨by simp [h1], fun m p hp => ?_, fun m x p hx hp => ?_⟩
            · cases m with
              | zero => simp at hp; subst hp; exact ⟨rfl, rfl⟩
              | succ m => obtain ⟨a1, a2⟩ := h2 m p (by simpa using hp); exact ⟨by omega, a2⟩
            · cases m with
              | zero => simp at hx hp; subst hx; subst hp; rfl
              | succ m => exact h3 m x p (by simpa using hx) (by simpa using hp)
          · cases h
        · cases h
      · cases h
    · cases h
theorem Xlx (hT : TOk P T) {t e' n b len : Nat} {z : List SV} {ek : EK} {ei : TI} (ht : T t = some ⟨.slice e', n, b, z, ek⟩) (he : T e' = some ei) (w : World) (us : Array (Nat × Value)) (hle : len * ei.size ≤ 16777216) (hl : us.toList.length = len)
    (hidx : ∀ (m : Nat) (p : Nat × Value), us.toList[m]? = some p → p.1 = 0 + m ∧ p.2.cells.size = ei.size) :
    ∃ cs, (Instr.buildSlice t len us).run P w = .ok (.slice (some ⟨w.heap.size, 0, none⟩) len len) (w.alloc (.cells cs e')) ∧ cs.size = len * ei.size ∧ ∀ (m : Nat) (p : Nat × Value) (j : Nat), us.toList[m]? = some p → j < ei.size → cs[m * ei.size + j]? = p.2.cells[j]? := by
  obtain ⟨z, hz, hzc⟩ := Xxz (P := P) hT he w
  have h24 : ¬ (16777216 < len * ei.size) := by omega
  have h24' : ¬ (len * ei.size > 2 ^ 24) := by simpa using h24
  have main : ∀ zc : Array Value, ∃ cs, Instr.fill (fun i => some (i * ei.size, ei.size)) ((Array.range (len * ei.size)).map (zc[· % zc.size]!)) us.toList = some cs ∧ cs.size = len * ei.size ∧ ∀ (m : Nat) (p : Nat × Value) (j : Nat), us.toList[m]? = some p → j < ei.size → cs[m * ei.size + j]? = p.2.cells[j]? := by
    intro zc
    obtain ⟨cs, h1, h2, _, h4⟩ := Xyw ei.size us.toList 0 ((Array.range (len * ei.size)).map (zc[· % zc.size]!)) hidx (by simp [hl])
    exact ⟨cs, h1, by rw [h2]; simp, fun m p j hp hj => by have := h4 m p j hp hj; rwa [Nat.zero_add] at this⟩
  by_cases h0 : len * ei.size = 0
  · obtain ⟨cs, h1, h2⟩ := main #[]
    refine ⟨cs, ?_, h2⟩
    unfold Instr.buildSlice
    simp only [Sem.run_bind, run_underlying (Xe4 hT ht), Result.andThen_ok, Xbj hT he, if_neg h24', if_pos h0, Sem.run_pure]
    rw [h1]
    rfl
  · obtain ⟨cs, h1, h2⟩ := main z.cells
    refine ⟨cs, ?_, h2⟩
    unfold Instr.buildSlice
    simp only [Sem.run_bind, run_underlying (Xe4 hT ht), Result.andThen_ok, Xbj hT he, if_neg h24', if_neg h0, hz, Sem.run_pure]
    rw [h1]
    rfl
end
end Go.Proofs.YtlebkepfhdjnmacAL
/- An abstract logic for Go functions: rows that are made, rows that grow, second part. Conditions: as each statement tells. -/
namespace Go.Proofs.YtlebkepfhdjnmacAL
open Go.RowKit
set_option linter.unusedVariables false
section
variable {P : Program} {T : Nat → Option TI} {C : Ctx} {μ : Nat → Value} {A : Nat → Prop} {σ σ' : St} {a : Act} {w w' : World} {o : Oper}

theorem Yco {A1 : Nat → Prop} (h : Xbv C μ A1 σ a w) (ob : Go.Obj) {y : SV} {v : Value} (hr : Xek w A1 y v) : Xek (w.alloc ob) A1 y v := hr.frame (fun _ h => h) (fun g hg => heap_alloc_old w ob g (h.stab g hg).1)

theorem Xqu (hT : TOk P T) (h : Xbv C μ A σ a w) (hd : ∀ d, o.dst = some d → d < C.n) {t len : Nat} {parts : Array (Nat × Operand)} (ho : o.op = .buildSlice t len parts) {ks ks' : List Key} {e : Eff}
    (hr : (aop T o).run σ ks = some (e, ks')) (hn : Xut C σ e) : Xhj P C o (e.app σ) a w := by
  simp only [aop, ho] at hr
  unfold Xr0 at hr
  split at hr
  · rename_i e' n' b' z' ek' ht
    split at hr
    · rename_i ei he
      split at hr
      · rename_i hb
        rw [Bool.and_eq_true] at hb
        have hlen := Nat.eq_of_beq_eq_true hb.1
        have hle := Nat.le_of_ble_eq_true hb.2
        have hparts : ∀ {vs : List (Nat × AV)}, EvL σ parts.toList vs → Xz8 w A μ vs (parts.map fun (i, x) => (i, a.eval x)).toList := by
          intro vs hvs
          have := h.evL hvs
          simpa using this
        have hul : (parts.map fun (i, x) => (i, a.eval x)).toList.length = len := by simpa using hlen
        have hlm : len ≤ maxLen := by
          have hp := (hT _ ei he).pos
          have := Nat.le_mul_of_pos_right len hp
          unfold maxLen; omega
        have hek := (hT _ ei he).ek
        split at hr
        · rename_i k hk
          rw [hk] at hek
          obtain ⟨vs, k1, hvs, hr⟩ := Xtm hr
          split at hr
          · rename_i l hl
            obtain ⟨h1, h2, h3⟩ := Xpz hl (hparts hvs)
            obtain ⟨cs, hrun, hcs, hcell⟩ := Xlx (P := P) hT ht he w _ hle hul (fun m p hp => by rw [hek.1]; exact h2 m p hp)
            have hll : l.length = len := h1.trans hul
            refine Xjo (w' := w.alloc (.cells cs e')) (u := .slice (some ⟨w.heap.size, 0, none⟩) len len) h Xfw hr hd hn ?_ (Xm5 w _) (fun g hg => by simp [Xem] at hg; omega) (fun _ _ => rfl) ?_ (fun μ' id hm => by rw [← hm]; exact .own id)
            · simp [execOp, ho, hrun]
            · have := Xg8.row (w := w.alloc (.cells cs e')) (A := A) (μ := μ) (.ints k l) 1 (l.map fun n => [SV.int k n]) rfl trivial w.heap.size 0 len cs _ (0, 0) (heap_alloc_new w _) (fun k _ => by simp) (by simp [hll]) hlm (by rw [hcs, hek.1]; simp) (fun x hx => by obtain ⟨n, _, rfl⟩ := List.mem_map.1 hx; rfl) fun i j x y hi hj => ?_
              · simpa [hll] using this
              · rw [List.getElem?_map] at hi
                obtain ⟨n, hn', rfl⟩ := Option.map_eq_some_iff.1 hi
                have hil : i < (parts.map fun (i, x) => (i, a.eval x)).toList.length := by rw [← h1]; exact (List.getElem?_eq_some_iff.1 hn').1
                cases j with
                | zero =>
                  simp at hj; subst hj
                  refine ⟨.int k n, ?_, .int k n⟩
                  have := hcell i _ 0 (List.getElem?_eq_getElem hil) (by rw [hek.1]; omega)
                  rw [hek.1] at this
                  simp only [Nat.add_zero, Nat.mul_one, Nat.zero_add] at this ⊢
                  rw [this]
                  exact h3 i n _ hn' (List.getElem?_eq_getElem hil)
                | succ j => simp at hj
          · simp [RM.run] at hr
        · rename_i c hk
          rw [hk] at hek
          obtain ⟨hcok, hcsz, _⟩ := hek
          obtain ⟨vs, k1, hvs, hr⟩ := Xtm hr
          obtain ⟨l, q, A2, k2, hr, hq, hA2, hR, h1, h2, h3⟩ := Xtl hcok hr Xfw h (hparts hvs)
          obtain ⟨cs, hrun, hcs, hcell⟩ := Xlx (P := P) hT ht he w _ hle hul (fun m p hp => by rw [← hcsz]; exact h2 m p hp)
          have hll : l.length = len := h1.trans hul
          refine Xjo (w' := w.alloc (.cells cs e')) (u := .slice (some ⟨w.heap.size, 0, none⟩) len len) hR hq hr hd hn ?_ (Xm5 w _) (fun g hg => by simp [Xem] at hg; omega) (fun _ _ => rfl) ?_ (fun μ' id hm => by rw [← hm]; exact .own id)
          · simp [execOp, ho, hrun]
          · have := Xg8.row (w := w.alloc (.cells cs e')) (A := A2) (μ := μ) (.row c l) c.sz (l.map c.enc) rfl hcok w.heap.size 0 len cs _ (0, 0) (heap_alloc_new w _) (fun k _ => by simp) (by simp [hll]) hlm (by rw [hcs, hcsz]; simp) (fun x hx => by obtain ⟨n, _, rfl⟩ := List.mem_map.1 hx; exact hcok.1 n) fun i j x y hi hj => ?_
            · simpa [hll] using this
            · rw [List.getElem?_map] at hi
              obtain ⟨n, hn', rfl⟩ := Option.map_eq_some_iff.1 hi
              have hil : i < (parts.map fun (i, x) => (i, a.eval x)).toList.length := by rw [← h1]; exact (List.getElem?_eq_some_iff.1 hn').1
              have hjl : j < c.sz := by rw [← hcok.1 n]; exact (List.getElem?_eq_some_iff.1 hj).1
              obtain ⟨v, hv, hrv⟩ := h3 i n _ hn' (List.getElem?_eq_getElem hil) j y hj
              have := hcell i _ j (List.getElem?_eq_getElem hil) (by omega)
              rw [← hcsz] at this
              exact ⟨v, by rw [Nat.zero_add, this]; exact hv, Yco hR _ hrv⟩
        · simp [RM.run] at hr
      · simp [RM.run] at hr
    · simp [RM.run] at hr
  · simp [RM.run] at hr

theorem Ydj (z : Array Value) (n i j sz : Nat) (hz : z.size = sz) (hi : i < n) (hj : j < sz) : (madeCells z (n * sz))[i * sz + j]? = z[j]? := by
  have hlt : i * sz + j < n * sz := by
    have := Nat.mul_le_mul_right sz (show i + 1 ≤ n by omega)
    rw [Nat.add_mul, Nat.one_mul] at this; omega
  unfold madeCells
  rw [Array.getElem?_map, Array.getElem?_range]
  simp only [hlt, if_true, Option.map_some, hz]
  rw [Nat.add_comm, Nat.add_mul_mod_self_right, Nat.mod_eq_of_lt hj, Array.getElem!_eq_getD]
  have : j < z.size := by omega
  simp [this]

theorem Ycm (hT : TOk P T) (h : Xbv C μ A σ a w) (hd : ∀ d, o.dst = some d → d < C.n) {t : Nat} {x y : Operand} (ho : o.op = .makeSlice t x y) {ks ks' : List Key} {e : Eff}
    (hr : (aop T o).run σ ks = some (e, ks')) (hc : e.cond) (hn : Xut C σ e) : Xhj P C o (e.app σ) a w := by
  simp only [aop, ho] at hr
  obtain ⟨v, k1, hv, hr⟩ := Xbc hr
  obtain ⟨v2, k2, hv2, hr⟩ := Xbc hr
  have h1 := h.ev hv
  have h2 := h.ev hv2
  have key : ∀ {e' n b : Nat} {z : List SV} {ek : EK} {ei : TI} {ob : Obj} {xs : List (List SV)} {zz : List SV} {m c : Int} {ks : List Key}, T t = some ⟨.slice e', n, b, z, ek⟩ → T e' = some ei → v = .sv (.int .i64 m) → v2 = .sv (.int .i64 c) → ob.elems = some (ei.size, xs) → ob.wf → zz.length = ei.size → Xrv ei.zero zz → xs = List.replicate m.toNat zz →
      (Xxw o .own ob [] (0 ≤ m ∧ m ≤ c ∧ c * ei.bytes ≤ 281474976710656 ∧ 0 < ei.bytes)).run σ ks = some (e, ks') → Xhj P C o (e.app σ) a w := by
    intro e' n b z ek ei ob xs zz m c ks ht he hv1 hv2' hob hwf hzl hcov hxs hr0
    subst hv1; subst hv2'
    obtain ⟨d, hd1, he'⟩ := Xlk hr0
    rw [he'] at hc
    obtain ⟨c1, c2, c3, c4⟩ := hc
    obtain ⟨i, z, hi, hsz, hby, hz, hzc⟩ := (hT e' ei he).info
    have hcb : c ≤ 281474976710656 := by
      have : c * 1 ≤ c * (ei.bytes : Int) := Int.mul_le_mul_of_nonneg_left (by omega) (by omega)
      omega
    have hrun := run_make (P := P) w t e' i z (Xe4 hT ht) hi hz .i64 .i64 m c c1 c2 (by rw [hby, Int.mul_comm]; exact c3) (by omega)
    rw [hsz] at hrun
    obtain ⟨hzs, hzr⟩ := Xpu hzc (hT e' ei he).flat (w.alloc (.cells (madeCells z.cells (c.toNat * ei.size)) e')) A μ
    have hzz := (hT e' ei he).zsz
    refine Xjo (w' := w.alloc (.cells (madeCells z.cells (c.toNat * ei.size)) e')) (u := .slice (some ⟨w.heap.size, 0, none⟩) m.toNat c.toNat) h Xfw hr0 hd hn ?_ (Xm5 w _) (fun g hg => by simp [Xem] at hg; omega) (fun _ _ => by cases ob <;> first | rfl | cases hob) ?_ (fun μ' id hm => by rw [← hm]; exact .own id)
    · simp [execOp, ho, Xbr h1, Xbr h2, hrun]
    · have := Xg8.row (w := w.alloc (.cells (madeCells z.cells (c.toNat * ei.size)) e')) (A := A) (μ := μ) ob ei.size xs hob hwf w.heap.size 0 c.toNat (madeCells z.cells (c.toNat * ei.size)) e' (0, 0) (heap_alloc_new w _) (fun k _ => by simp)
        (by rw [hxs]; simp; omega) (by unfold maxLen; omega) (by rw [size_madeCells]; omega) (fun x hx => by rw [hxs] at hx; rw [(List.mem_replicate.1 hx).2]; exact hzl) fun i j x y hi hj => ?_
      · rw [hxs] at this; simpa using this
      · rw [hxs] at hi
        have hil : i < m.toNat := by have := (List.getElem?_eq_some_iff.1 hi).1; simpa using this
        simp [hil] at hi
        subst hi
        have hjl : j < ei.size := by rw [← hzl]; exact (List.getElem?_eq_some_iff.1 hj).1
        have hjz : j < z.cells.size := by omega
        refine ⟨z.cells[j], ?_, ?_⟩
        · rw [Nat.zero_add, Ydj z.cells c.toNat i j ei.size (by omega) (by omega) hjl]; exact Array.getElem?_eq_getElem hjz
        · obtain ⟨y0, hy0, hc0⟩ := hcov j y hj
          have hy' : (ei.zero.map AV.sv)[j]? = some (.sv y0) := by rw [List.getElem?_map, hy0]; rfl
          have := (hzr j (.sv y0) _ hy' (Array.getElem?_eq_getElem hjz)).1
          cases this with
          | sv h => exact hc0 _ _ _ h
  unfold Yhh at hr
  split at hr
  · split at hr
    · rename_i ei he
      have hek := (hT _ ei he).ek
      split at hr
      · rename_i k hk
        rw [hk] at hek
        exact key (zz := [SV.int k 0]) (by assumption) he rfl rfl (by rw [hek.1]; rfl) (by exact trivial) (by rw [hek.1]; rfl) (by rw [hek.2]; exact Xrv.refl _) (by simp) hr
      · rename_i cd hk
        rw [hk] at hek
        exact key (zz := cd.enc cd.d) (by assumption) he rfl rfl (by rw [← hek.2.1]; rfl) (by exact hek.1) (by rw [hek.1.1, hek.2.1]) hek.2.2 (by simp) hr
      · simp [RM.run] at hr
    · simp [RM.run] at hr
  · simp [RM.run] at hr
end
end Go.Proofs.YtlebkepfhdjnmacAL
/- An abstract logic for Go functions: what a slice holds, and rows that grow. Conditions: as each statement tells. -/
namespace Go.Proofs.YtlebkepfhdjnmacAL
open Go.RowKit
set_option linter.unusedVariables false
section
variable {P : Program} {T : Nat → Option TI} {C : Ctx} {μ : Nat → Value} {A : Nat → Prop} {σ σ' : St} {a : Act} {w w' : World} {o : Oper}

def Src (w : World) (A : Nat → Prop) (u : Value) (sz : Nat) (ys : List (List SV)) : Prop :=
  ∃ ad cap, u = .slice ad ys.length cap ∧ ys.length ≤ cap ∧ (∀ x ∈ ys, x.length = sz) ∧ (ys ≠ [] → ∃ g o, ad = some ⟨g, o, none⟩) ∧
    ∀ (i j : Nat) (x : List SV) (y : SV), ys[i]? = some x → x[j]? = some y → ∃ g o v, ad = some ⟨g, o, none⟩ ∧ w.cell? ⟨g, o + (i * sz + j), none⟩ = some v ∧ Xek w A y v
theorem Xun {x : SV} {u : Value} {sz : Nat} {xs : List (List SV)} (h : Xek w A x u) (hx : x.elems = some (sz, xs)) : Src w A u sz xs := by
  obtain ⟨ad, cap, rfl, hc, hl, had, hcell⟩ := Xgm h hx
  exact ⟨ad, cap, rfl, hc, hl, had, fun i j x y hi hj => by obtain ⟨g, o, v, e, _, h1, h2⟩ := hcell i j x y hi hj; exact ⟨g, o, v, e, h1, h2⟩⟩
theorem Ygy (sz : Nat) : Src w A (.slice none 0 0) sz [] := ⟨none, 0, rfl, Nat.le_refl _, by simp, by simp, by simp⟩
theorem Xya {ob : Obj} {u : Value} {sz : Nat} {xs : List (List SV)} (h : Xg8 w A μ ob u) (hx : ob.elems = some (sz, xs)) : Src w A u sz xs := by
  rcases Xef h hx with ⟨rfl, rfl⟩ | ⟨g, o, cap, cs, E, fr, rfl, hg, hf, hc, hm, hs, hl, hcell⟩
  · exact Ygy sz
  · refine ⟨_, cap, rfl, hc, hl, fun _ => ⟨g, o, rfl⟩, fun i j x y hi hj => ?_⟩
    obtain ⟨v, hv, hr⟩ := hcell i j x y hi hj
    exact ⟨g, o, v, rfl, by rw [cell_of_row w g _ cs E fr hg]; exact hv, hr⟩
theorem Xrt {ob : Obj} {id sz off len : Nat} {u : Value} {xs : List (List SV)} (h : Xg8 w A μ ob (μ id)) (hx : ob.elems = some (sz, xs)) (hu : Rep w A μ (.sub id sz off len) u) (hle : off + len ≤ xs.length) : Src w A u sz ((xs.drop off).take len) := by
  have hlen : ((xs.drop off).take len).length = len := by rw [List.length_take, List.length_drop]; omega
  cases hu with
  | sub _ _ _ _ ad0 ad n cap cap' hm hc1 hc2 ha hz =>
    rcases Xef h hx with ⟨hn, rfl⟩ | ⟨g, o, cap2, cs, E, fr, hm2, hg, hf, hc, hmx, hs, hl, hcell⟩
    · have : len = 0 := by simp at hle; omega
      subst this
      exact ⟨ad, cap', by simp, by simp, by simp, by simp, by simp⟩
    · rw [hm] at hm2
      injection hm2 with e1 e2 e3
      subst e1
      refine ⟨ad, cap', by rw [hlen], by rw [hlen]; exact hc1, fun x hx' => hl x (List.mem_of_mem_drop (List.mem_of_mem_take hx')), fun hne => ?_, fun i j x y hi hj => ?_⟩
      · have hp : 0 < len := by rcases Nat.eq_zero_or_pos len with h0 | h0; · subst h0; simp at hne
                                · exact h0
        obtain ⟨g', o', e, e'⟩ := ha (by omega)
        exact ⟨g', _, e'⟩
      · have hil : i < len := by have := (List.getElem?_eq_some_iff.1 hi).1; omega
        rw [List.getElem?_take_of_lt hil, List.getElem?_drop] at hi
        obtain ⟨g', o', e, e'⟩ := ha (by omega)
        injection e with e
        injection e with e1 e2
        subst e1; subst e2
        obtain ⟨v, hv, hr⟩ := hcell (off + i) j x y hi hj
        refine ⟨g, _, v, e', ?_, hr⟩
        rw [cell_of_row w g _ cs E fr hg, ← hv]
        congr 1
        rw [Nat.add_mul]; omega

theorem Xz3 {u : Value} {sz : Nat} {ys : List (List SV)} (h : Src w A u sz ys) (hp : 0 < sz) : ∃ news : List Value, news.length = ys.length * sz ∧ (∀ v ∈ news, v.oneCell' = true) ∧
    (∀ (P : Program) (w2 : World), (∀ g, g < w.heap.size → w2.heap[g]? = w.heap[g]?) → (Builtin.firstCells sz ys.length u).run P w2 = .ok news.toArray w2) ∧ (∀ (P : Program) (w2 : World), (Builtin.lenOf u).run P w2 = .ok ys.length w2) ∧
    ∀ (i j : Nat) (x : List SV) (y : SV), ys[i]? = some x → x[j]? = some y → ∃ v, news[i * sz + j]? = some v ∧ Xek w A y v := by
  obtain ⟨ad, cap, rfl, _, hl, had, hcell⟩ := h
  by_cases hne : ys = []
  · subst hne
    refine ⟨[], by simp, by simp, fun P w2 _ => ?_, fun P w2 => by simp [Builtin.lenOf], by simp⟩
    cases ad with
    | none => simp [Builtin.firstCells]
    | some ad => simp [Builtin.firstCells, loadCells, loadCellsFrom]
  · obtain ⟨g, o, rfl⟩ := had hne
    have hall : ∀ k, k < ys.length * sz → ∃ v, w.cell? ⟨g, o + k, none⟩ = some v ∧ v.oneCell' = true := by
      intro k hk
      have hi : k / sz < ys.length := Nat.div_lt_of_lt_mul (by rw [Nat.mul_comm]; exact hk)
      have hj : k % sz < ys[k / sz].length := by rw [hl _ (List.getElem_mem hi)]; exact Nat.mod_lt _ hp
      obtain ⟨g', o', v, e, h1, h2⟩ := hcell (k / sz) (k % sz) _ _ (List.getElem?_eq_getElem hi) (List.getElem?_eq_getElem hj)
      cases e
      have hk' : k / sz * sz + k % sz = k := by rw [Nat.mul_comm]; exact Nat.div_add_mod k sz
      rw [hk'] at h1
      exact ⟨v, h1, h2.one⟩
    have hget : ∀ k, k < ys.length * sz → ((List.range (ys.length * sz)).map fun k => (w.cell? ⟨g, o + k, none⟩).getD undef)[k]? = w.cell? ⟨g, o + k, none⟩ := by
      intro k hk
      obtain ⟨v, hv, _⟩ := hall k hk
      simp [hk, hv]
    refine ⟨(List.range (ys.length * sz)).map fun k => (w.cell? ⟨g, o + k, none⟩).getD undef, by simp, fun v hv => ?_, fun P w2 hw => ?_, fun P w2 => by simp [Builtin.lenOf], fun i j x y hi hj => ?_⟩
    · obtain ⟨k, hk, rfl⟩ := List.mem_map.1 hv
      obtain ⟨u, hu, h1⟩ := hall k (by simpa using hk)
      rw [hu]; exact h1
    · refine run_firstCells_some (P := P) w2 sz ys.length ⟨g, o, none⟩ _ cap _ (by simp) fun k v hk => ?_
      have hkl : k < ys.length * sz := by have := (List.getElem?_eq_some_iff.1 hk).1; simpa using this
      rw [hget k hkl] at hk
      have hgl := World.block_lt_of_cell? w ⟨g, o + k, none⟩ hk
      rw [Xgn, Xr8 (hw g hgl)]; exact hk
    · obtain ⟨g', o', v, e, h1, h2⟩ := hcell i j x y hi hj
      cases e
      have hil := (List.getElem?_eq_some_iff.1 hi).1
      have hjl : j < sz := by rw [← hl x (List.mem_of_getElem? hi)]; exact (List.getElem?_eq_some_iff.1 hj).1
      have hlt : i * sz + j < ys.length * sz := by
        have := Nat.mul_le_mul_right sz (show i + 1 ≤ ys.length by omega)
        rw [Nat.add_mul, Nat.one_mul] at this; omega
      exact ⟨v, by rw [hget _ hlt]; exact h1, h2⟩

theorem Yes (hT : TOk P T) {src dst e' n b n1 b1 n2 b2 : Nat} {z z1 z2 : List SV} {ek ek1 ek2 : EK} (hs : T src = some ⟨.slice e', n, b, z, ek⟩) (hd : T dst = some ⟨.str, n1, b1, z1, ek1⟩) (he : T e' = some ⟨.int .u8, n2, b2, z2, ek2⟩)
    {u : Value} {l : List Int} (h : Src w A u 1 (l.map fun n => [SV.int .u8 n])) : (convert src dst u).run P w = .ok (.string (strOfNums l)) w := by
  obtain ⟨ad, cap, rfl, _, _, had, hcell⟩ := h
  by_cases hne : l = []
  · subst hne
    exact Xtk hT hs hd he w _ cap ad (.inr (by simp))
  · obtain ⟨g, o', rfl⟩ := had (by simpa using hne)
    have := Xpg (P := P) hT hs hd he w g o' cap l fun i hi => ?_
    · simpa using this
    · obtain ⟨g', o2, v, e, h1, h2⟩ := hcell i 0 _ _ (Xrq hi) rfl
      cases e
      rw [Yfi h2] at h1
      simpa using h1

theorem Xee (s : ByteArray) : (Xdj s).length = s.size := by rw [Xdj, List.length_map, Array.length_toList]; rfl
theorem Yew (w : World) (e : TypeId) (s : ByteArray) : Fr (fun g => g < w.heap.size) w (Lib.bytesWorld w e s) :=
  ⟨rfl, rfl, rfl, by rw [Lib.bytesWorld_size]; omega, fun g hg => Lib.bytesWorld_at_old w e s g hg⟩
theorem Ycb (w : World) (A : Nat → Prop) (μ : Nat → Value) (e : TypeId) (s : ByteArray) (hs : s.size ≤ maxLen) : Xg8 (Lib.bytesWorld w e s) A μ (.ints .u8 (Xdj s)) (.slice (some ⟨w.heap.size, 0, none⟩) s.size (grownCap w s.size 0 e)) := by
  have hge := grownCap_ge w s.size 0 e
  have hsz : (Lib.bytesCells w e s).size = grownCap w s.size 0 e := by
    have hd : s.data.size = s.size := rfl
    simp only [Lib.bytesCells, Array.size_append, Array.size_map, Array.size_replicate, hd]; omega
  have := Xg8.row (w := Lib.bytesWorld w e s) (A := A) (μ := μ) (.ints .u8 (Xdj s)) 1 ((Xdj s).map fun n => [SV.int .u8 n]) rfl trivial w.heap.size 0 (grownCap w s.size 0 e) (Lib.bytesCells w e s) e _ (Lib.bytesWorld_at_new w e s)
    (fun k hk => by simp only; omega) (by rw [List.length_map, Xee]; exact hge) (grownCap_le_maxLen w s.size 0 e hs) (by omega) (fun x hx => by obtain ⟨n, _, rfl⟩ := List.mem_map.1 hx; rfl) fun i j x y hi hj => ?_
  · rwa [List.length_map, Xee] at this
  · rw [List.getElem?_map] at hi
    obtain ⟨n, hn, rfl⟩ := Option.map_eq_some_iff.1 hi
    have hil : i < s.size := by rw [← Xee]; exact (List.getElem?_eq_some_iff.1 hn).1
    have hd : i < s.data.size := hil
    cases j with
    | zero =>
      simp at hj; subst hj
      have hg : s.data[i]? = some s.data[i] := Array.getElem?_eq_getElem hd
      have hn' : n = (s.data[i].toNat : Int) := by
        simp only [Xdj, List.getElem?_map, Array.getElem?_toList, hg, Option.map_some, Option.some.injEq] at hn
        exact hn.symm
      refine ⟨.int .u8 n, ?_, .int _ _⟩
      rw [hn']
      simp [Lib.bytesCells, Array.getElem?_append, hil]
    | succ j => simp at hj

theorem Yck (hT : TOk P T) (h : Xbv C μ A σ a w) (hd : ∀ d, o.dst = some d → d < C.n) {src dst : Nat} {x : Operand} (ho : o.op = .convert src dst x) {ks ks' : List Key} {e : Eff}
    (hr : (aop T o).run σ ks = some (e, ks')) (hc : e.cond) (hn : Xut C σ e) : Xhj P C o (e.app σ) a w := by
  simp only [aop, ho] at hr
  obtain ⟨v, k1, hv, hr⟩ := Xbc hr
  have h1 := h.ev hv
  have toStr : ∀ {e' n b n1 b1 n2 b2 : Nat} {z z1 z2 : List SV} {ek ek1 ek2 : EK} {l : List Int} {c : Prop} {ks : List Key}, T src = some ⟨.slice e', n, b, z, ek⟩ → T dst = some ⟨.str, n1, b1, z1, ek1⟩ → T e' = some ⟨.int .u8, n2, b2, z2, ek2⟩ →
      (c → Src w A (a.eval x) 1 (l.map fun n => [SV.int .u8 n])) → (Xdb o (.sv (.str (strOfNums l))) c).run σ ks = some (e, ks') → Xhj P C o (e.app σ) a w := by
    intro e' n b n1 b1 n2 b2 z z1 z2 ek ek1 ek2 l c ks hs hd' he hsrc hr
    refine Xat h hr hd (fun hcond => ?_) (fun _ => .sv (.str _)) hc
    simp [execOp, ho, Yes (P := P) hT hs hd' he (hsrc hcond)]
  have part : ∀ {id sz off len : Nat} {l : List Int}, Nat.beq sz 1 = true → v = .sub id sz off len → σ.obj id = some (.ints .u8 l) → off + len ≤ l.length → Src w A (a.eval x) 1 (((l.drop off).take len).map fun n => [SV.int .u8 n]) := by
    intro id sz off len l hsz hv1 hob hle
    have hsz := Nat.eq_of_beq_eq_true hsz
    subst hsz; subst hv1
    have := Xrt (h.objs id _ hob) (xs := l.map fun n => [SV.int .u8 n]) rfl h1 (by simpa using hle)
    simpa [List.map_take, List.map_drop] using this
  have toBytes : ∀ {e' n b n1 b1 n2 b2 : Nat} {z z1 z2 : List SV} {ek ek1 ek2 : EK} {s : ByteArray} {ks : List Key}, T src = some ⟨.str, n1, b1, z1, ek1⟩ → T dst = some ⟨.slice e', n, b, z, ek⟩ → T e' = some ⟨.int .u8, n2, b2, z2, ek2⟩ →
      v = .sv (.str s) → (Xxw o .own (.ints .u8 (Xdj s)) [] (s.size ≤ maxLen)).run σ ks = some (e, ks') → Xhj P C o (e.app σ) a w := by
    intro e' n b n1 b1 n2 b2 z z1 z2 ek ek1 ek2 s ks hs hd' he hv1 hr0
    subst hv1
    obtain ⟨d, hd1, he2⟩ := Xlk hr0
    rw [he2] at hc
    refine Xjo (w' := Lib.bytesWorld w e' s) h Xfw hr0 hd hn ?_ (Yew w _ _) (fun g hg => ?_) (fun _ _ => rfl) (Ycb w A μ _ _ hc) (fun μ' id hm => by rw [← hm]; exact .own id)
    · simp [execOp, ho, Xh7 h1, Lib.run_convert_string_bytes w src dst e' s (Xyk hT hs) (Xe4 hT hd') (Yel hT he)]
    · simp [Xem] at hg; omega
  unfold Yhf at hr
  split at hr
  · rename_i ht1 ht2
    split at hr
    · exact Xvj hT h hd ho (by assumption) (by assumption) hv hr hc
    · simp [RM.run] at hr
  · split at hr
    · split at hr
      · generalize hu : a.eval x = u at h1 toStr
        cases h1 with
        | own id =>
          simp only [RM.run] at hr
          split at hr
          · exact toStr (by assumption) (by assumption) (by assumption) (fun _ => Xya (h.objs _ _ (by assumption)) rfl) hr
          · simp [RM.run] at hr
      · cases h1 with
        | sv h1 => exact toStr (by assumption) (by assumption) (by assumption) (fun _ => Xun h1 rfl) hr
      · simp only [RM.run] at hr
        split at hr
        · split at hr
          · exact toStr (by assumption) (by assumption) (by assumption) (fun hcond => part (by assumption) rfl (by assumption) hcond) hr
          · simp [RM.run] at hr
        · simp [RM.run] at hr
      · simp [RM.run] at hr
    · simp [RM.run] at hr
  · split at hr
    · split at hr
      · exact toBytes (by assumption) (by assumption) (by assumption) rfl hr
      · simp [RM.run] at hr
    · simp [RM.run] at hr
  · simp [RM.run] at hr
end
end Go.Proofs.YtlebkepfhdjnmacAL
/- An abstract logic for Go functions: append. Conditions: as each statement tells. -/
namespace Go.Proofs.YtlebkepfhdjnmacAL
open Go.RowKit
set_option linter.unusedVariables false
section
variable {P : Program} {T : Nat → Option TI} {C : Ctx} {μ : Nat → Value} {A : Nat → Prop} {σ σ' : St} {a : Act} {w w' : World} {o : Oper}

def Yft (P : Program) (tx : Nat) : Prop := P.underlying tx = some .string ∨ ∃ e, P.underlying tx = some (.slice e)

theorem Xti (hT : TOk P T) {t tx e' n b : Nat} {z : List SV} {ek : EK} {ei : TI} (ht : T t = some ⟨.slice e', n, b, z, ek⟩) (he : T e' = some ei) (htx : Yft P tx) {sv u : Value} {ob : Obj} {xs : List (List SV)} (hs : Xg8 w A μ ob sv) (hx : ob.elems = some (ei.size, xs))
    (hA : ∀ g, A g → g < w.heap.size ∧ Xem sv ≠ some g) {m : Nat} {news : List Value} (hnl : news.length = m * ei.size) (h1 : ∀ v ∈ news, v.oneCell' = true)
    (hfirst : ∀ w2 : World, (∀ g, g < w.heap.size → w2.heap[g]? = w.heap[g]?) → (Builtin.firstCells ei.size m u).run P w2 = .ok news.toArray w2) (hlen : ∀ w2, (Builtin.lenOf u).run P w2 = .ok m w2)
    (hb : (xs.length + m) * ei.bytes ≤ 140737488355328) (hm : xs.length + m ≤ maxLen) (ty : Nat) :
    ∃ v' w', (Builtin.append_ #[t, tx] ty #[sv, u]).run P w = .ok v' w' ∧ Fr (fun g => g < w.heap.size ∧ Xem sv ≠ some g) w w' ∧ (∀ g, Xem v' = some g → Xem sv = some g ∨ w.heap.size ≤ g) ∧
      ∀ (ob' : Obj) (ys : List (List SV)), ob'.elems = some (ei.size, xs ++ ys) → ob'.wf → ys.length = m → (∀ x ∈ ys, x.length = ei.size) → (∀ (i j : Nat) (x : List SV) (y : SV), ys[i]? = some x → x[j]? = some y → ∃ v, news[i * ei.size + j]? = some v ∧ Xek w A y v) → Xg8 w' A μ ob' v' := by
  obtain ⟨i, z0, hi, hsz, hby, hz, hzc⟩ := (hT e' ei he).info
  have hpos := (hT e' ei he).pos
  have hzs : z0.cells.size = ei.size := by rw [← Array.length_toList, hzc, List.length_map, (hT e' ei he).zsz]
  have hu := Xe4 hT ht
  have hzeros : ∀ w2 : World, (do pure ((← underlying tx) matches .int _) : Sem Bool).run P w2 = .ok false w2 := by
    intro w2
    rcases htx with h | ⟨e, h⟩ <;> simp [run_underlying h]
  -- in a block of its own
  have grow : ∀ (ad : Option Addr) (cap : Nat) (olds : List Value), sv = .slice ad xs.length cap → cap < xs.length + m → olds.length = xs.length * ei.size → (∀ w2 : World, (∀ g, g < w.heap.size → w2.heap[g]? = w.heap[g]?) → (Builtin.firstCells ei.size xs.length sv).run P w2 = .ok olds.toArray w2) →
      (∀ (i j : Nat) (x : List SV) (y : SV), xs[i]? = some x → x[j]? = some y → ∃ v, olds[i * ei.size + j]? = some v ∧ Xek w A y v) → (∀ x ∈ xs, x.length = ei.size) →
      ∃ v' w', (Builtin.append_ #[t, tx] ty #[sv, u]).run P w = .ok v' w' ∧ Fr (fun g => g < w.heap.size ∧ Xem sv ≠ some g) w w' ∧ (∀ g, Xem v' = some g → Xem sv = some g ∨ w.heap.size ≤ g) ∧
        ∀ (ob' : Obj) (ys : List (List SV)), ob'.elems = some (ei.size, xs ++ ys) → ob'.wf → ys.length = m → (∀ x ∈ ys, x.length = ei.size) → (∀ (i j : Nat) (x : List SV) (y : SV), ys[i]? = some x → x[j]? = some y → ∃ v, news[i * ei.size + j]? = some v ∧ Xek w A y v) → Xg8 w' A μ ob' v' := by
    intro ad cap olds hsv hcap hol hold hel hxl
    have hno : ¬ (xs.length + m ≤ cap) := by omega
    have hmx : xs.length + m ≤ 9223372036854775807 := by unfold maxLen at hm; omega
    have hfit := growslice_fits (bytes := ei.bytes) hcap hb
    have hfit' : ¬ (281474976710656 < Builtin.nextslicecap (xs.length + m) cap * ei.bytes) := by omega
    have hf1 := hfirst w.drew (fun _ _ => rfl)
    have hf2 := hold w.drew (fun _ _ => rfl)
    have hge := grownCap_ge w (xs.length + m) cap e'
    have hcm := grownCap_le_maxLen w (xs.length + m) cap e' hm
    refine ⟨.slice (some ⟨w.heap.size, 0, none⟩) (xs.length + m) (grownCap w (xs.length + m) cap e'), w.drew.alloc (.cells (olds.toArray ++ news.toArray ++ Builtin.zeroCells z0.cells (grownCap w (xs.length + m) cap e' - (xs.length + m))) e'), ?_, ?_, ?_, ?_⟩
    · subst hsv
      have h63' : ¬ (9223372036854775807 < ((xs.length : Int) + (m : Int))) := by omega
      rcases htx with h | ⟨e, h⟩
      all_goals
        simp [Builtin.append_, run_underlying hu, run_underlying h, sizeOf, typeInfo, zeroValue, hi, hz, hsz, hby, hlen, hno, hfit', h63', Question.forced, newRow]
        rw [hf2]
        simp only [Result.andThen_ok]
        rw [hf1]
        simp [grownCap]
        congr 2
        apply Array.ext'
        simp [List.append_assoc]
    · exact ⟨rfl, rfl, rfl, by simp, fun g hg => heap_alloc_old w.drew _ g hg.1⟩
    · intro g hg; simp [Xem] at hg; exact .inr (by omega)
    · intro ob' ys hob' hwf hyl hysz hyel
      have hfrm : ∀ {y : SV} {v : Value}, Xek w A y v → Xek (w.drew.alloc (.cells (olds.toArray ++ news.toArray ++ Builtin.zeroCells z0.cells (grownCap w (xs.length + m) cap e' - (xs.length + m))) e')) A y v := fun hr => hr.frame (fun _ h => h) (fun g hg => heap_alloc_old w.drew _ g (hA g hg).1)
      have := Xg8.row (w := w.drew.alloc (.cells (olds.toArray ++ news.toArray ++ Builtin.zeroCells z0.cells (grownCap w (xs.length + m) cap e' - (xs.length + m))) e')) (A := A) (μ := μ) ob' ei.size (xs ++ ys) hob' hwf w.heap.size 0 (grownCap w (xs.length + m) cap e') _ e' (0, 0) (heap_alloc_new w.drew _) (fun k _ => by simp) (by simp [hyl]; omega) hcm ?_ ?_ ?_
      · rw [show (xs ++ ys).length = xs.length + m by simp [hyl]] at this; exact this
      · simp only [Array.size_append, List.size_toArray, size_zeroCells, hzs, hol, hnl, ← Nat.add_mul]
        rw [Nat.zero_add]
        refine Nat.mul_le_mul_right _ ?_
        omega
      · intro x hx'
        rcases List.mem_append.1 hx' with h | h
        · exact hxl x h
        · exact hysz x h
      · intro i j x y hix hjy
        rw [Nat.zero_add]
        have hget : ∀ k, k < olds.length + news.length → (olds.toArray ++ news.toArray ++ Builtin.zeroCells z0.cells (grownCap w (xs.length + m) cap e' - (xs.length + m)))[k]? = (olds ++ news)[k]? := by
          intro k hk
          rw [Array.getElem?_append_left (by simpa using hk)]
          simp
        rcases Nat.lt_or_ge i xs.length with hlt | hge'
        · rw [List.getElem?_append_left hlt] at hix
          obtain ⟨v, hv, hr⟩ := hel i j x y hix hjy
          have hvl := (List.getElem?_eq_some_iff.1 hv).1
          exact ⟨v, by rw [hget _ (by omega), List.getElem?_append_left hvl]; exact hv, hfrm hr⟩
        · rw [List.getElem?_append_right hge'] at hix
          obtain ⟨v, hv, hr⟩ := hyel (i - xs.length) j x y hix hjy
          have hvl := (List.getElem?_eq_some_iff.1 hv).1
          have hk : i * ei.size + j = olds.length + ((i - xs.length) * ei.size + j) := by
            rw [hol, ← Nat.add_assoc, ← Nat.add_mul]; congr 2; omega
          exact ⟨v, by rw [hk, hget _ (by omega), List.getElem?_append_right (by omega), show olds.length + ((i - xs.length) * ei.size + j) - olds.length = (i - xs.length) * ei.size + j by omega]; exact hv, hfrm hr⟩
  rcases Xef hs hx with ⟨rfl, rfl⟩ | ⟨g, o', cap, cs, E, fr, rfl, hg, hf, hxc, hcm, hs', hxl, hcell⟩
  · by_cases hm0 : m = 0
    · subst hm0
      have hn0 : news = [] := List.eq_nil_of_length_eq_zero (by simpa using hnl)
      subst hn0
      refine ⟨.slice none 0 0, w, ?_, ⟨rfl, rfl, rfl, Nat.le_refl _, fun _ _ => rfl⟩, fun g hg => by simp [Xem] at hg, fun ob' ys hob' hwf hyl _ _ => ?_⟩
      · have hf1 := hfirst w (fun _ _ => rfl)
        rcases htx with h | ⟨e, h⟩ <;> simp [Builtin.append_, run_underlying hu, run_underlying h, sizeOf, typeInfo, hi, hsz, hlen, hf1]
      · have : ys = [] := List.eq_nil_of_length_eq_zero hyl
        subst this
        exact .none ob' ei.size hob' hwf
    · exact grow none 0 [] rfl (by simp; omega) (by simp) (fun w2 _ => by simp [Builtin.firstCells]) (by simp) (by simp)
  · obtain ⟨olds, hol, _, hold, _, hel⟩ := Xz3 (w := w) (A := A) (u := .slice (some ⟨g, o', none⟩) xs.length cap) (sz := ei.size) (ys := xs)
      ⟨_, cap, rfl, hxc, hxl, fun _ => ⟨g, o', rfl⟩, fun i j x y hi hj => by
        obtain ⟨v, hv, hr⟩ := hcell i j x y hi hj
        exact ⟨g, o', v, rfl, by rw [cell_of_row w g _ cs E fr hg]; exact hv, hr⟩⟩ hpos
    by_cases hroom : xs.length + m ≤ cap
    · have hbd : o' + xs.length * ei.size + news.length ≤ cs.size := by
        have := Nat.mul_le_mul_right ei.size hroom
        rw [Nat.add_mul] at this; omega
      have hst := Xeg (P := P) g (o' + xs.length * ei.size) E fr news 0 cs w hg hf (by simpa using hbd) h1
      simp only [Nat.add_zero] at hst
      refine ⟨.slice (some ⟨g, o', none⟩) (xs.length + m) cap, w.setRow g (cs.toList.take (o' + xs.length * ei.size) ++ news ++ cs.toList.drop (o' + xs.length * ei.size + news.length)).toArray, ?_, ?_, ?_, ?_⟩
      · have hf1 := hfirst w (fun _ _ => rfl)
        rcases htx with h | ⟨e, h⟩
        all_goals
          simp [Builtin.append_, run_underlying hu, run_underlying h, sizeOf, typeInfo, hi, hsz, hlen, hroom, hf1, Xgn, hst]
      · exact ⟨rfl, rfl, rfl, by simp, fun k hk => setRow_other w g k _ (fun e => hk.2 (by rw [e]; rfl))⟩
      · intro k hk; exact .inl hk
      · intro ob' ys hob' hwf hyl hysz hyel
        have hfrm : ∀ {y : SV} {v : Value}, Xek w A y v → Xek (w.setRow g (cs.toList.take (o' + xs.length * ei.size) ++ news ++ cs.toList.drop (o' + xs.length * ei.size + news.length)).toArray) A y v := fun hr => hr.frame (fun _ h => h) (fun k hk => setRow_other w g k _ (fun e => (hA k hk).2 (by rw [e]; rfl)))
        have := Xg8.row (w := w.setRow g (cs.toList.take (o' + xs.length * ei.size) ++ news ++ cs.toList.drop (o' + xs.length * ei.size + news.length)).toArray) (A := A) (μ := μ) ob' ei.size (xs ++ ys) hob' hwf g o' cap _ E fr (setRow_heap w g cs _ E fr hg) (fun k hk => hf k (by rwa [Xdy _ _ _ hbd] at hk)) (by simp [hyl]; omega) hcm (by rw [Xdy _ _ _ hbd]; exact hs') ?_ ?_
        · rw [show (xs ++ ys).length = xs.length + m by simp [hyl]] at this; exact this
        · intro x hx'
          rcases List.mem_append.1 hx' with h | h
          · exact hxl x h
          · exact hysz x h
        · intro i j x y hix hjy
          rw [Xlb _ _ _ hbd]
          rcases Nat.lt_or_ge i xs.length with hlt | hge'
          · rw [List.getElem?_append_left hlt] at hix
            obtain ⟨v, hv, hr⟩ := hcell i j x y hix hjy
            have hjl : j < ei.size := by rw [← hxl x (List.mem_of_getElem? hix)]; exact (List.getElem?_eq_some_iff.1 hjy).1
            have := Nat.mul_le_mul_right ei.size (show i + 1 ≤ xs.length by omega)
            rw [Nat.add_mul, Nat.one_mul] at this
            exact ⟨v, by rw [if_neg (by omega)]; exact hv, hfrm hr⟩
          · rw [List.getElem?_append_right hge'] at hix
            obtain ⟨v, hv, hr⟩ := hyel (i - xs.length) j x y hix hjy
            have hvl := (List.getElem?_eq_some_iff.1 hv).1
            have hk : i * ei.size + j = xs.length * ei.size + ((i - xs.length) * ei.size + j) := by
              rw [← Nat.add_assoc, ← Nat.add_mul]; congr 2; omega
            exact ⟨v, by rw [if_pos (by omega), show o' + (i * ei.size + j) - (o' + xs.length * ei.size) = (i - xs.length) * ei.size + j by omega]; exact hv, hfrm hr⟩
    · exact grow _ cap olds rfl (by omega) hol (fun w2 hw => hold P w2 hw) hel hxl
end
end Go.Proofs.YtlebkepfhdjnmacAL
/- An abstract logic for Go functions: append, and all operations together. Conditions: as each statement tells. -/
namespace Go.Proofs.YtlebkepfhdjnmacAL
open Go.RowKit
set_option linter.unusedVariables false
section
variable {P : Program} {T : Nat → Option TI} {C : Ctx} {μ : Nat → Value} {A : Nat → Prop} {σ σ' : St} {a : Act} {w w' : World} {o : Oper}

def Apd (P : Program) (w : World) (A : Nat → Prop) (u : Value) (sz : Nat) (ys : List (List SV)) : Prop :=
  ∃ news : List Value, news.length = ys.length * sz ∧ (∀ v ∈ news, v.oneCell' = true) ∧ (∀ w2 : World, (∀ g, g < w.heap.size → w2.heap[g]? = w.heap[g]?) → (Builtin.firstCells sz ys.length u).run P w2 = .ok news.toArray w2) ∧ (∀ w2, (Builtin.lenOf u).run P w2 = .ok ys.length w2) ∧
    (∀ x ∈ ys, x.length = sz) ∧ ∀ (i j : Nat) (x : List SV) (y : SV), ys[i]? = some x → x[j]? = some y → ∃ v, news[i * sz + j]? = some v ∧ Xek w A y v
theorem Xom {u : Value} {sz : Nat} {ys : List (List SV)} (h : Src w A u sz ys) (hp : 0 < sz) : Apd P w A u sz ys := by
  obtain ⟨ad, cap, hu, _, hl, _⟩ := id h
  obtain ⟨news, h1, h2, h3, h4, h5⟩ := Xz3 h hp
  exact ⟨news, h1, h2, h3 P, h4 P, hl, h5⟩
theorem Yf9 (s : ByteArray) : Apd P w A (.string s) 1 ((Xdj s).map fun n => [SV.int .u8 n]) := by
  have hl : ((Xdj s).map fun n => [SV.int .u8 n]).length = s.size := by rw [List.length_map, Xee]
  refine ⟨(Xdj s).map (Value.int .u8), by simp, fun v hv => by obtain ⟨n, _, rfl⟩ := List.mem_map.1 hv; rfl, fun w2 _ => ?_, fun w2 => by rw [hl]; simp [Builtin.lenOf], fun x hx => by obtain ⟨n, _, rfl⟩ := List.mem_map.1 hx; rfl, fun i j x y hi hj => ?_⟩
  · rw [hl]
    have he : s.extract 0 s.size = s := by simp
    simp only [Builtin.firstCells, he, Sem.run_pure]
    congr 1
    apply Array.ext'
    simp [Xdj, Function.comp_def]
  · rw [List.getElem?_map] at hi
    obtain ⟨n, hn, rfl⟩ := Option.map_eq_some_iff.1 hi
    cases j with
    | zero => simp at hj; subst hj; exact ⟨.int .u8 n, by simp [hn], .int _ _⟩
    | succ j => simp at hj
theorem Ycw {u : Value} (h : u = .slice none 0 0) (sz : Nat) : Apd P w A u sz [] := by
  subst h
  exact ⟨[], by simp, by simp, fun w2 _ => by simp [Builtin.firstCells], fun w2 => by simp [Builtin.lenOf], by simp, by simp⟩
theorem Xr2 {c : Xmx} (hc : c.ok) {β : Type} {enc : β → List SV} {l : List β} {u : Value} (h : Apd P w A u c.sz (l.map enc)) (hd : ∀ y ∈ l, (c.dec (enc y)).isSome) : Apd P w A u c.sz ((l.filterMap fun y => c.dec (enc y)).map c.enc) := by
  have hlen : ∀ (l : List β), (∀ y ∈ l, (c.dec (enc y)).isSome) → (l.filterMap fun y => c.dec (enc y)).length = l.length := by
    intro l
    induction l with
    | nil => intro _; rfl
    | cons y l ih =>
      intro h
      obtain ⟨x, hx⟩ := Option.isSome_iff_exists.1 (h y (by simp))
      rw [List.filterMap_cons, hx]
      simp [ih (fun y hy => h y (by simp [hy]))]
  have hget : ∀ (l : List β), (∀ y ∈ l, (c.dec (enc y)).isSome) → ∀ (i : Nat) (x : c.α), (l.filterMap fun y => c.dec (enc y))[i]? = some x → ∃ y, l[i]? = some y ∧ c.dec (enc y) = some x := by
    intro l
    induction l with
    | nil => intro _ i x h; simp at h
    | cons y l ih =>
      intro h i x hx
      obtain ⟨x0, hx0⟩ := Option.isSome_iff_exists.1 (h y (by simp))
      rw [List.filterMap_cons, hx0] at hx
      cases i with
      | zero => simp at hx; subst hx; exact ⟨y, rfl, hx0⟩
      | succ i => exact ih (fun y hy => h y (by simp [hy])) i x (by simpa using hx)
  obtain ⟨news, h1, h2, h3, h4, h5, h6⟩ := h
  rw [List.length_map] at h1 h3 h4
  refine ⟨news, by rw [List.length_map, hlen l hd]; exact h1, h2, by rw [List.length_map, hlen l hd]; exact h3, by rw [List.length_map, hlen l hd]; exact h4, fun x hx => by obtain ⟨n, _, rfl⟩ := List.mem_map.1 hx; exact hc.1 n, fun i j x y hi hj => ?_⟩
  rw [List.getElem?_map] at hi
  obtain ⟨z, hz, rfl⟩ := Option.map_eq_some_iff.1 hi
  obtain ⟨y0, hy0, hdec⟩ := hget l hd i z hz
  obtain ⟨_, hlaw⟩ := hc.2.2 (enc y0) z hdec
  obtain ⟨y', hy', hcv⟩ := hlaw j y hj
  obtain ⟨v, hv, hr⟩ := h6 i j (enc y0) y' (by rw [List.getElem?_map, hy0]; rfl) hy'
  exact ⟨v, hv, hcv _ _ _ hr⟩

theorem Xph {α : Type 1} (h : Xbv C μ A σ a w) {kd : IntKind} {x : AV} {u : Value} (hrep : Rep w A μ x u) {k : List Int → Prop → RM α} {ks : List Key} {r : α × List Key} (hr : (Xzd kd x k).run σ ks = some r) :
    ∃ l c ks', (k l c).run σ ks' = some r ∧ (c → Apd P w A u 1 (l.map fun n => [SV.int kd n])) := by
  unfold Xzd at hr
  split at hr
  · split at hr
    · rename_i hk
      subst hk
      cases hrep with
      | sv h1 => exact ⟨_, _, _, hr, fun _ => Xom (Xun h1 rfl) (by decide)⟩
    · simp [RM.run] at hr
  · exact ⟨_, _, _, hr, fun _ => by simpa using Ycw (Xkx hrep) 1⟩
  · split at hr
    · rename_i hk
      subst hk
      exact ⟨_, _, _, hr, fun _ => by rw [Xh7 hrep]; exact Yf9 _⟩
    · simp [RM.run] at hr
  · cases hrep with
    | own id =>
      simp only [RM.run] at hr
      split at hr
      · split at hr
        · rename_i hk
          subst hk
          exact ⟨_, _, _, hr, fun _ => Xom (Xya (h.objs _ _ (by assumption)) rfl) (by decide)⟩
        · simp [RM.run] at hr
      · simp [RM.run] at hr
  · rename_i id sz off len
    simp only [RM.run] at hr
    split at hr
    · rename_i k' l hob
      split at hr
      · rename_i hk
        subst hk
        split at hr
        · rename_i hsz
          have hsz := Nat.eq_of_beq_eq_true hsz
          subst hsz
          refine ⟨_, _, _, hr, fun hle => ?_⟩
          have := Xrt (h.objs id _ hob) (xs := l.map fun n => [SV.int k' n]) rfl hrep (by simpa using hle)
          exact Xom (by simpa [List.map_take, List.map_drop] using this) (by decide)
        · simp [RM.run] at hr
      · simp [RM.run] at hr
    · simp [RM.run] at hr
  · simp [RM.run] at hr
theorem Xwi {α : Type 1} (h : Xbv C μ A σ a w) {c : Xmx} (hc : c.ok) {x : AV} {u : Value} (hrep : Rep w A μ x u) {k : List c.α → Prop → RM α} {ks : List Key} {r : α × List Key} (hr : (Ybs c x k).run σ ks = some r) :
    ∃ l q ks', (k l q).run σ ks' = some r ∧ (q → Apd P w A u c.sz (l.map c.enc)) := by
  unfold Ybs at hr
  split at hr
  · split at hr
    · rename_i hsz
      have hsz := Nat.eq_of_beq_eq_true hsz
      subst hsz
      cases hrep with
      | sv h1 => exact ⟨_, _, _, hr, fun hd => Xr2 hc (Xom (Xun h1 rfl) hc.2.1) hd⟩
    · simp [RM.run] at hr
  · exact ⟨_, _, _, hr, fun _ => by simpa using Ycw (Xkx hrep) c.sz⟩
  · cases hrep with
    | own id =>
      simp only [RM.run] at hr
      split at hr
      · rename_i c' l hob
        split at hr
        · rename_i hsz
          have hsz := Nat.eq_of_beq_eq_true hsz
          refine ⟨_, _, _, hr, fun hd => Xr2 hc ?_ hd⟩
          rw [← hsz]
          exact Xom (Xya (h.objs _ _ hob) rfl) (by rw [hsz]; exact hc.2.1)
        · simp [RM.run] at hr
      · simp [RM.run] at hr
  · rename_i id sz off len
    simp only [RM.run] at hr
    split at hr
    · rename_i c' l hob
      split at hr
      · rename_i hsz
        rw [Bool.and_eq_true] at hsz
        have hs1 := Nat.eq_of_beq_eq_true hsz.1
        have hs2 := Nat.eq_of_beq_eq_true hsz.2
        subst hs1
        refine ⟨_, _, _, hr, fun hd => Xr2 hc ?_ hd.2⟩
        rw [← hs2]
        have := Xrt (h.objs id _ hob) (xs := l.map c'.enc) rfl hrep (by simpa using hd.1)
        exact Xom (by simpa [List.map_take, List.map_drop] using this) (by rw [hs2]; exact hc.2.1)
      · simp [RM.run] at hr
    · simp [RM.run] at hr
  · simp [RM.run] at hr

theorem Xbv.move (h : Xbv C μ A σ a w) {id id' : Nat} {ob ob' : Obj} {v' : Value} (hid : σ.obj id = some ob) (hf : Fr (fun g => g < w.heap.size ∧ Xem (μ id) ≠ some g) w w') (hv : ∀ g, Xem v' = some g → Xem (μ id) = some g ∨ w.heap.size ≤ g)
    (hfr : σ.fresh id') (hpin : C.pin id' = none) (ho : Xg8 w' A μ ob' v') (hrow : ∀ i, ob'.has i = false) : Xbv C (upd μ id' v') A ((σ.setO id none).setO id' (some ob')) a w' := by
  have h1 : Xbv C μ A (σ.setO id none) a w' := by
    cases hb : Xem (μ id) with
    | none => exact (h.drop id).world (hf.mono fun g hg => ⟨hg, by rw [hb]; simp⟩)
    | some g0 => exact h.free hid hb (hf.mono fun g hg => ⟨hg.1, by rw [hb]; exact fun e => hg.2 (Option.some.inj e).symm⟩)
  have hfr' : (σ.setO id none).fresh id' := ⟨hfr.1, fun k o hk => by
    rw [St.obj_setO] at hk
    split at hk
    · cases hk
    · exact hfr.2 k o hk⟩
  refine h1.name hfr' hpin (fun g hg => ?_) (ho.frame (fun _ h => h) (fun _ _ => rfl) (fun _ _ => rfl) fun i hi => by rw [hrow i] at hi; cases hi)
  have hsz : ∀ k o, (σ.setO id none).obj k = some o → id ≠ k ∧ σ.obj k = some o := fun k o hk => by
    rw [St.obj_setO] at hk
    split at hk
    · cases hk
    · exact ⟨by assumption, hk⟩
  rcases hv g hg with hb | hge
  · refine ⟨(h.own id ob g hid hb).1, (h.own id ob g hid hb).2, fun k o hk e => ?_⟩
    obtain ⟨hne, hk'⟩ := hsz k o hk
    exact h.sep id k ob o g hne hid hk' hb e
  · refine ⟨fun hF => ?_, fun hA => ?_, fun k o hk e => ?_⟩
    · have := h.cok.lt g hF; have := h.frame.size; omega
    · have := (h.stab g hA).1; omega
    · obtain ⟨hne, hk'⟩ := hsz k o hk
      have := (h.objs k o hk').lt e; omega

theorem Yc5 {id : Nat} {ob ob' : Obj} {c : Prop} {ks ks' : List Key} {e : Eff} {v' : Value} (h : Xbv C μ A σ a w) (hr : (Xxw o .own ob' [(id, none)] c).run σ ks = some (e, ks')) (hd : ∀ d, o.dst = some d → d < C.n) (hn : Xut C σ e)
    (hid : σ.obj id = some ob) (hrun : (execOp a.eval o).run P w = .ok (.value v') w') (hf : Fr (fun g => g < w.heap.size ∧ Xem (μ id) ≠ some g) w w') (hv : ∀ g, Xem v' = some g → Xem (μ id) = some g ∨ w.heap.size ≤ g)
    (ho : Xg8 w' A μ ob' v') (hrow : ∀ i, ob'.has i = false) : Xhj P C o (e.app σ) a w := by
  obtain ⟨d, h1, rfl⟩ := Xlk hr
  obtain ⟨hfr, hpin⟩ := hn (d * 16) (by simp)
  have h2 := (h.move hid hf hv hfr hpin ho hrow).put (d := some d) (x := .own (d * 16)) (v := v') (by have := Rep.own (w := w') (A := A) (μ := upd μ (d * 16) v') (d * 16); rwa [Xe3] at this) (fun t ht => hd t (h1.trans ht))
  refine Xhu hrun ⟨upd μ (d * 16) v', A, ?_⟩
  rw [h1]
  exact h2

theorem Xzy (hT : TOk P T) (h : Xbv C μ A σ a w) (hd : ∀ d, o.dst = some d → d < C.n) {t tx : Nat} {x y : Operand} {c : Call} (ho : o.op = .call c) (hcal : c.callee = .builtin .append) (hty : c.argTypes = #[t, tx]) (hargs : c.args = #[x, y])
    {s v : AV} (hs : Ev σ x s) (hv : Ev σ y v) {ks ks' : List Key} {e : Eff} (hr : (Yaa T o t tx s v).run σ ks = some (e, ks')) (hc : e.cond) (hn : Xut C σ e) : Xhj P C o (e.app σ) a w := by
  have h1 := h.ev hs
  have h2 := h.ev hv
  have hexec : ∀ {v' : Value} {w' : World}, (Builtin.append_ #[t, tx] o.type #[a.eval x, a.eval y]).run P w = .ok v' w' → (execOp a.eval o).run P w = .ok (.value v') w' := by
    intro v' w' hrun
    simp [execOp, ho, resolve, hcal, hty, hargs, invoke, builtin, hrun]
  unfold Yaa at hr
  split at hr
  rotate_left
  · simp [RM.run] at hr
  rename_i htx0
  have htx : Yft P tx := by
    unfold Yhp at htx0
    split at htx0
    · exact .inr ⟨_, Xe4 hT (by assumption)⟩
    · exact .inl (Xyk hT (by assumption))
    · cases htx0
  -- an own row, a new row
  have own : ∀ {e' n b : Nat} {z : List SV} {ek : EK} {ei : TI} {id : Nat} {ob ob' : Obj} {xs ys : List (List SV)} {q : Prop} {ks : List Key}, T t = some ⟨.slice e', n, b, z, ek⟩ → T e' = some ei → s = .own id → σ.obj id = some ob → ob.elems = some (ei.size, xs) → ob'.elems = some (ei.size, xs ++ ys) → ob'.wf →
      (q → Apd P w A (a.eval y) ei.size ys) → (∀ i, ob'.has i = false) → (Xxw o .own ob' [(id, none)] (q ∧ (xs.length + ys.length) * ei.bytes ≤ 140737488355328 ∧ xs.length + ys.length ≤ maxLen)).run σ ks = some (e, ks') → Xhj P C o (e.app σ) a w := by
    intro e' n b z ek ei id ob ob' xs ys q ks ht he hs1 hob hx hx' hwf hap hrow hr0
    subst hs1
    obtain ⟨d, hd1, he2⟩ := Xlk hr0
    have hc' : q ∧ (xs.length + ys.length) * ei.bytes ≤ 140737488355328 ∧ xs.length + ys.length ≤ maxLen := by rw [he2] at hc; exact hc
    obtain ⟨news, n1, n2, n3, n4, n5, n6⟩ := hap hc'.1
    generalize hu : a.eval x = u at h1
    cases h1 with
    | own id =>
      obtain ⟨v', w', hrun, hf, hb, hrep⟩ := Xti (P := P) hT ht he htx (h.objs _ ob hob) hx (fun g hg => ⟨(h.stab g hg).1, fun e => (h.own _ ob g hob e).2 hg⟩) n1 n2 n3 n4 hc'.2.1 hc'.2.2 o.type
      exact Yc5 h hr0 hd hn hob (hexec (by rw [hu]; exact hrun)) hf hb (hrep ob' ys hx' hwf rfl n5 n6) hrow
  have nil : ∀ {e' n b : Nat} {z : List SV} {ek : EK} {ei : TI} {ob ob' : Obj} {ys : List (List SV)} {q : Prop} {ks : List Key}, T t = some ⟨.slice e', n, b, z, ek⟩ → T e' = some ei → s = .sv .nil → ob.elems = some (ei.size, []) → ob.wf → ob'.elems = some (ei.size, ys) → ob'.wf →
      (q → Apd P w A (a.eval y) ei.size ys) → (∀ i, ob'.has i = false) → (Xxw o .own ob' [] (q ∧ ys.length * ei.bytes ≤ 140737488355328 ∧ ys.length ≤ maxLen)).run σ ks = some (e, ks') → Xhj P C o (e.app σ) a w := by
    intro e' n b z ek ei ob ob' ys q ks ht he hs1 hx hwf0 hx' hwf hap hrow hr0
    subst hs1
    obtain ⟨d, hd1, he2⟩ := Xlk hr0
    have hc' : q ∧ ys.length * ei.bytes ≤ 140737488355328 ∧ ys.length ≤ maxLen := by rw [he2] at hc; exact hc
    obtain ⟨news, n1, n2, n3, n4, n5, n6⟩ := hap hc'.1
    have hu := Xkx h1
    obtain ⟨v', w', hrun, hf, hb, hrep⟩ := Xti (P := P) (A := A) (μ := μ) hT ht he htx (.none ob ei.size hx hwf0) hx (fun g hg => ⟨(h.stab g hg).1, by simp [Xem]⟩) n1 n2 n3 n4 (by simpa using hc'.2.1) (by simpa using hc'.2.2) o.type
    have hb' : ∀ g, Xem v' = some g → w.heap.size ≤ g := fun g hg => (hb g hg).elim (fun e => by simp [Xem] at e) (fun e => e)
    exact Xjo h Xfw hr0 hd hn (hexec (by rw [hu]; exact hrun)) (hf.mono fun g hg => ⟨hg, by simp [Xem]⟩) hb' (fun id _ => hrow id) (hrep ob' ys (by simpa using hx') hwf rfl n5 n6) (fun μ' id hm => by rw [← hm]; exact .own id)
  split at hr
  · split at hr
    · rename_i ei he
      have hek := (hT _ ei he).ek
      split at hr
      · rename_i kd hk
        rw [hk] at hek
        split at hr
        · simp only [RM.run] at hr
          split at hr
          · rename_i k l hob
            split at hr
            · rename_i hkk
              subst hkk
              obtain ⟨l', q, k2, hr, hap⟩ := Xph h h2 hr
              refine own (ks := k2) (by assumption) he rfl hob (ob' := .ints k (l ++ l')) (ys := l'.map fun n => [SV.int k n]) (by rw [hek.1]; rfl) (by rw [hek.1]; simp [Obj.elems]) trivial (fun hq => by rw [hek.1]; exact hap hq) (fun _ => rfl) ?_
              simpa using hr
            · simp [RM.run] at hr
          · simp [RM.run] at hr
        · obtain ⟨l', q, k2, hr, hap⟩ := Xph h h2 hr
          refine nil (ks := k2) (by assumption) he rfl (ob := .ints kd []) (ob' := .ints kd l') (by rw [hek.1]; rfl) trivial (by rw [hek.1]; rfl) trivial (fun hq => by rw [hek.1]; exact hap hq) (fun _ => rfl) ?_
          simpa using hr
        · simp [RM.run] at hr
      · rename_i cd hk
        rw [hk] at hek
        split at hr
        · simp only [RM.run] at hr
          split at hr
          · rename_i c' l hob
            split at hr
            · rename_i hsz
              have hsz := Nat.eq_of_beq_eq_true hsz
              have hcok : c'.ok := (h.objs _ _ hob).wf
              obtain ⟨l', q, k2, hr, hap⟩ := Xwi h hcok h2 hr
              refine own (ks := k2) (by assumption) he rfl hob (ob' := .row c' (l ++ l')) (ys := l'.map c'.enc) (by rw [← hsz]; rfl) (by rw [← hsz]; simp [Obj.elems]) hcok (fun hq => by rw [← hsz]; exact hap hq) (fun _ => rfl) ?_
              simpa using hr
            · simp [RM.run] at hr
          · simp [RM.run] at hr
        · obtain ⟨l', q, k2, hr, hap⟩ := Xwi h hek.1 h2 hr
          refine nil (ks := k2) (by assumption) he rfl (ob := .row cd []) (ob' := .row cd l') (ys := l'.map cd.enc) (by rw [← hek.2.1]; rfl) hek.1 (by rw [← hek.2.1]; rfl) hek.1 (fun hq => by rw [← hek.2.1]; exact hap hq) (fun _ => rfl) ?_
          simpa using hr
        · simp [RM.run] at hr
      · simp [RM.run] at hr
    · simp [RM.run] at hr
  · simp [RM.run] at hr
end
end Go.Proofs.YtlebkepfhdjnmacAL
/- An abstract logic for Go functions: all operations together. Conditions: as each statement tells. -/
namespace Go.Proofs.YtlebkepfhdjnmacAL
open Go.RowKit
set_option linter.unusedVariables false
section
variable {P : Program} {T : Nat → Option TI} {C : Ctx} {μ : Nat → Value} {A : Nat → Prop} {σ σ' : St} {a : Act} {w w' : World} {o : Oper}

theorem Xjl {α : Type} {a : Array α} {l : List α} (h : a.toList = l) : a = l.toArray := by rw [← h]
theorem Xx2 (hT : TOk P T) (h : Xbv C μ A σ a w) (hd : ∀ d, o.dst = some d → d < C.n) {c : Call} {b : Builtin} (ho : o.op = .call c) (hcal : c.callee = .builtin b) {ks ks' : List Key} {e : Eff}
    (hr : (Xws T o b c.argTypes.toList c.args.toList).run σ ks = some (e, ks')) (hc : e.cond) (hn : Xut C σ e) : Xhj P C o (e.app σ) a w := by
  unfold Xws at hr
  split at hr
  · -- len
    obtain ⟨v, k1, hv, hr⟩ := Xbc hr
    obtain ⟨n, hu, k1, k2, hr⟩ := Ygq hT h hr (h.ev hv)
    refine Xat h hr hd (fun _ => ?_) (fun _ => .sv (.int _ _)) hc
    have hl := Ygu (P := P) _ _ w n hu [] o.type
    have ha := Xjl (by assumption : c.args.toList = [_])
    have htt := Xjl (by assumption : c.argTypes.toList = [_])
    simp [execOp, ho, resolve, hcal, ha, htt, invoke, builtin, hl]
  · -- append
    obtain ⟨v, k1, hv, hr⟩ := Xbc hr
    obtain ⟨v2, k2, hv2, hr⟩ := Xbc hr
    exact Xzy hT h hd ho hcal (Xjl (by assumption)) (Xjl (by assumption)) hv hv2 hr hc hn
  · obtain ⟨v, k1, hv, hr⟩ := Xbc hr
    obtain ⟨v2, k2, hv2, hr⟩ := Xbc hr
    split at hr
    · split at hr
      · rename_i hk
        subst hk
        refine Xat h hr hd (fun _ => ?_) (fun _ => .sv (.int _ _)) hc
        have ha := Xjl (by assumption : c.args.toList = [_, _])
        simp [execOp, ho, resolve, hcal, ha, invoke, builtin, Builtin.max_, Builtin.max2, Xbr (h.ev hv), Xbr (h.ev hv2)]
      · simp [RM.run] at hr
    · simp [RM.run] at hr
  · obtain ⟨v, k1, hv, hr⟩ := Xbc hr
    obtain ⟨v2, k2, hv2, hr⟩ := Xbc hr
    split at hr
    · split at hr
      · rename_i hk
        subst hk
        refine Xat h hr hd (fun _ => ?_) (fun _ => .sv (.int _ _)) hc
        have ha := Xjl (by assumption : c.args.toList = [_, _])
        simp [execOp, ho, resolve, hcal, ha, invoke, builtin, Builtin.min_, Builtin.min2, Xbr (h.ev hv), Xbr (h.ev hv2)]
      · simp [RM.run] at hr
    · simp [RM.run] at hr
  · simp [RM.run] at hr

theorem Ycv (hT : TOk P T) (h : Xbv C μ A σ a w) (hd : ∀ d, o.dst = some d → d < C.n) {ks ks' : List Key} {e : Eff} (hr : (aop T o).run σ ks = some (e, ks')) (hc : e.cond) (hn : Xut C σ e) : Xhj P C o (e.app σ) a w := by
  cases ho : o.op with
  | move x => exact Xwk h hd (.inl ho) (by simpa [aop, ho] using hr) hc
  | assign x => exact Xwk h hd (.inr ho) (by simpa [aop, ho] using hr) hc
  | pick => exact Ycn h hd ho hr hc
  | alloc => exact Yaw hT h hd ho hr hn
  | box => exact Yd4 h hd ho hr hn
  | build => exact Yax hT h hd ho hr hc
  | buildSlice => exact Xqu hT h hd ho hr hn
  | load => exact Ycl hT h hd ho hr hc
  | store => exact Ya0 hT h ho hr hc
  | nilCheck => exact Xvk h hd ho hr hc
  | binOp => exact Yd3 hT h hd ho hr hc
  | unOp => exact Yff h hd ho hr hc
  | convert => exact Yck hT h hd ho hr hc hn
  | makeSlice => exact Ycm hT h hd ho hr hc hn
  | slice t x lo hi m =>
    cases m with
    | none => exact Yaz hT h hd ho hr hc
    | some m => simp [aop, ho, RM.run] at hr
  | fieldAddr => exact Xtq hT h hd ho hr hc
  | indexAddr => exact Xtr hT h hd ho hr hc
  | index => exact Yay hT h hd ho hr hc
  | extract => exact Xx3 h hd ho hr hc
  | call c =>
    simp only [aop, ho] at hr
    split at hr
    · exact Xx2 hT h hd ho (by assumption) hr hc hn
    · simp [RM.run] at hr
  | _ => simp [aop, ho, RM.run] at hr
end
end Go.Proofs.YtlebkepfhdjnmacAL
/- An abstract logic for Go functions: statements, in order and in any order. Conditions: as each statement tells. -/
namespace Go.Proofs.YtlebkepfhdjnmacAL
open Go.RowKit
set_option linter.unusedVariables false

structure Rec : Type 1 where
  rd : List Key
  sl : List (Nat × AV)
  ob : List (Nat × Option Obj)
  nw : List Nat
def Rec.app (r : Rec) (σ : St) : St := { s := r.sl ++ σ.s, o := r.ob ++ σ.o }
def Yeg (ks : List Key) (σ τ : St) : Prop := ∀ k ∈ ks, match k with | .s t => lk τ.s t = lk σ.s t | .o id => lk τ.o id = lk σ.o id
def Xhi (C : Ctx) (ids : List Nat) (σ : St) : Prop := ∀ id ∈ ids, σ.fresh id ∧ C.pin id = none
theorem Xrs {α : Type 1} {σ : St} : ∀ {m : RM α} {ks : List Key} {r : α × List Key}, m.run σ ks = some r → ∀ k ∈ ks, k ∈ r.2
  | .ret a, ks, r, h, k, hk => by simp [RM.run] at h; subst h; exact hk
  | .fail, ks, r, h, k, hk => by simp [RM.run] at h
  | .slot t f, ks, r, h, k, hk => Xrs (m := f (σ.slot t)) h k (by simp [hk])
  | .obj id f, ks, r, h, k, hk => Xrs (m := f (σ.obj id)) h k (by simp [hk])
theorem Xex {α : Type 1} {σ τ : St} : ∀ {m : RM α} {ks : List Key} {r : α × List Key}, m.run σ ks = some r → Yeg r.2 σ τ → m.run τ ks = some r
  | .ret a, ks, r, h, _ => h
  | .fail, ks, r, h, _ => by simp [RM.run] at h
  | .slot t f, ks, r, h, ha => by
    have hk := Xrs (m := f (σ.slot t)) h (.s t) (by simp)
    have e : τ.slot t = σ.slot t := by unfold St.slot; rw [ha _ hk]
    show (f (τ.slot t)).run τ (.s t :: ks) = some r
    rw [e]
    exact Xex (m := f (σ.slot t)) h ha
  | .obj id f, ks, r, h, ha => by
    have hk := Xrs (m := f (σ.obj id)) h (.o id) (by simp)
    have e : τ.obj id = σ.obj id := by unfold St.obj; rw [ha _ hk]
    show (f (τ.obj id)).run τ (.o id :: ks) = some r
    rw [e]
    exact Xex (m := f (σ.obj id)) h ha

section
variable {P : Program} {T : Nat → Option TI} {C : Ctx} {ops : Array Oper}

def Loc (P : Program) (C : Ctx) (ops : Array Oper) (o : Oper) (r : Rec) (σ : St) : Prop :=
  ∀ τ, Yeg r.rd σ τ → Xhi C r.nw τ → ∀ a w, Rel C τ a w → if Region.wanted o (yielded ops a.tmps) then Xhj P C o (r.app τ) a w else Rel C (r.app τ) (a.put o.dst undef) w

theorem Xup {o : Oper} {i t : Nat} {b t' : Bool} {μ : Nat → Value} {A : Nat → Prop} {τ : St} {a : Act} {w : World} (h : Xbv C μ A τ a w) (hg : o.guard = some (i, b)) (hd : (ops[i]?).bind (·.dst) = some t) (ht : t < C.n) (hs : τ.slot t = .sv (.bool t')) :
    Region.wanted o (yielded ops a.tmps) = (t' == b) := by
  have hv := Xho (hs ▸ h.slot t)
  have hlt : t < a.tmps.size := by rw [h.tmps]; exact ht
  have hget : a.tmps[t]? = some (.bool t') := by rw [← hv, Array.getD_eq_getD_getElem?, Array.getElem?_eq_getElem hlt]; rfl
  simp only [Region.wanted, hg, yielded, hd, Option.bind_some, hget]
  cases t' <;> cases b <;> rfl

theorem Yam {o : Oper} {σ : St} {i t d : Nat} {b b' : Bool} (hg : o.guard = some (i, b)) (hdi : (ops[i]?).bind (·.dst) = some t) (ht : t < C.n) (hs : lk σ.s t = some (.sv (.bool b'))) (hne : (b' == b) = false) (hd : o.dst = some d) (hdn : d < C.n) :
    Loc P C ops o ⟨[.s t], [(d, .tup [])], [], []⟩ σ := by
  intro τ ha hf a w ⟨μ, A, h⟩
  have hs' : τ.slot t = .sv (.bool b') := by
    have := ha (.s t) (by simp)
    unfold St.slot
    simp only at this
    rw [this, hs]; rfl
  rw [if_neg (by rw [Xup h hg hdi ht hs', hne]; simp)]
  refine ⟨μ, A, ?_⟩
  rw [hd]
  exact h.put (d := some d) (.tup [] #[] rfl (fun j y u hy => by simp at hy)) (fun t' e => by cases e; exact hdn)

theorem Ye4 {o : Oper} {σ : St} {i t d : Nat} {b : Bool} (hg : o.guard = some (i, b)) (hdi : (ops[i]?).bind (·.dst) = some t) (ht : t < C.n) (hs : lk σ.s t = some (.tup [])) (hd : o.dst = some d) (hdn : d < C.n) :
    Loc P C ops o ⟨[.s t], [(d, .tup [])], [], []⟩ σ := by
  intro τ ha hf a w ⟨μ, A, h⟩
  have hs' : lk τ.s t = some (.tup []) := (ha (.s t) (by simp)).trans hs
  have hv := h.slots t _ hs'
  have hw : Region.wanted o (yielded ops a.tmps) = false := by
    have hlt : t < a.tmps.size := by rw [h.tmps]; exact ht
    generalize hu : a.tmps.getD t undef = u at hv
    cases hv with
    | tup _ vs _ _ =>
      have hget : a.tmps[t]? = some (.tuple vs) := by rw [← hu, Array.getD_eq_getD_getElem?, Array.getElem?_eq_getElem hlt]; rfl
      simp only [Region.wanted, hg, yielded, hdi, Option.bind_some, hget]
      rfl
  rw [if_neg (by rw [hw]; simp)]
  refine ⟨μ, A, ?_⟩
  rw [hd]
  exact h.put (d := some d) (.tup [] #[] rfl (fun j y u hy => by simp at hy)) (fun t' e => by cases e; exact hdn)

inductive Vc (P : Program) (C : Ctx) (ops : Array Oper) : List Oper → List Rec → St → (List Rec → St → Prop) → Prop
  | nil {rs : List Rec} {σ : St} {K : List Rec → St → Prop} (h : K rs σ) : Vc P C ops [] rs σ K
  | cons {o : Oper} {l : List Oper} {rs : List Rec} {σ : St} {K : List Rec → St → Prop} (r : Rec) (h : Loc P C ops o r σ) (hf : Xhi C r.nw σ) (hk : Vc P C ops l (rs ++ [r]) (r.app σ) K) : Vc P C ops (o :: l) rs σ K

theorem Xyd {Q : Exit → Act → World → Prop} : ∀ {l : List Oper} {rs : List Rec} {σ : St} {K : List Rec → St → Prop}, Vc P C ops l rs σ K → (∀ rs σ' a w, K rs σ' → Rel C σ' a w → Q .normal a w) → ∀ a w, Rel C σ a w → wpList P ops Q l a w
  | _, _, _, _, .nil h, hQ, a, w, hR => hQ _ _ a w h hR
  | _, _, σ, _, .cons (o := o) r h hf hk, hQ, a, w, hR => by
    have h1 := h _ (fun k _ => by cases k <;> rfl) hf a w hR
    unfold wpList
    split
    · rename_i hw
      rw [if_pos hw] at h1
      refine .inl ?_
      have h2 : Oper.wp P o a w (fun a' w' => Rel C (r.app σ) a' w') Q := by
        unfold Xhj at h1
        unfold Oper.wp at h1 ⊢
        generalize (execOp a.eval o).run P w = res at h1
        cases res with
        | ok n w' =>
          cases n <;> simp only [Oper.upon] at h1 ⊢ <;> first
            | exact h1
            | exact Calls.mono h1 (fun e w'' he => by cases e <;> first | exact he | exact he.elim | (obtain ⟨_, _, hf⟩ := he; exact hf.elim))
        | halt x w' => cases x <;> simp only [Oper.upon] at h1
      exact Oper.wp_mono (fun a' w' hR' => Xyd hk hQ a' w' hR') h2
    · rename_i hw
      rw [if_neg hw] at h1
      exact Xyd hk hQ _ _ h1
end
end Go.Proofs.YtlebkepfhdjnmacAL
