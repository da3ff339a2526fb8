/- What reads at a type is of a kind, and in range: integers, bools, strings, slices, structs. Laid for one seat by rowgen.py. Conditions: none. -/
import Derived.Test.YtlfbcmhjopichaaKFnExactPacketsOfa
import Derived.Deep.Slices
import Derived.ChangeArms
import Derived.ChangeShapes
import Derived.WideShapes
namespace Go.Proofs.Ytlfbcmhjopichaa.Opn
open Go.RowKit Go.Proofs.YtlfbcmhjopichaaW.PrintWords Go.Deep Go.ChangeShapes Go.WideShapes
set_option linter.unusedVariables false

def Opens {α : Type} (P : Program) (d : Kd α) (ok : α → Prop) (t : TypeId) : Prop :=
  ∀ {H : Type} (enc : TypeId × Value → H) (w : World) (base : Nat) (spare : Nat → Bool) (held : Bool) (fuel : Nat) (cs : List Value) (x : DataW H × List MemPlace),
    DataW.trod enc P w base spare held fuel t cs = some x → ∃ v, ok v ∧ d.K w v cs

theorem Opens.int {P : Program} {k : IntKind} {t : TypeId} (ht : P.underlying t = some (.int k)) : Opens P (Kd.int k) (fun n => (Lit.int k n).wf = true) t := by
  intro H enc w base spare held fuel cs x h
  obtain ⟨n, rfl, _, hw⟩ := DataW.trod_int ht h
  exact ⟨n, hw, rfl⟩
theorem Opens.bool {P : Program} {t : TypeId} (ht : P.underlying t = some .bool) : Opens P Kd.bool (fun _ => True) t := by
  intro H enc w base spare held fuel cs x h
  obtain ⟨n, rfl, _⟩ := DataW.trod_bool ht h
  exact ⟨n, trivial, rfl⟩
theorem Opens.string {P : Program} {t : TypeId} (ht : P.underlying t = some .string) : Opens P Kd.string (fun s => s.size ≤ maxLen) t := by
  intro H enc w base spare held fuel cs x h
  obtain ⟨n, rfl, _, hs⟩ := DataW.trod_string ht h
  exact ⟨n, hs, rfl⟩
theorem Opens.slice {α : Type} {P : Program} {d : Kd α} {ok : α → Prop} {t e : TypeId} (ht : P.underlying t = some (.slice e)) (hc : P.cellsOf e = d.sz) (q : Nat) (h : Opens P d ok e) :
    Opens P (Kd.slice q d) (fun xs => xs.length ≤ maxLen ∧ ∀ x ∈ xs, ok x) t := by
  intro H enc w base spare held fuel cs x hx
  rcases open_slice ht hx with ⟨rfl, _⟩ | ⟨a, len, cap, m, n, D, Pl, rfl, hb, hl, hm, hmm, _, hi⟩
  · exact ⟨[], ⟨by simp, by simp⟩, none, 0, rfl, Nat.le_refl _, rfl, by simp, fun hp => absurd hp (by simp)⟩
  · have hle : len ≤ m := by rw [hmm]; split <;> omega
    have one : ∀ i, i < len → ∃ v, ok v ∧ ∃ c, c.length = d.sz ∧ d.K w v c ∧ ∀ j u, c[j]? = some u → w.cell? (a.add (i * d.sz + j)) = some u := by
      intro i hil
      obtain ⟨cs', h1, h2⟩ := hi i (by omega)
      obtain ⟨v, hv, hK⟩ := h enc w base spare held n cs' _ h2
      rw [hc] at h1
      obtain ⟨_, hcl, hat⟩ := World.cells?_some h1
      refine ⟨v, hv, cs', hcl, hK, fun j u hj => ?_⟩
      have hjl : j < cs'.length := (List.getElem?_eq_some_iff.1 hj).1
      have := hat j (by omega)
      rw [← Go.Deep.add_add, this, hj]
    have all : ∀ k, k ≤ len → ∃ xs : List α, xs.length = k ∧ (∀ x ∈ xs, ok x) ∧ ∀ i p, xs[i]? = some p → ∃ c, c.length = d.sz ∧ d.K w p c ∧ ∀ j u, c[j]? = some u → w.cell? (a.add (i * d.sz + j)) = some u := by
      intro k
      induction k with
      | zero => exact fun _ => ⟨[], rfl, by simp, fun i p hp => by simp at hp⟩
      | succ k ih =>
        intro hk
        obtain ⟨xs, hxl, hxo, hxc⟩ := ih (by omega)
        obtain ⟨v, hv, hrest⟩ := one k (by omega)
        refine ⟨xs ++ [v], by simp [hxl], ?_, fun i p hp => ?_⟩
        · intro x hx'
          rcases List.mem_append.1 hx' with h' | h'
          · exact hxo x h'
          · rw [List.mem_singleton.1 h']; exact hv
        · rcases Nat.lt_or_ge i xs.length with hlt | hge
          · rw [List.getElem?_append_left hlt] at hp
            exact hxc i p hp
          · have hil : i < (xs ++ [v]).length := (List.getElem?_eq_some_iff.1 hp).1
            rw [List.length_append, List.length_singleton] at hil
            obtain rfl : i = k := by omega
            rw [List.getElem?_append_right hge, hxl, Nat.sub_self] at hp
            simp only [List.getElem?_cons_zero, Option.some.injEq] at hp
            rw [← hp]
            exact hrest
    obtain ⟨xs, hxl, hxo, hxc⟩ := all len (Nat.le_refl _)
    have hm' : len ≤ maxLen := Nat.le_trans hl hm
    refine ⟨xs, ⟨by omega, hxo⟩, some a, cap, by rw [hxl], by omega, rfl, ?_, fun _ => ⟨a, rfl, hxc⟩⟩
    unfold maxLen at hm'
    omega

/-- The fields of a struct, from a place on. -/
def OpensF {α : Type} (P : Program) (d : Kd α) (ok : α → Prop) (fs : List Field) (off : Nat) : Prop :=
  ∀ {H : Type} (enc : TypeId × Value → H) (w : World) (base : Nat) (spare : Nat → Bool) (held : Bool) (n : Nat) (cs : List Value),
    (∀ f ∈ fs, ∃ y, DataW.trod enc P w base spare held n f.type ((cs.drop f.offset).take (P.cellsOf f.type)) = some y) → ∃ v, ok v ∧ d.K w v ((cs.drop off).take d.sz)
theorem OpensF.one {α : Type} {P : Program} {d : Kd α} {ok : α → Prop} {f : Field} {off : Nat} (ho : f.offset = off) (hc : P.cellsOf f.type = d.sz) (h : Opens P d ok f.type) : OpensF P d ok [f] off := by
  intro H enc w base spare held n cs hf
  obtain ⟨y, hy⟩ := hf f (by simp)
  rw [ho, hc] at hy
  exact h enc w base spare held n _ y hy
theorem OpensF.cons {α β : Type} {P : Program} {d : Kd α} {d2 : Kd β} {ok : α → Prop} {ok2 : β → Prop} {f : Field} {fs : List Field} {off off2 : Nat} (ho : f.offset = off) (hc : P.cellsOf f.type = d.sz) (h : Opens P d ok f.type) (h2 : OpensF P d2 ok2 fs off2) (he : off2 = off + d.sz) :
    OpensF P (Kd.pair d d2) (fun x => ok x.1 ∧ ok2 x.2) (f :: fs) off := by
  intro H enc w base spare held n cs hf
  obtain ⟨y, hy⟩ := hf f (by simp)
  rw [ho, hc] at hy
  obtain ⟨v, hv, hK⟩ := h enc w base spare held n _ y hy
  obtain ⟨v2, hv2, hK2⟩ := h2 enc w base spare held n cs (fun g hg => hf g (List.mem_cons_of_mem _ hg))
  refine ⟨(v, v2), ⟨hv, hv2⟩, _, _, ?_, hK, hK2⟩
  subst he
  show ((cs.drop off).take (d.sz + d2.sz)) = _
  rw [List.take_add, List.drop_drop]
theorem Opens.struct {α : Type} {P : Program} {d : Kd α} {ok : α → Prop} {t : TypeId} {fs : Array Field} (ht : P.underlying t = some (.struct fs)) (hc : P.cellsOf t = d.sz) (h : OpensF P d ok fs.toList 0) : Opens P d ok t := by
  intro H enc w base spare held fuel cs x hx
  obtain ⟨xs, n, _, _, hl, hxl, hf⟩ := DataW.trod_struct ht hx
  obtain ⟨v, hv, hK⟩ := h enc w base spare held n cs (fun f hfm => by
    obtain ⟨i, hi, he⟩ := List.getElem_of_mem hfm
    have hi' : i < fs.size := by simpa using hi
    have h1 := hf i f (by rw [← he]; simp [hi'])
    exact ⟨xs[i]'(by omega), by rw [h1]; exact List.getElem?_eq_getElem (by omega)⟩)
  refine ⟨v, hv, ?_⟩
  rw [List.drop_zero, List.take_of_length_le (by omega)] at hK
  exact hK
end Go.Proofs.Ytlfbcmhjopichaa.Opn
