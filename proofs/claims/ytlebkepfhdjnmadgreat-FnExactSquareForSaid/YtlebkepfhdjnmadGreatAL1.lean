/- An abstract logic for Go functions, part 1: what a state of symbolic values and objects says of a world, and what each operation does to it. Conditions: as each statement tells. -/
import Derived.Below
import Derived.ChangeArms
import Derived.ChangeShapes
import Derived.Deep.Slices
import Derived.Laws.StructEq
import Derived.Orders
import Derived.Tactics
import Derived.WideShapes
import Derived.Test.YtlebkepfhdjnmadGreatAL0
set_option linter.unusedSimpArgs false
/- An abstract logic for Go functions: statements whose order is open. Conditions: as each statement tells. -/
namespace Go.Proofs.YtlebkepfhdjnmadGreatAL
open Go.RowKit
set_option linter.unusedVariables false

def Xuw (b : Nat → Bool) : Nat → List Rec → St → St
  | _, [], σ => σ
  | i, r :: rs, σ => Xuw b (i + 1) rs (bif b i then r.app σ else σ)
def Xzt {β : Type 1} (f : Rec → List (Nat × β)) (b : Nat → Bool) : Nat → List Rec → Nat → Option β
  | _, [], _ => none
  | i, r :: rs, t => (Xzt f b (i + 1) rs t).or (bif b i then lk (f r) t else none)
theorem Yhb {β : Type 1} (l l' : List (Nat × β)) (t : Nat) : lk (l ++ l') t = (lk l t).or (lk l' t) := by
  rw [Ye2]; cases lk l t <;> rfl
theorem Yfj (b : Nat → Bool) : ∀ (rs : List Rec) (i : Nat) (σ : St) (t : Nat), lk (Xuw b i rs σ).s t = (Xzt Rec.sl b i rs t).or (lk σ.s t)
  | [], i, σ, t => rfl
  | r :: rs, i, σ, t => by
    rw [Xuw, Yfj b rs (i + 1), Xzt, Option.or_assoc]
    congr 1
    cases hb : b i with
    | true => simp only [cond_true, Rec.app]; rw [Yhb]
    | false => rfl
theorem Yfi (b : Nat → Bool) : ∀ (rs : List Rec) (i : Nat) (σ : St) (t : Nat), lk (Xuw b i rs σ).o t = (Xzt Rec.ob b i rs t).or (lk σ.o t)
  | [], i, σ, t => rfl
  | r :: rs, i, σ, t => by
    rw [Xuw, Yfi b rs (i + 1), Xzt, Option.or_assoc]
    congr 1
    cases hb : b i with
    | true => simp only [cond_true, Rec.app]; rw [Yhb]
    | false => rfl
theorem Xrw {β : Type 1} (f : Rec → List (Nat × β)) {b b' : Nat → Bool} {t : Nat} : ∀ (rs : List Rec) (i : Nat), (∀ (j : Nat) (r : Rec), rs[j]? = some r → (lk (f r) t).isSome = true → b (i + j) = b' (i + j)) → Xzt f b i rs t = Xzt f b' i rs t
  | [], i, _ => rfl
  | r :: rs, i, h => by
    have ih := Xrw (t := t) f rs (i + 1) (fun j r' hj hs => by
      have h1 := h (j + 1) r' (by simpa using hj) hs
      exact (show i + (j + 1) = i + 1 + j by omega) ▸ h1)
    rw [Xzt, Xzt, ih]
    have h0 := h 0 r rfl
    simp only [Nat.add_zero] at h0
    congr 1
    cases hs : lk (f r) t with
    | none => cases b i <;> cases b' i <;> rfl
    | some v => rw [h0 (by rw [hs]; rfl)]
theorem Ye0 {β : Type 1} (f : Rec → List (Nat × β)) {b : Nat → Bool} {t : Nat} : ∀ (rs : List Rec) (i : Nat), (∀ (j : Nat) (r : Rec), rs[j]? = some r → b (i + j) = true → lk (f r) t = none) → Xzt f b i rs t = none
  | [], i, _ => rfl
  | r :: rs, i, h => by
    rw [Xzt, Ye0 f rs (i + 1) (fun j r' hj hb => h (j + 1) r' (by simpa using hj) (by rwa [show i + (j + 1) = i + 1 + j by omega]))]
    cases hb : b i with
    | false => rfl
    | true => simpa using h 0 r rfl (by simpa using hb)
theorem Yjd {β : Type 1} (f : Rec → List (Nat × β)) {b : Nat → Bool} {t : Nat} : ∀ (rs : List Rec) (i m : Nat) (r : Rec), rs[m]? = some r → b (i + m) = true → (lk (f r) t).isSome = true → (∀ (j : Nat) (r' : Rec), m < j → rs[j]? = some r' → b (i + j) = true → lk (f r') t = none) → Xzt f b i rs t = lk (f r) t
  | [], i, m, r, hm, _, _, _ => by simp at hm
  | r0 :: rs, i, 0, r, hm, hb, hs, h => by
    simp at hm; subst hm
    rw [Xzt, Ye0 f rs (i + 1) (fun j r' hj hb' => h (j + 1) r' (by omega) (by simpa using hj) (by rwa [show i + (j + 1) = i + 1 + j by omega]))]
    simp only [Nat.add_zero] at hb
    rw [hb]; rfl
  | r0 :: rs, i, m + 1, r, hm, hb, hs, h => by
    rw [Xzt, Yjd f rs (i + 1) m r (by simpa using hm) (by rwa [show i + 1 + m = i + (m + 1) by omega]) hs (fun j r' hj hr' hb' => h (j + 1) r' (by omega) (by simpa using hr') (by rwa [show i + (j + 1) = i + 1 + j by omega]))]
    obtain ⟨v, hv⟩ := Option.isSome_iff_exists.1 hs
    rw [hv]; rfl
theorem Yc8 {β : Type 1} (f : Rec → List (Nat × β)) {b : Nat → Bool} {t : Nat} {v : β} : ∀ (rs : List Rec) (i : Nat), Xzt f b i rs t = some v → ∃ (j : Nat) (r : Rec), rs[j]? = some r ∧ b (i + j) = true ∧ lk (f r) t = some v
  | [], i, h => by simp [Xzt] at h
  | r :: rs, i, h => by
    rw [Xzt] at h
    cases hl : Xzt f b (i + 1) rs t with
    | some u =>
      rw [hl] at h; cases h
      obtain ⟨j, r', h1, h2, h3⟩ := Yc8 f rs (i + 1) hl
      exact ⟨j + 1, r', by simpa using h1, by rwa [show i + (j + 1) = i + 1 + j by omega], h3⟩
    | none =>
      rw [hl] at h
      cases hb : b i with
      | false => rw [hb] at h; cases h
      | true => rw [hb] at h; exact ⟨0, r, rfl, hb, h⟩

/-! ### What may be exchanged -/
def inN (t : Nat) : List Nat → Bool
  | [] => false
  | x :: l => Nat.beq x t || inN t l
theorem Xlo {t : Nat} : ∀ {l : List Nat}, inN t l = true ↔ t ∈ l
  | [] => by simp [inN]
  | x :: l => by
    rw [inN, Bool.or_eq_true, Xlo (l := l), List.mem_cons]
    exact ⟨fun h => h.imp (fun e => (Nat.eq_of_beq_eq_true e).symm) id, fun h => h.imp (fun e => by rw [e]; exact Nat.beq_refl x) id⟩
def Xls (o : Oper) : List Nat := (o.after.toList.filter (fun e => Region.binds .any e)).map (fun e => e.on)
def Yn2 (d : Nat) (l : List Nat) : List Nat := bif inN d l then l else d :: l
def Yja : List Nat → List Nat → List Nat
  | [], m => m
  | x :: l, m => Yja l (Yn2 x m)
theorem Yhg {d k : Nat} {l : List Nat} (h : k ∈ Yn2 d l) : k = d ∨ k ∈ l := by
  unfold Yn2 at h
  cases e : inN d l with
  | true => rw [e] at h; exact .inr h
  | false => rw [e] at h; exact List.mem_cons.1 h
theorem Ybw {k : Nat} : ∀ {l m : List Nat}, k ∈ Yja l m → k ∈ l ∨ k ∈ m
  | [], m, h => .inr h
  | x :: l, m, h => by
    rcases Ybw (l := l) h with h | h
    · exact .inl (List.mem_cons_of_mem _ h)
    · rcases Yhg h with rfl | h
      · exact .inl (List.mem_cons_self ..)
      · exact .inr h
def Ybm : List (List Nat) → List Nat → List Nat
  | anc, [] => []
  | anc, d :: l => Yn2 d (Yja (anc.getD d []) (Ybm anc l))
def Xzs : List Oper → List (List Nat) → List (List Nat)
  | [], anc => anc
  | o :: l, anc => Xzs l (anc ++ [Ybm anc (Xls o)])
def Ybx {β : Type 1} (t : Nat) : List (Nat × β) → Bool
  | [] => true
  | p :: l => !Nat.beq p.1 t && Ybx t l
def Xm4 (ks : List Key) (r : Rec) : Bool :=
  match ks with
  | [] => true
  | .s t :: l => Ybx t r.sl && Xm4 l r
  | .o id :: l => Ybx id r.ob && Xm4 l r
def Xl7 {β : Type 1} : List (Nat × β) → List (Nat × β) → Bool
  | [], _ => true
  | p :: l, m => Ybx p.1 m && Xl7 l m
def Yij (id : Nat) : List (Nat × AV) → Bool
  | [] => false
  | p :: l => p.2.has id || Yij id l
def Yib (id : Nat) : List (Nat × Option Obj) → Bool
  | [] => false
  | p :: l => (match p.2 with | some ob => ob.has id | none => false) || Yib id l
def Xm2 : List Nat → Rec → Bool
  | [], _ => true
  | id :: l, r => !Yij id r.sl && !Yib id r.ob && Xm2 l r
def Xqu (r r' : Rec) : Bool := Xm4 r.rd r' && Xm4 r'.rd r && Xl7 r.sl r'.sl && Xl7 r.ob r'.ob
def Yfb (anc : List (List Nat)) (i : Nat) (r : Rec) (j : Nat) (r' : Rec) : Bool :=
  (inN i (anc.getD j []) || Xm2 r.nw r') && (inN j (anc.getD i []) || Xm2 r'.nw r) && (inN i (anc.getD j []) || inN j (anc.getD i []) || Xqu r r')
def Yjp (anc : List (List Nat)) (i : Nat) (r : Rec) : Nat → List Rec → Bool
  | _, [] => true
  | j, r' :: l => Yfb anc i r j r' && Yjp anc i r (j + 1) l
def Yiv (anc : List (List Nat)) : Nat → List Rec → Bool
  | _, [] => true
  | i, r :: l => Yjp anc i r (i + 1) l && Yiv anc (i + 1) l
def Xqw : Nat → List Oper → Bool
  | _, [] => true
  | i, o :: l => (Xls o).all (fun d => Nat.blt d i) && Xqw (i + 1) l
def Yi1 (σ : St) : List Rec → Bool
  | [] => true
  | r :: l => Xm2 r.nw ⟨[], σ.s, σ.o, []⟩ && Yi1 σ l
def Xgd (ops : List Oper) (rs : List Rec) (σ : St) : Bool := Nat.beq rs.length ops.length && Xqw 0 ops && Yiv (Xzs ops []) 0 rs && Yi1 σ rs

theorem Xw0 {β : Type 1} {t : Nat} : ∀ {l : List (Nat × β)}, Ybx t l = true → lk l t = none
  | [], _ => rfl
  | (k, v) :: l, h => by
    rw [Ybx, Bool.and_eq_true] at h
    rw [Xbc, if_neg, Xw0 h.2]
    intro e; subst e; simp at h
theorem Xou {r : Rec} : ∀ {ks : List Key}, Xm4 ks r = true → ∀ k ∈ ks, match k with | .s t => lk r.sl t = none | .o id => lk r.ob id = none
  | [], _, k, hk => by simp at hk
  | .s t :: l, h, k, hk => by
    rw [Xm4, Bool.and_eq_true] at h
    rcases List.mem_cons.1 hk with rfl | hk
    · exact Xw0 h.1
    · exact Xou h.2 k hk
  | .o id :: l, h, k, hk => by
    rw [Xm4, Bool.and_eq_true] at h
    rcases List.mem_cons.1 hk with rfl | hk
    · exact Xw0 h.1
    · exact Xou h.2 k hk
theorem Xuu {β : Type 1} {m : List (Nat × β)} {t : Nat} : ∀ {l : List (Nat × β)}, Xl7 l m = true → (lk l t).isSome = true → lk m t = none
  | [], _, h => by simp [lk] at h
  | (k, v) :: l, h, hs => by
    rw [Xl7, Bool.and_eq_true] at h
    rw [Xbc] at hs
    by_cases e : k = t
    · subst e; exact Xw0 h.1
    · rw [if_neg e] at hs; exact Xuu h.2 hs
theorem Ydq {id t : Nat} {v : AV} : ∀ {l : List (Nat × AV)}, Yij id l = false → lk l t = some v → v.has id = false
  | [], _, h => by simp [lk] at h
  | (k, u) :: l, h, hv => by
    rw [Yij, Bool.or_eq_false_iff] at h
    rw [Xbc] at hv
    split at hv
    · cases hv; exact h.1
    · exact Ydq h.2 hv
theorem Ydg {id t : Nat} {ob : Obj} : ∀ {l : List (Nat × Option Obj)}, Yib id l = false → lk l t = some (some ob) → ob.has id = false
  | [], _, h => by simp [lk] at h
  | (k, u) :: l, h, hv => by
    rw [Yib, Bool.or_eq_false_iff] at h
    rw [Xbc] at hv
    split at hv
    · cases hv; exact h.1
    · exact Ydg h.2 hv
theorem Xm3 {r : Rec} {id : Nat} : ∀ {l : List Nat}, Xm2 l r = true → id ∈ l → Yij id r.sl = false ∧ Yib id r.ob = false
  | [], _, h => by simp at h
  | x :: l, h, hm => by
    rw [Xm2, Bool.and_eq_true, Bool.and_eq_true] at h
    rcases List.mem_cons.1 hm with rfl | hm
    · exact ⟨by simpa using h.1.1, by simpa using h.1.2⟩
    · exact Xm3 h.2 hm
theorem Yhk {anc : List (List Nat)} {i : Nat} {r : Rec} : ∀ {l : List Rec} {n j : Nat} {r' : Rec}, Yjp anc i r n l = true → l[j]? = some r' → Yfb anc i r (n + j) r' = true
  | [], n, j, r', _, h => by simp at h
  | x :: l, n, 0, r', h, hj => by rw [Yjp, Bool.and_eq_true] at h; simp at hj; subst hj; exact h.1
  | x :: l, n, j + 1, r', h, hj => by rw [Yjp, Bool.and_eq_true] at h; have := Yhk h.2 (show l[j]? = some r' by simpa using hj); rwa [show n + (j + 1) = n + 1 + j by omega]
theorem Ycd {anc : List (List Nat)} : ∀ {l : List Rec} {n i j : Nat} {r r' : Rec}, Yiv anc n l = true → l[i]? = some r → l[j]? = some r' → i < j → Yfb anc (n + i) r (n + j) r' = true
  | [], n, i, j, r, r', _, h, _, _ => by simp at h
  | x :: l, n, 0, j, r, r', h, hi, hj, hij => by
    rw [Yiv, Bool.and_eq_true] at h
    simp at hi; subst hi
    obtain ⟨k, rfl⟩ : ∃ k, j = k + 1 := ⟨j - 1, by omega⟩
    have := Yhk h.1 (show l[k]? = some r' by simpa using hj)
    rwa [show n + (k + 1) = n + 1 + k by omega]
  | x :: l, n, i + 1, j, r, r', h, hi, hj, hij => by
    rw [Yiv, Bool.and_eq_true] at h
    obtain ⟨k, rfl⟩ : ∃ k, j = k + 1 := ⟨j - 1, by omega⟩
    have := Ycd h.2 (show l[i]? = some r by simpa using hi) (show l[k]? = some r' by simpa using hj) (by omega)
    rwa [show n + (i + 1) = n + 1 + i by omega, show n + (k + 1) = n + 1 + k by omega]
end Go.Proofs.YtlebkepfhdjnmadGreatAL
/- An abstract logic for Go functions: whatever order a statement takes, it comes to the same. Conditions: as each statement tells. -/
namespace Go.Proofs.YtlebkepfhdjnmadGreatAL
open Go.RowKit
set_option linter.unusedVariables false

def Ygu : List Rec → St → St
  | [], σ => σ
  | r :: rs, σ => Ygu rs (r.app σ)
theorem Yb3 {b : Nat → Bool} : ∀ (rs : List Rec) (n : Nat) (σ : St), (∀ j, n ≤ j → b j = false) → Xuw b n rs σ = σ
  | [], _, _, _ => rfl
  | r :: rs, n, σ, h => by rw [Xuw, h n (Nat.le_refl _)]; exact Yb3 rs (n + 1) σ (fun j hj => h j (by omega))
theorem Yfk {b : Nat → Bool} : ∀ (rs : List Rec) (n i : Nat) (σ : St), (∀ j, b j = decide (j < n + i)) → Xuw b n rs σ = Ygu (rs.take i) σ
  | [], n, i, σ, h => by simp [Xuw, Ygu]
  | r :: rs, n, 0, σ, h => by rw [Yb3 (r :: rs) n σ (fun j hj => by rw [h]; simp; omega)]; rfl
  | r :: rs, n, i + 1, σ, h => by
    rw [Xuw, h n, decide_eq_true (by omega)]
    exact Yfk rs (n + 1) i (r.app σ) (fun j => by rw [h]; congr 1; rw [show n + (i + 1) = n + 1 + i by omega])
theorem Yhn {b : Nat → Bool} : ∀ (rs : List Rec) (n : Nat) (σ : St), (∀ j, n ≤ j → j < n + rs.length → b j = true) → Xuw b n rs σ = Ygu rs σ
  | [], _, _, _ => rfl
  | r :: rs, n, σ, h => by
    rw [Xuw, h n (Nat.le_refl _) (by simp)]
    exact Yhn rs (n + 1) (r.app σ) (fun j h1 h2 => h j (by omega) (by simp; omega))

section
variable {P : Program} {C : Ctx} {opsA : Array Oper}
theorem Ykb : ∀ {l : List Oper} {rs0 : List Rec} {σ : St} {K : List Rec → St → Prop}, Vc P C opsA l rs0 σ K →
    ∃ rs, rs.length = l.length ∧ K (rs0 ++ rs) (Ygu rs σ) ∧ ∀ (i : Nat) (o : Oper) (r : Rec), l[i]? = some o → rs[i]? = some r → Loc P C opsA o r (Ygu (rs.take i) σ) ∧ Xj7 C r.nw (Ygu (rs.take i) σ)
  | _, rs0, σ, K, .nil h => ⟨[], rfl, by simpa [Ygu] using h, fun i o r hi => by simp at hi⟩
  | _, rs0, σ, K, .cons (o := o) (l := l) r h hf hk => by
    obtain ⟨rs, h1, h2, h3⟩ := Ykb hk
    refine ⟨r :: rs, by simp [h1], by simpa [Ygu, List.append_assoc] using h2, fun i o' r' ho hr => ?_⟩
    cases i with
    | zero => simp at ho hr; subst ho; subst hr; exact ⟨h, hf⟩
    | succ i => exact h3 i o' r' (by simpa using ho) (by simpa using hr)

theorem Xyi {anc : List (List Nat)} {k : Nat} : ∀ {l : List Nat}, k ∈ Ybm anc l → ∃ d ∈ l, k = d ∨ k ∈ anc.getD d []
  | [], h => by simp [Ybm] at h
  | d :: l, h => by
    rw [Ybm] at h
    rcases Yhg h with rfl | h
    · exact ⟨k, by simp, .inl rfl⟩
    · rcases Ybw h with h | h
      · exact ⟨d, by simp, .inr h⟩
      · obtain ⟨d', h1, h2⟩ := Xyi h
        exact ⟨d', by simp [h1], h2⟩
theorem Ygt : ∀ (l : List Oper) (anc : List (List Nat)), ∃ m, Xzs l anc = anc ++ m ∧ m.length = l.length
  | [], anc => ⟨[], by simp [Xzs], rfl⟩
  | o :: l, anc => by
    obtain ⟨m, h, hl⟩ := Ygt l (anc ++ [Ybm anc (Xls o)])
    exact ⟨Ybm anc (Xls o) :: m, by rw [Xzs, h]; simp, by simp [hl]⟩
theorem Yfz : ∀ (l : List Oper) (anc : List (List Nat)) (j : Nat) (o : Oper), l[j]? = some o → (Xzs l anc).getD (anc.length + j) [] = Ybm ((Xzs l anc).take (anc.length + j)) (Xls o)
  | [], anc, j, o, h => by simp at h
  | o0 :: l, anc, 0, o, h => by
    simp at h; subst h
    obtain ⟨m, hm, _⟩ := Ygt l (anc ++ [Ybm anc (Xls o0)])
    rw [Xzs, hm]
    simp [List.getD]
  | o0 :: l, anc, j + 1, o, h => by
    have := Yfz l (anc ++ [Ybm anc (Xls o0)]) j o (by simpa using h)
    rw [Xzs]
    simpa [Nat.add_assoc, Nat.add_comm 1 j] using this
theorem Xnt : ∀ {l : List Oper} {n i : Nat} {o : Oper}, Xqw n l = true → l[i]? = some o → ∀ d ∈ Xls o, d < n + i
  | [], n, i, o, _, h => by simp at h
  | o0 :: l, n, 0, o, hb, h => by
    rw [Xqw, Bool.and_eq_true] at hb
    simp at h; subst h
    intro d hd
    have := List.all_eq_true.1 hb.1 d hd
    simpa [Nat.blt_eq] using this
  | o0 :: l, n, i + 1, o, hb, h => by
    rw [Xqw, Bool.and_eq_true] at hb
    intro d hd
    have := Xnt hb.2 (show l[i]? = some o by simpa using h) d hd
    omega

theorem Ylv {l : List Oper} (hb : Xqw 0 l = true) : ∀ (j : Nat), j < l.length → ∀ k ∈ (Xzs l []).getD j [], k < j := by
  intro j
  induction j using Nat.strongRecOn with
  | _ j ih =>
    intro hj k hk
    have ho : l[j]? = some l[j] := List.getElem?_eq_getElem hj
    have e := Yfz l [] j _ ho
    simp only [List.length_nil, Nat.zero_add] at e
    rw [e] at hk
    obtain ⟨d, hd, h⟩ := Xyi hk
    have hdj := Xnt hb ho d hd
    rw [Nat.zero_add] at hdj
    rcases h with rfl | h
    · exact hdj
    · have h' : k ∈ (Xzs l []).getD d [] := by
        rw [List.getD_eq_getElem?_getD, List.getElem?_take_of_lt hdj, ← List.getD_eq_getElem?_getD] at h
        exact h
      have := ih d hdj (by omega) k h'
      omega
theorem Ylu {l : List Oper} (hb : Xqw 0 l = true) {b : Nat → Bool} (hc : ∀ (j : Nat) (o : Oper), l[j]? = some o → b j = true → ∀ d ∈ Xls o, b d = true) : ∀ (j : Nat) (o : Oper), l[j]? = some o → (∀ d ∈ Xls o, b d = true) → ∀ k ∈ (Xzs l []).getD j [], b k = true := by
  intro j
  induction j using Nat.strongRecOn with
  | _ j ih =>
    intro o ho hn k hk
    have e := Yfz l [] j _ ho
    simp only [List.length_nil, Nat.zero_add] at e
    rw [e] at hk
    obtain ⟨d, hd, h⟩ := Xyi hk
    have hdj := Xnt hb ho d hd
    rw [Nat.zero_add] at hdj
    rcases h with rfl | h
    · exact hn k hd
    · have h' : k ∈ (Xzs l []).getD d [] := by
        rw [List.getD_eq_getElem?_getD, List.getElem?_take_of_lt hdj, ← List.getD_eq_getElem?_getD] at h
        exact h
      have hdl : d < l.length := by have := (List.getElem?_eq_some_iff.1 ho).1; omega
      exact ih d hdj l[d] (List.getElem?_eq_getElem hdl) (hc d _ (List.getElem?_eq_getElem hdl) (hn d hd)) k h'

def Eqv (σ τ : St) : Prop := (∀ t, lk σ.s t = lk τ.s t) ∧ ∀ t, lk σ.o t = lk τ.o t
theorem Rel.eqv {σ τ : St} {a : Act} {w : World} (h : Rel C σ a w) (he : Eqv σ τ) : Rel C τ a w := by
  obtain ⟨μ, A, h⟩ := h
  exact ⟨μ, A, h.weaken (fun t v hv => .inl (by rw [he.1]; exact hv)) fun id ob hb => by unfold St.obj at hb ⊢; rw [he.2]; exact hb⟩

def Yd7 (b : Nat → Bool) (i : Nat) : Nat → Bool := fun j => if j = i then true else b j
section
variable {l : List Oper} {rs : List Rec} {σ0 : St} {b : Nat → Bool} {i : Nat} {o : Oper} {r : Rec}

theorem Xwv (hfree : Xgd l rs σ0 = true) {i j : Nat} {r r' : Rec} (hi : rs[i]? = some r) (hj : rs[j]? = some r') (hij : i < j) (hn : i ∉ (Xzs l []).getD j []) : Xqu r r' = true ∧ Xm2 r.nw r' = true := by
  unfold Xgd at hfree
  rw [Bool.and_eq_true, Bool.and_eq_true, Bool.and_eq_true] at hfree
  obtain ⟨⟨⟨hl, hb⟩, hall⟩, _⟩ := hfree
  have hl := Nat.eq_of_beq_eq_true hl
  have h := Ycd hall hi hj hij
  simp only [Nat.zero_add] at h
  unfold Yfb at h
  rw [Bool.and_eq_true, Bool.and_eq_true] at h
  have hni : inN i ((Xzs l []).getD j []) = false := by
    cases e : inN i ((Xzs l []).getD j []) with
    | false => rfl
    | true => exact absurd (Xlo.1 e) hn
  have hil : i < l.length := by rw [← hl]; exact (List.getElem?_eq_some_iff.1 hi).1
  have hnj : inN j ((Xzs l []).getD i []) = false := by
    cases e : inN j ((Xzs l []).getD i []) with
    | false => rfl
    | true => have := Ylv hb i hil j (Xlo.1 e); omega
  rw [hni, hnj] at h
  simp only [Bool.false_or] at h
  exact ⟨h.2, h.1.1⟩
theorem Yjn (hfree : Xgd l rs σ0 = true) {i j : Nat} {r r' : Rec} (hi : rs[i]? = some r) (hj : rs[j]? = some r') (hij : i < j) : Xm2 r'.nw r = true := by
  unfold Xgd at hfree
  rw [Bool.and_eq_true, Bool.and_eq_true, Bool.and_eq_true] at hfree
  obtain ⟨⟨⟨hl, hb⟩, hall⟩, _⟩ := hfree
  have hl := Nat.eq_of_beq_eq_true hl
  have h := Ycd hall hi hj hij
  simp only [Nat.zero_add] at h
  unfold Yfb at h
  rw [Bool.and_eq_true, Bool.and_eq_true] at h
  have hil : i < l.length := by rw [← hl]; exact (List.getElem?_eq_some_iff.1 hi).1
  have hnj : inN j ((Xzs l []).getD i []) = false := by
    cases e : inN j ((Xzs l []).getD i []) with
    | false => rfl
    | true => have := Ylv hb i hil j (Xlo.1 e); omega
  rw [hnj] at h
  simpa using h.1.2
theorem Ymb (hfree : Xgd l rs σ0 = true) {i : Nat} {r : Rec} (hi : rs[i]? = some r) : Xm2 r.nw ⟨[], σ0.s, σ0.o, []⟩ = true := by
  unfold Xgd at hfree
  rw [Bool.and_eq_true] at hfree
  have h := hfree.2
  clear hfree
  induction rs generalizing i with
  | nil => simp at hi
  | cons x rs ih =>
    rw [Yi1, Bool.and_eq_true] at h
    cases i with
    | zero => simp at hi; subst hi; exact h.1
    | succ i => exact ih (by simpa using hi) h.2

theorem Ygj (hfree : Xgd l rs σ0 = true) (hc : ∀ (j : Nat) (o : Oper), l[j]? = some o → b j = true → ∀ d ∈ Xls o, b d = true) (ho : l[i]? = some o) (hbi : b i = false) (hneed : ∀ d ∈ Xls o, b d = true) :
    (∀ j, j < i → b j = false → j ∉ (Xzs l []).getD i []) ∧ (∀ j o', l[j]? = some o' → b j = true → i ∉ (Xzs l []).getD j []) := by
  have hb : Xqw 0 l = true := by
    unfold Xgd at hfree
    rw [Bool.and_eq_true, Bool.and_eq_true, Bool.and_eq_true] at hfree
    exact hfree.1.1.2
  refine ⟨fun j _ hbj hm => ?_, fun j o' ho' hbj hm => ?_⟩
  · have := Ylu hb hc i o ho hneed j hm
    rw [hbj] at this; cases this
  · have := Ylu hb hc j o' ho' (hc j o' ho' hbj) i hm
    rw [hbi] at this; cases this

theorem Ykn (hfree : Xgd l rs σ0 = true) (hc : ∀ (j : Nat) (o : Oper), l[j]? = some o → b j = true → ∀ d ∈ Xls o, b d = true) (ho : l[i]? = some o) (hr : rs[i]? = some r) (hbi : b i = false) (hneed : ∀ d ∈ Xls o, b d = true) :
    Ykg r.rd (Ygu (rs.take i) σ0) (Xuw b 0 rs σ0) := by
  obtain ⟨h1, h2⟩ := Ygj hfree hc ho hbi hneed
  have hlen : rs.length = l.length := by
    unfold Xgd at hfree
    rw [Bool.and_eq_true, Bool.and_eq_true, Bool.and_eq_true] at hfree
    exact Nat.eq_of_beq_eq_true hfree.1.1.1
  have hin : Ygu (rs.take i) σ0 = Xuw (fun j => decide (j < 0 + i)) 0 rs σ0 := (Yfk rs 0 i σ0 (fun j => rfl)).symm
  -- writers of a key that is read
  have key : ∀ {β : Type 1} (f : Rec → List (Nat × β)) (t : Nat), (∀ (r' : Rec), Xm4 r.rd r' = true → lk (f r') t = none) → ∀ (j : Nat) (r' : Rec), rs[j]? = some r' → (lk (f r') t).isSome = true → b (0 + j) = decide (0 + j < 0 + i) := by
    intro β f t hap j r' hj hs
    have hjl : j < l.length := by rw [← hlen]; exact (List.getElem?_eq_some_iff.1 hj).1
    have no : Xqu r r' = true ∨ Xqu r' r = true → False := by
      intro h
      have : Xm4 r.rd r' = true := by
        rcases h with h | h
        · unfold Xqu at h; rw [Bool.and_eq_true, Bool.and_eq_true, Bool.and_eq_true] at h; exact h.1.1.1
        · unfold Xqu at h; rw [Bool.and_eq_true, Bool.and_eq_true, Bool.and_eq_true] at h; exact h.1.1.2
      rw [hap r' this] at hs; cases hs
    simp only [Nat.zero_add]
    rcases Nat.lt_trichotomy j i with hlt | heq | hgt
    · rw [decide_eq_true hlt]
      cases hbj : b j with
      | true => rfl
      | false => exact (no (.inr (Xwv hfree hj hr hlt (h1 j hlt hbj)).1)).elim
    · subst heq; rw [hbi, decide_eq_false (by omega)]
    · rw [decide_eq_false (by omega)]
      cases hbj : b j with
      | false => rfl
      | true => exact (no (.inl (Xwv hfree hr hj hgt (h2 j _ (List.getElem?_eq_getElem hjl) hbj)).1)).elim
  intro k hk
  rw [hin]
  cases k with
  | s t =>
    simp only [Yfj]
    rw [Xrw (b' := fun j => decide (j < 0 + i)) Rec.sl rs 0 (key Rec.sl t (fun r' h => Xou h _ hk))]
  | o id =>
    simp only [Yfi]
    rw [Xrw (b' := fun j => decide (j < 0 + i)) Rec.ob rs 0 (key Rec.ob id (fun r' h => Xou h _ hk))]

theorem Ykx {C : Ctx} (hfree : Xgd l rs σ0 = true) (hc : ∀ (j : Nat) (o : Oper), l[j]? = some o → b j = true → ∀ d ∈ Xls o, b d = true) (ho : l[i]? = some o) (hr : rs[i]? = some r) (hbi : b i = false) (hneed : ∀ d ∈ Xls o, b d = true)
    {σ : St} (hf : Xj7 C r.nw σ) : Xj7 C r.nw (Xuw b 0 rs σ0) := by
  obtain ⟨h1, h2⟩ := Ygj hfree hc ho hbi hneed
  have hlen : rs.length = l.length := by
    unfold Xgd at hfree
    rw [Bool.and_eq_true, Bool.and_eq_true, Bool.and_eq_true] at hfree
    exact Nat.eq_of_beq_eq_true hfree.1.1.1
  intro id hid
  have other : ∀ (j : Nat) (r' : Rec), rs[j]? = some r' → b (0 + j) = true → Yij id r'.sl = false ∧ Yib id r'.ob = false := by
    intro j r' hj hbj
    rw [Nat.zero_add] at hbj
    have hjl : j < l.length := by rw [← hlen]; exact (List.getElem?_eq_some_iff.1 hj).1
    rcases Nat.lt_trichotomy j i with hlt | heq | hgt
    · exact Xm3 (Yjn hfree hj hr hlt) hid
    · subst heq; rw [hbi] at hbj; cases hbj
    · exact Xm3 (Xwv hfree hr hj hgt (h2 j _ (List.getElem?_eq_getElem hjl) hbj)).2 hid
  have hbase := Xm3 (Ymb hfree hr) hid
  refine ⟨⟨fun t v hv => ?_, fun k ob hk => ?_⟩, (hf id hid).2⟩
  · rw [Yfj] at hv
    cases e : Xzt Rec.sl b 0 rs t with
    | some u =>
      rw [e] at hv; cases hv
      obtain ⟨j, r', hj, hbj, hl⟩ := Yc8 Rec.sl rs 0 e
      exact Ydq (other j r' hj hbj).1 hl
    | none => rw [e] at hv; exact Ydq hbase.1 hv
  · unfold St.obj at hk
    rw [Yfi] at hk
    cases e : Xzt Rec.ob b 0 rs k with
    | some u =>
      rw [e] at hk
      obtain ⟨j, r', hj, hbj, hl⟩ := Yc8 Rec.ob rs 0 e
      have hu : u = some ob := hk
      subst hu
      exact Ydg (other j r' hj hbj).2 hl
    | none =>
      rw [e] at hk
      cases hs : lk σ0.o k with
      | none => rw [hs] at hk; cases hk
      | some u =>
        rw [hs] at hk
        have hu : u = some ob := hk
        subst hu
        exact Ydg hbase.2 hs

theorem Ynd (hfree : Xgd l rs σ0 = true) (hc : ∀ (j : Nat) (o : Oper), l[j]? = some o → b j = true → ∀ d ∈ Xls o, b d = true) (ho : l[i]? = some o) (hr : rs[i]? = some r) (hbi : b i = false) (hneed : ∀ d ∈ Xls o, b d = true) :
    Eqv (r.app (Xuw b 0 rs σ0)) (Xuw (Yd7 b i) 0 rs σ0) := by
  obtain ⟨h1, h2⟩ := Ygj hfree hc ho hbi hneed
  have hlen : rs.length = l.length := by
    unfold Xgd at hfree
    rw [Bool.and_eq_true, Bool.and_eq_true, Bool.and_eq_true] at hfree
    exact Nat.eq_of_beq_eq_true hfree.1.1.1
  have main : ∀ {β : Type 1} (f : Rec → List (Nat × β)) (t : Nat) (base : Option β), (∀ r', Xqu r r' = true → Xl7 (f r) (f r') = true) → (lk (f r) t).or ((Xzt f b 0 rs t).or base) = (Xzt f (Yd7 b i) 0 rs t).or base := by
    intro β f t base hap
    rw [← Option.or_assoc]
    congr 1
    cases hs : lk (f r) t with
    | some v =>
      have e := Yjd (b := Yd7 b i) (t := t) f rs 0 i r hr (by simp [Yd7]) (by rw [hs]; rfl) (fun j r' hij hj hbj => ?_)
      · rw [e, hs]; rfl
      · have hjl : j < l.length := by rw [← hlen]; exact (List.getElem?_eq_some_iff.1 hj).1
        have hbj' : b j = true := by simpa [Yd7, show ¬ j = i by omega] using hbj
        exact Xuu (hap r' (Xwv hfree hr hj hij (h2 j _ (List.getElem?_eq_getElem hjl) hbj')).1) (by rw [hs]; rfl)
    | none =>
      rw [Option.none_or]
      refine Xrw f rs 0 fun j r' hj hs' => ?_
      unfold Yd7
      split
      · rename_i e
        rw [Nat.zero_add] at e
        subst e
        rw [hr] at hj; cases hj
        rw [hs] at hs'; cases hs'
      · rfl
  constructor
  · intro t
    show lk (r.sl ++ (Xuw b 0 rs σ0).s) t = _
    rw [Yhb, Yfj, Yfj]
    exact main Rec.sl t _ (fun r' h => by unfold Xqu at h; rw [Bool.and_eq_true, Bool.and_eq_true] at h; exact h.1.2)
  · intro t
    show lk (r.ob ++ (Xuw b 0 rs σ0).o) t = _
    rw [Yhb, Yfi, Yfi]
    exact main Rec.ob t _ (fun r' h => by unfold Xqu at h; rw [Bool.and_eq_true] at h; exact h.2)
end

theorem Ymg {o : Oper} {σ' : St} {a : Act} {w : World} {Q : Exit → Act → World → Prop} (h1 : Xj8 P C o σ' a w) : Oper.wp P o a w (fun a' w' => Rel C σ' a' w') Q := by
  unfold Xj8 at h1
  unfold Oper.wp at h1 ⊢
  generalize (execOp a.eval o).run P w = res at h1
  cases res with
  | ok n w' =>
    cases n <;> simp only [Oper.upon] at h1 ⊢ <;> first
      | exact h1
      | exact Calls.mono h1 (fun e w'' he => by cases e <;> first | exact he | exact he.elim | (obtain ⟨_, _, hf⟩ := he; exact hf.elim))
  | halt x w' => cases x <;> simp only [Oper.upon] at h1

def cnt : Nat → (Nat → Bool) → Nat
  | 0, _ => 0
  | n + 1, b => cnt n b + if b n then 0 else 1
theorem Ygy {b : Nat → Bool} : ∀ {n : Nat}, cnt n b = 0 → ∀ j, j < n → b j = true
  | 0, _, j, hj => by omega
  | n + 1, h, j, hj => by
    rw [cnt] at h
    cases hb : b n with
    | false => rw [hb] at h; simp at h
    | true =>
      rw [hb] at h
      by_cases e : j = n
      · rw [e]; exact hb
      · exact Ygy (by simpa using h) j (by omega)
theorem Ygx {b : Nat → Bool} {i : Nat} : ∀ {n : Nat}, n ≤ i → cnt n (Yd7 b i) = cnt n b
  | 0, _ => rfl
  | n + 1, h => by
    have e2 : Yd7 b i n = b n := by unfold Yd7; rw [if_neg (by omega)]
    rw [cnt, cnt, Ygx (by omega), e2]
theorem Yi4 {b : Nat → Bool} {i : Nat} : ∀ {n : Nat}, i < n → b i = false → cnt n (Yd7 b i) + 1 = cnt n b
  | 0, h, _ => by omega
  | n + 1, h, hb => by
    rw [cnt, cnt]
    by_cases e : i = n
    · subst e; rw [Ygx (Nat.le_refl _), hb]; simp [Yd7]
    · have := Yi4 (show i < n by omega) hb
      have e2 : Yd7 b i n = b n := by unfold Yd7; rw [if_neg (fun h => e h.symm)]
      rw [e2]; omega
theorem Yiw {l : List Oper} {rs : List Rec} {σ0 : St} {Q : Exit → Act → World → Prop} (hfree : Xgd l rs σ0 = true) (hloc : ∀ (i : Nat) (o : Oper) (r : Rec), l[i]? = some o → rs[i]? = some r → Loc P C l.toArray o r (Ygu (rs.take i) σ0) ∧ Xj7 C r.nw (Ygu (rs.take i) σ0))
    (hQ : ∀ a w, Rel C (Ygu rs σ0) a w → Q .normal a w) :
    ∀ (fuel : Nat) (listed : Array Bool) (a : Act) (w : World), listed.size = l.length → (∀ (j : Nat) (o : Oper), l[j]? = some o → listed.getD j true = true → ∀ d ∈ Xls o, listed.getD d true = true) →
      cnt l.length (fun j => listed.getD j true) ≤ fuel → Rel C (Xuw (fun j => listed.getD j true) 0 rs σ0) a w → wpAny P .any l.toArray Q fuel listed a w := by
  have hlen : rs.length = l.length := by
    unfold Xgd at hfree
    rw [Bool.and_eq_true, Bool.and_eq_true, Bool.and_eq_true] at hfree
    exact Nat.eq_of_beq_eq_true hfree.1.1.1
  have hback : Xqw 0 l = true := by
    unfold Xgd at hfree
    rw [Bool.and_eq_true, Bool.and_eq_true, Bool.and_eq_true] at hfree
    exact hfree.1.1.2
  -- an operation that may come next
  have ready : ∀ (listed : Array Bool) (i : Nat), i ∈ Region.ready .any l.toArray listed ↔ i < l.length ∧ listed.getD i true = false ∧ ∃ o, l[i]? = some o ∧ ∀ d ∈ Xls o, listed.getD d false = true := by
    intro listed i
    unfold Region.ready
    rw [List.mem_filter, List.mem_range, List.size_toArray]
    constructor
    · rintro ⟨h1, h2⟩
      rw [Bool.and_eq_true] at h2
      have ho : l[i]? = some l[i] := List.getElem?_eq_getElem h1
      refine ⟨h1, by simpa using h2.1, l[i], ho, fun d hd => ?_⟩
      have h3 := h2.2
      rw [List.getElem?_toArray, ho] at h3
      simp only [Option.map_some, Option.getD_some] at h3
      obtain ⟨e, he, rfl⟩ := List.mem_map.1 hd
      rw [List.mem_filter] at he
      have := (Array.all_eq_true'.1 h3) e (by simpa using he.1)
      rw [he.2] at this
      simpa using this
    · rintro ⟨h1, h2, o, ho, h3⟩
      refine ⟨h1, ?_⟩
      rw [Bool.and_eq_true]
      refine ⟨by rw [h2]; rfl, ?_⟩
      rw [List.getElem?_toArray, ho]
      simp only [Option.map_some, Option.getD_some]
      refine Array.all_eq_true'.2 fun e he => ?_
      cases hb : Region.binds .any e with
      | false => rfl
      | true =>
        have := h3 e.on (List.mem_map.2 ⟨e, List.mem_filter.2 ⟨by simpa using he, hb⟩, rfl⟩)
        simpa using this
  -- if not all are listed, one may come next
  have none_ready : ∀ (listed : Array Bool), listed.size = l.length → Region.ready .any l.toArray listed = [] → ∀ j, j < l.length → listed.getD j true = true := by
    intro listed hsz hr j
    induction j using Nat.strongRecOn with
    | _ j ih =>
      intro hj
      cases hb : listed.getD j true with
      | true => rfl
      | false =>
        have ho : l[j]? = some l[j] := List.getElem?_eq_getElem hj
        have : j ∈ Region.ready .any l.toArray listed := (ready listed j).2 ⟨hj, hb, l[j], ho, fun d hd => by
          have hdj := Xnt hback ho d hd
          rw [Nat.zero_add] at hdj
          have h1 := ih d hdj (by omega)
          have hds : d < listed.size := by omega
          simpa [Array.getD, hds] using h1⟩
        rw [hr] at this; simp at this
  have alls : ∀ (listed : Array Bool), (∀ j, j < l.length → listed.getD j true = true) → ∀ a w, Rel C (Xuw (fun j => listed.getD j true) 0 rs σ0) a w → Q .normal a w := by
    intro listed hall a w hR
    rw [Yhn rs 0 σ0 (fun j _ hj => hall j (by omega))] at hR
    exact hQ a w hR
  intro fuel
  induction fuel with
  | zero =>
    intro listed a w hsz hc hf hR
    have hall := Ygy (Nat.le_zero.1 hf)
    refine ⟨?_, alls listed hall a w hR⟩
    cases hr : Region.ready .any l.toArray listed with
    | nil => rfl
    | cons i t =>
      obtain ⟨h1, h2, _⟩ := (ready listed i).1 (by rw [hr]; simp)
      rw [hall i h1] at h2; cases h2
  | succ fuel ih =>
    intro listed a w hsz hc hf hR
    refine ⟨fun hr => alls listed (none_ready listed hsz hr) a w hR, fun i hi => ?_⟩
    obtain ⟨h1, h2, o, ho, h3⟩ := (ready listed i).1 hi
    have hri : rs[i]? = some (rs[i]'(by omega)) := List.getElem?_eq_getElem (by omega)
    generalize rs[i]'(by omega) = r at hri
    have hneed : ∀ d ∈ Xls o, (fun j => listed.getD j true) d = true := by
      intro d hd
      have := h3 d hd
      have hd2 := Xnt hback ho d hd
      have hds : d < listed.size := by omega
      simpa [Array.getD, hds] using this
    obtain ⟨hl, hfr⟩ := hloc i o r ho hri
    have hstep := hl _ (Ykn hfree hc ho hri h2 hneed) (Ykx hfree hc ho hri h2 hneed hfr) a w hR
    have heq := Ynd hfree hc ho hri h2 hneed
    have hnext : ∀ a' w', Rel C (r.app (Xuw (fun j => listed.getD j true) 0 rs σ0)) a' w' → wpAny P .any l.toArray Q fuel (listed.setIfInBounds i true) a' w' := by
      intro a' w' hR'
      have hput : (fun j => (listed.setIfInBounds i true).getD j true) = Yd7 (fun j => listed.getD j true) i := by
        funext j
        unfold Yd7
        by_cases e : j = i
        · subst e; rw [if_pos rfl, Array.getD_eq_getD_getElem?, Array.getElem?_setIfInBounds_self_of_lt (by omega)]; rfl
        · rw [if_neg e, Array.getD_eq_getD_getElem?, Array.getElem?_setIfInBounds_ne (fun h => e h.symm), ← Array.getD_eq_getD_getElem?]
      refine ih _ a' w' (by simpa using hsz) ?_ ?_ ?_
      · intro j o' hj hb d hd
        have e1 : (listed.setIfInBounds i true).getD j true = Yd7 (fun j => listed.getD j true) i j := congrFun hput j
        have e2 : (listed.setIfInBounds i true).getD d true = Yd7 (fun j => listed.getD j true) i d := congrFun hput d
        rw [e1] at hb
        rw [e2]
        unfold Yd7 at hb ⊢
        by_cases ed : d = i
        · rw [if_pos ed]
        · rw [if_neg ed]
          by_cases ej : j = i
          · subst ej
            rw [ho] at hj; cases hj
            exact hneed d hd
          · rw [if_neg ej] at hb
            exact hc j o' hj hb d hd
      · rw [hput]
        have := Yi4 (b := fun j => listed.getD j true) h1 h2
        omega
      · rw [hput]
        exact hR'.eqv heq
    unfold wpOp
    rw [List.getElem?_toArray, ho]
    simp only
    split
    · rename_i hw
      rw [if_pos hw] at hstep
      exact .inl (Oper.wp_mono hnext (Ymg hstep))
    · rename_i hw
      rw [if_neg hw] at hstep
      exact hnext _ _ hstep
end
end Go.Proofs.YtlebkepfhdjnmadGreatAL
/- An abstract logic for Go functions: code, loops, cuts. Conditions: as each statement tells. -/
namespace Go.Proofs.YtlebkepfhdjnmadGreatAL
open Go.RowKit
set_option linter.unusedVariables false
section
variable {P : Program} {C : Ctx}

def AWp (P : Program) (C : Ctx) (c : Code) (σ : St) (Q : Exit → St → Prop) : Prop := ∀ a w, Rel C σ a w → c.wp P (fun e a' w' => ∃ σ', Q e σ' ∧ Rel C σ' a' w') a w
def Xkc (C : Ctx) (σ σ' : St) : Prop := ∀ a w, Rel C σ a w → Rel C σ' a w
theorem Xkc.refl (σ : St) : Xkc C σ σ := fun _ _ h => h
theorem Xkc.trans {σ σ' σ'' : St} (h : Xkc C σ σ') (k : Xkc C σ' σ'') : Xkc C σ σ'' := fun a w hR => k a w (h a w hR)
def Yir (next : St → Prop) (Q : Exit → St → Prop) : Exit → St → Prop
  | .normal, σ => next σ
  | e, σ => Q e σ
def Xoq (id : Nat) (Q : Exit → St → Prop) : Exit → St → Prop
  | .exit i, σ => if i = id then Q .normal σ else Q (.exit i) σ
  | e, σ => Q e σ
theorem Yi0 {c : Code} {σ σ' : St} {Q : Exit → St → Prop} (h : Xkc C σ σ') (k : AWp P C c σ' Q) : AWp P C c σ Q := fun a w hR => k a w (h a w hR)
theorem Yf0 {c : Code} {σ : St} {Q Q' : Exit → St → Prop} (h : AWp P C c σ Q) (hq : ∀ e σ, Q e σ → Q' e σ) : AWp P C c σ Q' := fun a w hR => wp_mono (h a w hR) fun e a' w' ⟨σ', h1, h2⟩ => ⟨σ', hq _ _ h1, h2⟩
theorem Yec {x y : Code} {σ : St} {Q : Exit → St → Prop} (h : AWp P C x σ (Yir (fun σ' => AWp P C y σ' Q) Q)) : AWp P C (.seq x y) σ Q := fun a w hR =>
  wp_seq (wp_mono (h a w hR) fun e a' w' ⟨σ', h1, h2⟩ => by
    cases e with
    | normal => exact h1 a' w' h2
    | _ => exact ⟨σ', h1, h2⟩)
theorem Xaf {σ : St} {Q : Exit → St → Prop} (h : Q .normal σ) : AWp P C .skip σ Q := fun a w hR => wp_skip ⟨σ, h, hR⟩
theorem Xah {σ : St} {Q : Exit → St → Prop} (h : Q .ret σ) : AWp P C .ret σ Q := fun a w hR => wp_ret ⟨σ, h, hR⟩
theorem Xam {id : Nat} {σ : St} {Q : Exit → St → Prop} (h : Q (.exit id) σ) : AWp P C (.exit id) σ Q := fun a w hR => wp_exit ⟨σ, h, hR⟩
theorem Yce {id : Nat} {c : Code} {σ : St} {Q : Exit → St → Prop} (h : AWp P C c σ (Xoq id Q)) : AWp P C (.block id c) σ Q := fun a w hR =>
  wp_block (wp_mono (h a w hR) fun e a' w' ⟨σ', h1, h2⟩ => by
    cases e with
    | exit i =>
      simp only [Xoq] at h1
      simp only [Exit.inBlock]
      split
      · rename_i e; rw [if_pos e] at h1; exact ⟨σ', h1, h2⟩
      · rename_i e; rw [if_neg e] at h1; exact ⟨σ', h1, h2⟩
    | _ => exact ⟨σ', h1, h2⟩)
theorem Yiz {t : Nat} {x y : Code} {σ : St} {Q : Exit → St → Prop} {b : Bool} (hs : lk σ.s t = some (.sv (.bool b))) (h1 : b = true → AWp P C x σ Q) (h2 : b = false → AWp P C y σ Q) : AWp P C (.cond (.tmp t) x y) σ Q := by
  intro a w ⟨μ, A, hR⟩
  have hb : a.eval (.tmp t) = .bool b := Xka (hR.slots t _ hs)
  exact wp_cond_split hb (fun e => h1 e a w ⟨μ, A, hR⟩) (fun e => h2 e a w ⟨μ, A, hR⟩)
theorem Xac {id : Nat} {l : List Oper} {σ : St} {Q : Exit → St → Prop} (h : Vc P C l.toArray l [] σ (fun _ σ' => Q .normal σ')) : AWp P C (.region id l.toArray false) σ Q := fun a w hR =>
  wp_region_lit (Yd4 h (fun _ σ' a' w' hq hr => ⟨σ', hq, hr⟩) a w hR)
theorem Xdf {id : Nat} {l : List Oper} {σ : St} {Q : Exit → St → Prop} (hm : P.follows .mixedOrders = true) (h : Vc P C l.toArray l [] σ (fun rs σ' => Xgd l rs σ = true ∧ Q .normal σ')) : AWp P C (.region id l.toArray true) σ Q := by
  intro a w ⟨μ, A, hR⟩
  obtain ⟨rs, hl, ⟨hfree, hq⟩, hloc⟩ := Ykb h
  rw [List.nil_append] at hfree
  refine wp_region_any hm ?_
  have hR' : Rel C σ a { w with drawn := w.drawn + 1 } := ⟨μ, A, hR.world (w' := w.drew) (Ymf w _)⟩
  have hfalse : ∀ j, j < l.length → (Array.replicate l.length false).getD j true = false := fun j hj => by simp [Array.getD, hj]
  have hb : Xuw (fun j => (Array.replicate l.length false).getD j true) 0 rs σ = σ := by
    have : ∀ (rs : List Rec) (n : Nat) (σ : St), n + rs.length ≤ l.length → Xuw (fun j => (Array.replicate l.length false).getD j true) n rs σ = σ := by
      intro rs
      induction rs with
      | nil => intro n σ _; rfl
      | cons r rs ih => intro n σ hn; rw [Xuw, hfalse n (by simp at hn; omega)]; exact ih (n + 1) σ (by simp at hn; omega)
    exact this rs 0 σ (by omega)
  refine Yiw (Q := fun e a' w' => ∃ σ', Q e σ' ∧ Rel C σ' a' w') hfree hloc (fun a' w' hr => ⟨_, hq, hr⟩) l.toArray.size _ a _ (by simp) (fun j o ho hb d hd => ?_) ?_ ?_
  · have hjl : j < l.length := (List.getElem?_eq_some_iff.1 ho).1
    have := hfalse j hjl
    simp only [List.size_toArray] at hb
    rw [this] at hb; cases hb
  · have : ∀ n b, cnt n b ≤ n := by
      intro n b
      induction n with
      | zero => exact Nat.le_refl _
      | succ n ih => rw [cnt]; split <;> omega
    simpa using this l.length _
  · simp only [List.size_toArray]
    rw [hb]; exact hR'

theorem Yje {p : Nat → Prop} (h : ∃ k, p k) : ∃ k, p k ∧ ∀ j, p j → k ≤ j := by
  obtain ⟨k, hk⟩ := h
  induction k using Nat.strongRecOn with
  | _ k ih =>
    by_cases hl : ∃ j, j < k ∧ p j
    · obtain ⟨j, hj, hp⟩ := hl; exact ih j hj hp
    · exact ⟨k, hk, fun j hj => Nat.le_of_not_lt fun hlt => hl ⟨j, hlt, hj⟩⟩
open Classical in
theorem Yma {c : Code} {σ : St} {Q : Exit → St → Prop} (J : Nat → St → Prop) {k : Nat} (h0 : J k σ) (round : ∀ k σ, J k σ → AWp P C c σ (Yir (fun σ' => ∃ σ'', Xkc C σ' σ'' ∧ ∃ k', k' < k ∧ J k' σ'') Q)) : AWp P C (.loop c) σ Q := by
  intro a w hR
  let I : Act → World → Prop := fun a w => ∃ k σ, J k σ ∧ Rel C σ a w
  let K : Act → World → Nat → Prop := fun a w k => ∃ σ, J k σ ∧ Rel C σ a w
  let m : Act → World → Nat := fun a w => if h : ∃ k, K a w k then Classical.choose (Yje h) else 0
  refine wp_loop I m ⟨k, σ, h0, hR⟩ fun a w hI => ?_
  have hex : ∃ k, K a w k := by obtain ⟨k, σ, h1, h2⟩ := hI; exact ⟨k, σ, h1, h2⟩
  have hm : m a w = Classical.choose (Yje hex) := dif_pos hex
  obtain ⟨⟨σ1, hJ, hR1⟩, _⟩ := Classical.choose_spec (Yje hex)
  refine wp_mono (round _ σ1 hJ a w hR1) fun e a' w' ⟨σ', h1, h2⟩ => ?_
  cases e with
  | normal =>
    obtain ⟨σ'', hw, k', hk, hJ'⟩ := h1
    have hR2 := hw a' w' h2
    have hex' : ∃ k, K a' w' k := ⟨k', σ'', hJ', hR2⟩
    refine ⟨⟨k', σ'', hJ', hR2⟩, ?_⟩
    rw [hm, show m a' w' = Classical.choose (Yje hex') from dif_pos hex']
    exact Nat.lt_of_le_of_lt ((Classical.choose_spec (Yje hex')).2 k' ⟨σ'', hJ', hR2⟩) hk
  | _ => exact ⟨σ', h1, h2⟩
end
end Go.Proofs.YtlebkepfhdjnmadGreatAL
/- An abstract logic for Go functions: contracts and calls. Conditions: as each statement tells. -/
namespace Go.Proofs.YtlebkepfhdjnmadGreatAL
open Go.RowKit
set_option linter.unusedVariables false

mutual
def AV.ren (f : Nat → Nat) : AV → AV
  | .own k => .own (f k)
  | .sub k sz off len => .sub (f k) sz off len
  | .ptr k off => .ptr (f k) off
  | .eptr k sz i off => .eptr (f k) sz i off
  | .agg cs => .agg (AV.renL f cs)
  | .tup cs => .tup (AV.renL f cs)
  | .fn g cs => .fn g (AV.renL f cs)
  | .any => .any
  | .sv x => .sv x
  | .iptr cells off => .iptr cells off
def AV.renL (f : Nat → Nat) : List AV → List AV
  | [] => []
  | x :: l => AV.ren f x :: AV.renL f l
end
theorem Xje (f : Nat → Nat) : ∀ l : List AV, AV.renL f l = l.map (AV.ren f)
  | [] => by simp [AV.renL]
  | x :: l => by rw [AV.renL, Xje f l]; rfl
def Obj.ren (f : Nat → Nat) : Obj → Obj
  | .box cs => .box (AV.renL f cs)
  | .ints k l => .ints k l
  | .row c l => .row c l
section
variable {w : World} {A A' : Nat → Prop} {μ μ' : Nat → Value} {f : Nat → Nat}
theorem Rep.ren {x : AV} {v : Value} (h : Rep w A μ x v) (hm : ∀ i, x.has i = true → μ' (f i) = μ i) : Rep w A μ' (x.ren f) v := by
  induction h with
  | any v => simp only [AV.ren]; exact .any v
  | sv h => simp only [AV.ren]; exact .sv h
  | own id => simp only [AV.ren]; rw [← hm id (by simp [AV.has])]; exact .own (f id)
  | sub id sz off len ad0 ad n cap cap' h1 h2 h3 h4 h5 => simp only [AV.ren]; exact .sub (f id) sz off len ad0 ad n cap cap' ((hm id (by simp [AV.has])).trans h1) h2 h3 h4 h5
  | ptr id off g h1 => simp only [AV.ren]; exact .ptr (f id) off g ((hm id (by simp [AV.has])).trans h1)
  | eptr id sz i off g o n cap h1 => simp only [AV.ren]; exact .eptr (f id) sz i off g o n cap ((hm id (by simp [AV.has])).trans h1)
  | iptr cells off g o h1 h2 => simp only [AV.ren]; exact .iptr cells off g o h1 h2
  | agg cs vs hl h ih =>
    simp only [AV.ren]
    rw [Xje]
    refine .agg _ vs (by simpa using hl) fun j y u hy hu => ?_
    rw [List.getElem?_map] at hy
    obtain ⟨z, hz, rfl⟩ := Option.map_eq_some_iff.1 hy
    refine ih j z u hz hu fun i hi => hm i ?_
    by_cases hf : AV.hasL i cs = true
    · simpa [AV.has] using hf
    · have := AV.hasL_false (by simpa using hf) z (List.mem_of_getElem? hz); rw [this] at hi; cases hi
  | tup cs vs hl h ih =>
    simp only [AV.ren]
    rw [Xje]
    refine .tup _ vs (by simpa using hl) fun j y u hy hu => ?_
    rw [List.getElem?_map] at hy
    obtain ⟨z, hz, rfl⟩ := Option.map_eq_some_iff.1 hy
    refine ih j z u hz hu fun i hi => hm i ?_
    by_cases hf : AV.hasL i cs = true
    · simpa [AV.has] using hf
    · have := AV.hasL_false (by simpa using hf) z (List.mem_of_getElem? hz); rw [this] at hi; cases hi
  | fn g cs vs hl h ih =>
    simp only [AV.ren]
    rw [Xje]
    refine .fn g _ vs (by simpa using hl) fun j y u hy hu => ?_
    rw [List.getElem?_map] at hy
    obtain ⟨z, hz, rfl⟩ := Option.map_eq_some_iff.1 hy
    refine ih j z u hz hu fun i hi => hm i ?_
    by_cases hf : AV.hasL i cs = true
    · simpa [AV.has] using hf
    · have := AV.hasL_false (by simpa using hf) z (List.mem_of_getElem? hz); rw [this] at hi; cases hi
theorem Rep.unren : ∀ (x : AV) (v : Value), Rep w A μ (x.ren f) v → Rep w A (fun i => μ (f i)) x v
  | .any, v, h => .any v
  | .sv x, v, h => by simp only [AV.ren] at h; cases h with | sv h => exact .sv h
  | .own k, v, h => by simp only [AV.ren] at h; cases h with | own => exact .own (μ := fun i => μ (f i)) k
  | .sub k sz off len, v, h => by simp only [AV.ren] at h; cases h with | sub _ _ _ _ ad0 ad n cap cap' h1 h2 h3 h4 h5 => exact .sub k sz off len ad0 ad n cap cap' h1 h2 h3 h4 h5
  | .ptr k off, v, h => by simp only [AV.ren] at h; cases h with | ptr _ _ g h1 => exact .ptr k off g h1
  | .eptr k sz i off, v, h => by simp only [AV.ren] at h; cases h with | eptr _ _ _ _ g o n cap h1 => exact .eptr k sz i off g o n cap h1
  | .iptr cells off, v, h => by simp only [AV.ren] at h; cases h with | iptr _ _ g o h1 h2 => exact .iptr cells off g o h1 h2
  | .agg cs, v, h => by
    simp only [AV.ren] at h
    rw [Xje] at h
    cases h with
    | agg _ vs hl h => exact .agg cs vs (by simpa using hl) fun j y u hy hu => have := List.sizeOf_lt_of_mem (List.mem_of_getElem? hy); Rep.unren y u (h j (y.ren f) u (by rw [List.getElem?_map, hy]; rfl) hu)
  | .tup cs, v, h => by
    simp only [AV.ren] at h
    rw [Xje] at h
    cases h with
    | tup _ vs hl h => exact .tup cs vs (by simpa using hl) fun j y u hy hu => have := List.sizeOf_lt_of_mem (List.mem_of_getElem? hy); Rep.unren y u (h j (y.ren f) u (by rw [List.getElem?_map, hy]; rfl) hu)
  | .fn g cs, v, h => by
    simp only [AV.ren] at h
    rw [Xje] at h
    cases h with
    | fn _ _ vs hl h => exact .fn g cs vs (by simpa using hl) fun j y u hy hu => have := List.sizeOf_lt_of_mem (List.mem_of_getElem? hy); Rep.unren y u (h j (y.ren f) u (by rw [List.getElem?_map, hy]; rfl) hu)
termination_by x => SizeOf.sizeOf x

theorem Xjs.ren {ob : Obj} {v : Value} (h : Xjs w A μ ob v) (hm : ∀ i, ob.has i = true → μ' (f i) = μ i) : Xjs w A μ' (ob.ren f) v := by
  cases h with
  | box cells g cs E fr hg hf hl h =>
    simp only [Obj.ren]
    rw [Xje]
    refine .box _ g cs E fr hg hf (by simpa using hl) fun j y u hy hu => ?_
    rw [List.getElem?_map] at hy
    obtain ⟨z, hz, rfl⟩ := Option.map_eq_some_iff.1 hy
    refine ⟨(h j z u hz hu).1.ren fun i hi => hm i ?_, (h j z u hz hu).2⟩
    by_cases hf : AV.hasL i cells = true
    · simpa [Obj.has] using hf
    · have := AV.hasL_false (by simpa using hf) z (List.mem_of_getElem? hz); rw [this] at hi; cases hi
  | none ob sz hx hwf => cases ob <;> first | (cases hx; done) | exact .none _ sz hx hwf
  | row ob sz xs hx hwf g o cap cs E fr hg hf hc hm' hs hl h => cases ob <;> first | (cases hx; done) | exact .row _ sz xs hx hwf g o cap cs E fr hg hf hc hm' hs hl h
theorem Xjs.unren {ob : Obj} {v : Value} (h : Xjs w A μ (ob.ren f) v) : Xjs w A (fun i => μ (f i)) ob v := by
  cases ob with
  | box cells =>
    simp only [Obj.ren] at h
    rw [Xje] at h
    cases h with
    | box _ g cs E fr hg hf hl h => exact .box cells g cs E fr hg hf (by simpa using hl) fun j y u hy hu => ⟨Rep.unren y u (h j (y.ren f) u (by rw [List.getElem?_map, hy]; rfl) hu).1, (h j (y.ren f) u (by rw [List.getElem?_map, hy]; rfl) hu).2⟩
    | none _ _ hx => cases hx
    | row _ _ _ hx => cases hx
  | ints k l =>
    simp only [Obj.ren] at h
    cases h with
    | none _ sz hx hwf => exact .none _ sz hx hwf
    | row _ sz xs hx hwf g o cap cs E fr hg hf hc hm' hs hl h => exact .row _ sz xs hx hwf g o cap cs E fr hg hf hc hm' hs hl h
  | row c l =>
    simp only [Obj.ren] at h
    cases h with
    | none _ sz hx hwf => exact .none _ sz hx hwf
    | row _ sz xs hx hwf g o cap cs E fr hg hf hc hm' hs hl h => exact .row _ sz xs hx hwf g o cap cs E fr hg hf hc hm' hs hl h
end

/-! ### Contracts -/
abbrev Xa0 := List (Nat × Obj)
def Fo (w : World) (μ : Nat → Value) (objs : Xa0) (g : Nat) : Prop := g < w.heap.size ∧ ∀ id ob, lk objs id = some ob → Xgb (μ id) ≠ some g
structure Ym7 (w : World) (μ : Nat → Value) (A : Nat → Prop) (objs : Xa0) : Prop where
  one : ∀ id, (μ id).oneCell' = true
  reps : ∀ id ob, lk objs id = some ob → Xjs w A μ ob (μ id)
  sep : ∀ i j oi oj g, i ≠ j → lk objs i = some oi → lk objs j = some oj → Xgb (μ i) = some g → Xgb (μ j) ≠ some g
  own : ∀ id ob g, lk objs id = some ob → Xgb (μ id) = some g → ¬ A g
  lt : ∀ g, A g → g < w.heap.size
structure Left (w : World) (μ : Nat → Value) (A : Nat → Prop) (objs : Xa0) (w' : World) (μ' : Nat → Value) (A' : Nat → Prop) (objs' : Xa0) : Prop where
  one : ∀ id, (μ' id).oneCell' = true
  reps : ∀ id ob, lk objs' id = some ob → Xjs w' A' μ' ob (μ' id)
  sep : ∀ i j oi oj g, i ≠ j → lk objs' i = some oi → lk objs' j = some oj → Xgb (μ' i) = some g → Xgb (μ' j) ≠ some g
  own : ∀ id ob g, lk objs' id = some ob → Xgb (μ' id) = some g → ¬ A' g ∧ ¬ Fo w μ objs g
  pins : ∀ id ob ob', lk objs id = some ob → lk objs' id = some ob' → μ' id = μ id
  mono : ∀ g, A g → A' g
  stab : ∀ g, A' g → g < w'.heap.size ∧ (A g ∨ ¬ Fo w μ objs g)
  frame : Fr (Fo w μ objs) w w'
def Yn3 (w : World) (A : Nat → Prop) (μ : Nat → Value) (args : List AV) (cargs : Array Value) : Prop :=
  cargs.size = args.length ∧ ∀ (j : Nat) (y : AV) (u : Value), args[j]? = some y → cargs[j]? = some u → Rep w A μ y u
def AC (P : Program) (f : Nat) (args : List AV) (objs : Xa0) (res : AV) (objs' : Xa0) : Prop :=
  ∀ (μ : Nat → Value) (A : Nat → Prop) (w : World) (cargs : Array Value), Ym7 w μ A objs → Yn3 w A μ args cargs →
    Calls P f cargs w (fun e w' => ∃ v μ' A', e = .returned v ∧ Left w μ A objs w' μ' A' objs' ∧ Rep w' A' μ' res v)
end Go.Proofs.YtlebkepfhdjnmadGreatAL
/- An abstract logic for Go functions: what is handed to a call. Conditions: as each statement tells. -/
namespace Go.Proofs.YtlebkepfhdjnmadGreatAL
open Go.RowKit
set_option linter.unusedVariables false

def Yg6 {α : Type 1} (kd : IntKind) (v : AV) (k : AV → List Nat → Prop → RM α) : RM α :=
  match v with
  | .own id => .obj id fun | some (.ints kd' l) => k (.sv (.ints kd' l)) [id] True | _ => .fail
  | .sub id sz off len => .obj id fun | some (.ints kd' l) => if Nat.beq sz 1 then k (.sv (.ints kd' ((l.drop off).take len))) [id] (off + len ≤ l.length) else .fail | _ => .fail
  | .sv .nil => k (.sv (.ints kd [])) [] True
  | v => k v [] True
def Yg7 {α : Type 1} (β : Type) (d : β) (sz : Nat) (enc : β → List SV) (v : AV) (k : AV → List Nat → Prop → RM α) : RM α :=
  match v with
  | .own id => .obj id fun | some (.row c l) => k (.sv (.sl c.α c.d c.sz c.enc l)) [id] True | _ => .fail
  | .sub id sz' off len => .obj id fun | some (.row c l) => if Nat.beq sz' c.sz then k (.sv (.sl c.α c.d c.sz c.enc ((l.drop off).take len))) [id] (off + len ≤ l.length) else .fail | _ => .fail
  | .sv .nil => k (.sv (.sl β d sz enc [])) [] True
  | v => k v [] True
mutual
def Xjn {α : Type 1} : AV → AV → (AV → List Nat → Prop → RM α) → RM α
  | .sv (.ints kd _), v, k => Yg6 kd v k
  | .sv (.sl β d sz enc _), v, k => Yg7 β d sz enc v k
  | .agg ps, .agg vs, k => Yc9 ps vs fun ws b c => k (.agg ws) b c
  | .any, _, k => k .any [] True
  | _, v, k => k v [] True
def Yc9 {α : Type 1} : List AV → List AV → (List AV → List Nat → Prop → RM α) → RM α
  | [], [], k => k [] [] True
  | p :: ps, v :: vs, k => Xjn p v fun x b c => Yc9 ps vs fun xs b' c' => k (x :: xs) (b ++ b') (c ∧ c')
  | _, _, _ => .fail
end
def Yn1 {α : Type 1} : List Operand → (List AV → RM α) → RM α
  | [], k => k []
  | x :: l, k => ev x fun v => Yn1 l fun vs => k (v :: vs)
structure Yny : Type 1 where
  avs : List AV
  bor : List Nat
  cond : Prop
def Yhz (pats : List AV) (fop : Operand) (f : Nat) (xs : List Operand) : RM Yny :=
  ev fop fun
    | .fn f' cap => if Nat.beq f' f then Yn1 xs fun vs => Yc9 pats (vs ++ cap) fun ws b c => .ret ⟨ws, b, c⟩ else .fail
    | _ => .fail

section
variable {P : Program} {T : Nat → Option TI} {C : Ctx} {μ : Nat → Value} {A : Nat → Prop} {σ σ' : St} {a : Act} {w w' : World} {o : Oper}

theorem Yhr {x : SV} {u : Value} {sz : Nat} {ys : List (List SV)} {A' : Nat → Prop} (h : Src w A u sz ys) (hx : x.elems = some (sz, ys)) (hp : 0 < sz) (hA : ∀ g, A g → A' g) (hb : ∀ g, Xgb u = some g → ys ≠ [] → A' g) : Xgc w A' x u := by
  obtain ⟨ad, cap, rfl, hc, hl, had, hcell⟩ := h
  by_cases hne : ys = []
  · subst hne
    exact Xgc.sl x sz [] ad cap (fun _ _ => undef) hx (by simp) (by simp) (by simp) (by simp) (by simp)
  · obtain ⟨g, o, rfl⟩ := had hne
    have hg : A' g := hb g rfl hne
    refine Xgc.sl x sz ys (some ⟨g, o, none⟩) cap (fun i j => (w.cell? ⟨g, o + (i * sz + j), none⟩).getD undef) hx hl (fun i j x y hi hj => ?_) (fun i j hi hj => ?_) (fun _ => ⟨g, o, rfl⟩) hc
    · obtain ⟨g', o', v, e, h1, h2⟩ := hcell i j x y hi hj
      cases e
      rw [h1]; exact h2.frame hA (fun _ _ => rfl)
    · have hjl : j < ys[i].length := by rw [hl _ (List.getElem_mem hi)]; exact hj
      obtain ⟨g', o', v, e, h1, h2⟩ := hcell i j _ _ (List.getElem?_eq_getElem hi) (List.getElem?_eq_getElem hjl)
      cases e
      exact ⟨g, o, rfl, hg, by rw [h1]; rfl⟩

def AB (σ : St) (μ : Nat → Value) (A : Nat → Prop) (b : List Nat) (g : Nat) : Prop := A g ∨ ∃ id ∈ b, ∃ ob, σ.obj id = some ob ∧ Xgb (μ id) = some g
theorem AB.mono {b b' : List Nat} (h : ∀ i ∈ b, i ∈ b') {g : Nat} (hg : AB σ μ A b g) : AB σ μ A b' g := hg.imp (fun h => h) fun ⟨id, hid, r⟩ => ⟨id, h id hid, r⟩

theorem Yg8 (h : Xb9 C μ A σ a w) {id : Nat} {ob : Obj} {x : SV} {sz : Nat} {xs : List (List SV)} (hob : σ.obj id = some ob) (hx : ob.elems = some (sz, xs)) (hx' : x.elems = some (sz, xs)) (hp : 0 < sz) {u : Value} (hrep : Rep w A μ (.own id) u) : Rep w (AB σ μ A [id]) μ (.sv x) u := by
  cases hrep with
  | own => exact .sv (Yhr (Yd1 (h.objs id ob hob) hx) hx' hp (fun g hg => .inl hg) (fun g hg _ => .inr ⟨id, by simp, ob, hob, hg⟩))
theorem Yg9 (h : Xb9 C μ A σ a w) {id off len : Nat} {ob : Obj} {x : SV} {sz : Nat} {xs : List (List SV)} (hob : σ.obj id = some ob) (hx : ob.elems = some (sz, xs)) (hx' : x.elems = some (sz, (xs.drop off).take len)) (hp : 0 < sz) (hle : off + len ≤ xs.length) {u : Value} (hrep : Rep w A μ (.sub id sz off len) u) : Rep w (AB σ μ A [id]) μ (.sv x) u := by
  refine .sv (Yhr (Xw2 (h.objs id ob hob) hx hrep hle) hx' hp (fun g hg => .inl hg) (fun g hg hne => .inr ⟨id, by simp, ob, hob, ?_⟩))
  cases hrep with
  | sub _ _ _ _ ad0 ad n cap cap' hm hc1 hc2 ha hz =>
    have hl : 0 < len := by
      rcases Nat.eq_zero_or_pos len with h0 | h0
      · subst h0; simp at hne
      · exact h0
    obtain ⟨g', o', e1, e2⟩ := ha (by omega)
    rw [hm, e1]
    rw [e2] at hg
    exact hg

mutual
theorem Yjr {α : Type 1} (h : Xb9 C μ A σ a w) : ∀ (p v : AV) {k : AV → List Nat → Prop → RM α} {ks : List Key} {r : α × List Key} {u : Value}, (Xjn p v k).run σ ks = some r → Rep w A μ v u →
    ∃ v' b c ks', (k v' b c).run σ ks' = some r ∧ (c → Rep w (AB σ μ A b) μ v' u)
  | .sv (.ints kd l0), v, k, ks, r, u, hr, hrep => by
    simp only [Xjn] at hr
    unfold Yg6 at hr
    split at hr
    · simp only [RM.run] at hr
      split at hr
      · exact ⟨_, _, _, _, hr, fun _ => Yg8 h (by assumption) rfl rfl (by decide) hrep⟩
      · simp [RM.run] at hr
    · rename_i id sz off len
      simp only [RM.run] at hr
      split at hr
      · rename_i kd' l hob
        split at hr
        · rename_i hsz
          have hsz := Nat.eq_of_beq_eq_true hsz
          subst hsz
          exact ⟨_, _, _, _, hr, fun hle => Yg9 h hob (xs := l.map fun n => [SV.int kd' n]) rfl (by simp [SV.elems, List.map_drop, List.map_take]) (by decide) (by simpa using hle) hrep⟩
        · simp [RM.run] at hr
      · simp [RM.run] at hr
    · refine ⟨_, _, _, _, hr, fun _ => ?_⟩
      rw [Xn8 hrep]
      exact .sv (Xgc.sl _ 1 [] none 0 (fun _ _ => undef) rfl (by simp) (by simp) (by simp) (by simp) (by simp))
    · exact ⟨_, _, _, _, hr, fun _ => hrep.frame (fun g hg => .inl hg) (fun _ _ => rfl) (fun _ _ => rfl)⟩
  | .sv (.sl β d sz0 enc l0), v, k, ks, r, u, hr, hrep => by
    simp only [Xjn] at hr
    unfold Yg7 at hr
    split at hr
    · simp only [RM.run] at hr
      split at hr
      · rename_i c l hob
        exact ⟨_, _, _, _, hr, fun _ => Yg8 h hob rfl rfl ((h.objs _ _ hob).wf : c.ok).2.1 hrep⟩
      · simp [RM.run] at hr
    · rename_i id sz off len
      simp only [RM.run] at hr
      split at hr
      · rename_i c l hob
        split at hr
        · rename_i hsz
          have hsz := Nat.eq_of_beq_eq_true hsz
          subst hsz
          exact ⟨_, _, _, _, hr, fun hle => Yg9 h hob (xs := l.map c.enc) rfl (by simp [SV.elems, List.map_drop, List.map_take]) ((h.objs _ _ hob).wf : c.ok).2.1 (by simpa using hle) hrep⟩
        · simp [RM.run] at hr
      · simp [RM.run] at hr
    · refine ⟨_, _, _, _, hr, fun _ => ?_⟩
      rw [Xn8 hrep]
      exact .sv (Xgc.sl _ sz0 [] none 0 (fun _ _ => undef) rfl (by simp) (by simp) (by simp) (by simp) (by simp))
    · exact ⟨_, _, _, _, hr, fun _ => hrep.frame (fun g hg => .inl hg) (fun _ _ => rfl) (fun _ _ => rfl)⟩
  | .agg ps, .agg vs, k, ks, r, u, hr, hrep => by
    simp only [Xjn] at hr
    cases hrep with
    | agg _ us hl hrep =>
      obtain ⟨ws, b, c, ks', hr, hws⟩ := Xr3 h ps vs hr (us := us.toList) (by simpa using hl) (fun j y v hy hv => hrep j y v hy (by simpa using hv))
      refine ⟨_, _, _, _, hr, fun hc => ?_⟩
      obtain ⟨hwl, hw⟩ := hws hc
      exact .agg ws us (by rw [hwl]; simp) fun j y v hy hv => hw j y v hy (by simpa using hv)
  | .agg ps, .any, k, ks, r, u, hr, hrep => by simp only [Xjn] at hr; exact ⟨_, _, _, _, hr, fun _ => hrep.frame (fun g hg => .inl hg) (fun _ _ => rfl) (fun _ _ => rfl)⟩
  | .agg ps, .sv x, k, ks, r, u, hr, hrep => by simp only [Xjn] at hr; exact ⟨_, _, _, _, hr, fun _ => hrep.frame (fun g hg => .inl hg) (fun _ _ => rfl) (fun _ _ => rfl)⟩
  | .agg ps, .own i, k, ks, r, u, hr, hrep => by simp only [Xjn] at hr; exact ⟨_, _, _, _, hr, fun _ => hrep.frame (fun g hg => .inl hg) (fun _ _ => rfl) (fun _ _ => rfl)⟩
  | .agg ps, .sub i z f n, k, ks, r, u, hr, hrep => by simp only [Xjn] at hr; exact ⟨_, _, _, _, hr, fun _ => hrep.frame (fun g hg => .inl hg) (fun _ _ => rfl) (fun _ _ => rfl)⟩
  | .agg ps, .ptr i f, k, ks, r, u, hr, hrep => by simp only [Xjn] at hr; exact ⟨_, _, _, _, hr, fun _ => hrep.frame (fun g hg => .inl hg) (fun _ _ => rfl) (fun _ _ => rfl)⟩
  | .agg ps, .eptr i z j f, k, ks, r, u, hr, hrep => by simp only [Xjn] at hr; exact ⟨_, _, _, _, hr, fun _ => hrep.frame (fun g hg => .inl hg) (fun _ _ => rfl) (fun _ _ => rfl)⟩
  | .agg ps, .iptr c f, k, ks, r, u, hr, hrep => by simp only [Xjn] at hr; exact ⟨_, _, _, _, hr, fun _ => hrep.frame (fun g hg => .inl hg) (fun _ _ => rfl) (fun _ _ => rfl)⟩
  | .agg ps, .tup c, k, ks, r, u, hr, hrep => by simp only [Xjn] at hr; exact ⟨_, _, _, _, hr, fun _ => hrep.frame (fun g hg => .inl hg) (fun _ _ => rfl) (fun _ _ => rfl)⟩
  | .agg ps, .fn f c, k, ks, r, u, hr, hrep => by simp only [Xjn] at hr; exact ⟨_, _, _, _, hr, fun _ => hrep.frame (fun g hg => .inl hg) (fun _ _ => rfl) (fun _ _ => rfl)⟩
  | .any, v, k, ks, r, u, hr, hrep => by simp only [Xjn] at hr; exact ⟨_, _, _, _, hr, fun _ => .any _⟩
  | .sv (.int _ _), v, k, ks, r, u, hr, hrep => by simp only [Xjn] at hr; exact ⟨_, _, _, _, hr, fun _ => hrep.frame (fun g hg => .inl hg) (fun _ _ => rfl) (fun _ _ => rfl)⟩
  | .sv (.bool _), v, k, ks, r, u, hr, hrep => by simp only [Xjn] at hr; exact ⟨_, _, _, _, hr, fun _ => hrep.frame (fun g hg => .inl hg) (fun _ _ => rfl) (fun _ _ => rfl)⟩
  | .sv (.str _), v, k, ks, r, u, hr, hrep => by simp only [Xjn] at hr; exact ⟨_, _, _, _, hr, fun _ => hrep.frame (fun g hg => .inl hg) (fun _ _ => rfl) (fun _ _ => rfl)⟩
  | .sv .nil, v, k, ks, r, u, hr, hrep => by simp only [Xjn] at hr; exact ⟨_, _, _, _, hr, fun _ => hrep.frame (fun g hg => .inl hg) (fun _ _ => rfl) (fun _ _ => rfl)⟩
  | .own _, v, k, ks, r, u, hr, hrep => by simp only [Xjn] at hr; exact ⟨_, _, _, _, hr, fun _ => hrep.frame (fun g hg => .inl hg) (fun _ _ => rfl) (fun _ _ => rfl)⟩
  | .sub _ _ _ _, v, k, ks, r, u, hr, hrep => by simp only [Xjn] at hr; exact ⟨_, _, _, _, hr, fun _ => hrep.frame (fun g hg => .inl hg) (fun _ _ => rfl) (fun _ _ => rfl)⟩
  | .ptr _ _, v, k, ks, r, u, hr, hrep => by simp only [Xjn] at hr; exact ⟨_, _, _, _, hr, fun _ => hrep.frame (fun g hg => .inl hg) (fun _ _ => rfl) (fun _ _ => rfl)⟩
  | .eptr _ _ _ _, v, k, ks, r, u, hr, hrep => by simp only [Xjn] at hr; exact ⟨_, _, _, _, hr, fun _ => hrep.frame (fun g hg => .inl hg) (fun _ _ => rfl) (fun _ _ => rfl)⟩
  | .iptr _ _, v, k, ks, r, u, hr, hrep => by simp only [Xjn] at hr; exact ⟨_, _, _, _, hr, fun _ => hrep.frame (fun g hg => .inl hg) (fun _ _ => rfl) (fun _ _ => rfl)⟩
  | .tup _, v, k, ks, r, u, hr, hrep => by simp only [Xjn] at hr; exact ⟨_, _, _, _, hr, fun _ => hrep.frame (fun g hg => .inl hg) (fun _ _ => rfl) (fun _ _ => rfl)⟩
  | .fn _ _, v, k, ks, r, u, hr, hrep => by simp only [Xjn] at hr; exact ⟨_, _, _, _, hr, fun _ => hrep.frame (fun g hg => .inl hg) (fun _ _ => rfl) (fun _ _ => rfl)⟩
theorem Xr3 {α : Type 1} (h : Xb9 C μ A σ a w) : ∀ (ps vs : List AV) {k : List AV → List Nat → Prop → RM α} {ks : List Key} {r : α × List Key} {us : List Value}, (Yc9 ps vs k).run σ ks = some r → us.length = vs.length → (∀ (j : Nat) (y : AV) (v : Value), vs[j]? = some y → us[j]? = some v → Rep w A μ y v) →
    ∃ ws b c ks', (k ws b c).run σ ks' = some r ∧ (c → ws.length = us.length ∧ ∀ (j : Nat) (y : AV) (v : Value), ws[j]? = some y → us[j]? = some v → Rep w (AB σ μ A b) μ y v)
  | [], [], k, ks, r, us, hr, hl, hrep => by rw [Yc9] at hr; exact ⟨_, _, _, _, hr, fun _ => ⟨by simpa using hl.symm, fun j y v hy => by simp at hy⟩⟩
  | [], v :: vs, k, ks, r, us, hr, hl, hrep => by simp [Yc9, RM.run] at hr
  | p :: ps, [], k, ks, r, us, hr, hl, hrep => by simp [Yc9, RM.run] at hr
  | p :: ps, v :: vs, k, ks, r, [], hr, hl, hrep => by simp at hl
  | p :: ps, v :: vs, k, ks, r, u :: us, hr, hl, hrep => by
    rw [Yc9] at hr
    obtain ⟨x, b, c, k1, hr, hx⟩ := Yjr h p v hr (hrep 0 v u rfl rfl)
    obtain ⟨xs, b', c', k2, hr, hxs⟩ := Xr3 h ps vs hr (us := us) (by simpa using hl) (fun j y v hy hv => hrep (j + 1) y v (by simpa using hy) (by simpa using hv))
    refine ⟨x :: xs, b ++ b', c ∧ c', k2, hr, fun ⟨hc, hc'⟩ => ⟨by simp [(hxs hc').1], fun j y v hy hv => ?_⟩⟩
    cases j with
    | zero => simp at hy hv; subst hy; subst hv; exact (hx hc).frame (fun g hg => hg.mono (fun i hi => by simp [hi])) (fun _ _ => rfl) (fun _ _ => rfl)
    | succ j => exact ((hxs hc').2 j y v (by simpa using hy) (by simpa using hv)).frame (fun g hg => hg.mono (fun i hi => by simp [hi])) (fun _ _ => rfl) (fun _ _ => rfl)
end
theorem Yhm {α : Type 1} : ∀ {l : List Operand} {k : List AV → RM α} {ks : List Key} {r : α × List Key}, (Yn1 l k).run σ ks = some r → ∃ vs ks', vs.length = l.length ∧ (∀ (j : Nat) (x : Operand) (v : AV), l[j]? = some x → vs[j]? = some v → Ev σ x v) ∧ (k vs).run σ ks' = some r
  | [], k, ks, r, h => ⟨[], ks, rfl, fun j x v hx => by simp at hx, h⟩
  | x :: l, k, ks, r, h => by
    rw [Yn1] at h
    obtain ⟨v, k1, hv, h⟩ := Xbm h
    obtain ⟨vs, k2, hl, hvs, h⟩ := Yhm h
    refine ⟨v :: vs, k2, by simp [hl], fun j y z hy hz => ?_, h⟩
    cases j with
    | zero => simp at hy hz; subst hy; subst hz; exact hv
    | succ j => exact hvs j y z (by simpa using hy) (by simpa using hz)
end
end Go.Proofs.YtlebkepfhdjnmadGreatAL
/- An abstract logic for Go functions: calls. Conditions: as each statement tells. -/
namespace Go.Proofs.YtlebkepfhdjnmadGreatAL
open Go.RowKit
set_option linter.unusedVariables false

def rn : List (Nat × Nat) → Nat → Nat
  | [], k => k
  | (a, b) :: l, k => bif Nat.beq a k then b else rn l k
mutual
def AV.ids : AV → List Nat
  | .own k | .sub k _ _ _ | .ptr k _ | .eptr k _ _ _ => [k]
  | .agg cs | .tup cs | .fn _ cs => AV.idsL cs
  | _ => []
def AV.idsL : List AV → List Nat
  | [] => []
  | x :: l => AV.ids x ++ AV.idsL l
end
mutual
theorem AV.has_ids {i : Nat} : ∀ x : AV, x.has i = true → i ∈ x.ids
  | .any, h => by simp [AV.has] at h
  | .sv x, h => by simp [AV.has] at h
  | .own k, h => by simp only [AV.has] at h; simp [AV.ids, Nat.eq_of_beq_eq_true h]
  | .sub k _ _ _, h => by simp only [AV.has] at h; simp [AV.ids, Nat.eq_of_beq_eq_true h]
  | .ptr k _, h => by simp only [AV.has] at h; simp [AV.ids, Nat.eq_of_beq_eq_true h]
  | .eptr k _ _ _, h => by simp only [AV.has] at h; simp [AV.ids, Nat.eq_of_beq_eq_true h]
  | .iptr _ _, h => by simp [AV.has] at h
  | .agg cs, h => by simp only [AV.has] at h; simp only [AV.ids]; exact AV.hasL_ids cs h
  | .tup cs, h => by simp only [AV.has] at h; simp only [AV.ids]; exact AV.hasL_ids cs h
  | .fn _ cs, h => by simp only [AV.has] at h; simp only [AV.ids]; exact AV.hasL_ids cs h
theorem AV.hasL_ids {i : Nat} : ∀ l : List AV, AV.hasL i l = true → i ∈ AV.idsL l
  | [], h => by simp [AV.hasL] at h
  | x :: l, h => by
    rw [AV.hasL, Bool.or_eq_true] at h
    rw [AV.idsL]
    rcases h with h | h
    · exact List.mem_append_left _ (AV.has_ids x h)
    · exact List.mem_append_right _ (AV.hasL_ids l h)
end
def Obj.ids : Obj → List Nat
  | .box cs => AV.idsL cs
  | _ => []
mutual
def AV.flat : AV → Bool
  | .sv x => x.flat
  | .iptr _ _ => false
  | .agg cs | .tup cs | .fn _ cs => AV.flatL cs
  | _ => true
def AV.flatL : List AV → Bool
  | [] => true
  | x :: l => AV.flat x && AV.flatL l
end
def Obj.flat : Obj → Prop
  | .box cs => AV.flatL cs = true
  | .ints _ _ => True
  | .row c _ => ∀ x, Xs5 (c.enc x) = true
theorem AV.flatL_mem : ∀ {l : List AV}, AV.flatL l = true → ∀ x ∈ l, x.flat = true
  | [], _, x, hx => by simp at hx
  | y :: l, h, x, hx => by
    rw [AV.flatL, Bool.and_eq_true] at h
    rcases List.mem_cons.1 hx with rfl | hx
    · exact h.1
    · exact AV.flatL_mem h.2 x hx

section
variable {P : Program} {T : Nat → Option TI} {C : Ctx} {μ μ' : Nat → Value} {A A' : Nat → Prop} {σ σ' : St} {a : Act} {w w' : World} {o : Oper}
theorem Xgc.any {x : SV} {v : Value} (hx : x.flat = true) (h : Xgc w A x v) : Xgc w A' x v := by
  cases h with
  | int k n => exact .int k n
  | bool b => exact .bool b
  | str s => exact .str s
  | nil => exact .nil
  | sl _ sz xs ad cap c hx' => cases x <;> first | (cases hx; done) | (cases hx'; done)
theorem Rep.any_A {x : AV} {v : Value} (hx : x.flat = true) (h : Rep w A μ x v) : Rep w A' μ x v := by
  induction h with
  | any v => exact .any v
  | sv h => exact .sv (h.any (by simpa [AV.flat] using hx))
  | own id => exact .own id
  | sub id sz off len ad0 ad n cap cap' h1 h2 h3 h4 h5 => exact .sub id sz off len ad0 ad n cap cap' h1 h2 h3 h4 h5
  | ptr id off g h1 => exact .ptr id off g h1
  | eptr id sz i off g o n cap h1 => exact .eptr id sz i off g o n cap h1
  | iptr cells off g o h1 h2 => simp [AV.flat] at hx
  | agg cs vs hl h ih => exact .agg cs vs hl fun j y u hy hu => ih j y u hy hu (AV.flatL_mem (by simpa [AV.flat] using hx) y (List.mem_of_getElem? hy))
  | tup cs vs hl h ih => exact .tup cs vs hl fun j y u hy hu => ih j y u hy hu (AV.flatL_mem (by simpa [AV.flat] using hx) y (List.mem_of_getElem? hy))
  | fn f cs vs hl h ih => exact .fn f cs vs hl fun j y u hy hu => ih j y u hy hu (AV.flatL_mem (by simpa [AV.flat] using hx) y (List.mem_of_getElem? hy))
theorem Yh4 {ob : Obj} {sz : Nat} {xs : List (List SV)} (hf : ob.flat) (hx : ob.elems = some (sz, xs)) {i j : Nat} {x : List SV} {y : SV} (hi : xs[i]? = some x) (hj : x[j]? = some y) : y.flat = true := by
  cases ob with
  | box => cases hx
  | ints k l =>
    simp only [Obj.elems, Option.some.injEq, Prod.mk.injEq] at hx
    obtain ⟨_, rfl⟩ := hx
    rw [List.getElem?_map] at hi
    obtain ⟨n, _, rfl⟩ := Option.map_eq_some_iff.1 hi
    cases j with
    | zero => simp at hj; subst hj; rfl
    | succ j => simp at hj
  | row c l =>
    simp only [Obj.elems, Option.some.injEq, Prod.mk.injEq] at hx
    obtain ⟨_, rfl⟩ := hx
    rw [List.getElem?_map] at hi
    obtain ⟨z, _, rfl⟩ := Option.map_eq_some_iff.1 hi
    exact Xpv (hf z) y (List.mem_of_getElem? hj)
theorem Xjs.any_A {ob : Obj} {v : Value} (hf : ob.flat) (h : Xjs w A μ ob v) : Xjs w A' μ ob v := by
  cases h with
  | box cells g cs E fr hg hnf hl h => exact .box cells g cs E fr hg hnf hl fun j y u hy hu => ⟨(h j y u hy hu).1.any_A (AV.flatL_mem hf y (List.mem_of_getElem? hy)), (h j y u hy hu).2⟩
  | none _ sz hx hwf => exact .none _ sz hx hwf
  | row _ sz xs hx hwf g o cap cs E fr hg hnf hc hm hs hl h =>
    refine .row _ sz xs hx hwf g o cap cs E fr hg hnf hc hm hs hl fun i j x y hi hj => ?_
    obtain ⟨u, hu, hr⟩ := h i j x y hi hj
    exact ⟨u, hu, hr.any (Yh4 hf hx hi hj)⟩

def Xc4 : Xa0 → List Nat
  | [] => []
  | p :: l => p.1 :: Xc4 l
theorem Xj2 {k : Nat} {ob : Obj} : ∀ {l : Xa0}, lk l k = some ob → k ∈ Xc4 l
  | [], h => by simp [lk] at h
  | (i, u) :: l, h => by
    rw [Xbc] at h
    rw [Xc4]
    split at h
    · rename_i e; subst e; simp
    · exact List.mem_cons_of_mem _ (Xj2 h)
theorem Yc7 {k : Nat} : ∀ {l : Xa0}, k ∈ Xc4 l → ∃ ob, lk l k = some ob
  | [], h => by simp [Xc4] at h
  | (i, u) :: l, h => by
    rw [Xbc]
    by_cases e : i = k
    · exact ⟨u, if_pos e⟩
    · rw [if_neg e]
      rw [Xc4] at h
      rcases List.mem_cons.1 h with h | h
      · exact absurd h.symm e
      · exact Yc7 h
def Xpt : List Nat → Bool
  | [] => true
  | x :: l => !inN x l && Xpt l
def Xvp (f : Nat → Nat) : List Nat → List Nat
  | [] => []
  | x :: l => f x :: Xvp f l
theorem Ydf {f : Nat → Nat} {y : Nat} : ∀ {l : List Nat}, y ∈ Xvp f l ↔ ∃ x ∈ l, f x = y
  | [] => by simp [Xvp]
  | x :: l => by rw [Xvp, List.mem_cons, Ydf (l := l)]; simp [eq_comm]
theorem Xpu {f : Nat → Nat} : ∀ {l : List Nat}, Xpt (Xvp f l) = true → ∀ x ∈ l, ∀ y ∈ l, f x = f y → x = y
  | [], _, x, hx, _, _, _ => by simp at hx
  | z :: l, h, x, hx, y, hy, e => by
    rw [Xvp, Xpt, Bool.and_eq_true] at h
    have hz : ∀ u ∈ l, f u ≠ f z := fun u hu e => by
      have : inN (f z) (Xvp f l) = true := Xlo.2 (Ydf.2 ⟨u, hu, e⟩)
      rw [this] at h; simp at h
    rcases List.mem_cons.1 hx with hx1 | hx1
    · rcases List.mem_cons.1 hy with hy1 | hy1
      · rw [hx1, hy1]
      · exact absurd (by rw [← e, hx1]) (hz y hy1)
    · rcases List.mem_cons.1 hy with hy1 | hy1
      · exact absurd (by rw [e, hy1]) (hz x hx1)
      · exact Xpu h.2 x hx1 y hy1 e
def Ymm (l m : List Nat) : List Nat := l.filter fun x => !inN x m
theorem Yjk {l m : List Nat} {x : Nat} : x ∈ Ymm l m ↔ x ∈ l ∧ x ∉ m := by
  unfold Ymm
  rw [List.mem_filter]
  refine and_congr_right fun _ => ?_
  cases h : inN x m with
  | true => simp [Xlo.1 h]
  | false => simp; intro hm; rw [Xlo.2 hm] at h; cases h
def Yko (l m : List Nat) : Bool := match l with | [] => true | x :: l => inN x m && Yko l m
theorem Yea {m : List Nat} : ∀ {l : List Nat}, Yko l m = true → ∀ x ∈ l, x ∈ m
  | [], _, x, hx => by simp at hx
  | y :: l, h, x, hx => by
    rw [Yko, Bool.and_eq_true] at h
    rcases List.mem_cons.1 hx with rfl | hx
    · exact Xlo.1 h.1
    · exact Yea h.2 x hx
def Ydh : Xa0 → List Nat
  | [] => []
  | p :: l => p.2.ids ++ Ydh l
theorem Xyj {k i : Nat} {ob : Obj} : ∀ {l : Xa0}, lk l k = some ob → i ∈ ob.ids → i ∈ Ydh l
  | [], h, _ => by simp [lk] at h
  | (j, u) :: l, h, hi => by
    rw [Xbc] at h
    rw [Ydh]
    split at h
    · cases h; exact List.mem_append_left _ hi
    · exact List.mem_append_right _ (Xyj h hi)
def Xb2 (objs objs' : Xa0) : List Nat := Ymm (Xc4 objs') (Xc4 objs)
def Xxa (f : Nat → Nat) (bor : List Nat) : List Nat → Bool
  | [] => true
  | k :: l => !inN (f k) bor && Xxa f bor l
theorem Xs1 {f : Nat → Nat} {bor : List Nat} : ∀ {l : List Nat}, Xxa f bor l = true → ∀ k ∈ l, f k ∉ bor
  | [], _, k, hk => by simp at hk
  | x :: l, h, k, hk => by
    rw [Xxa, Bool.and_eq_true] at h
    rcases List.mem_cons.1 hk with rfl | hk
    · intro hm; rw [Xlo.2 hm] at h; simp at h
    · exact Xs1 h.2 k hk
def Xxd (tab : List (Nat × Nat)) (objs objs' : Xa0) (res : AV) (bor : List Nat) : Bool :=
  Xpt (Xvp (rn tab) (Xc4 objs ++ Xb2 objs objs')) && Yko (res.ids ++ Ydh objs') (Xc4 objs') && Xxa (rn tab) bor (Xc4 objs)
def Xhw (tab : List (Nat × Nat)) (dst : Option Nat) (res : AV) : List (Nat × AV) := match dst with | some d => [(d, res.ren (rn tab))] | none => []
def Xmu (tab : List (Nat × Nat)) : Xa0 → List (Nat × Option Obj)
  | [] => []
  | p :: l => (rn tab p.1, none) :: Xmu tab l
def Xfd (tab : List (Nat × Nat)) (objs : Xa0) : Xa0 → List (Nat × Option Obj)
  | [] => Xmu tab objs
  | p :: l => (rn tab p.1, some (p.2.ren (rn tab))) :: Xfd tab objs l
def Xix (tab : List (Nat × Nat)) : Xa0 → List Key
  | [] => []
  | p :: l => .o (rn tab p.1) :: Xix tab l
def holds (tab : List (Nat × Nat)) (σ : St) : Xa0 → Prop
  | [] => True
  | p :: l => σ.obj (rn tab p.1) = some (p.2.ren (rn tab)) ∧ holds tab σ l
def Yel : Xa0 → Prop
  | [] => True
  | p :: l => p.2.flat ∧ Yel l
theorem Yhd {k : Nat} {ob : Obj} : ∀ {l : Xa0}, lk l k = some ob → (k, ob) ∈ l
  | [], h => by simp [lk] at h
  | (i, u) :: l, h => by
    rw [Xbc] at h
    split at h
    · rename_i e; subst e; cases h; simp
    · exact List.mem_cons_of_mem _ (Yhd h)
theorem Yeu {tab : List (Nat × Nat)} {σ : St} : ∀ {l : Xa0}, holds tab σ l → ∀ p ∈ l, σ.obj (rn tab p.1) = some (p.2.ren (rn tab))
  | [], _, p, hp => by simp at hp
  | q :: l, h, p, hp => by
    rcases List.mem_cons.1 hp with rfl | hp
    · exact h.1
    · exact Yeu h.2 p hp
theorem Yem : ∀ {l : Xa0}, Yel l → ∀ p ∈ l, p.2.flat
  | [], _, p, hp => by simp at hp
  | q :: l, h, p, hp => by
    rcases List.mem_cons.1 hp with rfl | hp
    · exact h.1
    · exact Yem h.2 p hp
theorem Yjf {tab : List (Nat × Nat)} {id : Nat} : ∀ {l : Xa0} {x : Option Obj}, lk (Xmu tab l) id = some x → x = none ∧ ∃ k ∈ Xc4 l, rn tab k = id
  | [], x, h => by simp [Xmu, lk] at h
  | p :: l, x, h => by
    rw [Xmu, Xbc] at h
    rw [Xc4]
    split at h
    · cases h; exact ⟨rfl, p.1, by simp, by assumption⟩
    · obtain ⟨h1, k, hk, e⟩ := Yjf h; exact ⟨h1, k, by simp [hk], e⟩
theorem Xuv {tab : List (Nat × Nat)} {id : Nat} : ∀ {l : Xa0}, lk (Xmu tab l) id = none → ∀ k ∈ Xc4 l, rn tab k ≠ id
  | [], h, k, hk => by simp [Xc4] at hk
  | p :: l, h, k, hk => by
    rw [Xmu, Xbc] at h
    rw [Xc4] at hk
    split at h
    · cases h
    · rename_i e
      rcases List.mem_cons.1 hk with rfl | hk
      · exact e
      · exact Xuv h k hk
theorem Yl0 {tab : List (Nat × Nat)} {objs : Xa0} {id : Nat} : ∀ {l : Xa0} {x : Option Obj}, (∀ a ∈ Xc4 l, ∀ b ∈ Xc4 l, rn tab a = rn tab b → a = b) → lk (Xfd tab objs l) id = some x →
    (∃ k ob, lk l k = some ob ∧ rn tab k = id ∧ x = some (ob.ren (rn tab))) ∨ x = none ∧ (∃ k ∈ Xc4 objs, rn tab k = id)
  | [], x, _, h => .inr (Yjf h)
  | p :: l, x, hi, h => by
    rw [Xfd, Xbc] at h
    split at h
    · cases h; exact .inl ⟨p.1, p.2, by obtain ⟨a, b⟩ := p; rw [Xbc, if_pos rfl], by assumption, rfl⟩
    · rename_i e
      rcases Yl0 (fun a ha b hb => hi a (by simp [Xc4, ha]) b (by simp [Xc4, hb])) h with ⟨k, ob, h1, h2, h3⟩ | h1
      · refine .inl ⟨k, ob, ?_, h2, h3⟩
        obtain ⟨a, b⟩ := p
        rw [Xbc, if_neg ?_]; exact h1
        intro e'; subst e'; exact e h2
      · exact .inr h1
theorem Xye {tab : List (Nat × Nat)} {objs : Xa0} {id : Nat} : ∀ {l : Xa0}, lk (Xfd tab objs l) id = none → (∀ k ∈ Xc4 objs, rn tab k ≠ id) ∧ ∀ k ∈ Xc4 l, rn tab k ≠ id
  | [], h => ⟨Xuv h, fun k hk => by simp [Xc4] at hk⟩
  | p :: l, h => by
    rw [Xfd, Xbc] at h
    split at h
    · cases h
    · rename_i e
      obtain ⟨h1, h2⟩ := Xye h
      refine ⟨h1, fun k hk => ?_⟩
      rw [Xc4] at hk
      rcases List.mem_cons.1 hk with rfl | hk
      · exact e
      · exact h2 k hk
def muN (tab : List (Nat × Nat)) (μ' μ : Nat → Value) : List Nat → Nat → Value
  | [], id => μ id
  | k :: l, id => if rn tab k = id then μ' k else muN tab μ' μ l id
theorem Ygi {tab : List (Nat × Nat)} {id : Nat} : ∀ {l : List Nat}, (∀ k ∈ l, rn tab k ≠ id) → muN tab μ' μ l id = μ id
  | [], _ => rfl
  | k :: l, h => by rw [muN, if_neg (h k (by simp))]; exact Ygi fun k hk => h k (by simp [hk])
theorem Yl1 {tab : List (Nat × Nat)} {k : Nat} : ∀ {l : List Nat}, (∀ j ∈ l, rn tab j = rn tab k → j = k) → k ∈ l → muN tab μ' μ l (rn tab k) = μ' k
  | [], _, h => by simp at h
  | j :: l, hi, h => by
    rw [muN]
    split
    · rename_i e; rw [hi j (by simp) e]
    · rename_i e
      refine Yl1 (fun i hi' => hi i (by simp [hi'])) ?_
      rcases List.mem_cons.1 h with rfl | h
      · exact absurd rfl e
      · exact h
theorem Yjm {tab : List (Nat × Nat)} (h1 : ∀ id, (μ id).oneCell' = true) (h2 : ∀ id, (μ' id).oneCell' = true) (id : Nat) : ∀ l : List Nat, (muN tab μ' μ l id).oneCell' = true
  | [] => h1 id
  | k :: l => by rw [muN]; split; exact h2 k; exact Yjm h1 h2 id l

structure Ykh (C : Ctx) (tab : List (Nat × Nat)) (objs objs' : Xa0) (res : AV) (bor : List Nat) (σ : St) : Prop where
  ok : Xxd tab objs objs' res bor = true
  holds : holds tab σ objs
  fresh : Xj7 C (Xvp (rn tab) (Xb2 objs objs')) σ
  keep : bor = [] ∨ res.flat = true ∧ Yel objs'

theorem Yi2 (h : Xb9 C μ A σ a w) {tab : List (Nat × Nat)} {objs objs' : Xa0} {res : AV} {bor : List Nat} (hs : Ykh C tab objs objs' res bor σ) {dst : Option Nat} (hd : ∀ d, dst = some d → d < C.n) {f : Nat} {args : List AV} {cargs : Array Value}
    (hA : AC P f args objs res objs') (hargs : Yn3 w (AB σ μ A bor) μ (args.map (AV.ren (rn tab))) cargs) {Q : Ending → World → Prop} (hQ : ∀ v w', Rel C { s := Xhw tab dst res ++ σ.s, o := Xfd tab objs objs' ++ σ.o } (a.put dst v) w' → Q (.returned v) w') : Calls P f cargs w Q := by
  obtain ⟨hok, hhold, hfresh, hkeep⟩ := hs
  unfold Xxd at hok
  rw [Bool.and_eq_true, Bool.and_eq_true] at hok
  obtain ⟨⟨hok1, hok2⟩, hok3⟩ := hok
  have hinj := Xpu hok1
  have hall := Yea hok2
  have hout := Xs1 hok3
  have hnew : ∀ k, k ∈ Xb2 objs objs' ↔ k ∈ Xc4 objs' ∧ k ∉ Xc4 objs := fun k => Yjk
  have hk' : ∀ k ∈ Xc4 objs', k ∈ Xc4 objs ++ Xb2 objs objs' := fun k hk => by
    rw [List.mem_append, hnew]
    by_cases hm : k ∈ Xc4 objs
    · exact .inl hm
    · exact .inr ⟨hk, hm⟩
  have hko : ∀ k ∈ Xc4 objs, k ∈ Xc4 objs ++ Xb2 objs objs' := fun k hk => List.mem_append_left _ hk
  have hobj : ∀ k ob, lk objs k = some ob → σ.obj (rn tab k) = some (ob.ren (rn tab)) := fun k ob hk => Yeu hhold _ (Yhd hk)
  let μc : Nat → Value := fun k => μ (rn tab k)
  have hE : Ym7 w μc (AB σ μ A bor) objs := by
    refine ⟨fun id => h.mu1 _, fun k ob hk => ?_, fun i j oi oj g hij hi hj => ?_, fun k ob g hk hg hab => ?_, fun g hg => ?_⟩
    · exact (Xjs.unren (h.objs _ _ (hobj k ob hk))).frame (fun g hg => .inl hg) (fun _ _ => rfl) (fun _ _ => rfl) (fun _ _ => rfl)
    · exact h.sep _ _ _ _ g (fun e => hij (hinj i (hko i (Xj2 hi)) j (hko j (Xj2 hj)) e)) (hobj i oi hi) (hobj j oj hj)
    · rcases hab with hab | ⟨id, hid, ob', hob', hg'⟩
      · exact (h.own _ _ g (hobj k ob hk) hg).2 hab
      · refine h.sep _ _ _ _ g (fun e => ?_) (hobj k ob hk) hob' hg hg'
        exact hout k (Xj2 hk) (e ▸ hid)
    · rcases hg with hg | ⟨id, hid, ob', hob', hg'⟩
      · exact (h.stab g hg).1
      · exact (h.objs id ob' hob').lt hg'
  have hFo : ∀ g, C.F g → Fo w μc objs g := fun g hg => ⟨Nat.lt_of_lt_of_le (h.cok.lt g hg) h.frame.size, fun k ob hk hg' => (h.own _ _ g (hobj k ob hk) hg').1 hg⟩
  have hAFo : ∀ g, A g → Fo w μc objs g := fun g hg => ⟨(h.stab g hg).1, fun k ob hk hg' => (h.own _ _ g (hobj k ob hk) hg').2 hg⟩
  have hOFo : ∀ id ob g, σ.obj id = some ob → (∀ k ∈ Xc4 objs, rn tab k ≠ id) → Xgb (μ id) = some g → Fo w μc objs g := fun id ob g hid hne hg =>
    ⟨(h.objs id ob hid).lt hg, fun k ob' hk hg' => h.sep _ _ _ _ g (hne k (Xj2 hk)) (hobj k ob' hk) hid hg' hg⟩
  refine Calls.mono (hA μc (AB σ μ A bor) w cargs hE ⟨by simpa using hargs.1, fun j y u hy hu => ?_⟩) ?_
  · exact Rep.unren _ _ (hargs.2 j (y.ren (rn tab)) u (by rw [List.getElem?_map, hy]; rfl) hu)
  intro e w' ⟨v, μ', A', he, hL, hres⟩
  subst he
  refine hQ v w' ?_
  have hmuk : ∀ k ∈ Xc4 objs', muN tab μ' μ (Xb2 objs objs') (rn tab k) = μ' k := fun k hk => by
    by_cases hm : k ∈ Xc4 objs
    · rw [Ygi fun j hj e => ?_]
      · obtain ⟨ob, hob⟩ := Yc7 hm
        obtain ⟨ob', hob'⟩ := Yc7 hk
        exact (hL.pins k ob ob' hob hob').symm
      · have := hinj j (List.mem_append_right _ hj) k (hko k hm) e
        subst this
        exact ((hnew j).1 hj).2 hm
    · exact Yl1 (fun j hj e => hinj j (List.mem_append_right _ hj) k (hk' k hk) e) ((hnew k).2 ⟨hk, hm⟩)
  have hfr : ∀ k ∈ Xb2 objs objs', σ.fresh (rn tab k) ∧ C.pin (rn tab k) = none := fun k hk => hfresh _ (Ydf.2 ⟨k, hk, rfl⟩)
  have hmus : ∀ (id : Nat), (∀ k ∈ Xb2 objs objs', rn tab k ≠ id) → muN tab μ' μ (Xb2 objs objs') id = μ id := fun id hid => Ygi hid
  have hinj' : ∀ a ∈ Xc4 objs', ∀ b ∈ Xc4 objs', rn tab a = rn tab b → a = b := fun a ha b hb => hinj a (hk' a ha) b (hk' b hb)
  -- which blocks stay
  obtain ⟨A'', hA1, hA2, hA3, hA4, hA5⟩ : ∃ A'' : Nat → Prop, (∀ g, A g → A'' g) ∧ (∀ g, A'' g → A' g) ∧ (∀ g, A'' g → A g ∨ ¬ Fo w μc objs g) ∧ Rep w' A'' μ' res v ∧ ∀ k ob, lk objs' k = some ob → Xjs w' A'' μ' ob (μ' k) := by
    rcases hkeep with hb | ⟨hf, hfo⟩
    · subst hb
      have hab : ∀ g, AB σ μ A [] g → A g := fun g hg => hg.elim (fun h => h) fun ⟨id, hid, _⟩ => by simp at hid
      exact ⟨A', fun g hg => hL.mono g (.inl hg), fun _ h => h, fun g hg => (hL.stab g hg).2.imp_left (hab g), hres, hL.reps⟩
    · exact ⟨A, fun _ h => h, fun g hg => hL.mono g (.inl hg), fun g hg => .inl hg, hres.any_A hf, fun k ob hk => (hL.reps k ob hk).any_A (Yem hfo _ (Yhd hk))⟩
  refine ⟨muN tab μ' μ (Xb2 objs objs'), A'', ?_⟩
  -- the object that an identifier names afterwards
  have hcase : ∀ id ob, St.obj { s := Xhw tab dst res ++ σ.s, o := Xfd tab objs objs' ++ σ.o } id = some ob →
      (∃ k ob', lk objs' k = some ob' ∧ rn tab k = id ∧ ob = ob'.ren (rn tab)) ∨ σ.obj id = some ob ∧ (∀ k ∈ Xc4 objs, rn tab k ≠ id) ∧ ∀ k ∈ Xc4 objs', rn tab k ≠ id := by
    intro id ob hid
    unfold St.obj at hid
    simp only at hid
    rw [Ye2] at hid
    cases hl : lk (Xfd tab objs objs') id with
    | some x =>
      rw [hl] at hid
      simp only [Option.getD_some] at hid
      subst hid
      rcases Yl0 hinj' hl with ⟨k, ob', h1, h2, h3⟩ | ⟨h1, _⟩
      · cases h3; exact .inl ⟨k, ob', h1, h2, rfl⟩
      · cases h1
    | none =>
      rw [hl] at hid
      exact .inr ⟨hid, Xye hl⟩
  have hnk : ∀ {id : Nat}, (∀ k ∈ Xc4 objs', rn tab k ≠ id) → muN tab μ' μ (Xb2 objs objs') id = μ id := fun hne => hmus _ fun k hk => hne k ((hnew k).1 hk).1
  have hbl : ∀ g, A g → w'.heap[g]? = w.heap[g]? := fun g hg => hL.frame.block g (hAFo g hg)
  refine { cok := h.cok, tmps := ?_, defers := ?_, slots := ?_, objs := ?_, sep := ?_, own := ?_, stab := ?_, base := fun g hg => hA1 g (h.base g hg), frame := h.frame.trans (hL.frame.mono hFo), pins := ?_, mu1 := fun id => Yjm h.mu1 hL.one id _ }
  · cases dst with
    | none => exact h.tmps
    | some d => rw [Act.put_tmps, Array.size_setIfInBounds]; exact h.tmps
  · cases dst with
    | none => exact h.defers
    | some d => exact h.defers
  · have hold : ∀ t x, lk σ.s t = some x → Rep w' A'' (muN tab μ' μ (Xb2 objs objs')) x (a.tmps.getD t undef) := fun t x hx =>
      (h.slots t x hx).frame hA1 hbl fun i hi => hmus i fun k hk e => by
        have := (hfr k hk).1.1 t x hx
        rw [e] at this; rw [this] at hi; cases hi
    have hnewr : Rep w' A'' (muN tab μ' μ (Xb2 objs objs')) (res.ren (rn tab)) v := hA4.ren fun i hi => hmuk i (hall i (List.mem_append_left _ (AV.has_ids res hi)))
    cases dst with
    | none => exact hold
    | some d =>
      intro t x hx
      have hx' : lk ((d, res.ren (rn tab)) :: σ.s) t = some x := hx
      rw [Xbc] at hx'
      rw [Act.put_tmps]
      by_cases e : d = t
      · subst e
        rw [if_pos rfl] at hx'
        cases hx'
        have : d < a.tmps.size := by rw [h.tmps]; exact hd d rfl
        rw [Array.getD_eq_getD_getElem?, Array.getElem?_setIfInBounds_self_of_lt this]
        exact hnewr
      · rw [if_neg e] at hx'
        rw [Array.getD_eq_getD_getElem?, Array.getElem?_setIfInBounds_ne e, ← Array.getD_eq_getD_getElem?]
        exact hold t x hx'
  · intro id ob hid
    rcases hcase id ob hid with ⟨k, ob', h1, rfl, rfl⟩ | ⟨h1, h2, h3⟩
    · rw [hmuk k (Xj2 h1)]
      refine (hA5 k ob' h1).ren fun i hi => hmuk i (hall i (List.mem_append_right _ (Xyj h1 ?_)))
      cases ob' with
      | box cs => exact AV.hasL_ids cs hi
      | ints => cases hi
      | row => cases hi
    · rw [hnk h3]
      refine (h.objs id ob h1).frame hA1 hbl (fun g hg => hL.frame.block g (hOFo id ob g h1 h2 hg)) fun i hi => hmus i fun k hk e => ?_
      have := (hfr k hk).1.2 id ob h1
      rw [e] at this; rw [this] at hi; cases hi
  · intro i j oi oj g hij hi hj
    rcases hcase i oi hi with ⟨k, ob', h1, rfl, rfl⟩ | ⟨h1, h2, h3⟩
    · rw [hmuk k (Xj2 h1)]
      rcases hcase j oj hj with ⟨l, ob'', k1, rfl, rfl⟩ | ⟨k1, k2, k3⟩
      · rw [hmuk l (Xj2 k1)]
        exact hL.sep k l _ _ g (fun e => hij (by rw [e])) h1 k1
      · rw [hnk k3]
        exact fun hg hg' => (hL.own k _ g h1 hg).2 (hOFo j oj g k1 k2 hg')
    · rw [hnk h3]
      rcases hcase j oj hj with ⟨l, ob'', k1, rfl, rfl⟩ | ⟨k1, k2, k3⟩
      · rw [hmuk l (Xj2 k1)]
        exact fun hg hg' => (hL.own l _ g k1 hg').2 (hOFo i oi g h1 h2 hg)
      · rw [hnk k3]
        exact h.sep i j oi oj g hij h1 k1
  · intro id ob g hid hg
    rcases hcase id ob hid with ⟨k, ob', h1, rfl, rfl⟩ | ⟨h1, h2, h3⟩
    · rw [hmuk k (Xj2 h1)] at hg
      exact ⟨fun hF => (hL.own k ob' g h1 hg).2 (hFo g hF), fun hA => (hL.own k ob' g h1 hg).1 (hA2 g hA)⟩
    · rw [hnk h3] at hg
      refine ⟨(h.own id ob g h1 hg).1, fun hA => ?_⟩
      rcases hA3 g hA with hA | hA
      · exact (h.own id ob g h1 hg).2 hA
      · exact hA (hOFo id ob g h1 h2 hg)
  · intro g hg
    refine ⟨?_, ?_⟩
    · exact (hL.stab g (hA2 g hg)).1
    · rcases hA3 g hg with hA | hA
      · exact (h.stab g hA).2
      · exact .inr fun hF => hA (hFo g hF)
  · intro id u ob hu hid
    have hnn : muN tab μ' μ (Xb2 objs objs') id = μ id := hmus id fun k hk e => by
      have := (hfr k hk).2
      rw [e, hu] at this; cases this
    rw [hnn]
    rcases hcase id ob hid with ⟨k, ob', h1, rfl, rfl⟩ | ⟨h1, h2, h3⟩
    · by_cases hm : k ∈ Xc4 objs
      · obtain ⟨o0, ho0⟩ := Yc7 hm
        exact h.pins _ u _ hu (hobj k o0 ho0)
      · have := (hfr k ((hnew k).2 ⟨Xj2 h1, hm⟩)).2
        rw [hu] at this; cases this
    · exact h.pins id u ob hu h1
end
end Go.Proofs.YtlebkepfhdjnmadGreatAL
/- An abstract logic for Go functions: a call as an operation, and a function's body. Conditions: as each statement tells. -/
namespace Go.Proofs.YtlebkepfhdjnmadGreatAL
open Go.RowKit
set_option linter.unusedVariables false
section
variable {P : Program} {T : Nat → Option TI} {C : Ctx} {μ μ' : Nat → Value} {A A' : Nat → Prop} {σ σ' : St} {a : Act} {w w' : World} {o : Oper} {ops : Array Oper}

theorem Xxi {tab : List (Nat × Nat)} {τ : St} : ∀ {l : Xa0}, (∀ k ∈ Xix tab l, match k with | .s t => lk τ.s t = lk σ.s t | .o id => lk τ.o id = lk σ.o id) → holds tab σ l → holds tab τ l
  | [], _, _ => trivial
  | p :: l, ha, h => ⟨by have := ha (.o (rn tab p.1)) (by simp [Xix]); unfold St.obj; simp only at this; rw [this]; exact h.1, Xxi (fun k hk => ha k (by simp [Xix, hk])) h.2⟩

def Fn (P : Program) (f : Nat) : Prop := ∀ (args : Array Value) (w : World), (callFunc f args).run P w = .ok (.enter f args) w

def Ykd (P : Program) (C : Ctx) (o : Oper) (r : Rec) (σ : St) : Prop :=
  ∀ τ, Ykg r.rd σ τ → Xj7 C r.nw τ → ∀ a w, Rel C τ a w → Xj8 P C o (r.app τ) a w
theorem Yjh (hT : TOk P T) {o : Oper} {σ : St} {e : Eff} {ks : List Key} (hd : ∀ d, o.dst = some d → d < C.n) (hr : (aop T o).run σ [] = some (e, ks)) (hc : e.cond) : Ykd P C o ⟨ks, e.slots, e.objs, e.new⟩ σ := by
  intro τ ha hf a w ⟨μ, A, h⟩
  exact Yix hT h hd (Xgo hr ha) hc hf
theorem Xyf {r : Rec} (hg : o.guard = none) (h : Ykd P C o r σ) : Loc P C ops o r σ := by
  intro τ ha hf a w hR
  rw [if_pos (by simp [Region.wanted, hg])]
  exact h τ ha hf a w hR
theorem Ynf {r : Rec} {i t : Nat} {b : Bool} (hg : o.guard = some (i, b)) (hdi : (ops[i]?).bind (·.dst) = some t) (ht : t < C.n) (hs : lk σ.s t = some (.sv (.bool b))) (h : Ykd P C o r σ) : Loc P C ops o ⟨.s t :: r.rd, r.sl, r.ob, r.nw⟩ σ := by
  intro τ ha hf a w ⟨μ, A, hR⟩
  have hs' : τ.slot t = .sv (.bool b) := by
    have := ha (.s t) (by simp)
    unfold St.slot
    simp only at this
    rw [this, hs]; rfl
  rw [if_pos (by rw [Xzr hR hg hdi ht hs']; simp)]
  exact h τ (fun k hk => ha k (by simp [hk])) hf a w ⟨μ, A, hR⟩

theorem Yig {c : Call} {fop : Operand} {f : Nat} {cap : Array Value} {ty : TypeId} (ho : o.op = .call c) (hcal : c.callee = .value fop) (hf : Fn P f) (he : a.eval fop = .func (.func f) #[] cap) :
    (execOp a.eval o).run P w = .ok (.enter f (c.args.map a.eval ++ cap)) w := by
  simp [execOp, ho, resolve, hcal, he, Deferred.ofValue, invoke, hf _ w]

theorem Ye5 {c : Call} {fop : Operand} {f : Nat} {tab : List (Nat × Nat)} {args : List AV} {objs objs' : Xa0} {res : AV} {bor : List Nat} {cond : Prop} {ks : List Key} (ho : o.op = .call c) (hcal : c.callee = .value fop) (hd : ∀ d, o.dst = some d → d < C.n) (hf : Fn P f)
    (hA : AC P f args objs res objs') (hr : (Yhz args fop f c.args.toList).run σ [] = some (⟨args.map (AV.ren (rn tab)), bor, cond⟩, ks)) (hc : cond) (hh : holds tab σ objs) (hok : Xxd tab objs objs' res bor = true) (hk : bor = [] ∨ res.flat = true ∧ Yel objs') :
    Ykd P C o ⟨ks ++ Xix tab objs, Xhw tab o.dst res, Xfd tab objs objs', Xvp (rn tab) (Xb2 objs objs')⟩ σ := by
  intro τ ha hfr a w ⟨μ, A, h⟩
  have hr' := Xgo hr fun k hk => ha k (List.mem_append_left _ hk)
  have hh' : holds tab τ objs := Xxi (fun k hk => ha k (List.mem_append_right _ hk)) hh
  unfold Yhz at hr'
  obtain ⟨v, k1, hv, hr1⟩ := Xbm hr'
  clear hr' hr
  split at hr1
  · rename_i f' cap
    split at hr1
    · rename_i hff
      have hff := Nat.eq_of_beq_eq_true hff
      subst hff
      have he := h.ev hv
      generalize hfe : a.eval fop = u at he
      cases he with
      | fn _ _ vs hvl hvs =>
        obtain ⟨xs, k2, hxl, hxs, hr2⟩ := Yhm hr1
        obtain ⟨ws, b, cc, k3, hr3, hws⟩ := Xr3 h args (xs ++ cap) hr2 (us := (c.args.map a.eval ++ vs).toList) (by simp [hxl, hvl]) (fun j y u hy hu => by
          simp only [Array.toList_append, Array.toList_map] at hu
          by_cases hj : j < xs.length
          · rw [List.getElem?_append_left hj] at hy
            have hjl : j < (c.args.toList.map a.eval).length := by simpa [hxl] using hj
            rw [List.getElem?_append_left hjl, List.getElem?_map] at hu
            obtain ⟨x, hx, rfl⟩ := Option.map_eq_some_iff.1 hu
            exact h.ev (hxs j x y hx hy)
          · rw [List.getElem?_append_right (Nat.le_of_not_lt hj)] at hy
            rw [List.getElem?_append_right (by simpa [hxl] using hj)] at hu
            have e : (c.args.toList.map a.eval).length = xs.length := by simp [hxl]
            rw [e] at hu
            exact hvs _ y u hy (by simpa using hu))
        simp only [RM.run, Option.some.injEq, Prod.mk.injEq, Yny.mk.injEq] at hr3
        obtain ⟨⟨rfl, rfl, rfl⟩, _⟩ := hr3
        obtain ⟨hwl, hw⟩ := hws hc
        unfold Xj8 Oper.wp
        rw [Yig (ty := o.type) ho hcal hf hfe]
        rw [Oper.upon_enter]
        refine Yi2 h ⟨hok, hh', hfr, hk⟩ hd hA ⟨by simpa using hwl.symm, fun j y u hy hu => hw j y u hy (by rw [Array.getElem?_toList]; exact hu)⟩ ?_
        intro v w' hR
        exact hR
    · simp [RM.run] at hr1
  · simp [RM.run] at hr1

/-! ### A body -/
def Yn0 (T : Nat → Option TI) (σ : St) : ResultVar → Option AV
  | .tmp t => some (σ.slot t)
  | .cell a t => match σ.slot a, T t with
    | .ptr id off, some ti => (match σ.obj id with | some (.box cells) => Xpd ti cells off | _ => none)
    | _, _ => none
def Xxc (T : Nat → Option TI) (σ : St) : List ResultVar → Option (List AV)
  | [] => some []
  | x :: l => match Yn0 T σ x, Xxc T σ l with | some v, some vs => some (v :: vs) | _, _ => none
def Ymr : List AV → AV
  | [v] => v
  | vs => .tup vs
def Xqv (T : Nat → Option TI) (σ : St) (l : List ResultVar) : Option AV := match Xxc T σ l with | some vs => some (Ymr vs) | none => none
def Yft : Nat → List AV → List (Nat × AV)
  | _, [] => []
  | n, x :: l => (n, x) :: Yft (n + 1) l
def Yhs : Xa0 → List (Nat × Option Obj)
  | [] => []
  | p :: l => (p.1, some p.2) :: Yhs l
def Yli (args : List AV) (objs : Xa0) : St := ⟨Yft 0 args, Yhs objs⟩
theorem Ye4 {t : Nat} {x : AV} : ∀ {n : Nat} {l : List AV}, lk (Yft n l) t = some x → n ≤ t ∧ l[t - n]? = some x
  | n, [], h => by simp [Yft, lk] at h
  | n, y :: l, h => by
    rw [Yft, Xbc] at h
    split at h
    · rename_i e; subst e; cases h; simp
    · rename_i e
      obtain ⟨h1, h2⟩ := Ye4 h
      refine ⟨by omega, ?_⟩
      have : t - n = (t - (n + 1)) + 1 := by omega
      rw [this]; simpa using h2
theorem Ye3 {k : Nat} : ∀ {l : Xa0} , (lk (Yhs l) k).getD none = lk l k
  | [] => rfl
  | (i, u) :: l => by
    rw [Yhs, Xbc, Xbc]
    split
    · rfl
    · exact Ye3
def Yet (σ : St) : Xa0 → Prop
  | [] => True
  | p :: l => σ.obj p.1 = some p.2 ∧ Yet σ l
theorem Ybt {σ : St} : ∀ {l : Xa0}, Yet σ l → ∀ p ∈ l, σ.obj p.1 = some p.2
  | [], _, p, hp => by simp at hp
  | q :: l, h, p, hp => by
    rcases List.mem_cons.1 hp with rfl | hp
    · exact h.1
    · exact Ybt h.2 p hp
def Xuz (C : Ctx) (T : Nat → Option TI) (rs : List ResultVar) (res : AV) (objs' : Xa0) : Exit → St → Prop
  | .normal, σ | .ret, σ => ∃ σ', Xkc C σ σ' ∧ Xqv T σ' rs = some res ∧ Yet σ' objs'
  | _, _ => False
structure Xhh (C : Ctx) (n : Nat) (objs : Xa0) : Prop where
  n : C.n = n
  pin : ∀ id, inN id (Xc4 objs) = false → C.pin id = none

def Ybz (tmps : Array Value) (x : ResultVar) : Sem Value := match x with | .tmp t => pure (tmps.getD t undef) | .cell b t => do loadVar t (← asAddr (tmps.getD b undef))
theorem Yif (fn : Func) (tmps : Array Value) : results fn tmps = (do
  let vs ← fn.results.mapM (Ybz tmps)
  pure (if h : vs.size = 1 then vs[0] else .tuple vs)) := rfl
theorem Yhf {α β : Type} (f : α → Sem β) (P : Program) (w : World) : ∀ (l : List α) (vs : List β), l.length = vs.length → (∀ (j : Nat) (x : α) (v : β), l[j]? = some x → vs[j]? = some v → (f x).run P w = .ok v w) → (l.mapM f).run P w = .ok vs w
  | [], [], _, _ => by simp
  | x :: l, v :: vs, hl, h => by
    rw [List.mapM_cons]
    have h1 := h 0 x v rfl rfl
    have h2 := Yhf f P w l vs (by simpa using hl) (fun j y u hy hu => h (j + 1) y u (by simpa using hy) (by simpa using hu))
    simp [Sem.run_bind, h1, h2]
theorem Yk6 (hT : TOk P T) (h : Xb9 C μ A σ a w) : ∀ {x : ResultVar} {v : AV}, Yn0 T σ x = some v → ∃ u, (Ybz a.tmps x).run P w = .ok u w ∧ Rep w A μ v u
  | .tmp t, v, hv => by
    simp only [Yn0, Option.some.injEq] at hv
    subst hv
    exact ⟨_, rfl, h.slot t⟩
  | .cell b t, v, hv => by
    simp only [Yn0] at hv
    split at hv
    · rename_i id off ti hb ht
      split at hv
      · rename_i cells hid
        obtain ⟨g, cs, E, fr, hm, hg, hf, hl, hcell⟩ := h.box hid
        have hs := h.slot b
        rw [hb] at hs
        generalize hu : a.tmps.getD b undef = u at hs
        cases hs with
        | ptr _ _ g' hm' =>
          rw [hm] at hm'
          injection hm' with e1
          injection e1 with e1
          injection e1 with e1
          subst e1
          obtain ⟨u, hu1, hu2⟩ := Xqh (P := P) hT ht (w := w) (g := g) (b := 0) (A := A) (μ := μ) (cells := cells) (fun j y hy => by
            have hj : j < cs.size := by rw [hl]; exact (List.getElem?_eq_some_iff.1 hy).1
            exact ⟨cs[j], by rw [cell_of_row w g _ cs E fr hg]; simp [hj], (hcell j y _ hy (Array.getElem?_eq_getElem hj)).1⟩) hv
          refine ⟨u, ?_, hu2⟩
          simp only [Nat.zero_add] at hu1
          unfold Ybz
          simp only [hu]
          simp [asAddr, hu1]
      · cases hv
    · cases hv
theorem Xym (hT : TOk P T) (h : Xb9 C μ A σ a w) : ∀ {l : List ResultVar} {vs : List AV}, Xxc T σ l = some vs → ∃ us : List Value, us.length = l.length ∧ us.length = vs.length ∧
    (∀ (j : Nat) (x : ResultVar) (u : Value), l[j]? = some x → us[j]? = some u → (Ybz a.tmps x).run P w = .ok u w) ∧ ∀ (j : Nat) (y : AV) (u : Value), vs[j]? = some y → us[j]? = some u → Rep w A μ y u
  | [], vs, hv => by
    simp only [Xxc, Option.some.injEq] at hv
    subst hv
    exact ⟨[], rfl, rfl, fun j x u hx => by simp at hx, fun j x u hx => by simp at hx⟩
  | x :: l, vs, hv => by
    rw [Xxc] at hv
    split at hv
    · rename_i v vs' h1 h2
      cases hv
      obtain ⟨u, hu1, hu2⟩ := Yk6 (P := P) hT h h1
      obtain ⟨us, h3, h4, h5, h6⟩ := Xym hT h h2
      refine ⟨u :: us, by simp [h3], by simp [h4], fun j x u hx hu => ?_, fun j y u hy hu => ?_⟩
      · cases j with
        | zero => simp at hx hu; subst hx; subst hu; exact hu1
        | succ j => exact h5 j x u (by simpa using hx) (by simpa using hu)
      · cases j with
        | zero => simp at hy hu; subst hy; subst hu; exact hu2
        | succ j => exact h6 j y u (by simpa using hy) (by simpa using hu)
    · cases hv
theorem Ygm (hT : TOk P T) (h : Xb9 C μ A σ a w) {fn : Func} {v : AV} (hv : Xqv T σ fn.results.toList = some v) : ∃ u, (results fn a.tmps).run P w = .ok u w ∧ Rep w A μ v u := by
  unfold Xqv at hv
  split at hv
  · rename_i vs hvs
    cases hv
    obtain ⟨us, h1, h2, h3, h4⟩ := Xym (P := P) hT h hvs
    have hm : ∀ us : List Value, us.length = fn.results.toList.length → (∀ (j : Nat) (x : ResultVar) (u : Value), fn.results.toList[j]? = some x → us[j]? = some u → (Ybz a.tmps x).run P w = .ok u w) →
        (results fn a.tmps).run P w = .ok (if h : us.toArray.size = 1 then us.toArray[0] else .tuple us.toArray) w := fun us hl hus => by
      have := Yhf (Ybz a.tmps) P w fn.results.toList us hl.symm hus
      rw [Yif, Array.mapM_eq_mapM_toList]
      simp [Sem.run_bind, this]
    have hm1 := hm us h1 h3
    refine ⟨_, hm1, ?_⟩
    clear hm1 h1 h3 hm hvs
    match vs, us, h2, h4 with
    | [v], [u], _, h4 => simpa [Ymr] using h4 0 v u rfl rfl
    | [], [], _, _ => simpa [Ymr] using Rep.tup [] #[] rfl (fun j y u hy => by simp at hy)
    | v :: v' :: vs, u :: u' :: us, hl, h4 =>
      have : ¬ (u :: u' :: us).toArray.size = 1 := by simp
      rw [dif_neg this]
      exact Rep.tup _ _ (by simpa using hl) (fun j y u hy hu => h4 j y u hy (by simpa using hu))
  · cases hv

theorem Xag (hT : TOk P T) {f : Nat} {fn : Func} {c : Code} {args : List AV} {objs objs' : Xa0} {res : AV} (hf : P.funcs[f]? = some fn) (hb : fn.body = some c)
    (h : ∀ C, Xhh C (args.length + (fn.ntmps - args.length)) objs → AWp P C c (Yli args objs) (Xuz C T fn.results.toList res objs')) : AC P f args objs res objs' := by
  intro μ A w cargs hE hargs
  refine calls_of_wp hf hb ?_
  let C : Ctx := ⟨w, Fo w μ objs, A, args.length + (fn.ntmps - args.length), fun id => if inN id (Xc4 objs) = true then some (μ id) else none⟩
  have hC : Xhh C (args.length + (fn.ntmps - args.length)) objs := ⟨rfl, fun id hid => by simp [C, hid]⟩
  have hlk : ∀ id ob, St.obj (Yli args objs) id = some ob → lk objs id = some ob := fun id ob hid => by
    unfold St.obj Yli at hid
    simp only at hid
    rw [Ye3] at hid; exact hid
  have h0 : Xb9 C μ A (Yli args objs) { tmps := cargs ++ Array.replicate (fn.ntmps - cargs.size) undef, defers := [] } w := by
    refine ⟨⟨fun g hg => hg.1, fun g hg => ⟨hE.lt g hg, fun id ob hid hg' => hE.own id ob g hid hg' hg⟩⟩, by simp [C, hargs.1], rfl, fun t v hv => ?_, fun id ob hid => hE.reps id ob (hlk id ob hid), fun i j oi oj g hij hi hj => hE.sep i j oi oj g hij (hlk i oi hi) (hlk j oj hj),
      fun id ob g hid hg => ⟨fun hF => hF.2 id ob (hlk id ob hid) hg, hE.own id ob g (hlk id ob hid) hg⟩, fun g hg => ⟨hE.lt g hg, .inl hg⟩, fun g hg => hg, Fr.refl _ _, fun id v ob hv hid => ?_, hE.one⟩
    · obtain ⟨_, h2⟩ := Ye4 hv
      simp only [Nat.sub_zero] at h2
      have hlt : t < cargs.size := by rw [hargs.1]; exact (List.getElem?_eq_some_iff.1 h2).1
      have : (cargs ++ Array.replicate (fn.ntmps - cargs.size) undef).getD t undef = cargs[t] := by
        rw [Array.getD_eq_getD_getElem?, Array.getElem?_append_left hlt, Array.getElem?_eq_getElem hlt]; rfl
      rw [this]
      exact hargs.2 t v _ h2 (Array.getElem?_eq_getElem hlt)
    · simp only [C] at hv
      split at hv
      · cases hv; rfl
      · cases hv
  have key : ∀ σ' a' w', (∃ σ'', Xkc C σ' σ'' ∧ Xqv T σ'' fn.results.toList = some res ∧ Yet σ'' objs') → Rel C σ' a' w' → a'.defers = [] ∧ ∃ v, (results fn a'.tmps).run P w' = .ok v w' ∧ ∃ v' μ' A', Ending.returned v = .returned v' ∧ Left w μ A objs w' μ' A' objs' ∧ Rep w' A' μ' res v' := by
    intro σ' a' w' ⟨σ'', hw, hres, hho⟩ hR
    obtain ⟨μ', A', hR⟩ := hw a' w' hR
    obtain ⟨u, hu1, hu2⟩ := Ygm hT hR hres
    have hob : ∀ id ob, lk objs' id = some ob → σ''.obj id = some ob := fun id ob hid => Ybt hho _ (Yhd hid)
    refine ⟨hR.defers, u, hu1, u, μ', A', rfl, ⟨hR.mu1, fun id ob hid => hR.objs id ob (hob id ob hid), fun i j oi oj g hij hi hj => hR.sep i j oi oj g hij (hob i oi hi) (hob j oj hj), fun id ob g hid hg => ?_, fun id ob ob' hid hid' => ?_, hR.base, fun g hg => hR.stab g hg, hR.frame⟩, hu2⟩
    · exact ⟨(hR.own id ob g (hob id ob hid) hg).2, (hR.own id ob g (hob id ob hid) hg).1⟩
    · exact hR.pins id (μ id) ob' (by simp [C, Xlo.2 (Xj2 hid)]) (hob id ob' hid')
  refine wp_mono (h C hC _ w ⟨μ, A, h0⟩) fun e a' w' ⟨σ', hq, hR⟩ => ?_
  cases e with
  | normal => exact key σ' a' w' hq hR
  | ret => exact key σ' a' w' hq hR
  | _ => exact hq.elim
end
end Go.Proofs.YtlebkepfhdjnmadGreatAL
/- An abstract logic for Go functions: states in another form. Conditions: as each statement tells. -/
namespace Go.Proofs.YtlebkepfhdjnmadGreatAL
open Go.RowKit
set_option linter.unusedVariables false
section
variable {P : Program} {T : Nat → Option TI} {C : Ctx} {μ μ' : Nat → Value} {A A' : Nat → Prop} {σ σ' : St} {a : Act} {w w' : World} {o : Oper} {ops : Array Oper}

def Yc6 {β : Type 1} : List (Nat × β) → List Nat
  | [] => []
  | p :: l => p.1 :: Yc6 l
def Xqa : List (Nat × Option Obj) → List Nat
  | [] => []
  | (k, some _) :: l => k :: Xqa l
  | (_, none) :: l => Xqa l
theorem Ydd {k : Nat} {x : Obj} : ∀ {l : List (Nat × Option Obj)}, lk l k = some (some x) → k ∈ Xqa l
  | [], h => by simp [lk] at h
  | (i, some u) :: l, h => by
    rw [Xbc] at h
    rw [Xqa]
    split at h
    · rename_i e; subst e; simp
    · exact List.mem_cons_of_mem _ (Ydd h)
  | (i, none) :: l, h => by
    rw [Xbc] at h
    rw [Xqa]
    split at h
    · cases h
    · exact Ydd h
def Yd3 : List (Nat × AV) → List AV
  | [] => []
  | p :: l => p.2 :: Yd3 l
def Ymi (σ : St) (ps vs : List AV) : Option Yny := match (Yc9 ps vs fun ws b c => .ret ⟨ws, b, c⟩).run σ [] with | some r => some r.1 | none => none
inductive CO (tab : List (Nat × Nat)) (σ : St) : List (Nat × Option Obj) → List Nat → Prop
  | nil : CO tab σ [] []
  | box {id : Nat} {cells cells' : List AV} {b b' : List Nat} {c : Prop} {l : List (Nat × Option Obj)} (h : σ.obj (rn tab id) = some (.box cells')) (hl : Ymi σ cells cells' = some ⟨AV.renL (rn tab) cells, b, c⟩) (hc : c) (k : CO tab σ l b') : CO tab σ ((id, some (.box cells)) :: l) (b ++ b')
  | gone {id : Nat} {b' : List Nat} {l : List (Nat × Option Obj)} (k : CO tab σ l b') : CO tab σ ((id, none) :: l) b'
  | row {id : Nat} {ob : Obj} {b' : List Nat} {l : List (Nat × Option Obj)} (h : σ.obj (rn tab id) = some ob) (hb : ob.elems.isSome = true) (k : CO tab σ l b') : CO tab σ ((id, some ob) :: l) b'
def Yid (tab : List (Nat × Nat)) (objs : Xa0) : List Nat → Bool
  | [] => true
  | k :: l => (Nat.beq (rn tab k) k || !inN k (Xc4 objs)) && Yid tab objs l
theorem Yfd {tab : List (Nat × Nat)} {objs : Xa0} : ∀ {l : List Nat}, Yid tab objs l = true → ∀ k ∈ l, rn tab k = k ∨ inN k (Xc4 objs) = false
  | [], _, k, hk => by simp at hk
  | x :: l, h, k, hk => by
    rw [Yid, Bool.and_eq_true] at h
    rcases List.mem_cons.1 hk with rfl | hk
    · rcases Bool.or_eq_true _ _ ▸ h.1 with h1 | h1
      · exact .inl (Nat.eq_of_beq_eq_true h1)
      · exact .inr (by simpa using h1)
    · exact Yfd h.2 k hk
theorem Yhc {k : Nat} {x : AV} : ∀ {l : List (Nat × AV)}, lk l k = some x → ∃ j : Nat, (Yc6 l)[j]? = some k ∧ (Yd3 l)[j]? = some x
  | [], h => by simp [lk] at h
  | (i, u) :: l, h => by
    rw [Xbc] at h
    split at h
    · rename_i e; subst e; cases h; exact ⟨0, rfl, rfl⟩
    · obtain ⟨j, h1, h2⟩ := Yhc h; exact ⟨j + 1, by simpa [Yc6] using h1, by simpa [Yd3] using h2⟩
theorem Yk5 {f : Nat → Nat} {l : List AV} {j : Nat} {y : AV} (h : l[j]? = some y) : (AV.renL f l)[j]? = some (y.ren f) := by rw [Xje, List.getElem?_map, h]; rfl

theorem Yha (h : Xb9 C μ A σ a w) {ps vs ws : List AV} {b : List Nat} {c : Prop} {us : List Value} (hl : Ymi σ ps vs = some ⟨ws, b, c⟩) (hc : c) (hn : us.length = vs.length) (hu : ∀ (j : Nat) (y : AV) (v : Value), vs[j]? = some y → us[j]? = some v → Rep w A μ y v) :
    ws.length = us.length ∧ ∀ (j : Nat) (y : AV) (v : Value), ws[j]? = some y → us[j]? = some v → Rep w (AB σ μ A b) μ y v := by
  unfold Ymi at hl
  split at hl
  · rename_i r hr
    simp only [Option.some.injEq] at hl
    obtain ⟨ws', b', c', ks', hr', hws⟩ := Xr3 h ps vs hr hn hu
    simp only [RM.run, Option.some.injEq] at hr'
    rw [← hr'] at hl
    simp only [Yny.mk.injEq] at hl
    obtain ⟨rfl, rfl, rfl⟩ := hl
    exact hws hc
  · cases hl
theorem Ygz {tab : List (Nat × Nat)} {id : Nat} {ob : Obj} : ∀ {l : List (Nat × Option Obj)} {b : List Nat}, CO tab σ l b → lk l id = some (some ob) →
    (∃ cells cells' b' c, ob = .box cells ∧ σ.obj (rn tab id) = some (.box cells') ∧ Ymi σ cells cells' = some ⟨AV.renL (rn tab) cells, b', c⟩ ∧ c ∧ ∀ i ∈ b', i ∈ b) ∨ σ.obj (rn tab id) = some ob ∧ ob.elems.isSome = true
  | _, _, .nil, h => by simp [lk] at h
  | _, _, .box h1 h2 h3 k, h => by
    rw [Xbc] at h
    split at h
    · rename_i e; subst e; cases h; exact .inl ⟨_, _, _, _, rfl, h1, h2, h3, fun i hi => by simp [hi]⟩
    · rcases Ygz k h with ⟨cells, cells', b', c, e1, e2, e3, e4, e5⟩ | e
      · exact .inl ⟨cells, cells', b', c, e1, e2, e3, e4, fun i hi => by simp [e5 i hi]⟩
      · exact .inr e
  | _, _, .gone k, h => by
    rw [Xbc] at h
    split at h
    · cases h
    · exact Ygz k h
  | _, _, .row h1 h2 k, h => by
    rw [Xbc] at h
    split at h
    · rename_i e; subst e; cases h; exact .inr ⟨h1, h2⟩
    · exact Ygz k h
theorem Yck {tab : List (Nat × Nat)} {id : Nat} : ∀ {l : List (Nat × Option Obj)} {b : List Nat} {x : Obj}, CO tab σ l b → lk l id = some (some x) → ∃ ob, σ.obj (rn tab id) = some ob
  | _, _, _, .nil, h => by simp [lk] at h
  | _, _, _, .box h1 h2 h3 k, h => by
    rw [Xbc] at h
    split at h
    · rename_i e; subst e; exact ⟨_, h1⟩
    · exact Yck k h
  | _, _, _, .gone k, h => by
    rw [Xbc] at h
    split at h
    · cases h
    · exact Yck k h
  | _, _, _, .row h1 h2 k, h => by
    rw [Xbc] at h
    split at h
    · rename_i e; subst e; exact ⟨_, h1⟩
    · exact Yck k h
theorem Obj.ren_row {f : Nat → Nat} {ob : Obj} (h : ob.elems.isSome = true) : ob.ren f = ob := by cases ob <;> first | rfl | cases h

theorem Ykc {n : Nat} {objs : Xa0} (hC : Xhh C n objs) (tab : List (Nat × Nat)) {s : List (Nat × AV)} {o : List (Nat × Option Obj)} {b b' : List Nat} {c : Prop} (hs : Ymi σ (Yd3 s) ((Yc6 s).map σ.slot) = some ⟨AV.renL (rn tab) (Yd3 s), b, c⟩) (hc : c) (ho : CO tab σ o b')
    (hok : (Xpt (Xvp (rn tab) (Xqa o)) && Xxa (rn tab) (b ++ b') (Xqa o) && Yid tab objs (Xqa o)) = true) : Xkc C σ ⟨s, o⟩ := by
  rw [Bool.and_eq_true, Bool.and_eq_true] at hok
  obtain ⟨⟨hok1, hok2⟩, hok3⟩ := hok
  have hinj := Xpu hok1
  have hout := Xs1 hok2
  have hpin := Yfd hok3
  intro a w ⟨μ, A, h⟩
  have hlk : ∀ id ob, St.obj ⟨s, o⟩ id = some ob → lk o id = some (some ob) := fun id ob hid => by
    unfold St.obj at hid
    simp only at hid
    cases e : lk o id with
    | none => rw [e] at hid; cases hid
    | some x => rw [e] at hid; simp only [Option.getD_some] at hid; rw [hid]
  have hob : ∀ id ob, St.obj ⟨s, o⟩ id = some ob → ∃ ob', σ.obj (rn tab id) = some ob' := fun id ob hid => Yck ho (hlk id ob hid)
  have hky : ∀ id ob, St.obj ⟨s, o⟩ id = some ob → id ∈ Xqa o := fun id ob hid => Ydd (hlk id ob hid)
  refine ⟨fun i => μ (rn tab i), AB σ μ A (b ++ b'), ?_⟩
  refine { cok := h.cok, tmps := h.tmps, defers := h.defers, slots := ?_, objs := ?_, sep := ?_, own := ?_, stab := ?_, base := fun g hg => .inl (h.base g hg), frame := h.frame, pins := ?_, mu1 := fun id => h.mu1 _ }
  · intro t v hv
    obtain ⟨j, h1, h2⟩ := Yhc hv
    have := Yha h hs hc (us := (Yc6 s).map fun t => a.tmps.getD t undef) (by simp) (fun j y u hy hu => by
      rw [List.getElem?_map] at hy hu
      obtain ⟨t, ht, rfl⟩ := Option.map_eq_some_iff.1 hy
      rw [ht] at hu
      cases hu
      exact h.slot t)
    have hr := this.2 j (v.ren (rn tab)) (a.tmps.getD t undef) (Yk5 h2) (by rw [List.getElem?_map, h1]; rfl)
    exact (Rep.unren _ _ hr).frame (fun g hg => hg.mono fun i hi => by simp [hi]) (fun _ _ => rfl) (fun _ _ => rfl)
  · intro id ob hid
    rcases Ygz ho (hlk id ob hid) with ⟨cells, cells', b1, c1, rfl, h2, h3, h4, h5⟩ | ⟨h1, h2⟩
    · have := h.objs _ _ h2
      refine Xjs.unren ?_
      generalize hm : μ (rn tab id) = v at this ⊢
      cases this with
      | box _ g cs E fr hg hf hl hcell =>
        have hr := Yha h h3 h4 (us := cs.toList) (by simpa using hl) (fun j y u hy hu => (hcell j y u hy (by simpa using hu)).1)
        refine .box _ g cs E fr hg hf (by simpa using hr.1.symm) fun j y u hy hu => ⟨?_, ?_⟩
        · exact (hr.2 j y u hy (by simpa using hu)).frame (fun g hg => hg.mono fun i hi => by simp [h5 i hi]) (fun _ _ => rfl) (fun _ _ => rfl)
        · have hj : j < cells'.length := by rw [← hl]; exact (Array.getElem?_eq_some_iff.1 hu).1
          exact (hcell j _ u (List.getElem?_eq_getElem hj) hu).2
      | none _ _ hx => cases hx
      | row _ _ _ hx => cases hx
    · refine Xjs.unren ?_
      rw [Obj.ren_row h2]
      exact (h.objs _ _ h1).frame (fun g hg => .inl hg) (fun _ _ => rfl) (fun _ _ => rfl) (fun _ _ => rfl)
  · intro i j oi oj g hij hi hj
    obtain ⟨oi', hi'⟩ := hob i oi hi
    obtain ⟨oj', hj'⟩ := hob j oj hj
    exact h.sep _ _ _ _ g (fun e => hij (hinj i (hky i oi hi) j (hky j oj hj) e)) hi' hj'
  · intro id ob g hid hg
    obtain ⟨ob', hid'⟩ := hob id ob hid
    refine ⟨(h.own _ _ g hid' hg).1, fun hA => ?_⟩
    rcases hA with hA | ⟨i, hi, oi, hoi, hgi⟩
    · exact (h.own _ _ g hid' hg).2 hA
    · refine h.sep _ _ _ _ g (fun e => hout id (hky id ob hid) ?_) hid' hoi hg hgi
      rw [e]; exact hi
  · intro g hg
    rcases hg with hg | ⟨i, hi, oi, hoi, hgi⟩
    · exact h.stab g hg
    · exact ⟨(h.objs i oi hoi).lt hgi, .inr (h.own i oi g hoi hgi).1⟩
  · intro id v ob hv hid
    obtain ⟨ob', hid'⟩ := hob id ob hid
    rcases hpin id (hky id ob hid) with e | e
    · show μ (rn tab id) = v
      rw [e] at hid' ⊢
      exact h.pins id v ob' hv hid'
    · rw [hC.pin id e] at hv; cases hv

theorem Yd5 (k i id : Nat) (ob : Obj) {sz : Nat} {cells : List AV} (hs : σ.obj k = some (.box cells)) (hi : cells[i]? = some (.sv .nil)) (hf : σ.fresh id ∧ C.pin id = none) (hne : σ.obj id = none) (hx : ob.elems = some (sz, [])) (hwf : ob.wf) :
    Xkc C σ ⟨σ.s, (k, some (.box (cells.set i (.own id)))) :: (id, some ob) :: σ.o⟩ := by
  intro a w ⟨μ, A, h⟩
  have hki : k ≠ id := fun e => by rw [e, hne] at hs; cases hs
  have h1 := h.name (id := id) (ob := ob) (v := .slice none 0 0) hf.1 hf.2 (fun g hg => by simp [Xgb] at hg) (.none ob sz hx hwf)
  have hk1 : (σ.setO id (some ob)).obj k = some (.box cells) := by rw [St.obj_setO, if_neg (fun e => hki e.symm)]; exact hs
  refine ⟨upd μ id (.slice none 0 0), A, ?_⟩
  have hcase : ∀ j oj, St.obj ⟨σ.s, (k, some (.box (cells.set i (.own id)))) :: (id, some ob) :: σ.o⟩ j = some oj → j = k ∧ oj = .box (cells.set i (.own id)) ∨ j ≠ k ∧ (σ.setO id (some ob)).obj j = some oj := fun j oj hj => by
    have : St.obj ⟨σ.s, (k, some (.box (cells.set i (.own id)))) :: (id, some ob) :: σ.o⟩ j = if k = j then some (.box (cells.set i (.own id))) else (σ.setO id (some ob)).obj j := St.obj_setO (σ.setO id (some ob)) k _ j
    rw [this] at hj
    split at hj
    · rename_i e; cases hj; exact .inl ⟨e.symm, rfl⟩
    · rename_i e; exact .inr ⟨fun e' => e e'.symm, hj⟩
  have hex : ∀ j oj, St.obj ⟨σ.s, (k, some (.box (cells.set i (.own id)))) :: (id, some ob) :: σ.o⟩ j = some oj → ∃ oj', (σ.setO id (some ob)).obj j = some oj' := fun j oj hj => by
    rcases hcase j oj hj with ⟨rfl, _⟩ | ⟨_, h2⟩
    · exact ⟨_, hk1⟩
    · exact ⟨_, h2⟩
  refine { h1 with slots := h1.slots, objs := fun j oj hj => ?_, sep := fun i j oi oj g hij hi hj => ?_, own := fun j oj g hj => ?_, pins := fun j v oj hv hj => ?_ }
  · rcases hcase j oj hj with ⟨rfl, rfl⟩ | ⟨_, h2⟩
    · have ho := h1.objs _ _ hk1
      generalize upd μ id (.slice none 0 0) j = v at ho
      cases ho with
      | box _ g cs E fr hg hfz hl hcell =>
        refine .box _ g cs E fr hg hfz (by simpa using hl) fun n y u hy hu => ?_
        rw [List.getElem?_set] at hy
        split at hy
        · rename_i e
          subst e
          split at hy
          · cases hy
            obtain ⟨hr, h1⟩ := hcell i _ u hi hu
            have := Xn8 hr
            refine ⟨?_, h1⟩
            have hR := Rep.own (w := w) (A := A) (μ := upd μ id (.slice none 0 0)) id
            rw [Xgx] at hR
            rw [this]; exact hR
          · cases hy
        · exact hcell n y u hy hu
      | none _ _ hx => cases hx
      | row _ _ _ hx => cases hx
    · exact h1.objs j oj h2
  · obtain ⟨oi', hi'⟩ := hex i oi hi
    obtain ⟨oj', hj'⟩ := hex j oj hj
    exact h1.sep i j oi' oj' g hij hi' hj'
  · obtain ⟨oj', hj'⟩ := hex j oj hj
    exact h1.own j oj' g hj'
  · obtain ⟨oj', hj'⟩ := hex j oj hj
    exact h1.pins j v oj' hv hj'

end
end Go.Proofs.YtlebkepfhdjnmadGreatAL
/- An abstract logic for Go functions: the steps of a walk. Conditions: as each statement tells. -/
namespace Go.Proofs.YtlebkepfhdjnmadGreatAL
open Go.RowKit
set_option linter.unusedVariables false

/-! ### Partial values -/
def req {β : Type} (c : Prop) [Decidable c] (k : Option β) : Option β := if c then k else none
theorem Xau {β : Type} {c : Prop} [Decidable c] {k : Option β} {r : β} (h : req c k = some r) : c ∧ k = some r := by
  unfold req at h
  split at h
  · exact ⟨by assumption, h⟩
  · cases h
def bnd {α β : Type} (x : Option α) (f : α → Option β) : Option β := match x with | some a => f a | none => none
theorem Xa4 {α β : Type} {x : Option α} {f : α → Option β} {r : β} (h : bnd x f = some r) : ∃ a, x = some a ∧ f a = some r := by
  unfold bnd at h
  split at h
  · exact ⟨_, rfl, h⟩
  · cases h
def sel {β : Type} (b : Bool) (x y : β) : β := match b with | true => x | false => y
theorem Xgv {β : Type} {b : Bool} {x y : Option β} {r : β} (h : sel b x y = some r) : b = true ∧ x = some r ∨ b = false ∧ y = some r := by
  cases b
  · exact .inr ⟨rfl, h⟩
  · exact .inl ⟨rfl, h⟩
def Yjc {α β : Type} (j : α) (f : α → β) : β := f j
inductive Lp (V O : Type) where
  | go (v : V)
  | done (o : O)
def it {V O : Type} (f : V → Option (Lp V O)) : Nat → V → Option O
  | 0, _ => none
  | k + 1, x => match f x with | some (.go y) => it f k y | some (.done o) => some o | none => none
theorem Ygb {V O : Type} {f : V → Option (Lp V O)} {o : O} : ∀ {k : Nat} {x : V} {k' : Nat}, it f k x = some o → k ≤ k' → it f k' x = some o
  | 0, x, k', h, _ => by cases h
  | k + 1, x, 0, h, hk => by omega
  | k + 1, x, k' + 1, h, hk => by
    rw [it] at h ⊢
    cases e : f x with
    | none => rw [e] at h; exact h
    | some s =>
      rw [e] at h
      cases s with
      | go y => exact Ygb (k := k) h (by omega)
      | done o' => exact h
open Classical in
noncomputable def loop {V O : Type} (f : V → Option (Lp V O)) (x : V) : Option O := if h : ∃ k o, it f k x = some o then some (Classical.choose (Classical.choose_spec h)) else none
theorem Xga {V O : Type} {f : V → Option (Lp V O)} {x : V} {o : O} : loop f x = some o ↔ ∃ k, it f k x = some o := by
  unfold loop
  constructor
  · intro h
    split at h
    · rename_i hk
      cases h
      exact ⟨_, Classical.choose_spec (Classical.choose_spec hk)⟩
    · cases h
  · intro ⟨k, h⟩
    have hk : ∃ k o, it f k x = some o := ⟨k, o, h⟩
    rw [dif_pos hk]
    have h2 := Classical.choose_spec (Classical.choose_spec hk)
    have h3 := Ygb h2 (Nat.le_max_left _ k)
    have h4 := Ygb h (Nat.le_max_right (Classical.choose hk) k)
    rw [h3] at h4
    exact h4
theorem Xyg {V O : Type} {f : V → Option (Lp V O)} {x y : V} (h : f x = some (.go y)) : loop f x = loop f y := by
  apply Option.ext
  intro o
  rw [Xga, Xga]
  constructor
  · intro ⟨k, hk⟩
    cases k with
    | zero => cases hk
    | succ k => rw [it, h] at hk; exact ⟨k, hk⟩
  · intro ⟨k, hk⟩
    exact ⟨k + 1, by rw [it, h]; exact hk⟩
theorem Xmb {V O : Type} {f : V → Option (Lp V O)} {x : V} {o : O} (h : f x = some (.done o)) : loop f x = some o := Xga.2 ⟨1, by rw [it, h]⟩

/-! ### Steps -/
def RM.get {α : Type 1} (σ : St) : RM α → List Key → Option (α × List Key)
  | .ret a, ks => some (a, ks)
  | .fail, _ => none
  | .slot t k, ks => match lk σ.s t with | some v => (k v).get σ (.s t :: ks) | none => (k .any).get σ (.s t :: ks)
  | .obj id k, ks => match lk σ.o id with | some (some ob) => (k (some ob)).get σ (.o id :: ks) | _ => (k none).get σ (.o id :: ks)
theorem Xg0 {α : Type 1} {σ : St} : ∀ {m : RM α} {ks : List Key} {r : α × List Key}, m.get σ ks = some r → m.run σ ks = some r
  | .ret a, ks, r, h => h
  | .fail, ks, r, h => h
  | .slot t f, ks, r, h => by
    unfold RM.get at h
    show (f (σ.slot t)).run σ (.s t :: ks) = some r
    unfold St.slot
    split at h
    · rename_i v hv; rw [hv]; exact Xg0 (m := f v) h
    · rename_i hv; rw [hv]; exact Xg0 (m := f .any) h
  | .obj id f, ks, r, h => by
    unfold RM.get at h
    show (f (σ.obj id)).run σ (.o id :: ks) = some r
    unfold St.obj
    split at h
    · rename_i v hv; rw [hv]; exact Xg0 (m := f (some v)) h
    · rename_i hv
      have : (lk σ.o id).getD none = none := by
        cases e : lk σ.o id with
        | none => rfl
        | some x => cases x with
          | none => rfl
          | some ob => exact absurd e (hv ob)
      rw [this]; exact Xg0 (m := f none) h
theorem Xup {a b : Nat} (h : Nat.blt a b = true) : a < b := Nat.le_of_ble_eq_true h
/-! What an operation leaves, with its lists written out. -/
def Yep {γ : Type 1} : List AV → (List AV → γ) → γ
  | [], k => k []
  | x :: l, k => Yep l fun l' => k (x :: l')
theorem Xxg {γ : Type 1} : ∀ (l : List AV) (k : List AV → γ), Yep l k = k l
  | [], k => rfl
  | x :: l, k => by rw [Yep, Xxg l]
def AV.nfK {γ : Type 1} : AV → (AV → γ) → γ
  | .agg cs, k => Yep cs fun c => k (.agg c)
  | v, k => k v
theorem AV.nfK_eq {γ : Type 1} (v : AV) (k : AV → γ) : v.nfK k = k v := by cases v <;> first | rfl | exact Xxg _ _
def slK {γ : Type 1} : List (Nat × AV) → (List (Nat × AV) → γ) → γ
  | [], k => k []
  | (d, v) :: l, k => v.nfK fun v' => slK l fun l' => k ((d, v') :: l')
theorem Yl3 {γ : Type 1} : ∀ (l : List (Nat × AV)) (k : List (Nat × AV) → γ), slK l k = k l
  | [], k => rfl
  | (d, v) :: l, k => by rw [slK, AV.nfK_eq, Yl3 l]
def obK {γ : Type 1} : List (Nat × Option Obj) → (List (Nat × Option Obj) → γ) → γ
  | [], k => k []
  | (d, some (.box cs)) :: l, k => Yep cs fun c => obK l fun l' => k ((d, some (.box c)) :: l')
  | (d, v) :: l, k => obK l fun l' => k ((d, v) :: l')
theorem Ye8 {γ : Type 1} : ∀ (l : List (Nat × Option Obj)) (k : List (Nat × Option Obj) → γ), obK l k = k l
  | [], k => rfl
  | (d, some (.box cs)) :: l, k => by rw [obK, Xxg, Ye8 l]
  | (d, some (.ints _ _)) :: l, k => by rw [obK, Ye8 l]; intro _ h; cases h
  | (d, some (.row _ _)) :: l, k => by rw [obK, Ye8 l]; intro _ h; cases h
  | (d, none) :: l, k => by rw [obK, Ye8 l]; intro _ h; cases h
def got (m : RM Eff) (σ : St) : Option (Eff × List Key) := match m.get σ [] with | some (e, ks) => slK e.slots fun s => obK e.objs fun o => some (⟨s, o, e.new, e.cond⟩, ks) | none => none
theorem Yi8 {m : RM Eff} {σ : St} {e : Eff} {ks : List Key} (h : got m σ = some (e, ks)) : m.run σ [] = some (e, ks) := by
  unfold got at h
  split at h
  · rename_i e' ks' he
    rw [Yl3, Ye8] at h
    rw [Xg0 he]; exact h
  · cases h
def Ycj (n : Nat) : Option Nat → Bool
  | none => true
  | some d => Nat.blt d n
def Ykv (id : Nat) : List (Nat × AV) → Bool
  | [] => true
  | p :: l => !p.2.has id && Ykv id l
def Yh6 (id : Nat) : List (Nat × Option Obj) → Bool
  | [] => true
  | (_, some ob) :: l => !ob.has id && Yh6 id l
  | (_, none) :: l => Yh6 id l
def frs (objs : Xa0) (σ : St) : List Nat → Bool
  | [] => true
  | id :: l => Ykv id σ.s && Yh6 id σ.o && !inN id (Xc4 objs) && frs objs σ l
theorem Yg0 {id t : Nat} {v : AV} : ∀ {l : List (Nat × AV)}, Ykv id l = true → lk l t = some v → v.has id = false
  | [], _, h => by simp [lk] at h
  | (k, u) :: l, hf, h => by
    rw [Ykv, Bool.and_eq_true] at hf
    rw [Xbc] at h
    split at h
    · cases h; simpa using hf.1
    · exact Yg0 hf.2 h
theorem Ycp {id k : Nat} {ob : Obj} : ∀ {l : List (Nat × Option Obj)}, Yh6 id l = true → lk l k = some (some ob) → ob.has id = false
  | [], _, h => by simp [lk] at h
  | (i, some u) :: l, hf, h => by
    rw [Yh6, Bool.and_eq_true] at hf
    rw [Xbc] at h
    split at h
    · cases h; simpa using hf.1
    · exact Ycp hf.2 h
  | (i, none) :: l, hf, h => by
    rw [Yh6] at hf
    rw [Xbc] at h
    split at h
    · cases h
    · exact Ycp hf h
section
variable {P : Program} {T : Nat → Option TI} {C : Ctx} {σ : St} {n : Nat} {objs : Xa0} {ops : Array Oper} {o : Oper} {l : List Oper} {rs : List Rec} {K : List Rec → St → Prop}
theorem Xms (hC : Xhh C n objs) : ∀ {ids : List Nat}, frs objs σ ids = true → Xj7 C ids σ
  | [], _, id, h => by simp at h
  | i :: l, hf, id, h => by
    rw [frs, Bool.and_eq_true, Bool.and_eq_true, Bool.and_eq_true] at hf
    obtain ⟨⟨⟨h1, h2⟩, h3⟩, h4⟩ := hf
    rcases List.mem_cons.1 h with rfl | h
    · refine ⟨⟨fun t v hv => Yg0 h1 hv, fun k ob hk => ?_⟩, hC.pin _ (by simpa using h3)⟩
      unfold St.obj at hk
      cases e : lk σ.o k with
      | none => rw [e] at hk; cases hk
      | some x => rw [e] at hk; simp only [Option.getD_some] at hk; subst hk; exact Ycp h2 e
    · exact Xms hC h4 id h
theorem Xll (hC : Xhh C n objs) {d : Option Nat} (h : Ycj n d = true) : ∀ t, d = some t → t < C.n := fun t e => by
  subst e
  rw [hC.n]
  exact Xup h

theorem Yhw (hT : TOk P T) (hC : Xhh C n objs) {e : Eff} {ks : List Key} (hg : o.guard = none) (hr : got (aop T o) σ = some (e, ks)) (hd : Ycj n o.dst = true) (hf : frs objs σ e.new = true) (hc : e.cond)
    (k : Vc P C ops l (rs ++ [⟨ks, e.slots, e.objs, e.new⟩]) (Rec.app ⟨ks, e.slots, e.objs, e.new⟩ σ) K) : Vc P C ops (o :: l) rs σ K :=
  .cons _ (Xyf hg (Yjh hT (Xll hC hd) (Yi8 hr) hc)) (Xms hC hf) k
theorem Yge {r : Rec} {i t : Nat} {b e : Bool} (hg : o.guard = some (i, b)) (hdi : (ops[i]?).bind (·.dst) = some t) (ht : t < C.n) (hs : lk σ.s t = some (.sv (.bool e))) (he : e = b) (h : Ykd P C o r σ) : Loc P C ops o ⟨.s t :: r.rd, r.sl, r.ob, r.nw⟩ σ := Ynf hg hdi ht (by rw [hs, he]) h
theorem Yom (hT : TOk P T) (hC : Xhh C n objs) {i t : Nat} {b x : Bool} {e : Eff} {ks : List Key} (hg : o.guard = some (i, b)) (hdi : (ops[i]?).bind (·.dst) = some t) (hs : lk σ.s t = some (.sv (.bool x))) (ht : Nat.blt t n = true) (hx : x = b)
    (hr : got (aop T o) σ = some (e, ks)) (hd : Ycj n o.dst = true) (hf : frs objs σ e.new = true) (hc : e.cond)
    (k : Vc P C ops l (rs ++ [⟨.s t :: ks, e.slots, e.objs, e.new⟩]) (Rec.app ⟨.s t :: ks, e.slots, e.objs, e.new⟩ σ) K) : Vc P C ops (o :: l) rs σ K :=
  .cons _ (Yge hg hdi (by rw [hC.n]; exact Xup ht) hs hx (Yjh hT (Xll hC hd) (Yi8 hr) hc)) (Xms hC hf) k
theorem Yoa (hC : Xhh C n objs) {i t d : Nat} {b x : Bool} (hg : o.guard = some (i, b)) (hdi : (ops[i]?).bind (·.dst) = some t) (hs : lk σ.s t = some (.sv (.bool x))) (ht : Nat.blt t n = true) (hx : x = !b) (hd : o.dst = some d) (hdn : Nat.blt d n = true)
    (k : Vc P C ops l (rs ++ [⟨[.s t], [(d, .tup [])], [], []⟩]) (Rec.app ⟨[.s t], [(d, .tup [])], [], []⟩ σ) K) : Vc P C ops (o :: l) rs σ K :=
  .cons _ (Ygf hg hdi (by rw [hC.n]; exact Xup ht) hs (by rw [hx]; cases b <;> rfl) hd (by rw [hC.n]; exact Xup hdn)) (fun _ h => by simp at h) k
theorem Xk6 (hC : Xhh C n objs) {i t d : Nat} {b : Bool} (hg : o.guard = some (i, b)) (hdi : (ops[i]?).bind (·.dst) = some t) (hs : lk σ.s t = some (.tup [])) (ht : Nat.blt t n = true) (hd : o.dst = some d) (hdn : Nat.blt d n = true)
    (k : Vc P C ops l (rs ++ [⟨[.s t], [(d, .tup [])], [], []⟩]) (Rec.app ⟨[.s t], [(d, .tup [])], [], []⟩ σ) K) : Vc P C ops (o :: l) rs σ K :=
  .cons _ (Yk1 hg hdi (by rw [hC.n]; exact Xup ht) hs hd (by rw [hC.n]; exact Xup hdn)) (fun _ h => by simp at h) k
theorem Yhv (hC : Xhh C n objs) {c : Call} {fop : Operand} {f : Nat} {args : List AV} {ob ob' : Xa0} {res : AV} {bor : List Nat} {cond : Prop} {ks : List Key} (tab : List (Nat × Nat)) (hg : o.guard = none) (ho : o.op = .call c) (hcal : c.callee = .value fop) (hd : Ycj n o.dst = true) (hf : Fn P f)
    (hA : AC P f args ob res ob') (hr : (Yhz args fop f c.args.toList).get σ [] = some (⟨args.map (AV.ren (rn tab)), bor, cond⟩, ks)) (hc : cond) (hh : holds tab σ ob) (hok : Xxd tab ob ob' res bor = true) (hk : bor = [] ∨ res.flat = true ∧ Yel ob')
    (hfr : frs objs σ (Xvp (rn tab) (Xb2 ob ob')) = true)
    (k : Vc P C ops l (rs ++ [⟨ks ++ Xix tab ob, Xhw tab o.dst res, Xfd tab ob ob', Xvp (rn tab) (Xb2 ob ob')⟩]) (Rec.app ⟨ks ++ Xix tab ob, Xhw tab o.dst res, Xfd tab ob ob', Xvp (rn tab) (Xb2 ob ob')⟩ σ) K) : Vc P C ops (o :: l) rs σ K :=
  .cons _ (Xyf hg (Ye5 ho hcal (Xll hC hd) hf hA (Xg0 hr) hc hh hok hk)) (Xms hC hfr) k
theorem Yka (hC : Xhh C n objs) {c : Call} {fop : Operand} {f : Nat} {args : List AV} {ob ob' : Xa0} {res : AV} {bor : List Nat} {cond : Prop} {ks : List Key} {i t : Nat} {b x : Bool} (tab : List (Nat × Nat)) (hg : o.guard = some (i, b)) (hdi : (ops[i]?).bind (·.dst) = some t) (hs : lk σ.s t = some (.sv (.bool x))) (ht : Nat.blt t n = true) (hx : x = b)
    (ho : o.op = .call c) (hcal : c.callee = .value fop) (hd : Ycj n o.dst = true) (hf : Fn P f)
    (hA : AC P f args ob res ob') (hr : (Yhz args fop f c.args.toList).get σ [] = some (⟨args.map (AV.ren (rn tab)), bor, cond⟩, ks)) (hc : cond) (hh : holds tab σ ob) (hok : Xxd tab ob ob' res bor = true) (hk : bor = [] ∨ res.flat = true ∧ Yel ob')
    (hfr : frs objs σ (Xvp (rn tab) (Xb2 ob ob')) = true)
    (k : Vc P C ops l (rs ++ [⟨.s t :: (ks ++ Xix tab ob), Xhw tab o.dst res, Xfd tab ob ob', Xvp (rn tab) (Xb2 ob ob')⟩]) (Rec.app ⟨.s t :: (ks ++ Xix tab ob), Xhw tab o.dst res, Xfd tab ob ob', Xvp (rn tab) (Xb2 ob ob')⟩ σ) K) : Vc P C ops (o :: l) rs σ K :=
  .cons _ (Yge hg hdi (by rw [hC.n]; exact Xup ht) hs hx (Ye5 ho hcal (Xll hC hd) hf hA (Xg0 hr) hc hh hok hk)) (Xms hC hfr) k
def rid {β : Type 1} (ks : List Nat) : List (Nat × β) → List (Nat × β)
  | [] => []
  | p :: l => bif inN p.1 ks then rid ks l else p :: rid ks l
abbrev Chg := List (Nat × AV) × List (Nat × Option Obj)
def St.upd (σ : St) (D : Chg) : St := ⟨D.1 ++ rid (Yc6 D.1) σ.s, D.2 ++ rid (Yc6 D.2) σ.o⟩
theorem Ycf {c : Code} {Q : Exit → St → Prop} (h : AWp P C c σ (fun e σ' => ∃ σ'', Xkc C σ' σ'' ∧ Q e σ'')) : AWp P C c σ Q := fun a w hR => wp_mono (h a w hR) fun e a' w' ⟨σ', ⟨σ'', hw, hq⟩, hR'⟩ => ⟨σ'', hq, hw a' w' hR'⟩
def Yn4 (C : Ctx) (τ : St) (Q : Exit → St → Prop) : Exit → St → Prop
  | .normal, σ' => Xkc C σ' τ
  | e, σ' => Q e σ'
theorem Yn7 {x y : Code} {Q : Exit → St → Prop} (D : Chg) (hx : AWp P C x σ (Yn4 C (σ.upd D) Q)) (hy : AWp P C y (σ.upd D) Q) : AWp P C (.seq x y) σ Q := by
  refine Yec (Ycf (Yf0 hx fun e σ' h => ?_))
  cases e with
  | normal => exact ⟨_, h, hy⟩
  | _ => exact ⟨σ', Xkc.refl _, h⟩
def Ykj {V R : Type} (C : Ctx) (S : V → St) (j : V → Option R) (r : R) (Q : Exit → St → Prop) : Exit → St → Prop
  | .normal, σ' => ∃ v, j v = some r ∧ Xkc C σ' (S v)
  | e, σ' => Q e σ'
theorem Yl9 {V R : Type} {r : R} {x y : Code} {Q : Exit → St → Prop} (D : V → Chg) (j : V → Option R) (hx : AWp P C x σ (Ykj C (fun v => σ.upd (D v)) j r Q)) (hy : ∀ v, j v = some r → AWp P C y (σ.upd (D v)) Q) : AWp P C (.seq x y) σ Q := by
  refine Yec (Ycf (Yf0 hx fun e σ' h => ?_))
  cases e with
  | normal => obtain ⟨v, hv, hw⟩ := h; exact ⟨_, hw, hy v hv⟩
  | _ => exact ⟨σ', Xkc.refl _, h⟩
def Yfx {V O : Type} (C : Ctx) (S : V → St) (R : O → Exit → St → Prop) : Lp V O → Exit → St → Prop
  | .go y, .normal, σ' => Xkc C σ' (S y)
  | .done _, .normal, _ => False
  | .done o, e, σ' => R o e σ'
  | .go _, _, _ => False
theorem Yeb {V O : Type} {f : V → Option (Lp V O)} {x : V} {o : O} {c : Code} {Q : Exit → St → Prop} (D : V → Chg) (R : O → Exit → St → Prop) (h : loop f x = some o) (h0 : Xkc C σ (σ.upd (D x)))
    (hb : ∀ x s, f x = some s → AWp P C c (σ.upd (D x)) (Yfx C (fun v => σ.upd (D v)) R s)) (hq : ∀ e σ', R o e σ' → Q e σ') : AWp P C (.loop c) σ Q := by
  obtain ⟨k, hk⟩ := Xga.1 h
  refine Yi0 h0 (Yma (fun k σ' => ∃ x, it f k x = some o ∧ σ' = σ.upd (D x)) ⟨x, hk, rfl⟩ ?_)
  intro k σ' ⟨x, hx, e⟩
  subst e
  cases k with
  | zero => cases hx
  | succ k =>
    rw [it] at hx
    cases hf : f x with
    | none => rw [hf] at hx; cases hx
    | some s =>
      rw [hf] at hx
      refine Yf0 (hb x s hf) fun e σ' hr => ?_
      cases s with
      | go y =>
        cases e with
        | normal => exact ⟨_, hr, k, Nat.lt_succ_self k, y, hx, rfl⟩
        | _ => exact hr.elim
      | done o' =>
        cases hx
        cases e with
        | normal => exact hr.elim
        | _ => exact hq _ _ hr
end
end Go.Proofs.YtlebkepfhdjnmadGreatAL
/- An abstract logic for Go functions: the steps of a walk through code. Conditions: as each statement tells. -/
namespace Go.Proofs.YtlebkepfhdjnmadGreatAL
open Go.RowKit
set_option linter.unusedVariables false
inductive Ou (V R : Type) where
  | out (v : V)
  | ret (r : R)
def Ykf {β : Type 1} : List Nat → List (Nat × β) → List (Nat × β)
  | [], _ => []
  | k :: ks, l => match lk l k with | some v => (k, v) :: Ykf ks l | none => Ykf ks l
section
variable {P : Program} {T : Nat → Option TI} {C : Ctx} {σ : St} {n : Nat} {objs : Xa0} {x y z : Code} {Q : Exit → St → Prop} {id t : Nat} {l : List Oper}
theorem Ydc {β : Type 1} {l : List (Nat × β)} {t : Nat} : ∀ {ks : List Nat} {v : β}, lk (Ykf ks l) t = some v → lk l t = some v
  | [], v, h => by simp [Ykf, lk] at h
  | k :: ks, v, h => by
    rw [Ykf] at h
    split at h
    · rename_i u hu
      rw [Xbc] at h
      split at h
      · rename_i e; subst e; cases h; exact hu
      · exact Ydc h
    · exact Ydc h
theorem Yoo (ks os : List Nat) {s' : List (Nat × AV)} {o' : List (Nat × Option Obj)} (hs : Ykf ks σ.s = s') (ho : Ykf os σ.o = o') (k : AWp P C x ⟨s', o'⟩ Q) : AWp P C x σ Q := by
  refine Yi0 (fun a w ⟨μ, A, h⟩ => ⟨μ, A, h.weaken (fun t v hv => ?_) fun id ob hb => ?_⟩) k
  · subst hs; exact .inl (Ydc hv)
  · subst ho
    unfold St.obj at hb ⊢
    simp only at hb
    cases e : lk (Ykf os σ.o) id with
    | none => rw [e] at hb; cases hb
    | some u => rw [e] at hb; rw [Ydc e]; exact hb
theorem Xab (h : Vc P C l.toArray l [] σ (fun _ σ' => AWp P C y σ' Q)) : AWp P C (.seq (.region id l.toArray false) y) σ Q := Yec (Xac h)
theorem Xjq (hm : P.follows .mixedOrders = true) (h : Vc P C l.toArray l [] σ (fun rs σ' => Xgd l rs σ = true ∧ AWp P C y σ' Q)) : AWp P C (.seq (.region id l.toArray true) y) σ Q := Yec (Xdf hm h)
theorem Ygv {V R : Type} {j : V → Option R} {f : (V → Option R) → Option R} {r : R} (h : Yjc j f = some r) (D : V → Chg) (hy : ∀ v, j v = some r → AWp P C y (σ.upd (D v)) Q) (hx : f j = some r → AWp P C x σ (Ykj C (fun v => σ.upd (D v)) j r Q)) : AWp P C (.seq x y) σ Q := Yl9 D j (hx h) hy
theorem Xao (h : AWp P C x σ (Yir (fun σ' => AWp P C y σ' Q) Q)) : AWp P C (.seq x y) σ Q := Yec h
theorem Xad (h : AWp P C y σ Q) : Yir (fun σ' => AWp P C y σ' Q) Q .normal σ := h
theorem Xat (h : Q (.exit id) σ) : Yir (fun σ' => AWp P C y σ' Q) Q (.exit id) σ := h
theorem Xas (h : Q .ret σ) : Yir (fun σ' => AWp P C y σ' Q) Q .ret σ := h
theorem Yni {b : Bool} (hs : lk σ.s t = some (.sv (.bool b))) (hb : b = true) (h : AWp P C x σ Q) : AWp P C (.cond (.tmp t) x y) σ Q := Yiz hs (fun _ => h) (fun e => by rw [hb] at e; cases e)
theorem Ymu {b : Bool} (hs : lk σ.s t = some (.sv (.bool b))) (hb : b = false) (h : AWp P C y σ Q) : AWp P C (.cond (.tmp t) x y) σ Q := Yiz hs (fun e => by rw [hb] at e; cases e) (fun _ => h)
theorem Xak (h : AWp P C x σ (Xoq id Q)) : AWp P C (.block id x) σ Q := Yce h
theorem Xan (h : Q .normal σ) : Xoq id Q .normal σ := h
theorem Yed (h : Q .normal σ) : Xoq id Q (.exit id) σ := by
  show (if id = id then _ else _)
  rw [if_pos rfl]; exact h
theorem Xii (h : Q .ret σ) : Xoq id Q .ret σ := h
theorem Xjo {τ : St} (h : Xkc C σ τ) : Yn4 C τ Q .normal σ := h
theorem Yg5 {V R : Type} {S : V → St} {j : V → Option R} {r : R} (v : V) (hv : j v = some r) (h : Xkc C σ (S v)) : Ykj C S j r Q .normal σ := ⟨v, hv, h⟩
theorem Ymh {V R : Type} {S : V → St} {j : V → Option R} {r : R} (h : Q .ret σ) : Ykj C S j r Q .ret σ := h
theorem Yby {V O : Type} {S : V → St} {R : O → Exit → St → Prop} {v : V} (h : Xkc C σ (S v)) : Yfx C S R (.go v) .normal σ := h
theorem Yhj {V O : Type} {S : V → St} {R : O → Exit → St → Prop} {o : O} (h : R o (.exit id) σ) : Yfx C S R (.done o) (.exit id) σ := h
theorem Yaq {V O : Type} {S : V → St} {R : O → Exit → St → Prop} {o : O} (h : R o .ret σ) : Yfx C S R (.done o) .ret σ := h
def Ynz {V : Type} (C : Ctx) (id : Nat) (S : V → St) : V → Exit → St → Prop
  | v, .exit i, σ => i = id ∧ Xkc C σ (S v)
  | _, _, _ => False
def Ykk {V R : Type} (C : Ctx) (id : Nat) (S : V → St) (E : R → Exit → St → Prop) : Ou V R → Exit → St → Prop
  | .out v, .exit i, σ => i = id ∧ Xkc C σ (S v)
  | .ret r, .ret, σ => E r .ret σ
  | _, _, _ => False
theorem Ymn {V : Type} {S : V → St} {v : V} (h : Xkc C σ (S v)) : Ynz C id S v (.exit id) σ := ⟨rfl, h⟩
theorem Yng {V R : Type} {S : V → St} {E : R → Exit → St → Prop} {v : V} (h : Xkc C σ (S v)) : Ykk C id S E (.out v) (.exit id) σ := ⟨rfl, h⟩
theorem Yap {V R : Type} {S : V → St} {E : R → Exit → St → Prop} {r : R} (h : E r .ret σ) : Ykk C id S E (.ret r) .ret σ := h
theorem Yjs {V O : Type} {f : V → Option (Lp V O)} {v0 : V} {o : O} (D : V → Chg) (D' : O → Chg) (h : loop f v0 = some o) (h0 : Xkc C σ (σ.upd (D v0)))
    (hb : ∀ v s, f v = some s → AWp P C x (σ.upd (D v)) (Yfx C (fun v => σ.upd (D v)) (Ynz C id fun o => σ.upd (D' o)) s)) (hk : Q .normal (σ.upd (D' o))) : AWp P C (.block id (.loop x)) σ Q := by
  refine Yce (Ycf (Yeb D (Ynz C id fun o => σ.upd (D' o)) h h0 hb ?_))
  intro e σ' hr
  cases e with
  | exit i => obtain ⟨rfl, hw⟩ := hr; exact ⟨_, hw, Yed hk⟩
  | _ => exact hr.elim
theorem Xlu {V W R : Type} {f : V → Option (Lp V (Ou W R))} {v0 : V} {o : Ou W R} (D : V → Chg) (D' : W → Chg) (E : R → Exit → St → Prop) (h : loop f v0 = some o) (h0 : Xkc C σ (σ.upd (D v0)))
    (hb : ∀ v s, f v = some s → AWp P C x (σ.upd (D v)) (Yfx C (fun v => σ.upd (D v)) (Ykk C id (fun o => σ.upd (D' o)) E) s)) (hk : ∀ v, o = .out v → Q .normal (σ.upd (D' v))) (hr : ∀ r σ', o = .ret r → E r .ret σ' → Q .ret σ') : AWp P C (.block id (.loop x)) σ Q := by
  refine Yce (Ycf (Yeb D (Ykk C id (fun o => σ.upd (D' o)) E) h h0 hb ?_))
  intro e σ' hr'
  cases o with
  | out v =>
    cases e with
    | exit i => obtain ⟨rfl, hw⟩ := hr'; exact ⟨_, hw, Yed (hk v rfl)⟩
    | _ => exact hr'.elim
  | ret r =>
    cases e with
    | ret => exact ⟨σ', Xkc.refl _, hr r σ' rfl hr'⟩
    | _ => exact hr'.elim
theorem Xj6 (hC : Xhh C n objs) {τ : St} (k i id : Nat) (ob : Obj) {sz : Nat} {cells : List AV} (hs : σ.obj k = some (.box cells)) (hi : cells[i]? = some (.sv .nil)) (hf : frs objs σ [id] = true) (hne : σ.obj id = none) (hx : ob.elems = some (sz, [])) (hwf : ob.wf)
    (hk : Xkc C ⟨σ.s, (k, some (.box (cells.set i (.own id)))) :: (id, some ob) :: σ.o⟩ τ) : Xkc C σ τ :=
  (Yd5 k i id ob hs hi (Xms hC hf id (by simp)) hne hx hwf).trans hk
theorem Xfs (hC : Xhh C n objs) (tab : List (Nat × Nat)) {s : List (Nat × AV)} {o : List (Nat × Option Obj)} {b b' : List Nat} {c : Prop} (ho : CO tab σ o b') (hs : Ymi σ (Yd3 s) ((Yc6 s).map σ.slot) = some ⟨AV.renL (rn tab) (Yd3 s), b, c⟩) (hc : c)
    (hok : (Xpt (Xvp (rn tab) (Xqa o)) && Xxa (rn tab) (b ++ b') (Xqa o) && Yid tab objs (Xqa o)) = true) : Xkc C σ ⟨s, o⟩ := Ykc hC tab hs hc ho hok
theorem Yi7 {P : Program} {C : Ctx} {μ : Nat → Value} {A : Nat → Prop} {σ : St} {a : Act} {w : World} {o : Oper} (h : Xb9 C μ A σ a w) (hd : ∀ d, o.dst = some d → d < C.n) {c x y : Operand} {b : Bool} (ho : o.op = .pick c x y) (hc : a.eval c = .bool b) {e : Eff} {ks ks' : List Key}
    (hr : (ev (bif b then x else y) fun v => Xd8 o v True).run σ ks = some (e, ks')) (hco : e.cond) : Xj8 P C o (e.app σ) a w := by
  obtain ⟨v, k1, hv, hr⟩ := Xbm hr
  refine Xav h hr hd (fun _ => ?_) (fun _ => h.ev hv) hco
  cases b <;> simp [execOp, ho, hc, asBool]
theorem Ye6 {o : Oper} {c x y : Operand} {b b' : Bool} {ks1 ks2 : List Key} {e : Eff} (hd : ∀ d, o.dst = some d → d < C.n) (ho : o.op = .pick c x y) (hc : (ev c .ret).run σ [] = some (.sv (.bool b'), ks1)) (hb : b' = b) (hr : (ev (bif b then x else y) fun v => Xd8 o v True).run σ [] = some (e, ks2)) (hco : e.cond) :
    Ykd P C o ⟨ks1 ++ ks2, e.slots, e.objs, e.new⟩ σ := by
  intro τ ha hf a w ⟨μ, A, h⟩
  obtain ⟨v, k1, hv, hr1⟩ := Xbm (Xgo hc fun k hk => ha k (List.mem_append_left _ hk))
  simp only [RM.run, Option.some.injEq, Prod.mk.injEq] at hr1
  obtain ⟨rfl, _⟩ := hr1
  have he := Xka (h.ev hv)
  rw [hb] at he
  exact Yi7 h hd ho he (Xgo hr fun k hk => ha k (List.mem_append_right _ hk)) hco
theorem Ynw (hC : Xhh C n objs) {ops : Array Oper} {o : Oper} {l : List Oper} {rs : List Rec} {K : List Rec → St → Prop} {c x y : Operand} {b b' : Bool} {ks1 ks2 : List Key} {e : Eff} (hg : o.guard = none) (ho : o.op = .pick c x y) (hc : (ev c .ret).get σ [] = some (.sv (.bool b'), ks1)) (hb : b' = b) (hr : (ev (bif b then x else y) fun v => Xd8 o v True).get σ [] = some (e, ks2)) (hd : Ycj n o.dst = true) (hf : frs objs σ e.new = true) (hco : e.cond)
    (k : Vc P C ops l (rs ++ [⟨ks1 ++ ks2, e.slots, e.objs, e.new⟩]) (Rec.app ⟨ks1 ++ ks2, e.slots, e.objs, e.new⟩ σ) K) : Vc P C ops (o :: l) rs σ K :=
  .cons _ (Xyf hg (Ye6 (Xll hC hd) ho (Xg0 hc) hb (Xg0 hr) hco)) (Xms hC hf) k
theorem Xd5 (hC : Xhh C n objs) {ops : Array Oper} {o : Oper} {l : List Oper} {rs : List Rec} {K : List Rec → St → Prop} {i t : Nat} {g u : Bool} {c x y : Operand} {b b' : Bool} {ks1 ks2 : List Key} {e : Eff} (hg : o.guard = some (i, g)) (hdi : (ops[i]?).bind (·.dst) = some t) (hs : lk σ.s t = some (.sv (.bool u))) (ht : Nat.blt t n = true) (hu : u = g)
    (ho : o.op = .pick c x y) (hc : (ev c .ret).get σ [] = some (.sv (.bool b'), ks1)) (hb : b' = b) (hr : (ev (bif b then x else y) fun v => Xd8 o v True).get σ [] = some (e, ks2)) (hd : Ycj n o.dst = true) (hf : frs objs σ e.new = true) (hco : e.cond)
    (k : Vc P C ops l (rs ++ [⟨.s t :: (ks1 ++ ks2), e.slots, e.objs, e.new⟩]) (Rec.app ⟨.s t :: (ks1 ++ ks2), e.slots, e.objs, e.new⟩ σ) K) : Vc P C ops (o :: l) rs σ K :=
  .cons _ (Yge hg hdi (by rw [hC.n]; exact Xup ht) hs hu (Ye6 (Xll hC hd) ho (Xg0 hc) hb (Xg0 hr) hco)) (Xms hC hf) k
theorem Xcl {rs : List ResultVar} {res : AV} {objs' : Xa0} {τ : St} (h : Xkc C σ τ) (h1 : Xqv T τ rs = some res) (h2 : Yet τ objs') : Xuz C T rs res objs' .ret σ := ⟨τ, h, h1, h2⟩
end
end Go.Proofs.YtlebkepfhdjnmadGreatAL
/- An abstract logic for Go functions: help for a seat's own base. Conditions: as each statement tells. -/
namespace Go.Proofs.YtlebkepfhdjnmadGreatAL
open Go.RowKit
set_option linter.unusedVariables false
abbrev Xsz.sv (c : Xsz) (l : List c.α) : SV := .sl c.α c.d c.sz c.enc l
def gL (k : IntKind) : SV → Option (List Int)
  | .ints k' l => if k' = k then some l else none
  | .nil => some []
  | _ => none
theorem Ylz {k : IntKind} {x : SV} {l : List Int} (h : gL k x = some l) : ∀ (w : World) (A : Nat → Prop) (v : Value), Xgc w A x v → Xgc w A (.ints k l) v := by
  cases x <;> simp only [gL] at h <;> first | (cases h; done) | skip
  · cases h
    intro w A v hv
    have : v = .slice none 0 0 := Xn8 (μ := fun _ => undef) (.sv hv)
    subst this
    exact Xgc.sl _ 1 [] none 0 (fun _ _ => undef) rfl (by simp) (by simp) (by simp) (by simp) (by simp)
  · split at h
    · rename_i e; cases h; subst e; exact fun _ _ _ h => h
    · cases h
theorem Xez {P : Program} {t : Nat} {i : TypeInfo} (h : P.types[t]? = some i) : P.info? t = some i := by
  show (if t < P.types.size then P.types[t]? else _) = _
  rw [if_pos (Array.getElem?_eq_some_iff.1 h).1]; exact h
def lkT : List (Nat × TI) → Nat → Option TI
  | [], _ => none
  | (k, v) :: l, t => bif Nat.beq k t then some v else lkT l t
theorem Ymk {l : List (Nat × TI)} {t : Nat} {ti : TI} (h : lkT l t = some ti) : (t, ti) ∈ l := by
  induction l with
  | nil => cases h
  | cons p l ih =>
    obtain ⟨k, v⟩ := p
    rw [lkT] at h
    cases e : Nat.beq k t with
    | true => rw [e] at h; cases h; rw [Nat.eq_of_beq_eq_true e]; simp
    | false => rw [e] at h; exact List.mem_cons_of_mem _ (ih h)
theorem Ymj {P : Program} {l : List (Nat × TI)} (h : ∀ p ∈ l, p.2.ok P p.1) : TOk P (lkT l) := fun t ti ht => h _ (Ymk ht)
end Go.Proofs.YtlebkepfhdjnmadGreatAL
/- An abstract logic for Go functions: what reads at a type stands for; a contract as a row wants it. Conditions: as each statement tells. -/
namespace Go.Proofs.YtlebkepfhdjnmadGreatAL
open Go.RowKit Go.Deep Go.ChangeShapes Go.WideShapes
set_option linter.unusedVariables false
def Yl5 (w : World) (g : Nat) : Prop := g < w.heap.size
def FR (w : World) : List SV → List Value → Prop
  | [], [] => True
  | y :: ys, u :: us => Xgc w (Yl5 w) y u ∧ FR w ys us
  | _, _ => False
theorem FR.len {w : World} : ∀ {ys : List SV} {us : List Value}, FR w ys us → us.length = ys.length
  | [], [], _ => rfl
  | y :: ys, u :: us, h => by rw [List.length_cons, List.length_cons, FR.len h.2]
  | [], _ :: _, h => h.elim
  | _ :: _, [], h => h.elim
theorem FR.get {w : World} : ∀ {ys : List SV} {us : List Value}, FR w ys us → ∀ {j : Nat} {y : SV} {u : Value}, ys[j]? = some y → us[j]? = some u → Xgc w (Yl5 w) y u
  | [], [], _, j, y, u, hy, _ => by simp at hy
  | a :: ys, b :: us, h, 0, y, u, hy, hu => by cases hy; cases hu; exact h.1
  | a :: ys, b :: us, h, j + 1, y, u, hy, hu => FR.get h.2 (j := j) hy hu
  | [], _ :: _, h, _, _, _, _, _ => h.elim
  | _ :: _, [], h, _, _, _, _, _ => h.elim
theorem FR.append {w : World} : ∀ {ys zs : List SV} {us vs : List Value}, FR w ys us → FR w zs vs → FR w (ys ++ zs) (us ++ vs)
  | [], zs, [], vs, _, k => k
  | a :: ys, zs, b :: us, vs, h, k => ⟨h.1, FR.append h.2 k⟩
  | [], _, _ :: _, _, h, _ => h.elim
  | _ :: _, _, [], _, h, _ => h.elim
def Xem {α : Type} (P : Program) (f : α → List SV) (ok : α → Prop) (t : TypeId) : Prop :=
  ∀ {H : Type} (enc : TypeId × Value → H) (w : World) (base : Nat) (spare : Nat → Bool) (held : Bool) (fuel : Nat) (cs : List Value) (x : DataW H × List MemPlace),
    DataW.trod enc P w base spare held fuel t cs = some x → ∃ v, ok v ∧ FR w (f v) cs
theorem Xem.int {P : Program} {k : IntKind} {t : TypeId} (ht : P.underlying t = some (.int k)) : Xem P (fun n => [.int k n]) (fun n => (Lit.int k n).wf = true) t := by
  intro H enc w base spare held fuel cs x h
  obtain ⟨n, rfl, _, hw⟩ := DataW.trod_int ht h
  exact ⟨n, hw, .int k n, trivial⟩
theorem Xem.bool {P : Program} {t : TypeId} (ht : P.underlying t = some .bool) : Xem P (fun b => [.bool b]) (fun _ => True) t := by
  intro H enc w base spare held fuel cs x h
  obtain ⟨n, rfl, _⟩ := DataW.trod_bool ht h
  exact ⟨n, trivial, .bool n, trivial⟩
theorem Xem.string {P : Program} {t : TypeId} (ht : P.underlying t = some .string) : Xem P (fun s => [.str s]) (fun s => s.size ≤ maxLen) t := by
  intro H enc w base spare held fuel cs x h
  obtain ⟨n, rfl, _, hs⟩ := DataW.trod_string ht h
  exact ⟨n, hs, .str n, trivial⟩
theorem Xem.map {α β : Type} {P : Program} {f : α → List SV} {ok : α → Prop} {f' : β → List SV} {ok' : β → Prop} {t : TypeId} (h : Xem P f ok t) (m : α → β) (hf : ∀ v, f v = f' (m v)) (ho : ∀ v, ok v → ok' (m v)) : Xem P f' ok' t := by
  intro H enc w base spare held fuel cs x hx
  obtain ⟨v, h1, h2⟩ := h enc w base spare held fuel cs x hx
  exact ⟨m v, ho v h1, hf v ▸ h2⟩
theorem Xem.rows {α : Type} {P : Program} {f : α → List SV} {ok : α → Prop} {t e : TypeId} {sz : Nat} (ht : P.underlying t = some (.slice e)) (hc : P.cellsOf e = sz) (hp : 0 < sz) (hf : ∀ v, (f v).length = sz) (h : Xem P f ok e) (S : List α → SV) (hS : ∀ l, (S l).elems = some (sz, l.map f)) :
    Xem P (fun l => [S l]) (fun xs => xs.length ≤ maxLen ∧ ∀ x ∈ xs, ok x) t := by
  intro H enc w base spare held fuel cs x hx
  rcases open_slice ht hx with ⟨rfl, _⟩ | ⟨a, len, cap, m, n, D, Pl, rfl, hb, hl, hm, hmm, _, hi⟩
  · refine ⟨[], ⟨by simp, by simp⟩, ?_, trivial⟩
    exact Xgc.sl (S []) sz [] none 0 (fun _ _ => undef) (hS []) (by simp) (by simp) (by simp) (by simp) (by simp)
  · have hle : len ≤ m := by rw [hmm]; split <;> omega
    have one : ∀ i, i < len → ∃ v, ok v ∧ ∃ c, c.length = sz ∧ FR w (f v) c ∧ ∀ j u, c[j]? = some u → w.cell? (a.add (i * sz + j)) = some u := by
      intro i hil
      obtain ⟨cs', h1, h2⟩ := hi i (by omega)
      obtain ⟨v, hv, hK⟩ := h enc w base spare held n cs' _ h2
      rw [hc] at h1
      obtain ⟨_, hcl, hat⟩ := World.cells?_some h1
      refine ⟨v, hv, cs', hcl, hK, fun j u hj => ?_⟩
      have hjl : j < cs'.length := (List.getElem?_eq_some_iff.1 hj).1
      have := hat j (by omega)
      rw [← Go.Deep.add_add, this, hj]
    have all : ∀ k, k ≤ len → ∃ xs : List α, xs.length = k ∧ (∀ x ∈ xs, ok x) ∧ ∀ i p, xs[i]? = some p → ∃ c, c.length = sz ∧ FR w (f p) c ∧ ∀ j u, c[j]? = some u → w.cell? (a.add (i * sz + j)) = some u := by
      intro k
      induction k with
      | zero => exact fun _ => ⟨[], rfl, by simp, fun i p hp => by simp at hp⟩
      | succ k ih =>
        intro hk
        obtain ⟨xs, hxl, hxo, hxc⟩ := ih (by omega)
        obtain ⟨v, hv, hrest⟩ := one k (by omega)
        refine ⟨xs ++ [v], by simp [hxl], ?_, fun i p hp => ?_⟩
        · intro x hx'
          rcases List.mem_append.1 hx' with h' | h'
          · exact hxo x h'
          · rw [List.mem_singleton.1 h']; exact hv
        · rcases Nat.lt_or_ge i xs.length with hlt | hge
          · rw [List.getElem?_append_left hlt] at hp
            exact hxc i p hp
          · have hil : i < (xs ++ [v]).length := (List.getElem?_eq_some_iff.1 hp).1
            rw [List.length_append, List.length_singleton] at hil
            obtain rfl : i = k := by omega
            rw [List.getElem?_append_right hge, hxl, Nat.sub_self] at hp
            simp only [List.getElem?_cons_zero, Option.some.injEq] at hp
            rw [← hp]
            exact hrest
    obtain ⟨xs, hxl, hxo, hxc⟩ := all len (Nat.le_refl _)
    have hm' : len ≤ maxLen := Nat.le_trans hl hm
    refine ⟨xs, ⟨by omega, hxo⟩, ?_, trivial⟩
    have cellAt : ∀ i j, i < xs.length → j < sz → ∃ g o, (some a : Option Addr) = some ⟨g, o, none⟩ ∧ Yl5 w g ∧ ∃ u, w.cell? ⟨g, o + (i * sz + j), none⟩ = some u := by
      intro i j hi hj
      obtain ⟨c, hcl, hK, hcell⟩ := hxc i _ (List.getElem?_eq_getElem hi)
      have hcj : c[j]? = some (c[j]'(by omega)) := List.getElem?_eq_getElem (by omega)
      have h1 := hcell j _ hcj
      have hsome : ∃ g o, a = ⟨g, o, none⟩ := by
        obtain ⟨c0, hcl0, hK0, hcell0⟩ := hxc 0 _ (List.getElem?_eq_getElem (show 0 < xs.length by omega))
        have h0 := hcell0 0 _ (List.getElem?_eq_getElem (show 0 < c0.length by omega))
        obtain ⟨g, o, sp⟩ := a
        cases sp with
        | none => exact ⟨g, o, rfl⟩
        | some q =>
          simp only [Nat.zero_mul, Nat.add_zero, Addr.add, if_true] at h0
          unfold World.cell? at h0
          split at h0
          · simp at h0
          · cases h0
      obtain ⟨g, o, rfl⟩ := hsome
      have e : (Addr.add ⟨g, o, none⟩ (i * sz + j)) = ⟨g, o + (i * sz + j), none⟩ := by
        unfold Addr.add
        split
        · rename_i h0; rw [h0]; rfl
        · rfl
      rw [e] at h1
      refine ⟨g, o, rfl, ?_, _, h1⟩
      unfold World.cell? at h1
      split at h1
      · rename_i hg; exact (Array.getElem?_eq_some_iff.1 hg).1
      · cases h1
    rw [show (Value.slice (some a) len cap) = Value.slice (some a) (xs.map f).length cap by rw [List.length_map, hxl]]
    refine Xgc.sl (S xs) sz (xs.map f) (some a) cap (fun i j => (w.cell? ⟨a.block, a.off + (i * sz + j), none⟩).getD undef) (hS xs) ?_ ?_ ?_ ?_ ?_
    · intro x hx'
      obtain ⟨v, _, rfl⟩ := List.mem_map.1 hx'
      exact hf v
    · intro i j x y hx' hy
      rw [List.getElem?_map] at hx'
      obtain ⟨p, hp, rfl⟩ := Option.map_eq_some_iff.1 hx'
      have hi := (List.getElem?_eq_some_iff.1 hp).1
      have hj : j < sz := by have := (List.getElem?_eq_some_iff.1 hy).1; rw [hf] at this; exact this
      obtain ⟨c, hcl, hK, hcell⟩ := hxc i p hp
      have hcj : c[j]? = some (c[j]'(by omega)) := List.getElem?_eq_getElem (by omega)
      obtain ⟨g, o, e1, _, u, hu⟩ := cellAt i j hi hj
      cases e1
      have h1 := hcell j _ hcj
      have e : (Addr.add ⟨g, o, none⟩ (i * sz + j)) = ⟨g, o + (i * sz + j), none⟩ := by
        unfold Addr.add
        split
        · rename_i h0; rw [h0]; rfl
        · rfl
      rw [e] at h1
      rw [h1]
      exact FR.get hK hy hcj
    · intro i j hi hj
      rw [List.length_map] at hi
      obtain ⟨g, o, e1, hg, u, hu⟩ := cellAt i j hi hj
      cases e1
      exact ⟨g, o, rfl, hg, by simp only [hu, Option.getD_some]⟩
    · intro hne
      obtain ⟨g, o, e1, _⟩ := cellAt 0 0 (List.length_pos_iff.2 (by simpa using hne)) hp
      exact ⟨g, o, e1⟩
    · rw [List.length_map]; omega

theorem Xem.ints {P : Program} {t e : TypeId} {k : IntKind} (ht : P.underlying t = some (.slice e)) (he : P.underlying e = some (.int k)) (hc : P.cellsOf e = 1) : Xem P (fun l => [.ints k l]) (fun xs => xs.length ≤ maxLen ∧ ∀ x ∈ xs, (Lit.int k x).wf = true) t :=
  Xem.rows ht hc (by decide) (fun _ => rfl) (Xem.int he) (SV.ints k) (fun _ => rfl)
theorem Xem.row {P : Program} {t e : TypeId} (c : Xsz) (hk : c.ok) {ok : c.α → Prop} (ht : P.underlying t = some (.slice e)) (hc : P.cellsOf e = c.sz) (h : Xem P c.enc ok e) : Xem P (fun l => [c.sv l]) (fun xs => xs.length ≤ maxLen ∧ ∀ x ∈ xs, ok x) t :=
  Xem.rows ht hc hk.2.1 hk.1 h c.sv (fun _ => rfl)
def Xlw {α : Type} (P : Program) (f : α → List SV) (ok : α → Prop) (fs : List Field) (off sz : Nat) : Prop :=
  ∀ {H : Type} (enc : TypeId × Value → H) (w : World) (base : Nat) (spare : Nat → Bool) (held : Bool) (n : Nat) (cs : List Value),
    (∀ f ∈ fs, ∃ y, DataW.trod enc P w base spare held n f.type ((cs.drop f.offset).take (P.cellsOf f.type)) = some y) → ∃ v, ok v ∧ FR w (f v) ((cs.drop off).take sz)
theorem Xlw.one {α : Type} {P : Program} {g : α → List SV} {ok : α → Prop} {f : Field} {off sz : Nat} (ho : f.offset = off) (hc : P.cellsOf f.type = sz) (h : Xem P g ok f.type) : Xlw P g ok [f] off sz := by
  intro H enc w base spare held n cs hf
  obtain ⟨y, hy⟩ := hf f (by simp)
  rw [ho, hc] at hy
  exact h enc w base spare held n _ y hy
theorem Xlw.cons {α β : Type} {P : Program} {g : α → List SV} {g2 : β → List SV} {ok : α → Prop} {ok2 : β → Prop} {f : Field} {fs : List Field} {off sz off2 sz2 : Nat} (ho : f.offset = off) (hc : P.cellsOf f.type = sz) (h : Xem P g ok f.type) (h2 : Xlw P g2 ok2 fs off2 sz2) (he : off2 = off + sz) :
    Xlw P (fun x : α × β => g x.1 ++ g2 x.2) (fun x => ok x.1 ∧ ok2 x.2) (f :: fs) off (sz + sz2) := by
  intro H enc w base spare held n cs hf
  obtain ⟨y, hy⟩ := hf f (by simp)
  rw [ho, hc] at hy
  obtain ⟨v, hv, hK⟩ := h enc w base spare held n _ y hy
  obtain ⟨v2, hv2, hK2⟩ := h2 enc w base spare held n cs (fun g hg => hf g (List.mem_cons_of_mem _ hg))
  refine ⟨(v, v2), ⟨hv, hv2⟩, ?_⟩
  subst he
  have : ((cs.drop off).take (sz + sz2)) = (cs.drop off).take sz ++ (cs.drop (off + sz)).take sz2 := by rw [List.take_add, List.drop_drop]
  rw [this]
  exact FR.append hK hK2
theorem Xem.struct {α : Type} {P : Program} {g : α → List SV} {ok : α → Prop} {t : TypeId} {fs : Array Field} {sz : Nat} (ht : P.underlying t = some (.struct fs)) (hc : P.cellsOf t = sz) (h : Xlw P g ok fs.toList 0 sz) : Xem P g ok t := by
  intro H enc w base spare held fuel cs x hx
  obtain ⟨xs, n, _, _, hl, hxl, hf⟩ := DataW.trod_struct ht hx
  obtain ⟨v, hv, hK⟩ := h enc w base spare held n cs (fun f hfm => by
    obtain ⟨i, hi, he⟩ := List.getElem_of_mem hfm
    have hi' : i < fs.size := by simpa using hi
    have h1 := hf i f (by rw [← he]; simp [hi'])
    exact ⟨xs[i]'(by omega), by rw [h1]; exact List.getElem?_eq_getElem (by omega)⟩)
  refine ⟨v, hv, ?_⟩
  rw [List.drop_zero, List.take_of_length_le (by omega)] at hK
  exact hK
/-! What a row wants. -/
theorem Ymq {w : World} {μ : Nat → Value} {y : SV} {v : Value} (h : FR w [y] [v]) : Rep w (Yl5 w) μ (.sv y) v := .sv h.1
theorem Ygl {w : World} {μ : Nat → Value} {ys : List SV} {cs : Array Value} (h : FR w ys cs.toList) : Rep w (Yl5 w) μ (.agg (ys.map .sv)) (.agg cs) := by
  refine .agg _ cs ?_ fun j y u hy hu => ?_
  · have := h.len; rw [List.length_map]; simpa using this
  · rw [List.getElem?_map] at hy
    obtain ⟨z, hz, rfl⟩ := Option.map_eq_some_iff.1 hy
    exact .sv (h.get hz (by rw [← Array.getElem?_toList] at hu; exact hu))
theorem Yl8 {w : World} {A : Nat → Prop} {μ : Nat → Value} {ys : List AV} {us : List Value} (h : ys.length = us.length) (hr : ∀ (j : Nat) y u, ys[j]? = some y → us[j]? = some u → Rep w A μ y u) : Yn3 w A μ ys us.toArray :=
  ⟨by simp [h], fun j y u hy hu => hr j y u hy (by simpa using hu)⟩
def Yit (w : World) (A : Nat → Prop) (μ : Nat → Value) : List AV → List Value → Prop
  | [], [] => True
  | y :: ys, u :: us => Rep w A μ y u ∧ Yit w A μ ys us
  | _, _ => False
theorem Yit.args {w : World} {A : Nat → Prop} {μ : Nat → Value} : ∀ {ys : List AV} {us : List Value}, Yit w A μ ys us → ys.length = us.length ∧ ∀ (j : Nat) y u, ys[j]? = some y → us[j]? = some u → Rep w A μ y u
  | [], [], _ => ⟨rfl, fun j y u hy _ => by simp at hy⟩
  | y :: ys, u :: us, h => by
    obtain ⟨h1, h2⟩ := Yit.args h.2
    refine ⟨by simp [h1], fun j z v hz hv => ?_⟩
    cases j with
    | zero => cases hz; cases hv; exact h.1
    | succ j => exact h2 j z v hz hv
  | [], _ :: _, h => h.elim
  | _ :: _, [], h => h.elim
theorem Ykm {P : Program} {f : Nat} {args : List AV} {b : Bool} (h : AC P f args [] (.sv (.bool b)) []) {w : World} {us : List Value} (ha : Yit w (Yl5 w) (fun _ => .bool false) args us) :
    Calls P f us.toArray w fun e w' => e = .returned (.bool b) ∧ Below w.heap.size w w' := by
  obtain ⟨h1, h2⟩ := ha.args
  refine (h (fun _ => .bool false) (Yl5 w) w us.toArray ⟨fun _ => rfl, fun id ob h => by simp [lk] at h, fun i j oi oj g _ h => by simp [lk] at h, fun id ob g h => by simp [lk] at h, fun g hg => hg⟩ (Yl8 h1 h2)).mono ?_
  rintro e w' ⟨v, μ', A', rfl, hL, hr⟩
  have hv : v = .bool b := Xka hr
  subst hv
  refine ⟨rfl, ?_⟩
  have hf := hL.frame
  exact ⟨hf.os, hf.tape, hf.output, hf.size, fun k hk => hf.block k ⟨hk, fun id ob h => by simp [lk] at h⟩⟩
end Go.Proofs.YtlebkepfhdjnmadGreatAL
/- An abstract logic for Go functions: structs held against each other. Conditions: as each statement tells. -/
namespace Go.Proofs.YtlebkepfhdjnmadGreatAL
open Go.RowKit
set_option linter.unusedVariables false
section
variable {P : Program} {d : Nat} {xs ys : Array Value} {f : Field} {fs : List Field} {a b : Value} {r s : Bool} {w : World}
end
def SV.plain : SV → Bool
  | .int _ _ | .bool _ | .str _ => true
  | _ => false
section
variable {P : Program} {T : Nat → Option TI} {C : Ctx} {σ : St} {n : Nat} {objs : Xa0} {ops : Array Oper} {o : Oper} {l : List Oper} {rs : List Rec} {K : List Rec → St → Prop}
end
end Go.Proofs.YtlebkepfhdjnmadGreatAL
/- An abstract logic for Go functions: rows that are shut as soon as they are made. Conditions: as each statement tells. -/
namespace Go.Proofs.YtlebkepfhdjnmadGreatAL
open Go.RowKit
set_option linter.unusedVariables false
section
variable {P : Program} {T : Nat → Option TI} {C : Ctx} {σ : St} {n : Nat} {objs : Xa0} {ops : Array Oper} {o : Oper} {l : List Oper} {rs : List Rec} {K : List Rec → St → Prop}
end
end Go.Proofs.YtlebkepfhdjnmadGreatAL
/- An abstract logic for Go functions: a part of a row becomes a row. Conditions: as each statement tells. -/
namespace Go.Proofs.YtlebkepfhdjnmadGreatAL
open Go.RowKit
set_option linter.unusedVariables false
section
variable {P : Program} {T : Nat → Option TI} {C : Ctx} {σ : St} {n : Nat} {objs : Xa0} {w : World} {A : Nat → Prop} {μ : Nat → Value}
end
end Go.Proofs.YtlebkepfhdjnmadGreatAL
/- An abstract logic for Go functions: arrays, and copy. Conditions: as each statement tells. -/
namespace Go.Proofs.YtlebkepfhdjnmadGreatAL
open Go.RowKit
set_option linter.unusedVariables false
section
variable {P : Program} {T : Nat → Option TI} {C : Ctx} {σ : St} {n : Nat} {objs : Xa0} {ops : Array Oper} {o : Oper} {l : List Oper} {rs : List Rec} {K : List Rec → St → Prop} {w : World} {A : Nat → Prop} {μ : Nat → Value} {a : Act}
def aiL {α : Type 1} (kd : IntKind) : List AV → (List Int → RM α) → RM α
  | [], k => k []
  | .sv (.int k' n) :: l, k => if k' = kd then aiL kd l fun ns => k (n :: ns) else .fail
  | _, _ => .fail
theorem Ydk {α : Type 1} {kd : IntKind} : ∀ {l : List AV} {k : List Int → RM α} {ks : List Key} {r : α × List Key}, (aiL kd l k).run σ ks = some r → ∃ ns, l = ns.map (fun n => .sv (.int kd n)) ∧ (k ns).run σ ks = some r
  | [], k, ks, r, h => ⟨[], rfl, h⟩
  | .sv (.int k' n) :: l, k, ks, r, h => by
    rw [aiL] at h
    split at h
    · rename_i e
      subst e
      obtain ⟨ns, e, h⟩ := Ydk h
      exact ⟨n :: ns, by rw [e]; rfl, h⟩
    · simp [RM.run] at h
  | .sv (.bool _) :: l, _, _, _, h => by simp [aiL, RM.run] at h
  | .sv (.str _) :: l, _, _, _, h => by simp [aiL, RM.run] at h
  | .sv .nil :: l, _, _, _, h => by simp [aiL, RM.run] at h
  | .sv (.ints _ _) :: l, _, _, _, h => by simp [aiL, RM.run] at h
  | .sv (.sl _ _ _ _ _) :: l, _, _, _, h => by simp [aiL, RM.run] at h
  | .any :: l, _, _, _, h => by simp [aiL, RM.run] at h
  | .own _ :: l, _, _, _, h => by simp [aiL, RM.run] at h
  | .sub _ _ _ _ :: l, _, _, _, h => by simp [aiL, RM.run] at h
  | .ptr _ _ :: l, _, _, _, h => by simp [aiL, RM.run] at h
  | .eptr _ _ _ _ :: l, _, _, _, h => by simp [aiL, RM.run] at h
  | .iptr _ _ :: l, _, _, _, h => by simp [aiL, RM.run] at h
  | .agg _ :: l, _, _, _, h => by simp [aiL, RM.run] at h
  | .tup _ :: l, _, _, _, h => by simp [aiL, RM.run] at h
  | .fn _ _ :: l, _, _, _, h => by simp [aiL, RM.run] at h
def Yh1 (T : Nat → Option TI) (t : Nat) : Option (Nat × IntKind) := match T t with
  | some ⟨.arr m e, _, _, _, _⟩ => (match T e with | some ⟨.int k, 1, _, _, _⟩ => some (m, k) | _ => none)
  | _ => none
def Yjb (T : Nat → Option TI) (t : Nat) : Option IntKind := match T t with | some ⟨.int k, 1, _, _, _⟩ => some k | _ => none
theorem Ybr {t m : Nat} {k : IntKind} (h : Yh1 T t = some (m, k)) : ∃ e n b z ek b' z' ek', T t = some ⟨.arr m e, n, b, z, ek⟩ ∧ T e = some ⟨.int k, 1, b', z', ek'⟩ := by
  unfold Yh1 at h
  split at h
  · rename_i h1
    split at h
    · rename_i h2; cases h; exact ⟨_, _, _, _, _, _, _, _, h1, h2⟩
    · cases h
  · cases h
theorem Ybv {t : Nat} {k : IntKind} (h : Yjb T t = some k) : ∃ b z ek, T t = some ⟨.int k, 1, b, z, ek⟩ := by
  unfold Yjb at h
  split at h
  · rename_i h1; cases h; exact ⟨_, _, _, h1⟩
  · cases h
structure R3 : Type 1 where
  l : List Int
  i : Int
  j : Nat
/-! An array of numbers, read at a place that is reckoned. -/
def Yne (kd : IntKind) (x i : Operand) : RM R3 := ev x fun a => ev i fun b => match a, b with
  | .agg cs, .sv (.int _ i) => aiL kd cs fun l => .ret ⟨l, i, 0⟩
  | _, _ => .fail
theorem Yk3 (hT : TOk P T) {t m d : Nat} {x ix : Operand} {kd : IntKind} {l : List Int} {i : Int} {ks : List Key} (hd : ∀ d, o.dst = some d → d < C.n) (ho : o.op = .index t x ix) (ht : Yh1 T t = some (m, kd)) (hr : (Yne kd x ix).run σ [] = some (⟨l, i, 0⟩, ks))
    (hdst : o.dst = some d) (hl : l.length = m) (hc : 0 ≤ i ∧ i < l.length) : Ykd P C o ⟨ks, [(d, .sv (.int kd (l.getD i.toNat 0)))], [], []⟩ σ := by
  intro τ ha hf a w ⟨μ, A, h⟩
  obtain ⟨e, n, b, z, ek, b', z', ek', h1, h2⟩ := Ybr ht
  obtain ⟨v, k1, hv, hr1⟩ := Xbm (Xgo hr ha)
  obtain ⟨u, k2, hu, hr2⟩ := Xbm hr1
  split at hr2
  · rename_i cs kx i'
    obtain ⟨ns, e1, hr2⟩ := Ydk hr2
    simp only [RM.run, Option.some.injEq, Prod.mk.injEq, R3.mk.injEq] at hr2
    obtain ⟨⟨rfl, rfl, _⟩, _⟩ := hr2
    have g1 := h.ev hv
    have g2 := Xb3 (h.ev hu)
    generalize hx : a.eval x = y at g1
    cases g1 with
    | agg _ vs hsz hall =>
      have hlt : i'.toNat < vs.size := by rw [hsz, e1, List.length_map]; omega
      have hcell := hall i'.toNat (.sv (.int kd (ns.getD i'.toNat 0))) vs[i'.toNat] (by rw [e1, List.getElem?_map]; simp [List.getD, show i'.toNat < ns.length by omega]) (Array.getElem?_eq_getElem hlt)
      have he := Xb3 hcell
      refine Xav (v := .sv (.int kd (ns.getD i'.toNat 0))) (u := .int kd (ns.getD i'.toNat 0)) (c := True) (ks := []) (ks' := []) h (by simp only [Xd8, hdst]; rfl) hd (fun _ => ?_) (fun _ => .sv (.int _ _)) trivial
      have hm : 0 ≤ i' ∧ i' < (m : Int) := by rw [← hl]; exact hc
      have hpart : (part e vs (i'.toNat * 1)).run P w = .ok (.int kd (ns.getD i'.toNat 0)) w := by
        unfold part
        simp only [Sem.run_bind, Yb1 hT h2, Result.andThen_ok, TI.isAgg, Nat.mul_one, Array.getElem?_eq_getElem hlt, Bool.false_eq_true, if_false, Sem.run_pure, he]
      simp only [execOp, ho, hx, g2, Instr.index, asIntOf, Sem.run_bind, Sem.run_pure, Result.andThen_ok, run_underlying (Yl6 hT h1), if_pos hm, Xbt hT h2, hpart]
  · cases hr2
theorem Ynv (hT : TOk P T) (hC : Xhh C n objs) {t m d : Nat} {x ix : Operand} {kd : IntKind} {li : List Int} {i : Int} {ks : List Key} (hg : o.guard = none) (ho : o.op = .index t x ix) (ht : Yh1 T t = some (m, kd)) (hr : (Yne kd x ix).get σ [] = some (⟨li, i, 0⟩, ks))
    (hdst : o.dst = some d) (hd : Ycj n o.dst = true) (hl : li.length = m) (hc : 0 ≤ i ∧ i < li.length)
    (k : Vc P C ops l (rs ++ [⟨ks, [(d, .sv (.int kd (li.getD i.toNat 0)))], [], []⟩]) (Rec.app ⟨ks, [(d, .sv (.int kd (li.getD i.toNat 0)))], [], []⟩ σ) K) : Vc P C ops (o :: l) rs σ K :=
  .cons _ (Xyf hg (Yk3 hT (Xll hC hd) ho ht (Xg0 hr) hdst hl hc)) (fun _ h => by simp at h) k
/-! A box of numbers, read at a place that is reckoned. -/
def Ynj (kd : IntKind) (x : Operand) : RM R3 := ev x fun
  | .ptr id off => .obj id fun
    | some (.box cells) => aiL kd cells fun l => .ret ⟨l, 0, off⟩
    | _ => .fail
  | _ => .fail
theorem Yk4 (hT : TOk P T) {t d : Nat} {x : Operand} {kd : IntKind} {l : List Int} {i : Nat} {ks : List Key} (hd : ∀ d, o.dst = some d → d < C.n) (ho : o.op = .load t x) (ht : Yjb T t = some kd) (hr : (Ynj kd x).run σ [] = some (⟨l, 0, i⟩, ks))
    (hdst : o.dst = some d) (hc : i < l.length) : Ykd P C o ⟨ks, [(d, .sv (.int kd (l.getD i 0)))], [], []⟩ σ := by
  intro τ ha hf a w ⟨μ, A, h⟩
  obtain ⟨b, z, ek, h1⟩ := Ybv ht
  obtain ⟨v, k1, hv, hr1⟩ := Xbm (Xgo hr ha)
  split at hr1
  · rename_i id off
    simp only [RM.run] at hr1
    split at hr1
    · rename_i cells hob
      obtain ⟨ns, e1, hr2⟩ := Ydk hr1
      simp only [RM.run, Option.some.injEq, Prod.mk.injEq, R3.mk.injEq] at hr2
      obtain ⟨⟨rfl, _, rfl⟩, _⟩ := hr2
      obtain ⟨g, cs, E, fr, hm, hg, hnf, hl, hcell⟩ := h.box hob
      have g1 := h.ev hv
      generalize hx : a.eval x = y at g1
      cases g1 with
      | ptr _ _ g' hm' =>
        rw [hm] at hm'
        injection hm' with e2
        injection e2 with e2
        injection e2 with e2
        subst e2
        have hdrop : ∃ tl, cells.drop off = .sv (.int kd (ns.getD off 0)) :: tl := by
          rw [e1, ← List.map_drop]
          refine ⟨(ns.drop (off + 1)).map (fun n => AV.sv (SV.int kd n)), ?_⟩
          rw [List.drop_eq_getElem_cons hc, List.map_cons]
          simp [List.getD, hc]
        obtain ⟨tl, htl⟩ := hdrop
        obtain ⟨u, hu, hrep⟩ := Xqh (P := P) (w := w) (g := g) (b := 0) (A := A) (μ := μ) (cells := cells) (off := off) (v := .sv (.int kd (ns.getD off 0))) hT h1 (fun j y hj => by
          have hlt : j < cs.size := by rw [hl]; exact (List.getElem?_eq_some_iff.1 hj).1
          refine ⟨cs[j], ?_, (hcell j y _ hj (Array.getElem?_eq_getElem hlt)).1⟩
          rw [cell_of_row w g _ cs E fr hg, Nat.zero_add]; exact Array.getElem?_eq_getElem hlt) (by simp only [Xpd, TI.isAgg, Bool.false_eq_true, if_false, htl])
        rw [Nat.zero_add] at hu
        have he := Xb3 hrep
        subst he
        refine Xav (v := .sv (.int kd (ns.getD off 0))) (u := .int kd (ns.getD off 0)) (c := True) (ks := []) (ks' := []) h (by simp only [Xd8, hdst]; rfl) hd (fun _ => ?_) (fun _ => .sv (.int _ _)) trivial
        simp [execOp, ho, hx, Instr.loadAt, Instr.sureAddr, hu]
    · simp [RM.run] at hr1
  · simp [RM.run] at hr1
theorem Ynx (hT : TOk P T) (hC : Xhh C n objs) {t d : Nat} {x : Operand} {kd : IntKind} {li : List Int} {i : Nat} {ks : List Key} (hg : o.guard = none) (ho : o.op = .load t x) (ht : Yjb T t = some kd) (hr : (Ynj kd x).get σ [] = some (⟨li, 0, i⟩, ks))
    (hdst : o.dst = some d) (hd : Ycj n o.dst = true) (hc : i < li.length)
    (k : Vc P C ops l (rs ++ [⟨ks, [(d, .sv (.int kd (li.getD i 0)))], [], []⟩]) (Rec.app ⟨ks, [(d, .sv (.int kd (li.getD i 0)))], [], []⟩ σ) K) : Vc P C ops (o :: l) rs σ K :=
  .cons _ (Xyf hg (Yk4 hT (Xll hC hd) ho ht (Xg0 hr) hdst hc)) (fun _ h => by simp at h) k
/-! A whole array as a row. -/
def Ynb (kd : IntKind) (x : Operand) : RM R3 := ev x fun
  | .ptr id 0 => .obj id fun
    | some (.box cells) => aiL kd cells fun l => .ret ⟨l, 0, id⟩
    | _ => .fail
  | _ => .fail
theorem Yk2 (hT : TOk P T) {t m d id : Nat} {x : Operand} {kd : IntKind} {l : List Int} {ks : List Key} (hd : ∀ d, o.dst = some d → d < C.n) (ho : o.op = .slice t x none none none) (ht : Yh1 T t = some (m, kd)) (hr : (Ynb kd x).run σ [] = some (⟨l, 0, id⟩, ks))
    (hdst : o.dst = some d) (hl : l.length = m) (hm : m ≤ maxLen) : Ykd P C o ⟨ks, [(d, .own (d * 16))], [(d * 16, some (.ints kd l)), (id, none)], [d * 16]⟩ σ := by
  intro τ ha hf a w ⟨μ, A, h⟩
  obtain ⟨e, n, b, z, ek, b', z', ek', h1, h2⟩ := Ybr ht
  obtain ⟨v, k1, hv, hr1⟩ := Xbm (Xgo hr ha)
  split at hr1
  · rename_i id' 
    simp only [RM.run] at hr1
    split at hr1
    · rename_i cells hob
      obtain ⟨ns, e1, hr2⟩ := Ydk hr1
      simp only [RM.run, Option.some.injEq, Prod.mk.injEq, R3.mk.injEq] at hr2
      obtain ⟨⟨rfl, _, rfl⟩, _⟩ := hr2
      obtain ⟨g, cs, E, fr, hmu, hg, hnf, hcl, hcell⟩ := h.box hob
      have g1 := h.ev hv
      generalize hx : a.eval x = y at g1
      cases g1 with
      | ptr _ _ g' hm' =>
        rw [hmu] at hm'
        injection hm' with e2
        injection e2 with e2
        injection e2 with e2
        subst e2
        have hfr := hf (d * 16) (by simp)
        have hdr := h.drop id'
        have hobr : Xjs w A (upd μ (d * 16) (.slice (some ⟨g, 0, none⟩) m m)) (.ints kd ns) (.slice (some ⟨g, 0, none⟩) m m) := by
          have hxl : (ns.map fun n => [SV.int kd n]).length = m := by rw [List.length_map]; exact hl
          have := Xjs.row (w := w) (A := A) (μ := upd μ (d * 16) (.slice (some ⟨g, 0, none⟩) m m)) (.ints kd ns) 1 (ns.map fun n => [SV.int kd n]) rfl trivial g 0 m cs E fr hg hnf (by omega) hm (by rw [hcl, e1, List.length_map]; omega) (fun x hx => by obtain ⟨n, _, rfl⟩ := List.mem_map.1 hx; rfl) ?_
          · rw [hxl] at this; exact this
          · intro i j x y hi hj
            rw [List.getElem?_map] at hi
            obtain ⟨q, hq, rfl⟩ := Option.map_eq_some_iff.1 hi
            cases j with
            | zero =>
              cases hj
              have hil := (List.getElem?_eq_some_iff.1 hq).1
              have hlt : i < cs.size := by rw [hcl, e1, List.length_map]; exact hil
              refine ⟨cs[i], by rw [Nat.zero_add, Nat.mul_one, Nat.add_zero]; exact Array.getElem?_eq_getElem hlt, ?_⟩
              have := (hcell i (.sv (.int kd q)) cs[i] (by rw [e1, List.getElem?_map, hq]; rfl) (Array.getElem?_eq_getElem hlt)).1
              cases this with | sv h => exact h
            | succ j => simp at hj
        have hnm := hdr.name (id := d * 16) (ob := .ints kd ns) (v := .slice (some ⟨g, 0, none⟩) m m)
          ⟨hfr.1.1, fun k ob hk => by rw [St.obj_setO] at hk; split at hk; · cases hk
                                      · exact hfr.1.2 k ob hk⟩ hfr.2
          (fun g' hg' => by
            cases hg'
            have hown : Xgb (μ id') = some g := by rw [hmu]; rfl
            refine ⟨(h.own id' _ g hob hown).1, (h.own id' _ g hob hown).2, fun k ob hk e => ?_⟩
            rw [St.obj_setO] at hk
            split at hk
            · cases hk
            · rename_i hne; exact h.sep id' k _ ob g hne hob hk hown e) hobr
        have hput := hnm.put (d := o.dst) (x := .own (d * 16)) (v := .slice (some ⟨g, 0, none⟩) m m) (by have := Rep.own (w := w) (A := A) (μ := upd μ (d * 16) (.slice (some ⟨g, 0, none⟩) m m)) (d * 16); rw [Xgx] at this; exact this) hd
        rw [hdst] at hput
        refine Xke (w' := w) (v := .slice (some ⟨g, 0, none⟩) m m) ?_ ⟨upd μ (d * 16) (.slice (some ⟨g, 0, none⟩) m m), A, ?_⟩
        · simp only [execOp, ho, hx, Option.map_none, Instr.sliceAt, Sem.run_bind, Sem.run_pure, run_underlying (Yl6 hT h1), Result.andThen_ok, Instr.sureAddr, Instr.sliceBounds, Xbt hT h2]
          simp [Xi5]
        · rw [hdst]; exact hput
    · simp [RM.run] at hr1
  · simp [RM.run] at hr1
theorem Ynu (hT : TOk P T) (hC : Xhh C n objs) {t m d id : Nat} {x : Operand} {kd : IntKind} {li : List Int} {ks : List Key} (hg : o.guard = none) (ho : o.op = .slice t x none none none) (ht : Yh1 T t = some (m, kd)) (hr : (Ynb kd x).get σ [] = some (⟨li, 0, id⟩, ks))
    (hdst : o.dst = some d) (hd : Ycj n o.dst = true) (hf : frs objs σ [d * 16] = true) (hl : li.length = m) (hm : Nat.ble m 1000 = true)
    (k : Vc P C ops l (rs ++ [⟨ks, [(d, .own (d * 16))], [(d * 16, some (.ints kd li)), (id, none)], [d * 16]⟩]) (Rec.app ⟨ks, [(d, .own (d * 16))], [(d * 16, some (.ints kd li)), (id, none)], [d * 16]⟩ σ) K) : Vc P C ops (o :: l) rs σ K :=
  .cons _ (Xyf hg (Yk2 hT (Xll hC hd) ho ht (Xg0 hr) hdst hl (Nat.le_trans (Nat.le_of_ble_eq_true hm) (by decide)))) (Xms hC hf) k
/-! Numbers are copied into a part of a row. -/
structure R6 : Type 1 where
  id : Nat
  off : Nat
  len : Nat
  l : List Int
  l' : List Int
  c : Prop
def Ync (kd : IntKind) (s x : Operand) : RM R6 := ev s fun a => ev x fun b => match a with
  | .sub id sz off len => if Nat.beq sz 1 then .obj id fun
    | some (.ints k l) => if k = kd then Yey kd b fun l' c => .ret ⟨id, off, len, l, l', c⟩ else .fail
    | _ => .fail else .fail
  | _ => .fail
def Yks (T : Nat → Option TI) (t : Nat) : Option IntKind := match T t with
  | some ⟨.slice e, _, _, _, _⟩ => Yjb T e
  | _ => none
theorem Yh5 {t : Nat} {k : IntKind} (h : Yks T t = some k) : ∃ e n b z ek b' z' ek', T t = some ⟨.slice e, n, b, z, ek⟩ ∧ T e = some ⟨.int k, 1, b', z', ek'⟩ := by
  unfold Yks at h
  split at h
  · rename_i h1
    obtain ⟨b', z', ek', h2⟩ := Ybv h
    exact ⟨_, _, _, _, _, _, _, _, h1, h2⟩
  · cases h
def over (l : List Int) (i : Nat) (m : List Int) : List Int := l.take i ++ m ++ l.drop (i + m.length)
theorem Xyk {l m : List Int} {i : Nat} (h : i + m.length ≤ l.length) : (over l i m).length = l.length := by
  simp only [over, List.length_append, List.length_take, List.length_drop]; omega
theorem Yhi {l m : List Int} {i : Nat} (h : i + m.length ≤ l.length) (j : Nat) : (over l i m)[j]? = if i ≤ j ∧ j < i + m.length then m[j - i]? else l[j]? := by
  unfold over
  have h1 : (l.take i).length = i := by rw [List.length_take]; omega
  rw [List.append_assoc, List.getElem?_append, h1]
  by_cases ha : j < i
  · rw [if_pos ha, if_neg (by omega), List.getElem?_take_of_lt ha]
  · rw [if_neg ha, List.getElem?_append]
    by_cases hb : j < i + m.length
    · rw [if_pos (by omega), if_pos (by omega)]
    · rw [if_neg (by omega), if_neg (by omega), List.getElem?_drop]
      congr 1; omega
theorem Yjg (hT : TOk P T) {t tx : Nat} {d id off len : Nat} {s x : Operand} {c : Call} {kd : IntKind} {li li' : List Int} {cd : Prop} {ks : List Key} (hd : ∀ d, o.dst = some d → d < C.n) (ho : o.op = .call c) (hcal : c.callee = .builtin .copy) (hty : c.argTypes = #[t, tx]) (hargs : c.args = #[s, x]) (ht : Yks T t = some kd)
    (hr : (Ync kd s x).run σ [] = some (⟨id, off, len, li, li', cd⟩, ks)) (hdst : o.dst = some d) (hc : (cd ∧ off + len ≤ li.length) ∧ li'.length ≤ len) : Ykd P C o ⟨ks, [(d, .sv (.int .i64 (li'.length : Int)))], [(id, some (.ints kd (over li off li')))], []⟩ σ := by
  intro τ ha hf a w ⟨μ, A, h⟩
  obtain ⟨e, n, b, z, ek, b', z', ek', h1, h2⟩ := Yh5 ht
  obtain ⟨v, k1, hv, hr1⟩ := Xbm (Xgo hr ha)
  obtain ⟨u, k2, hu, hr2⟩ := Xbm hr1
  obtain ⟨⟨hcd, hle⟩, hlen⟩ := hc
  split at hr2
  · rename_i id' sz off' len'
    split at hr2
    · rename_i hsz
      have hsz := Nat.eq_of_beq_eq_true hsz
      subst hsz
      simp only [RM.run] at hr2
      split at hr2
      · rename_i kd' l0 hob
        split at hr2
        · rename_i hk
          subst hk
          obtain ⟨l2, c2, k3, hr3, hapd⟩ := Xtx (P := P) h (h.ev hu) hr2
          simp only [RM.run, Option.some.injEq, Prod.mk.injEq, R6.mk.injEq] at hr3
          obtain ⟨⟨rfl, rfl, rfl, rfl, rfl, rfl⟩, _⟩ := hr3
          obtain ⟨news, n1, n2, n3, n4, n5, n6⟩ := hapd hcd
          rw [List.length_map, Nat.mul_one] at n1
          have g1 := h.ev hv
          generalize hx : a.eval s = y at g1
          cases g1 with
          | sub _ _ _ _ ad0 ad nn cap cap' hm hc1 hc2 hada hadz =>
            have hexec : ∀ {v' : Value} {w' : World}, (Builtin.copy_ #[t, tx] o.type #[a.eval s, a.eval x]).run P w = .ok v' w' → (execOp a.eval o).run P w = .ok (.value v') w' := by
              intro v' w' hh
              simp [execOp, ho, resolve, hcal, invoke, hty, hargs, builtin, hh]
            have hlo : (Builtin.lenOf (a.eval x)).run P w = .ok l2.length w := by have := n4 w; rwa [List.length_map] at this
            have hfc : (Builtin.firstCells 1 l2.length (a.eval x)).run P w = .ok news.toArray w := by have := n3 w (fun _ _ => rfl); rwa [List.length_map] at this
            have hmin : Nat.min l2.length len' = l2.length := Nat.min_eq_left hlen
            by_cases hne : l2 = []
            · subst hne
              have hnews : news = [] := List.eq_nil_of_length_eq_zero (by simpa using n1)
              subst hnews
              have hov : over l0 off' [] = l0 := by simp [over]
              rw [hov]
              refine Xke (w' := w) (v := .int .i64 0) (hexec ?_) ⟨μ, A, ?_⟩
              · rw [hx]
                simp only [List.length_nil] at hlo hfc hmin
                cases ad with
                | none => simp [Builtin.copy_, run_underlying (Xgy hT h1), hlo, Xbt hT h2, hmin, hfc, goInt]
                | some ad => simp [Builtin.copy_, run_underlying (Xgy hT h1), hlo, Xbt hT h2, hmin, hfc, goInt, storeCells]
              · have hp := h.put (d := o.dst) (x := .sv (.int .i64 0)) (v := .int .i64 0) (.sv (.int _ _)) hd
                rw [hdst] at hp ⊢
                refine hp.weaken (fun t v hv => .inl hv) fun k ob hk => ?_
                have hk' : (τ.setO id' (some (.ints kd' l0))).obj k = some ob := hk
                rw [St.obj_setO] at hk'
                show τ.obj k = some ob
                split at hk'
                · rename_i e; subst e; cases hk'; exact hob
                · exact hk'
            · have hpos : 0 < l2.length := List.length_pos_iff.2 hne
              obtain ⟨g0, o0, e1, e2⟩ := hada (by omega)
              rcases Xf2 (h.objs id' _ hob) (sz := 1) (xs := l0.map fun n => [SV.int kd' n]) rfl with ⟨hnil, hn0⟩ | ⟨g, o2, capx, cur, E, fr, hm2, hg, hnf, hxc, hcm, hs, hxl, hcell⟩
              · rw [hm, e1] at hnil; cases hnil
              · rw [hm, e1] at hm2
                injection hm2 with e3 e4 e5
                injection e3 with e3
                injection e3 with e3 e6
                subst e3; subst e6; subst e5
                rw [e2] at hx
                rw [List.length_map] at hxc
                have hown : Xgb (μ id') = some g0 := by rw [hm, e1]; rfl
                have hb : o0 + off' * 1 + news.length ≤ cur.size := by omega
                have hst := Xf3 (P := P) g0 (o0 + off' * 1) E fr news 0 cur w hg hnf (by omega) n2
                simp only [Nat.add_zero] at hst
                have hA := Yes h hob hown (cur.toList.take (o0 + off' * 1) ++ news ++ cur.toList.drop (o0 + off' * 1 + news.length)).toArray
                have hw := h.write hob hown (Xxh w g0 (cur.toList.take (o0 + off' * 1) ++ news ++ cur.toList.drop (o0 + off' * 1 + news.length)).toArray) (ob' := .ints kd' (over l0 off' l2)) (by
                  rw [hm, e1]
                  have hol : (over l0 off' l2).length = l0.length := Xyk (by omega)
                  have := Xjs.row (w := w.setRow g0 (cur.toList.take (o0 + off' * 1) ++ news ++ cur.toList.drop (o0 + off' * 1 + news.length)).toArray) (A := A) (μ := μ) (.ints kd' (over l0 off' l2)) 1 ((over l0 off' l2).map fun n => [SV.int kd' n]) rfl trivial g0 o0 cap _ E fr (setRow_heap w g0 cur _ E fr hg)
                    (fun k hk => hnf k (by rwa [Xff _ _ _ hb] at hk)) (by rw [List.length_map, hol]; exact hxc) hcm (by rw [Xff _ _ _ hb]; exact hs) (fun z hz => by obtain ⟨q, _, rfl⟩ := List.mem_map.1 hz; rfl) ?_
                  · rw [List.length_map, hol] at this
                    rw [List.length_map] at e4
                    rw [e4]; exact this
                  · intro i j z v hz hv'
                    rw [List.getElem?_map] at hz
                    obtain ⟨q, hq, rfl⟩ := Option.map_eq_some_iff.1 hz
                    cases j with
                    | succ j => simp at hv'
                    | zero =>
                      cases hv'
                      rw [Yhi (by omega)] at hq
                      rw [Xop _ _ _ hb]
                      by_cases hin : off' ≤ i ∧ i < off' + l2.length
                      · rw [if_pos hin] at hq
                        rw [if_pos (by omega)]
                        obtain ⟨v, hv1, hr1⟩ := n6 (i - off') 0 [SV.int kd' q] (.int kd' q) (by rw [List.getElem?_map, hq]; rfl) rfl
                        refine ⟨v, ?_, hr1.frame (fun _ h => h) hA⟩
                        rw [← hv1]; congr 1; omega
                      · rw [if_neg hin] at hq
                        rw [if_neg (by omega)]
                        obtain ⟨v, hv1, hr1⟩ := hcell i 0 [SV.int kd' q] (.int kd' q) (by rw [List.getElem?_map, hq]; rfl) rfl
                        exact ⟨v, hv1, hr1.frame (fun _ h => h) hA⟩)
                have hp := hw.put (d := o.dst) (x := .sv (.int .i64 (l2.length : Int))) (v := .int .i64 (l2.length : Int)) (.sv (.int _ _)) hd
                rw [hdst] at hp
                refine Xke (w' := w.setRow g0 (cur.toList.take (o0 + off' * 1) ++ news ++ cur.toList.drop (o0 + off' * 1 + news.length)).toArray) (v := .int .i64 (l2.length : Int)) (hexec ?_) ⟨μ, A, ?_⟩
                · rw [hx]
                  simp only [Nat.mul_one] at hst ⊢
                  simp [Builtin.copy_, run_underlying (Xgy hT h1), hlo, Xbt hT h2, hmin, hfc, goInt, hst]
                · rw [hdst]; exact hp
        · simp [RM.run] at hr2
      · simp [RM.run] at hr2
    · simp [RM.run] at hr2
  · cases hr2
theorem Yl4 (hT : TOk P T) (hC : Xhh C n objs) {t tx d id off len : Nat} {s x : Operand} {c : Call} {kd : IntKind} {li li' : List Int} {cd : Prop} {ks : List Key} (hg : o.guard = none) (ho : o.op = .call c) (hcal : c.callee = .builtin .copy) (hty : c.argTypes = #[t, tx]) (hargs : c.args = #[s, x]) (ht : Yks T t = some kd)
    (hr : (Ync kd s x).get σ [] = some (⟨id, off, len, li, li', cd⟩, ks)) (hdst : o.dst = some d) (hd : Ycj n o.dst = true) (hc : (cd ∧ off + len ≤ li.length) ∧ li'.length ≤ len)
    (k : Vc P C ops l (rs ++ [⟨ks, [(d, .sv (.int .i64 (li'.length : Int)))], [(id, some (.ints kd (over li off li')))], []⟩]) (Rec.app ⟨ks, [(d, .sv (.int .i64 (li'.length : Int)))], [(id, some (.ints kd (over li off li')))], []⟩ σ) K) : Vc P C ops (o :: l) rs σ K :=
  .cons _ (Xyf hg (Yjg hT (Xll hC hd) ho hcal hty hargs ht (Xg0 hr) hdst hc)) (fun _ h => by simp at h) k
end
end Go.Proofs.YtlebkepfhdjnmadGreatAL
