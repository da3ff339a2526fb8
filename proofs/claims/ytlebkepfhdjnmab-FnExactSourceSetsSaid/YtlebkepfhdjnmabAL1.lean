/- An abstract logic for Go functions, part 1: what a state of symbolic values and objects says of a world, and what each operation does to it. Conditions: as each statement tells. -/
import Derived.Below
import Derived.ChangeArms
import Derived.ChangeShapes
import Derived.Deep.Slices
import Derived.Laws.StructEq
import Derived.Orders
import Derived.Tactics
import Derived.WideShapes
import Derived.Test.YtlebkepfhdjnmabAL0
set_option linter.unusedSimpArgs false
/- An abstract logic for Go functions: statements whose order is open. Conditions: as each statement tells. -/
namespace Go.Proofs.YtlebkepfhdjnmabAL
open Go.RowKit
set_option linter.unusedVariables false

def Xkv (b : Nat → Bool) : Nat → List Rec → St → St
  | _, [], σ => σ
  | i, r :: rs, σ => Xkv b (i + 1) rs (bif b i then r.app σ else σ)
def Xoc {β : Type 1} (f : Rec → List (Nat × β)) (b : Nat → Bool) : Nat → List Rec → Nat → Option β
  | _, [], _ => none
  | i, r :: rs, t => (Xoc f b (i + 1) rs t).or (bif b i then lk (f r) t else none)
theorem Xuo {β : Type 1} (l l' : List (Nat × β)) (t : Nat) : lk (l ++ l') t = (lk l t).or (lk l' t) := by
  rw [Xs2]; cases lk l t <;> rfl
theorem Xtd (b : Nat → Bool) : ∀ (rs : List Rec) (i : Nat) (σ : St) (t : Nat), lk (Xkv b i rs σ).s t = (Xoc Rec.sl b i rs t).or (lk σ.s t)
  | [], i, σ, t => rfl
  | r :: rs, i, σ, t => by
    rw [Xkv, Xtd b rs (i + 1), Xoc, Option.or_assoc]
    congr 1
    cases hb : b i with
    | true => simp only [cond_true, Rec.app]; rw [Xuo]
    | false => rfl
theorem Xtc (b : Nat → Bool) : ∀ (rs : List Rec) (i : Nat) (σ : St) (t : Nat), lk (Xkv b i rs σ).o t = (Xoc Rec.ob b i rs t).or (lk σ.o t)
  | [], i, σ, t => rfl
  | r :: rs, i, σ, t => by
    rw [Xkv, Xtc b rs (i + 1), Xoc, Option.or_assoc]
    congr 1
    cases hb : b i with
    | true => simp only [cond_true, Rec.app]; rw [Xuo]
    | false => rfl
theorem Xiz {β : Type 1} (f : Rec → List (Nat × β)) {b b' : Nat → Bool} {t : Nat} : ∀ (rs : List Rec) (i : Nat), (∀ (j : Nat) (r : Rec), rs[j]? = some r → (lk (f r) t).isSome = true → b (i + j) = b' (i + j)) → Xoc f b i rs t = Xoc f b' i rs t
  | [], i, _ => rfl
  | r :: rs, i, h => by
    have ih := Xiz (t := t) f rs (i + 1) (fun j r' hj hs => by
      have h1 := h (j + 1) r' (by simpa using hj) hs
      exact (show i + (j + 1) = i + 1 + j by omega) ▸ h1)
    rw [Xoc, Xoc, ih]
    have h0 := h 0 r rfl
    simp only [Nat.add_zero] at h0
    congr 1
    cases hs : lk (f r) t with
    | none => cases b i <;> cases b' i <;> rfl
    | some v => rw [h0 (by rw [hs]; rfl)]
theorem Xsz {β : Type 1} (f : Rec → List (Nat × β)) {b : Nat → Bool} {t : Nat} : ∀ (rs : List Rec) (i : Nat), (∀ (j : Nat) (r : Rec), rs[j]? = some r → b (i + j) = true → lk (f r) t = none) → Xoc f b i rs t = none
  | [], i, _ => rfl
  | r :: rs, i, h => by
    rw [Xoc, Xsz f rs (i + 1) (fun j r' hj hb => h (j + 1) r' (by simpa using hj) (by rwa [show i + (j + 1) = i + 1 + j by omega]))]
    cases hb : b i with
    | false => rfl
    | true => simpa using h 0 r rfl (by simpa using hb)
theorem Xwm {β : Type 1} (f : Rec → List (Nat × β)) {b : Nat → Bool} {t : Nat} : ∀ (rs : List Rec) (i m : Nat) (r : Rec), rs[m]? = some r → b (i + m) = true → (lk (f r) t).isSome = true → (∀ (j : Nat) (r' : Rec), m < j → rs[j]? = some r' → b (i + j) = true → lk (f r') t = none) → Xoc f b i rs t = lk (f r) t
  | [], i, m, r, hm, _, _, _ => by simp at hm
  | r0 :: rs, i, 0, r, hm, hb, hs, h => by
    simp at hm; subst hm
    rw [Xoc, Xsz f rs (i + 1) (fun j r' hj hb' => h (j + 1) r' (by omega) (by simpa using hj) (by rwa [show i + (j + 1) = i + 1 + j by omega]))]
    simp only [Nat.add_zero] at hb
    rw [hb]; rfl
  | r0 :: rs, i, m + 1, r, hm, hb, hs, h => by
    rw [Xoc, Xwm f rs (i + 1) m r (by simpa using hm) (by rwa [show i + 1 + m = i + (m + 1) by omega]) hs (fun j r' hj hr' hb' => h (j + 1) r' (by omega) (by simpa using hr') (by rwa [show i + (j + 1) = i + 1 + j by omega]))]
    obtain ⟨v, hv⟩ := Option.isSome_iff_exists.1 hs
    rw [hv]; rfl
theorem Xrc {β : Type 1} (f : Rec → List (Nat × β)) {b : Nat → Bool} {t : Nat} {v : β} : ∀ (rs : List Rec) (i : Nat), Xoc f b i rs t = some v → ∃ (j : Nat) (r : Rec), rs[j]? = some r ∧ b (i + j) = true ∧ lk (f r) t = some v
  | [], i, h => by simp [Xoc] at h
  | r :: rs, i, h => by
    rw [Xoc] at h
    cases hl : Xoc f b (i + 1) rs t with
    | some u =>
      rw [hl] at h; cases h
      obtain ⟨j, r', h1, h2, h3⟩ := Xrc f rs (i + 1) hl
      exact ⟨j + 1, r', by simpa using h1, by rwa [show i + (j + 1) = i + 1 + j by omega], h3⟩
    | none =>
      rw [hl] at h
      cases hb : b i with
      | false => rw [hb] at h; cases h
      | true => rw [hb] at h; exact ⟨0, r, rfl, hb, h⟩

/-! ### What may be exchanged -/
def inN (t : Nat) : List Nat → Bool
  | [] => false
  | x :: l => Nat.beq x t || inN t l
theorem Xfc {t : Nat} : ∀ {l : List Nat}, inN t l = true ↔ t ∈ l
  | [] => by simp [inN]
  | x :: l => by
    rw [inN, Bool.or_eq_true, Xfc (l := l), List.mem_cons]
    exact ⟨fun h => h.imp (fun e => (Nat.eq_of_beq_eq_true e).symm) id, fun h => h.imp (fun e => by rw [e]; exact Nat.beq_refl x) id⟩
def Xfe (o : Oper) : List Nat := (o.after.toList.filter (fun e => Region.binds .any e)).map (fun e => e.on)
def Yaq (d : Nat) (l : List Nat) : List Nat := bif inN d l then l else d :: l
def Xwl : List Nat → List Nat → List Nat
  | [], m => m
  | x :: l, m => Xwl l (Yaq x m)
theorem Xut {d k : Nat} {l : List Nat} (h : k ∈ Yaq d l) : k = d ∨ k ∈ l := by
  unfold Yaq at h
  cases e : inN d l with
  | true => rw [e] at h; exact .inr h
  | false => rw [e] at h; exact List.mem_cons.1 h
theorem Xqh {k : Nat} : ∀ {l m : List Nat}, k ∈ Xwl l m → k ∈ l ∨ k ∈ m
  | [], m, h => .inr h
  | x :: l, m, h => by
    rcases Xqh (l := l) h with h | h
    · exact .inl (List.mem_cons_of_mem _ h)
    · rcases Xut h with rfl | h
      · exact .inl (List.mem_cons_self ..)
      · exact .inr h
def Xp9 : List (List Nat) → List Nat → List Nat
  | anc, [] => []
  | anc, d :: l => Yaq d (Xwl (anc.getD d []) (Xp9 anc l))
def Xob : List Oper → List (List Nat) → List (List Nat)
  | [], anc => anc
  | o :: l, anc => Xob l (anc ++ [Xp9 anc (Xfe o)])
def Xqi {β : Type 1} (t : Nat) : List (Nat × β) → Bool
  | [] => true
  | p :: l => !Nat.beq p.1 t && Xqi t l
def Xf6 (ks : List Key) (r : Rec) : Bool :=
  match ks with
  | [] => true
  | .s t :: l => Xqi t r.sl && Xf6 l r
  | .o id :: l => Xqi id r.ob && Xf6 l r
def Xfm {β : Type 1} : List (Nat × β) → List (Nat × β) → Bool
  | [], _ => true
  | p :: l, m => Xqi p.1 m && Xfm l m
def Xvr (id : Nat) : List (Nat × AV) → Bool
  | [] => false
  | p :: l => p.2.has id || Xvr id l
def Xvk (id : Nat) : List (Nat × Option Obj) → Bool
  | [] => false
  | p :: l => (match p.2 with | some ob => ob.has id | none => false) || Xvk id l
def Xf4 : List Nat → Rec → Bool
  | [], _ => true
  | id :: l, r => !Xvr id r.sl && !Xvk id r.ob && Xf4 l r
def Xio (r r' : Rec) : Bool := Xf6 r.rd r' && Xf6 r'.rd r && Xfm r.sl r'.sl && Xfm r.ob r'.ob
def Xs9 (anc : List (List Nat)) (i : Nat) (r : Rec) (j : Nat) (r' : Rec) : Bool :=
  (inN i (anc.getD j []) || Xf4 r.nw r') && (inN j (anc.getD i []) || Xf4 r'.nw r) && (inN i (anc.getD j []) || inN j (anc.getD i []) || Xio r r')
def Xwx (anc : List (List Nat)) (i : Nat) (r : Rec) : Nat → List Rec → Bool
  | _, [] => true
  | j, r' :: l => Xs9 anc i r j r' && Xwx anc i r (j + 1) l
def Xv2 (anc : List (List Nat)) : Nat → List Rec → Bool
  | _, [] => true
  | i, r :: l => Xwx anc i r (i + 1) l && Xv2 anc (i + 1) l
def Xiq : Nat → List Oper → Bool
  | _, [] => true
  | i, o :: l => (Xfe o).all (fun d => Nat.blt d i) && Xiq (i + 1) l
def Xv9 (σ : St) : List Rec → Bool
  | [] => true
  | r :: l => Xf4 r.nw ⟨[], σ.s, σ.o, []⟩ && Xv9 σ l
def Xce (ops : List Oper) (rs : List Rec) (σ : St) : Bool := Nat.beq rs.length ops.length && Xiq 0 ops && Xv2 (Xob ops []) 0 rs && Xv9 σ rs

theorem Xly {β : Type 1} {t : Nat} : ∀ {l : List (Nat × β)}, Xqi t l = true → lk l t = none
  | [], _ => rfl
  | (k, v) :: l, h => by
    rw [Xqi, Bool.and_eq_true] at h
    rw [Xan, if_neg, Xly h.2]
    intro e; subst e; simp at h
theorem Xg6 {r : Rec} : ∀ {ks : List Key}, Xf6 ks r = true → ∀ k ∈ ks, match k with | .s t => lk r.sl t = none | .o id => lk r.ob id = none
  | [], _, k, hk => by simp at hk
  | .s t :: l, h, k, hk => by
    rw [Xf6, Bool.and_eq_true] at h
    rcases List.mem_cons.1 hk with rfl | hk
    · exact Xly h.1
    · exact Xg6 h.2 k hk
  | .o id :: l, h, k, hk => by
    rw [Xf6, Bool.and_eq_true] at h
    rcases List.mem_cons.1 hk with rfl | hk
    · exact Xly h.1
    · exact Xg6 h.2 k hk
theorem Xkt {β : Type 1} {m : List (Nat × β)} {t : Nat} : ∀ {l : List (Nat × β)}, Xfm l m = true → (lk l t).isSome = true → lk m t = none
  | [], _, h => by simp [lk] at h
  | (k, v) :: l, h, hs => by
    rw [Xfm, Bool.and_eq_true] at h
    rw [Xan] at hs
    by_cases e : k = t
    · subst e; exact Xly h.1
    · rw [if_neg e] at hs; exact Xkt h.2 hs
theorem Xr3 {id t : Nat} {v : AV} : ∀ {l : List (Nat × AV)}, Xvr id l = false → lk l t = some v → v.has id = false
  | [], _, h => by simp [lk] at h
  | (k, u) :: l, h, hv => by
    rw [Xvr, Bool.or_eq_false_iff] at h
    rw [Xan] at hv
    split at hv
    · cases hv; exact h.1
    · exact Xr3 h.2 hv
theorem Xru {id t : Nat} {ob : Obj} : ∀ {l : List (Nat × Option Obj)}, Xvk id l = false → lk l t = some (some ob) → ob.has id = false
  | [], _, h => by simp [lk] at h
  | (k, u) :: l, h, hv => by
    rw [Xvk, Bool.or_eq_false_iff] at h
    rw [Xan] at hv
    split at hv
    · cases hv; exact h.1
    · exact Xru h.2 hv
theorem Xf5 {r : Rec} {id : Nat} : ∀ {l : List Nat}, Xf4 l r = true → id ∈ l → Xvr id r.sl = false ∧ Xvk id r.ob = false
  | [], _, h => by simp at h
  | x :: l, h, hm => by
    rw [Xf4, Bool.and_eq_true, Bool.and_eq_true] at h
    rcases List.mem_cons.1 hm with rfl | hm
    · exact ⟨by simpa using h.1.1, by simpa using h.1.2⟩
    · exact Xf5 h.2 hm
theorem Xuz {anc : List (List Nat)} {i : Nat} {r : Rec} : ∀ {l : List Rec} {n j : Nat} {r' : Rec}, Xwx anc i r n l = true → l[j]? = some r' → Xs9 anc i r (n + j) r' = true
  | [], n, j, r', _, h => by simp at h
  | x :: l, n, 0, r', h, hj => by rw [Xwx, Bool.and_eq_true] at h; simp at hj; subst hj; exact h.1
  | x :: l, n, j + 1, r', h, hj => by rw [Xwx, Bool.and_eq_true] at h; have := Xuz h.2 (show l[j]? = some r' by simpa using hj); rwa [show n + (j + 1) = n + 1 + j by omega]
theorem Xqr {anc : List (List Nat)} : ∀ {l : List Rec} {n i j : Nat} {r r' : Rec}, Xv2 anc n l = true → l[i]? = some r → l[j]? = some r' → i < j → Xs9 anc (n + i) r (n + j) r' = true
  | [], n, i, j, r, r', _, h, _, _ => by simp at h
  | x :: l, n, 0, j, r, r', h, hi, hj, hij => by
    rw [Xv2, Bool.and_eq_true] at h
    simp at hi; subst hi
    obtain ⟨k, rfl⟩ : ∃ k, j = k + 1 := ⟨j - 1, by omega⟩
    have := Xuz h.1 (show l[k]? = some r' by simpa using hj)
    rwa [show n + (k + 1) = n + 1 + k by omega]
  | x :: l, n, i + 1, j, r, r', h, hi, hj, hij => by
    rw [Xv2, Bool.and_eq_true] at h
    obtain ⟨k, rfl⟩ : ∃ k, j = k + 1 := ⟨j - 1, by omega⟩
    have := Xqr h.2 (show l[i]? = some r by simpa using hi) (show l[k]? = some r' by simpa using hj) (by omega)
    rwa [show n + (i + 1) = n + 1 + i by omega, show n + (k + 1) = n + 1 + k by omega]
end Go.Proofs.YtlebkepfhdjnmabAL
/- An abstract logic for Go functions: whatever order a statement takes, it comes to the same. Conditions: as each statement tells. -/
namespace Go.Proofs.YtlebkepfhdjnmabAL
open Go.RowKit
set_option linter.unusedVariables false

def Xt8 : List Rec → St → St
  | [], σ => σ
  | r :: rs, σ => Xt8 rs (r.app σ)
theorem Xqn {b : Nat → Bool} : ∀ (rs : List Rec) (n : Nat) (σ : St), (∀ j, n ≤ j → b j = false) → Xkv b n rs σ = σ
  | [], _, _, _ => rfl
  | r :: rs, n, σ, h => by rw [Xkv, h n (Nat.le_refl _)]; exact Xqn rs (n + 1) σ (fun j hj => h j (by omega))
theorem Xte {b : Nat → Bool} : ∀ (rs : List Rec) (n i : Nat) (σ : St), (∀ j, b j = decide (j < n + i)) → Xkv b n rs σ = Xt8 (rs.take i) σ
  | [], n, i, σ, h => by simp [Xkv, Xt8]
  | r :: rs, n, 0, σ, h => by rw [Xqn (r :: rs) n σ (fun j hj => by rw [h]; simp; omega)]; rfl
  | r :: rs, n, i + 1, σ, h => by
    rw [Xkv, h n, decide_eq_true (by omega)]
    exact Xte rs (n + 1) i (r.app σ) (fun j => by rw [h]; congr 1; rw [show n + (i + 1) = n + 1 + i by omega])
theorem Xu3 {b : Nat → Bool} : ∀ (rs : List Rec) (n : Nat) (σ : St), (∀ j, n ≤ j → j < n + rs.length → b j = true) → Xkv b n rs σ = Xt8 rs σ
  | [], _, _, _ => rfl
  | r :: rs, n, σ, h => by
    rw [Xkv, h n (Nat.le_refl _) (by simp)]
    exact Xu3 rs (n + 1) (r.app σ) (fun j h1 h2 => h j (by omega) (by simp; omega))

section
variable {P : Program} {C : Ctx} {opsA : Array Oper}
theorem Xw7 : ∀ {l : List Oper} {rs0 : List Rec} {σ : St} {K : List Rec → St → Prop}, Vc P C opsA l rs0 σ K →
    ∃ rs, rs.length = l.length ∧ K (rs0 ++ rs) (Xt8 rs σ) ∧ ∀ (i : Nat) (o : Oper) (r : Rec), l[i]? = some o → rs[i]? = some r → Loc P C opsA o r (Xt8 (rs.take i) σ) ∧ Xea C r.nw (Xt8 (rs.take i) σ)
  | _, rs0, σ, K, .nil h => ⟨[], rfl, by simpa [Xt8] using h, fun i o r hi => by simp at hi⟩
  | _, rs0, σ, K, .cons (o := o) (l := l) r h hf hk => by
    obtain ⟨rs, h1, h2, h3⟩ := Xw7 hk
    refine ⟨r :: rs, by simp [h1], by simpa [Xt8, List.append_assoc] using h2, fun i o' r' ho hr => ?_⟩
    cases i with
    | zero => simp at ho hr; subst ho; subst hr; exact ⟨h, hf⟩
    | succ i => exact h3 i o' r' (by simpa using ho) (by simpa using hr)

theorem Xm6 {anc : List (List Nat)} {k : Nat} : ∀ {l : List Nat}, k ∈ Xp9 anc l → ∃ d ∈ l, k = d ∨ k ∈ anc.getD d []
  | [], h => by simp [Xp9] at h
  | d :: l, h => by
    rw [Xp9] at h
    rcases Xut h with rfl | h
    · exact ⟨k, by simp, .inl rfl⟩
    · rcases Xqh h with h | h
      · exact ⟨d, by simp, .inr h⟩
      · obtain ⟨d', h1, h2⟩ := Xm6 h
        exact ⟨d', by simp [h1], h2⟩
theorem Xt7 : ∀ (l : List Oper) (anc : List (List Nat)), ∃ m, Xob l anc = anc ++ m ∧ m.length = l.length
  | [], anc => ⟨[], by simp [Xob], rfl⟩
  | o :: l, anc => by
    obtain ⟨m, h, hl⟩ := Xt7 l (anc ++ [Xp9 anc (Xfe o)])
    exact ⟨Xp9 anc (Xfe o) :: m, by rw [Xob, h]; simp, by simp [hl]⟩
theorem Xtm : ∀ (l : List Oper) (anc : List (List Nat)) (j : Nat) (o : Oper), l[j]? = some o → (Xob l anc).getD (anc.length + j) [] = Xp9 ((Xob l anc).take (anc.length + j)) (Xfe o)
  | [], anc, j, o, h => by simp at h
  | o0 :: l, anc, 0, o, h => by
    simp at h; subst h
    obtain ⟨m, hm, _⟩ := Xt7 l (anc ++ [Xp9 anc (Xfe o0)])
    rw [Xob, hm]
    simp [List.getD]
  | o0 :: l, anc, j + 1, o, h => by
    have := Xtm l (anc ++ [Xp9 anc (Xfe o0)]) j o (by simpa using h)
    rw [Xob]
    simpa [Nat.add_assoc, Nat.add_comm 1 j] using this
theorem Xgh : ∀ {l : List Oper} {n i : Nat} {o : Oper}, Xiq n l = true → l[i]? = some o → ∀ d ∈ Xfe o, d < n + i
  | [], n, i, o, _, h => by simp at h
  | o0 :: l, n, 0, o, hb, h => by
    rw [Xiq, Bool.and_eq_true] at hb
    simp at h; subst h
    intro d hd
    have := List.all_eq_true.1 hb.1 d hd
    simpa [Nat.blt_eq] using this
  | o0 :: l, n, i + 1, o, hb, h => by
    rw [Xiq, Bool.and_eq_true] at hb
    intro d hd
    have := Xgh hb.2 (show l[i]? = some o by simpa using h) d hd
    omega

theorem Xyf {l : List Oper} (hb : Xiq 0 l = true) : ∀ (j : Nat), j < l.length → ∀ k ∈ (Xob l []).getD j [], k < j := by
  intro j
  induction j using Nat.strongRecOn with
  | _ j ih =>
    intro hj k hk
    have ho : l[j]? = some l[j] := List.getElem?_eq_getElem hj
    have e := Xtm l [] j _ ho
    simp only [List.length_nil, Nat.zero_add] at e
    rw [e] at hk
    obtain ⟨d, hd, h⟩ := Xm6 hk
    have hdj := Xgh hb ho d hd
    rw [Nat.zero_add] at hdj
    rcases h with rfl | h
    · exact hdj
    · have h' : k ∈ (Xob l []).getD d [] := by
        rw [List.getD_eq_getElem?_getD, List.getElem?_take_of_lt hdj, ← List.getD_eq_getElem?_getD] at h
        exact h
      have := ih d hdj (by omega) k h'
      omega
theorem Xye {l : List Oper} (hb : Xiq 0 l = true) {b : Nat → Bool} (hc : ∀ (j : Nat) (o : Oper), l[j]? = some o → b j = true → ∀ d ∈ Xfe o, b d = true) : ∀ (j : Nat) (o : Oper), l[j]? = some o → (∀ d ∈ Xfe o, b d = true) → ∀ k ∈ (Xob l []).getD j [], b k = true := by
  intro j
  induction j using Nat.strongRecOn with
  | _ j ih =>
    intro o ho hn k hk
    have e := Xtm l [] j _ ho
    simp only [List.length_nil, Nat.zero_add] at e
    rw [e] at hk
    obtain ⟨d, hd, h⟩ := Xm6 hk
    have hdj := Xgh hb ho d hd
    rw [Nat.zero_add] at hdj
    rcases h with rfl | h
    · exact hn k hd
    · have h' : k ∈ (Xob l []).getD d [] := by
        rw [List.getD_eq_getElem?_getD, List.getElem?_take_of_lt hdj, ← List.getD_eq_getElem?_getD] at h
        exact h
      have hdl : d < l.length := by have := (List.getElem?_eq_some_iff.1 ho).1; omega
      exact ih d hdj l[d] (List.getElem?_eq_getElem hdl) (hc d _ (List.getElem?_eq_getElem hdl) (hn d hd)) k h'

def Eqv (σ τ : St) : Prop := (∀ t, lk σ.s t = lk τ.s t) ∧ ∀ t, lk σ.o t = lk τ.o t
theorem Rel.eqv {σ τ : St} {a : Act} {w : World} (h : Rel C σ a w) (he : Eqv σ τ) : Rel C τ a w := by
  obtain ⟨μ, A, h⟩ := h
  exact ⟨μ, A, h.weaken (fun t v hv => .inl (by rw [he.1]; exact hv)) fun id ob hb => by unfold St.obj at hb ⊢; rw [he.2]; exact hb⟩

def Xsf (b : Nat → Bool) (i : Nat) : Nat → Bool := fun j => if j = i then true else b j
section
variable {l : List Oper} {rs : List Rec} {σ0 : St} {b : Nat → Bool} {i : Nat} {o : Oper} {r : Rec}

theorem Xlv (hfree : Xce l rs σ0 = true) {i j : Nat} {r r' : Rec} (hi : rs[i]? = some r) (hj : rs[j]? = some r') (hij : i < j) (hn : i ∉ (Xob l []).getD j []) : Xio r r' = true ∧ Xf4 r.nw r' = true := by
  unfold Xce at hfree
  rw [Bool.and_eq_true, Bool.and_eq_true, Bool.and_eq_true] at hfree
  obtain ⟨⟨⟨hl, hb⟩, hall⟩, _⟩ := hfree
  have hl := Nat.eq_of_beq_eq_true hl
  have h := Xqr hall hi hj hij
  simp only [Nat.zero_add] at h
  unfold Xs9 at h
  rw [Bool.and_eq_true, Bool.and_eq_true] at h
  have hni : inN i ((Xob l []).getD j []) = false := by
    cases e : inN i ((Xob l []).getD j []) with
    | false => rfl
    | true => exact absurd (Xfc.1 e) hn
  have hil : i < l.length := by rw [← hl]; exact (List.getElem?_eq_some_iff.1 hi).1
  have hnj : inN j ((Xob l []).getD i []) = false := by
    cases e : inN j ((Xob l []).getD i []) with
    | false => rfl
    | true => have := Xyf hb i hil j (Xfc.1 e); omega
  rw [hni, hnj] at h
  simp only [Bool.false_or] at h
  exact ⟨h.2, h.1.1⟩
theorem Xwt (hfree : Xce l rs σ0 = true) {i j : Nat} {r r' : Rec} (hi : rs[i]? = some r) (hj : rs[j]? = some r') (hij : i < j) : Xf4 r'.nw r = true := by
  unfold Xce at hfree
  rw [Bool.and_eq_true, Bool.and_eq_true, Bool.and_eq_true] at hfree
  obtain ⟨⟨⟨hl, hb⟩, hall⟩, _⟩ := hfree
  have hl := Nat.eq_of_beq_eq_true hl
  have h := Xqr hall hi hj hij
  simp only [Nat.zero_add] at h
  unfold Xs9 at h
  rw [Bool.and_eq_true, Bool.and_eq_true] at h
  have hil : i < l.length := by rw [← hl]; exact (List.getElem?_eq_some_iff.1 hi).1
  have hnj : inN j ((Xob l []).getD i []) = false := by
    cases e : inN j ((Xob l []).getD i []) with
    | false => rfl
    | true => have := Xyf hb i hil j (Xfc.1 e); omega
  rw [hnj] at h
  simpa using h.1.2
theorem Xyv (hfree : Xce l rs σ0 = true) {i : Nat} {r : Rec} (hi : rs[i]? = some r) : Xf4 r.nw ⟨[], σ0.s, σ0.o, []⟩ = true := by
  unfold Xce at hfree
  rw [Bool.and_eq_true] at hfree
  have h := hfree.2
  clear hfree
  induction rs generalizing i with
  | nil => simp at hi
  | cons x rs ih =>
    rw [Xv9, Bool.and_eq_true] at h
    cases i with
    | zero => simp at hi; subst hi; exact h.1
    | succ i => exact ih (by simpa using hi) h.2

theorem Xty (hfree : Xce l rs σ0 = true) (hc : ∀ (j : Nat) (o : Oper), l[j]? = some o → b j = true → ∀ d ∈ Xfe o, b d = true) (ho : l[i]? = some o) (hbi : b i = false) (hneed : ∀ d ∈ Xfe o, b d = true) :
    (∀ j, j < i → b j = false → j ∉ (Xob l []).getD i []) ∧ (∀ j o', l[j]? = some o' → b j = true → i ∉ (Xob l []).getD j []) := by
  have hb : Xiq 0 l = true := by
    unfold Xce at hfree
    rw [Bool.and_eq_true, Bool.and_eq_true, Bool.and_eq_true] at hfree
    exact hfree.1.1.2
  refine ⟨fun j _ hbj hm => ?_, fun j o' ho' hbj hm => ?_⟩
  · have := Xye hb hc i o ho hneed j hm
    rw [hbj] at this; cases this
  · have := Xye hb hc j o' ho' (hc j o' ho' hbj) i hm
    rw [hbi] at this; cases this

theorem Xxi (hfree : Xce l rs σ0 = true) (hc : ∀ (j : Nat) (o : Oper), l[j]? = some o → b j = true → ∀ d ∈ Xfe o, b d = true) (ho : l[i]? = some o) (hr : rs[i]? = some r) (hbi : b i = false) (hneed : ∀ d ∈ Xfe o, b d = true) :
    Xxc r.rd (Xt8 (rs.take i) σ0) (Xkv b 0 rs σ0) := by
  obtain ⟨h1, h2⟩ := Xty hfree hc ho hbi hneed
  have hlen : rs.length = l.length := by
    unfold Xce at hfree
    rw [Bool.and_eq_true, Bool.and_eq_true, Bool.and_eq_true] at hfree
    exact Nat.eq_of_beq_eq_true hfree.1.1.1
  have hin : Xt8 (rs.take i) σ0 = Xkv (fun j => decide (j < 0 + i)) 0 rs σ0 := (Xte rs 0 i σ0 (fun j => rfl)).symm
  -- writers of a key that is read
  have key : ∀ {β : Type 1} (f : Rec → List (Nat × β)) (t : Nat), (∀ (r' : Rec), Xf6 r.rd r' = true → lk (f r') t = none) → ∀ (j : Nat) (r' : Rec), rs[j]? = some r' → (lk (f r') t).isSome = true → b (0 + j) = decide (0 + j < 0 + i) := by
    intro β f t hap j r' hj hs
    have hjl : j < l.length := by rw [← hlen]; exact (List.getElem?_eq_some_iff.1 hj).1
    have no : Xio r r' = true ∨ Xio r' r = true → False := by
      intro h
      have : Xf6 r.rd r' = true := by
        rcases h with h | h
        · unfold Xio at h; rw [Bool.and_eq_true, Bool.and_eq_true, Bool.and_eq_true] at h; exact h.1.1.1
        · unfold Xio at h; rw [Bool.and_eq_true, Bool.and_eq_true, Bool.and_eq_true] at h; exact h.1.1.2
      rw [hap r' this] at hs; cases hs
    simp only [Nat.zero_add]
    rcases Nat.lt_trichotomy j i with hlt | heq | hgt
    · rw [decide_eq_true hlt]
      cases hbj : b j with
      | true => rfl
      | false => exact (no (.inr (Xlv hfree hj hr hlt (h1 j hlt hbj)).1)).elim
    · subst heq; rw [hbi, decide_eq_false (by omega)]
    · rw [decide_eq_false (by omega)]
      cases hbj : b j with
      | false => rfl
      | true => exact (no (.inl (Xlv hfree hr hj hgt (h2 j _ (List.getElem?_eq_getElem hjl) hbj)).1)).elim
  intro k hk
  rw [hin]
  cases k with
  | s t =>
    simp only [Xtd]
    rw [Xiz (b' := fun j => decide (j < 0 + i)) Rec.sl rs 0 (key Rec.sl t (fun r' h => Xg6 h _ hk))]
  | o id =>
    simp only [Xtc]
    rw [Xiz (b' := fun j => decide (j < 0 + i)) Rec.ob rs 0 (key Rec.ob id (fun r' h => Xg6 h _ hk))]

theorem Xxv {C : Ctx} (hfree : Xce l rs σ0 = true) (hc : ∀ (j : Nat) (o : Oper), l[j]? = some o → b j = true → ∀ d ∈ Xfe o, b d = true) (ho : l[i]? = some o) (hr : rs[i]? = some r) (hbi : b i = false) (hneed : ∀ d ∈ Xfe o, b d = true)
    {σ : St} (hf : Xea C r.nw σ) : Xea C r.nw (Xkv b 0 rs σ0) := by
  obtain ⟨h1, h2⟩ := Xty hfree hc ho hbi hneed
  have hlen : rs.length = l.length := by
    unfold Xce at hfree
    rw [Bool.and_eq_true, Bool.and_eq_true, Bool.and_eq_true] at hfree
    exact Nat.eq_of_beq_eq_true hfree.1.1.1
  intro id hid
  have other : ∀ (j : Nat) (r' : Rec), rs[j]? = some r' → b (0 + j) = true → Xvr id r'.sl = false ∧ Xvk id r'.ob = false := by
    intro j r' hj hbj
    rw [Nat.zero_add] at hbj
    have hjl : j < l.length := by rw [← hlen]; exact (List.getElem?_eq_some_iff.1 hj).1
    rcases Nat.lt_trichotomy j i with hlt | heq | hgt
    · exact Xf5 (Xwt hfree hj hr hlt) hid
    · subst heq; rw [hbi] at hbj; cases hbj
    · exact Xf5 (Xlv hfree hr hj hgt (h2 j _ (List.getElem?_eq_getElem hjl) hbj)).2 hid
  have hbase := Xf5 (Xyv hfree hr) hid
  refine ⟨⟨fun t v hv => ?_, fun k ob hk => ?_⟩, (hf id hid).2⟩
  · rw [Xtd] at hv
    cases e : Xoc Rec.sl b 0 rs t with
    | some u =>
      rw [e] at hv; cases hv
      obtain ⟨j, r', hj, hbj, hl⟩ := Xrc Rec.sl rs 0 e
      exact Xr3 (other j r' hj hbj).1 hl
    | none => rw [e] at hv; exact Xr3 hbase.1 hv
  · unfold St.obj at hk
    rw [Xtc] at hk
    cases e : Xoc Rec.ob b 0 rs k with
    | some u =>
      rw [e] at hk
      obtain ⟨j, r', hj, hbj, hl⟩ := Xrc Rec.ob rs 0 e
      have hu : u = some ob := hk
      subst hu
      exact Xru (other j r' hj hbj).2 hl
    | none =>
      rw [e] at hk
      cases hs : lk σ0.o k with
      | none => rw [hs] at hk; cases hk
      | some u =>
        rw [hs] at hk
        have hu : u = some ob := hk
        subst hu
        exact Xru hbase.2 hs

theorem Xz2 (hfree : Xce l rs σ0 = true) (hc : ∀ (j : Nat) (o : Oper), l[j]? = some o → b j = true → ∀ d ∈ Xfe o, b d = true) (ho : l[i]? = some o) (hr : rs[i]? = some r) (hbi : b i = false) (hneed : ∀ d ∈ Xfe o, b d = true) :
    Eqv (r.app (Xkv b 0 rs σ0)) (Xkv (Xsf b i) 0 rs σ0) := by
  obtain ⟨h1, h2⟩ := Xty hfree hc ho hbi hneed
  have hlen : rs.length = l.length := by
    unfold Xce at hfree
    rw [Bool.and_eq_true, Bool.and_eq_true, Bool.and_eq_true] at hfree
    exact Nat.eq_of_beq_eq_true hfree.1.1.1
  have main : ∀ {β : Type 1} (f : Rec → List (Nat × β)) (t : Nat) (base : Option β), (∀ r', Xio r r' = true → Xfm (f r) (f r') = true) → (lk (f r) t).or ((Xoc f b 0 rs t).or base) = (Xoc f (Xsf b i) 0 rs t).or base := by
    intro β f t base hap
    rw [← Option.or_assoc]
    congr 1
    cases hs : lk (f r) t with
    | some v =>
      have e := Xwm (b := Xsf b i) (t := t) f rs 0 i r hr (by simp [Xsf]) (by rw [hs]; rfl) (fun j r' hij hj hbj => ?_)
      · rw [e, hs]; rfl
      · have hjl : j < l.length := by rw [← hlen]; exact (List.getElem?_eq_some_iff.1 hj).1
        have hbj' : b j = true := by simpa [Xsf, show ¬ j = i by omega] using hbj
        exact Xkt (hap r' (Xlv hfree hr hj hij (h2 j _ (List.getElem?_eq_getElem hjl) hbj')).1) (by rw [hs]; rfl)
    | none =>
      rw [Option.none_or]
      refine Xiz f rs 0 fun j r' hj hs' => ?_
      unfold Xsf
      split
      · rename_i e
        rw [Nat.zero_add] at e
        subst e
        rw [hr] at hj; cases hj
        rw [hs] at hs'; cases hs'
      · rfl
  constructor
  · intro t
    show lk (r.sl ++ (Xkv b 0 rs σ0).s) t = _
    rw [Xuo, Xtd, Xtd]
    exact main Rec.sl t _ (fun r' h => by unfold Xio at h; rw [Bool.and_eq_true, Bool.and_eq_true] at h; exact h.1.2)
  · intro t
    show lk (r.ob ++ (Xkv b 0 rs σ0).o) t = _
    rw [Xuo, Xtc, Xtc]
    exact main Rec.ob t _ (fun r' h => by unfold Xio at h; rw [Bool.and_eq_true] at h; exact h.2)
end

theorem Xy0 {o : Oper} {σ' : St} {a : Act} {w : World} {Q : Exit → Act → World → Prop} (h1 : Xeb P C o σ' a w) : Oper.wp P o a w (fun a' w' => Rel C σ' a' w') Q := by
  unfold Xeb at h1
  unfold Oper.wp at h1 ⊢
  generalize (execOp a.eval o).run P w = res at h1
  cases res with
  | ok n w' =>
    cases n <;> simp only [Oper.upon] at h1 ⊢ <;> first
      | exact h1
      | exact Calls.mono h1 (fun e w'' he => by cases e <;> first | exact he | exact he.elim | (obtain ⟨_, _, hf⟩ := he; exact hf.elim))
  | halt x w' => cases x <;> simp only [Oper.upon] at h1

def cnt : Nat → (Nat → Bool) → Nat
  | 0, _ => 0
  | n + 1, b => cnt n b + if b n then 0 else 1
theorem Xue {b : Nat → Bool} : ∀ {n : Nat}, cnt n b = 0 → ∀ j, j < n → b j = true
  | 0, _, j, hj => by omega
  | n + 1, h, j, hj => by
    rw [cnt] at h
    cases hb : b n with
    | false => rw [hb] at h; simp at h
    | true =>
      rw [hb] at h
      by_cases e : j = n
      · rw [e]; exact hb
      · exact Xue (by simpa using h) j (by omega)
theorem Xud {b : Nat → Bool} {i : Nat} : ∀ {n : Nat}, n ≤ i → cnt n (Xsf b i) = cnt n b
  | 0, _ => rfl
  | n + 1, h => by
    have e2 : Xsf b i n = b n := by unfold Xsf; rw [if_neg (by omega)]
    rw [cnt, cnt, Xud (by omega), e2]
theorem Xwe {b : Nat → Bool} {i : Nat} : ∀ {n : Nat}, i < n → b i = false → cnt n (Xsf b i) + 1 = cnt n b
  | 0, h, _ => by omega
  | n + 1, h, hb => by
    rw [cnt, cnt]
    by_cases e : i = n
    · subst e; rw [Xud (Nat.le_refl _), hb]; simp [Xsf]
    · have := Xwe (show i < n by omega) hb
      have e2 : Xsf b i n = b n := by unfold Xsf; rw [if_neg (fun h => e h.symm)]
      rw [e2]; omega
theorem Xv3 {l : List Oper} {rs : List Rec} {σ0 : St} {Q : Exit → Act → World → Prop} (hfree : Xce l rs σ0 = true) (hloc : ∀ (i : Nat) (o : Oper) (r : Rec), l[i]? = some o → rs[i]? = some r → Loc P C l.toArray o r (Xt8 (rs.take i) σ0) ∧ Xea C r.nw (Xt8 (rs.take i) σ0))
    (hQ : ∀ a w, Rel C (Xt8 rs σ0) a w → Q .normal a w) :
    ∀ (fuel : Nat) (listed : Array Bool) (a : Act) (w : World), listed.size = l.length → (∀ (j : Nat) (o : Oper), l[j]? = some o → listed.getD j true = true → ∀ d ∈ Xfe o, listed.getD d true = true) →
      cnt l.length (fun j => listed.getD j true) ≤ fuel → Rel C (Xkv (fun j => listed.getD j true) 0 rs σ0) a w → wpAny P .any l.toArray Q fuel listed a w := by
  have hlen : rs.length = l.length := by
    unfold Xce at hfree
    rw [Bool.and_eq_true, Bool.and_eq_true, Bool.and_eq_true] at hfree
    exact Nat.eq_of_beq_eq_true hfree.1.1.1
  have hback : Xiq 0 l = true := by
    unfold Xce at hfree
    rw [Bool.and_eq_true, Bool.and_eq_true, Bool.and_eq_true] at hfree
    exact hfree.1.1.2
  -- an operation that may come next
  have ready : ∀ (listed : Array Bool) (i : Nat), i ∈ Region.ready .any l.toArray listed ↔ i < l.length ∧ listed.getD i true = false ∧ ∃ o, l[i]? = some o ∧ ∀ d ∈ Xfe o, listed.getD d false = true := by
    intro listed i
    unfold Region.ready
    rw [List.mem_filter, List.mem_range, List.size_toArray]
    constructor
    · rintro ⟨h1, h2⟩
      rw [Bool.and_eq_true] at h2
      have ho : l[i]? = some l[i] := List.getElem?_eq_getElem h1
      refine ⟨h1, by simpa using h2.1, l[i], ho, fun d hd => ?_⟩
      have h3 := h2.2
      rw [List.getElem?_toArray, ho] at h3
      simp only [Option.map_some, Option.getD_some] at h3
      obtain ⟨e, he, rfl⟩ := List.mem_map.1 hd
      rw [List.mem_filter] at he
      have := (Array.all_eq_true'.1 h3) e (by simpa using he.1)
      rw [he.2] at this
      simpa using this
    · rintro ⟨h1, h2, o, ho, h3⟩
      refine ⟨h1, ?_⟩
      rw [Bool.and_eq_true]
      refine ⟨by rw [h2]; rfl, ?_⟩
      rw [List.getElem?_toArray, ho]
      simp only [Option.map_some, Option.getD_some]
      refine Array.all_eq_true'.2 fun e he => ?_
      cases hb : Region.binds .any e with
      | false => rfl
      | true =>
        have := h3 e.on (List.mem_map.2 ⟨e, List.mem_filter.2 ⟨by simpa using he, hb⟩, rfl⟩)
        simpa using this
  -- if not all are listed, one may come next
  have none_ready : ∀ (listed : Array Bool), listed.size = l.length → Region.ready .any l.toArray listed = [] → ∀ j, j < l.length → listed.getD j true = true := by
    intro listed hsz hr j
    induction j using Nat.strongRecOn with
    | _ j ih =>
      intro hj
      cases hb : listed.getD j true with
      | true => rfl
      | false =>
        have ho : l[j]? = some l[j] := List.getElem?_eq_getElem hj
        have : j ∈ Region.ready .any l.toArray listed := (ready listed j).2 ⟨hj, hb, l[j], ho, fun d hd => by
          have hdj := Xgh hback ho d hd
          rw [Nat.zero_add] at hdj
          have h1 := ih d hdj (by omega)
          have hds : d < listed.size := by omega
          simpa [Array.getD, hds] using h1⟩
        rw [hr] at this; simp at this
  have alls : ∀ (listed : Array Bool), (∀ j, j < l.length → listed.getD j true = true) → ∀ a w, Rel C (Xkv (fun j => listed.getD j true) 0 rs σ0) a w → Q .normal a w := by
    intro listed hall a w hR
    rw [Xu3 rs 0 σ0 (fun j _ hj => hall j (by omega))] at hR
    exact hQ a w hR
  intro fuel
  induction fuel with
  | zero =>
    intro listed a w hsz hc hf hR
    have hall := Xue (Nat.le_zero.1 hf)
    refine ⟨?_, alls listed hall a w hR⟩
    cases hr : Region.ready .any l.toArray listed with
    | nil => rfl
    | cons i t =>
      obtain ⟨h1, h2, _⟩ := (ready listed i).1 (by rw [hr]; simp)
      rw [hall i h1] at h2; cases h2
  | succ fuel ih =>
    intro listed a w hsz hc hf hR
    refine ⟨fun hr => alls listed (none_ready listed hsz hr) a w hR, fun i hi => ?_⟩
    obtain ⟨h1, h2, o, ho, h3⟩ := (ready listed i).1 hi
    have hri : rs[i]? = some (rs[i]'(by omega)) := List.getElem?_eq_getElem (by omega)
    generalize rs[i]'(by omega) = r at hri
    have hneed : ∀ d ∈ Xfe o, (fun j => listed.getD j true) d = true := by
      intro d hd
      have := h3 d hd
      have hd2 := Xgh hback ho d hd
      have hds : d < listed.size := by omega
      simpa [Array.getD, hds] using this
    obtain ⟨hl, hfr⟩ := hloc i o r ho hri
    have hstep := hl _ (Xxi hfree hc ho hri h2 hneed) (Xxv hfree hc ho hri h2 hneed hfr) a w hR
    have heq := Xz2 hfree hc ho hri h2 hneed
    have hnext : ∀ a' w', Rel C (r.app (Xkv (fun j => listed.getD j true) 0 rs σ0)) a' w' → wpAny P .any l.toArray Q fuel (listed.setIfInBounds i true) a' w' := by
      intro a' w' hR'
      have hput : (fun j => (listed.setIfInBounds i true).getD j true) = Xsf (fun j => listed.getD j true) i := by
        funext j
        unfold Xsf
        by_cases e : j = i
        · subst e; rw [if_pos rfl, Array.getD_eq_getD_getElem?, Array.getElem?_setIfInBounds_self_of_lt (by omega)]; rfl
        · rw [if_neg e, Array.getD_eq_getD_getElem?, Array.getElem?_setIfInBounds_ne (fun h => e h.symm), ← Array.getD_eq_getD_getElem?]
      refine ih _ a' w' (by simpa using hsz) ?_ ?_ ?_
      · intro j o' hj hb d hd
        have e1 : (listed.setIfInBounds i true).getD j true = Xsf (fun j => listed.getD j true) i j := congrFun hput j
        have e2 : (listed.setIfInBounds i true).getD d true = Xsf (fun j => listed.getD j true) i d := congrFun hput d
        rw [e1] at hb
        rw [e2]
        unfold Xsf at hb ⊢
        by_cases ed : d = i
        · rw [if_pos ed]
        · rw [if_neg ed]
          by_cases ej : j = i
          · subst ej
            rw [ho] at hj; cases hj
            exact hneed d hd
          · rw [if_neg ej] at hb
            exact hc j o' hj hb d hd
      · rw [hput]
        have := Xwe (b := fun j => listed.getD j true) h1 h2
        omega
      · rw [hput]
        exact hR'.eqv heq
    unfold wpOp
    rw [List.getElem?_toArray, ho]
    simp only
    split
    · rename_i hw
      rw [if_pos hw] at hstep
      exact .inl (Oper.wp_mono hnext (Xy0 hstep))
    · rename_i hw
      rw [if_neg hw] at hstep
      exact hnext _ _ hstep
end
end Go.Proofs.YtlebkepfhdjnmabAL
/- An abstract logic for Go functions: code, loops, cuts. Conditions: as each statement tells. -/
namespace Go.Proofs.YtlebkepfhdjnmabAL
open Go.RowKit
set_option linter.unusedVariables false
section
variable {P : Program} {C : Ctx}

def AWp (P : Program) (C : Ctx) (c : Code) (σ : St) (Q : Exit → St → Prop) : Prop := ∀ a w, Rel C σ a w → c.wp P (fun e a' w' => ∃ σ', Q e σ' ∧ Rel C σ' a' w') a w
def Xfh (C : Ctx) (σ σ' : St) : Prop := ∀ a w, Rel C σ a w → Rel C σ' a w
theorem Xfh.refl (σ : St) : Xfh C σ σ := fun _ _ h => h
theorem Xfh.trans {σ σ' σ'' : St} (h : Xfh C σ σ') (k : Xfh C σ' σ'') : Xfh C σ σ'' := fun a w hR => k a w (h a w hR)
def Xvy (next : St → Prop) (Q : Exit → St → Prop) : Exit → St → Prop
  | .normal, σ => next σ
  | e, σ => Q e σ
def Xg3 (id : Nat) (Q : Exit → St → Prop) : Exit → St → Prop
  | .exit i, σ => if i = id then Q .normal σ else Q (.exit i) σ
  | e, σ => Q e σ
theorem Xv8 {c : Code} {σ σ' : St} {Q : Exit → St → Prop} (h : Xfh C σ σ') (k : AWp P C c σ' Q) : AWp P C c σ Q := fun a w hR => k a w (h a w hR)
theorem Xv7 {c : Code} {σ : St} {Q Q' : Exit → St → Prop} (h : AWp P C c σ Q) (hq : ∀ e σ, Q e σ → Q' e σ) : AWp P C c σ Q' := fun a w hR => wp_mono (h a w hR) fun e a' w' ⟨σ', h1, h2⟩ => ⟨σ', hq _ _ h1, h2⟩
theorem Xt9 {x y : Code} {σ : St} {Q : Exit → St → Prop} (h : AWp P C x σ (Xvy (fun σ' => AWp P C y σ' Q) Q)) : AWp P C (.seq x y) σ Q := fun a w hR =>
  wp_seq (wp_mono (h a w hR) fun e a' w' ⟨σ', h1, h2⟩ => by
    cases e with
    | normal => exact h1 a' w' h2
    | _ => exact ⟨σ', h1, h2⟩)
theorem Xae {σ : St} {Q : Exit → St → Prop} (h : Q .normal σ) : AWp P C .skip σ Q := fun a w hR => wp_skip ⟨σ, h, hR⟩
theorem Xac {σ : St} {Q : Exit → St → Prop} (h : Q .ret σ) : AWp P C .ret σ Q := fun a w hR => wp_ret ⟨σ, h, hR⟩
theorem Xa2 {id : Nat} {σ : St} {Q : Exit → St → Prop} (h : Q (.exit id) σ) : AWp P C (.exit id) σ Q := fun a w hR => wp_exit ⟨σ, h, hR⟩
theorem Xqs {id : Nat} {c : Code} {σ : St} {Q : Exit → St → Prop} (h : AWp P C c σ (Xg3 id Q)) : AWp P C (.block id c) σ Q := fun a w hR =>
  wp_block (wp_mono (h a w hR) fun e a' w' ⟨σ', h1, h2⟩ => by
    cases e with
    | exit i =>
      simp only [Xg3] at h1
      simp only [Exit.inBlock]
      split
      · rename_i e; rw [if_pos e] at h1; exact ⟨σ', h1, h2⟩
      · rename_i e; rw [if_neg e] at h1; exact ⟨σ', h1, h2⟩
    | _ => exact ⟨σ', h1, h2⟩)
theorem Xv6 {t : Nat} {x y : Code} {σ : St} {Q : Exit → St → Prop} {b : Bool} (hs : lk σ.s t = some (.sv (.bool b))) (h1 : b = true → AWp P C x σ Q) (h2 : b = false → AWp P C y σ Q) : AWp P C (.cond (.tmp t) x y) σ Q := by
  intro a w ⟨μ, A, hR⟩
  have hb : a.eval (.tmp t) = .bool b := Xds (hR.slots t _ hs)
  exact wp_cond_split hb (fun e => h1 e a w ⟨μ, A, hR⟩) (fun e => h2 e a w ⟨μ, A, hR⟩)
theorem Xaf {id : Nat} {l : List Oper} {σ : St} {Q : Exit → St → Prop} (h : Vc P C l.toArray l [] σ (fun _ σ' => Q .normal σ')) : AWp P C (.region id l.toArray false) σ Q := fun a w hR =>
  wp_region_lit (Xse h (fun _ σ' a' w' hq hr => ⟨σ', hq, hr⟩) a w hR)
theorem Xl6 {id : Nat} {l : List Oper} {σ : St} {Q : Exit → St → Prop} (hm : P.follows .mixedOrders = true) (h : Vc P C l.toArray l [] σ (fun rs σ' => Xce l rs σ = true ∧ Q .normal σ')) : AWp P C (.region id l.toArray true) σ Q := by
  intro a w ⟨μ, A, hR⟩
  obtain ⟨rs, hl, ⟨hfree, hq⟩, hloc⟩ := Xw7 h
  rw [List.nil_append] at hfree
  refine wp_region_any hm ?_
  have hR' : Rel C σ a { w with drawn := w.drawn + 1 } := ⟨μ, A, hR.world (w' := w.drew) (Xyz w _)⟩
  have hfalse : ∀ j, j < l.length → (Array.replicate l.length false).getD j true = false := fun j hj => by simp [Array.getD, hj]
  have hb : Xkv (fun j => (Array.replicate l.length false).getD j true) 0 rs σ = σ := by
    have : ∀ (rs : List Rec) (n : Nat) (σ : St), n + rs.length ≤ l.length → Xkv (fun j => (Array.replicate l.length false).getD j true) n rs σ = σ := by
      intro rs
      induction rs with
      | nil => intro n σ _; rfl
      | cons r rs ih => intro n σ hn; rw [Xkv, hfalse n (by simp at hn; omega)]; exact ih (n + 1) σ (by simp at hn; omega)
    exact this rs 0 σ (by omega)
  refine Xv3 (Q := fun e a' w' => ∃ σ', Q e σ' ∧ Rel C σ' a' w') hfree hloc (fun a' w' hr => ⟨_, hq, hr⟩) l.toArray.size _ a _ (by simp) (fun j o ho hb d hd => ?_) ?_ ?_
  · have hjl : j < l.length := (List.getElem?_eq_some_iff.1 ho).1
    have := hfalse j hjl
    simp only [List.size_toArray] at hb
    rw [this] at hb; cases hb
  · have : ∀ n b, cnt n b ≤ n := by
      intro n b
      induction n with
      | zero => exact Nat.le_refl _
      | succ n ih => rw [cnt]; split <;> omega
    simpa using this l.length _
  · simp only [List.size_toArray]
    rw [hb]; exact hR'

theorem Xwn {p : Nat → Prop} (h : ∃ k, p k) : ∃ k, p k ∧ ∀ j, p j → k ≤ j := by
  obtain ⟨k, hk⟩ := h
  induction k using Nat.strongRecOn with
  | _ k ih =>
    by_cases hl : ∃ j, j < k ∧ p j
    · obtain ⟨j, hj, hp⟩ := hl; exact ih j hj hp
    · exact ⟨k, hk, fun j hj => Nat.le_of_not_lt fun hlt => hl ⟨j, hlt, hj⟩⟩
open Classical in
theorem Xyu {c : Code} {σ : St} {Q : Exit → St → Prop} (J : Nat → St → Prop) {k : Nat} (h0 : J k σ) (round : ∀ k σ, J k σ → AWp P C c σ (Xvy (fun σ' => ∃ σ'', Xfh C σ' σ'' ∧ ∃ k', k' < k ∧ J k' σ'') Q)) : AWp P C (.loop c) σ Q := by
  intro a w hR
  let I : Act → World → Prop := fun a w => ∃ k σ, J k σ ∧ Rel C σ a w
  let K : Act → World → Nat → Prop := fun a w k => ∃ σ, J k σ ∧ Rel C σ a w
  let m : Act → World → Nat := fun a w => if h : ∃ k, K a w k then Classical.choose (Xwn h) else 0
  refine wp_loop I m ⟨k, σ, h0, hR⟩ fun a w hI => ?_
  have hex : ∃ k, K a w k := by obtain ⟨k, σ, h1, h2⟩ := hI; exact ⟨k, σ, h1, h2⟩
  have hm : m a w = Classical.choose (Xwn hex) := dif_pos hex
  obtain ⟨⟨σ1, hJ, hR1⟩, _⟩ := Classical.choose_spec (Xwn hex)
  refine wp_mono (round _ σ1 hJ a w hR1) fun e a' w' ⟨σ', h1, h2⟩ => ?_
  cases e with
  | normal =>
    obtain ⟨σ'', hw, k', hk, hJ'⟩ := h1
    have hR2 := hw a' w' h2
    have hex' : ∃ k, K a' w' k := ⟨k', σ'', hJ', hR2⟩
    refine ⟨⟨k', σ'', hJ', hR2⟩, ?_⟩
    rw [hm, show m a' w' = Classical.choose (Xwn hex') from dif_pos hex']
    exact Nat.lt_of_le_of_lt ((Classical.choose_spec (Xwn hex')).2 k' ⟨σ'', hJ', hR2⟩) hk
  | _ => exact ⟨σ', h1, h2⟩
end
end Go.Proofs.YtlebkepfhdjnmabAL
/- An abstract logic for Go functions: contracts and calls. Conditions: as each statement tells. -/
namespace Go.Proofs.YtlebkepfhdjnmabAL
open Go.RowKit
set_option linter.unusedVariables false

mutual
def AV.ren (f : Nat → Nat) : AV → AV
  | .own k => .own (f k)
  | .sub k sz off len => .sub (f k) sz off len
  | .ptr k off => .ptr (f k) off
  | .eptr k sz i off => .eptr (f k) sz i off
  | .agg cs => .agg (AV.renL f cs)
  | .tup cs => .tup (AV.renL f cs)
  | .fn g cs => .fn g (AV.renL f cs)
  | .any => .any
  | .sv x => .sv x
  | .iptr cells off => .iptr cells off
def AV.renL (f : Nat → Nat) : List AV → List AV
  | [] => []
  | x :: l => AV.ren f x :: AV.renL f l
end
theorem Xdr (f : Nat → Nat) : ∀ l : List AV, AV.renL f l = l.map (AV.ren f)
  | [] => by simp [AV.renL]
  | x :: l => by rw [AV.renL, Xdr f l]; rfl
def Obj.ren (f : Nat → Nat) : Obj → Obj
  | .box cs => .box (AV.renL f cs)
  | .ints k l => .ints k l
  | .row c l => .row c l
section
variable {w : World} {A A' : Nat → Prop} {μ μ' : Nat → Value} {f : Nat → Nat}
theorem Rep.ren {x : AV} {v : Value} (h : Rep w A μ x v) (hm : ∀ i, x.has i = true → μ' (f i) = μ i) : Rep w A μ' (x.ren f) v := by
  induction h with
  | any v => simp only [AV.ren]; exact .any v
  | sv h => simp only [AV.ren]; exact .sv h
  | own id => simp only [AV.ren]; rw [← hm id (by simp [AV.has])]; exact .own (f id)
  | sub id sz off len ad0 ad n cap cap' h1 h2 h3 h4 h5 => simp only [AV.ren]; exact .sub (f id) sz off len ad0 ad n cap cap' ((hm id (by simp [AV.has])).trans h1) h2 h3 h4 h5
  | ptr id off g h1 => simp only [AV.ren]; exact .ptr (f id) off g ((hm id (by simp [AV.has])).trans h1)
  | eptr id sz i off g o n cap h1 => simp only [AV.ren]; exact .eptr (f id) sz i off g o n cap ((hm id (by simp [AV.has])).trans h1)
  | iptr cells off g o h1 h2 => simp only [AV.ren]; exact .iptr cells off g o h1 h2
  | agg cs vs hl h ih =>
    simp only [AV.ren]
    rw [Xdr]
    refine .agg _ vs (by simpa using hl) fun j y u hy hu => ?_
    rw [List.getElem?_map] at hy
    obtain ⟨z, hz, rfl⟩ := Option.map_eq_some_iff.1 hy
    refine ih j z u hz hu fun i hi => hm i ?_
    by_cases hf : AV.hasL i cs = true
    · simpa [AV.has] using hf
    · have := AV.hasL_false (by simpa using hf) z (List.mem_of_getElem? hz); rw [this] at hi; cases hi
  | tup cs vs hl h ih =>
    simp only [AV.ren]
    rw [Xdr]
    refine .tup _ vs (by simpa using hl) fun j y u hy hu => ?_
    rw [List.getElem?_map] at hy
    obtain ⟨z, hz, rfl⟩ := Option.map_eq_some_iff.1 hy
    refine ih j z u hz hu fun i hi => hm i ?_
    by_cases hf : AV.hasL i cs = true
    · simpa [AV.has] using hf
    · have := AV.hasL_false (by simpa using hf) z (List.mem_of_getElem? hz); rw [this] at hi; cases hi
  | fn g cs vs hl h ih =>
    simp only [AV.ren]
    rw [Xdr]
    refine .fn g _ vs (by simpa using hl) fun j y u hy hu => ?_
    rw [List.getElem?_map] at hy
    obtain ⟨z, hz, rfl⟩ := Option.map_eq_some_iff.1 hy
    refine ih j z u hz hu fun i hi => hm i ?_
    by_cases hf : AV.hasL i cs = true
    · simpa [AV.has] using hf
    · have := AV.hasL_false (by simpa using hf) z (List.mem_of_getElem? hz); rw [this] at hi; cases hi
theorem Rep.unren : ∀ (x : AV) (v : Value), Rep w A μ (x.ren f) v → Rep w A (fun i => μ (f i)) x v
  | .any, v, h => .any v
  | .sv x, v, h => by simp only [AV.ren] at h; cases h with | sv h => exact .sv h
  | .own k, v, h => by simp only [AV.ren] at h; cases h with | own => exact .own (μ := fun i => μ (f i)) k
  | .sub k sz off len, v, h => by simp only [AV.ren] at h; cases h with | sub _ _ _ _ ad0 ad n cap cap' h1 h2 h3 h4 h5 => exact .sub k sz off len ad0 ad n cap cap' h1 h2 h3 h4 h5
  | .ptr k off, v, h => by simp only [AV.ren] at h; cases h with | ptr _ _ g h1 => exact .ptr k off g h1
  | .eptr k sz i off, v, h => by simp only [AV.ren] at h; cases h with | eptr _ _ _ _ g o n cap h1 => exact .eptr k sz i off g o n cap h1
  | .iptr cells off, v, h => by simp only [AV.ren] at h; cases h with | iptr _ _ g o h1 h2 => exact .iptr cells off g o h1 h2
  | .agg cs, v, h => by
    simp only [AV.ren] at h
    rw [Xdr] at h
    cases h with
    | agg _ vs hl h => exact .agg cs vs (by simpa using hl) fun j y u hy hu => have := List.sizeOf_lt_of_mem (List.mem_of_getElem? hy); Rep.unren y u (h j (y.ren f) u (by rw [List.getElem?_map, hy]; rfl) hu)
  | .tup cs, v, h => by
    simp only [AV.ren] at h
    rw [Xdr] at h
    cases h with
    | tup _ vs hl h => exact .tup cs vs (by simpa using hl) fun j y u hy hu => have := List.sizeOf_lt_of_mem (List.mem_of_getElem? hy); Rep.unren y u (h j (y.ren f) u (by rw [List.getElem?_map, hy]; rfl) hu)
  | .fn g cs, v, h => by
    simp only [AV.ren] at h
    rw [Xdr] at h
    cases h with
    | fn _ _ vs hl h => exact .fn g cs vs (by simpa using hl) fun j y u hy hu => have := List.sizeOf_lt_of_mem (List.mem_of_getElem? hy); Rep.unren y u (h j (y.ren f) u (by rw [List.getElem?_map, hy]; rfl) hu)
termination_by x => SizeOf.sizeOf x

theorem Xec.ren {ob : Obj} {v : Value} (h : Xec w A μ ob v) (hm : ∀ i, ob.has i = true → μ' (f i) = μ i) : Xec w A μ' (ob.ren f) v := by
  cases h with
  | box cells g cs E fr hg hf hl h =>
    simp only [Obj.ren]
    rw [Xdr]
    refine .box _ g cs E fr hg hf (by simpa using hl) fun j y u hy hu => ?_
    rw [List.getElem?_map] at hy
    obtain ⟨z, hz, rfl⟩ := Option.map_eq_some_iff.1 hy
    refine ⟨(h j z u hz hu).1.ren fun i hi => hm i ?_, (h j z u hz hu).2⟩
    by_cases hf : AV.hasL i cells = true
    · simpa [Obj.has] using hf
    · have := AV.hasL_false (by simpa using hf) z (List.mem_of_getElem? hz); rw [this] at hi; cases hi
  | none ob sz hx hwf => cases ob <;> first | (cases hx; done) | exact .none _ sz hx hwf
  | row ob sz xs hx hwf g o cap cs E fr hg hf hc hm' hs hl h => cases ob <;> first | (cases hx; done) | exact .row _ sz xs hx hwf g o cap cs E fr hg hf hc hm' hs hl h
theorem Xec.unren {ob : Obj} {v : Value} (h : Xec w A μ (ob.ren f) v) : Xec w A (fun i => μ (f i)) ob v := by
  cases ob with
  | box cells =>
    simp only [Obj.ren] at h
    rw [Xdr] at h
    cases h with
    | box _ g cs E fr hg hf hl h => exact .box cells g cs E fr hg hf (by simpa using hl) fun j y u hy hu => ⟨Rep.unren y u (h j (y.ren f) u (by rw [List.getElem?_map, hy]; rfl) hu).1, (h j (y.ren f) u (by rw [List.getElem?_map, hy]; rfl) hu).2⟩
    | none _ _ hx => cases hx
    | row _ _ _ hx => cases hx
  | ints k l =>
    simp only [Obj.ren] at h
    cases h with
    | none _ sz hx hwf => exact .none _ sz hx hwf
    | row _ sz xs hx hwf g o cap cs E fr hg hf hc hm' hs hl h => exact .row _ sz xs hx hwf g o cap cs E fr hg hf hc hm' hs hl h
  | row c l =>
    simp only [Obj.ren] at h
    cases h with
    | none _ sz hx hwf => exact .none _ sz hx hwf
    | row _ sz xs hx hwf g o cap cs E fr hg hf hc hm' hs hl h => exact .row _ sz xs hx hwf g o cap cs E fr hg hf hc hm' hs hl h
end

/-! ### Contracts -/
abbrev Xap := List (Nat × Obj)
def Fo (w : World) (μ : Nat → Value) (objs : Xap) (g : Nat) : Prop := g < w.heap.size ∧ ∀ id ob, lk objs id = some ob → Xcp (μ id) ≠ some g
structure Xzw (w : World) (μ : Nat → Value) (A : Nat → Prop) (objs : Xap) : Prop where
  one : ∀ id, (μ id).oneCell' = true
  reps : ∀ id ob, lk objs id = some ob → Xec w A μ ob (μ id)
  sep : ∀ i j oi oj g, i ≠ j → lk objs i = some oi → lk objs j = some oj → Xcp (μ i) = some g → Xcp (μ j) ≠ some g
  own : ∀ id ob g, lk objs id = some ob → Xcp (μ id) = some g → ¬ A g
  lt : ∀ g, A g → g < w.heap.size
structure Ya3 (w : World) (μ : Nat → Value) (A : Nat → Prop) (objs : Xap) (w' : World) (μ' : Nat → Value) (A' : Nat → Prop) (objs' : Xap) : Prop where
  one : ∀ id, (μ' id).oneCell' = true
  reps : ∀ id ob, lk objs' id = some ob → Xec w' A' μ' ob (μ' id)
  sep : ∀ i j oi oj g, i ≠ j → lk objs' i = some oi → lk objs' j = some oj → Xcp (μ' i) = some g → Xcp (μ' j) ≠ some g
  own : ∀ id ob g, lk objs' id = some ob → Xcp (μ' id) = some g → ¬ A' g ∧ ¬ Fo w μ objs g
  pins : ∀ id ob ob', lk objs id = some ob → lk objs' id = some ob' → μ' id = μ id
  mono : ∀ g, A g → A' g
  stab : ∀ g, A' g → g < w'.heap.size ∧ (A g ∨ ¬ Fo w μ objs g)
  frame : Fr (Fo w μ objs) w w'
def Yar (w : World) (A : Nat → Prop) (μ : Nat → Value) (args : List AV) (cargs : Array Value) : Prop :=
  cargs.size = args.length ∧ ∀ (j : Nat) (y : AV) (u : Value), args[j]? = some y → cargs[j]? = some u → Rep w A μ y u
def AC (P : Program) (f : Nat) (args : List AV) (objs : Xap) (res : AV) (objs' : Xap) : Prop :=
  ∀ (μ : Nat → Value) (A : Nat → Prop) (w : World) (cargs : Array Value), Xzw w μ A objs → Yar w A μ args cargs →
    Calls P f cargs w (fun e w' => ∃ v μ' A', e = .returned v ∧ Ya3 w μ A objs w' μ' A' objs' ∧ Rep w' A' μ' res v)
end Go.Proofs.YtlebkepfhdjnmabAL
/- An abstract logic for Go functions: what is handed to a call. Conditions: as each statement tells. -/
namespace Go.Proofs.YtlebkepfhdjnmabAL
open Go.RowKit
set_option linter.unusedVariables false

def Xuj {α : Type 1} (kd : IntKind) (v : AV) (k : AV → List Nat → Prop → RM α) : RM α :=
  match v with
  | .own id => .obj id fun | some (.ints kd' l) => k (.sv (.ints kd' l)) [id] True | _ => .fail
  | .sub id sz off len => .obj id fun | some (.ints kd' l) => if Nat.beq sz 1 then k (.sv (.ints kd' ((l.drop off).take len))) [id] (off + len ≤ l.length) else .fail | _ => .fail
  | .sv .nil => k (.sv (.ints kd [])) [] True
  | v => k v [] True
def Xuk {α : Type 1} (β : Type) (d : β) (sz : Nat) (enc : β → List SV) (v : AV) (k : AV → List Nat → Prop → RM α) : RM α :=
  match v with
  | .own id => .obj id fun | some (.row c l) => k (.sv (.sl c.α c.d c.sz c.enc l)) [id] True | _ => .fail
  | .sub id sz' off len => .obj id fun | some (.row c l) => if Nat.beq sz' c.sz then k (.sv (.sl c.α c.d c.sz c.enc ((l.drop off).take len))) [id] (off + len ≤ l.length) else .fail | _ => .fail
  | .sv .nil => k (.sv (.sl β d sz enc [])) [] True
  | v => k v [] True
mutual
def Xdy {α : Type 1} : AV → AV → (AV → List Nat → Prop → RM α) → RM α
  | .sv (.ints kd _), v, k => Xuj kd v k
  | .sv (.sl β d sz enc _), v, k => Xuk β d sz enc v k
  | .agg ps, .agg vs, k => Xro ps vs fun ws b c => k (.agg ws) b c
  | .any, _, k => k .any [] True
  | _, v, k => k v [] True
def Xro {α : Type 1} : List AV → List AV → (List AV → List Nat → Prop → RM α) → RM α
  | [], [], k => k [] [] True
  | p :: ps, v :: vs, k => Xdy p v fun x b c => Xro ps vs fun xs b' c' => k (x :: xs) (b ++ b') (c ∧ c')
  | _, _, _ => .fail
end
def Yap {α : Type 1} : List Operand → (List AV → RM α) → RM α
  | [], k => k []
  | x :: l, k => ev x fun v => Yap l fun vs => k (v :: vs)
structure Yam : Type 1 where
  avs : List AV
  bor : List Nat
  cond : Prop
def Xvd (pats : List AV) (fop : Operand) (f : Nat) (xs : List Operand) : RM Yam :=
  ev fop fun
    | .fn f' cap => if Nat.beq f' f then Yap xs fun vs => Xro pats (vs ++ cap) fun ws b c => .ret ⟨ws, b, c⟩ else .fail
    | _ => .fail

section
variable {P : Program} {T : Nat → Option TI} {C : Ctx} {μ : Nat → Value} {A : Nat → Prop} {σ σ' : St} {a : Act} {w w' : World} {o : Oper}

theorem Xu8 {x : SV} {u : Value} {sz : Nat} {ys : List (List SV)} {A' : Nat → Prop} (h : Src w A u sz ys) (hx : x.elems = some (sz, ys)) (hp : 0 < sz) (hA : ∀ g, A g → A' g) (hb : ∀ g, Xcp u = some g → ys ≠ [] → A' g) : Xcd w A' x u := by
  obtain ⟨ad, cap, rfl, hc, hl, had, hcell⟩ := h
  by_cases hne : ys = []
  · subst hne
    exact Xcd.sl x sz [] ad cap (fun _ _ => undef) hx (by simp) (by simp) (by simp) (by simp) (by simp)
  · obtain ⟨g, o, rfl⟩ := had hne
    have hg : A' g := hb g rfl hne
    refine Xcd.sl x sz ys (some ⟨g, o, none⟩) cap (fun i j => (w.cell? ⟨g, o + (i * sz + j), none⟩).getD undef) hx hl (fun i j x y hi hj => ?_) (fun i j hi hj => ?_) (fun _ => ⟨g, o, rfl⟩) hc
    · obtain ⟨g', o', v, e, h1, h2⟩ := hcell i j x y hi hj
      cases e
      rw [h1]; exact h2.frame hA (fun _ _ => rfl)
    · have hjl : j < ys[i].length := by rw [hl _ (List.getElem_mem hi)]; exact hj
      obtain ⟨g', o', v, e, h1, h2⟩ := hcell i j _ _ (List.getElem?_eq_getElem hi) (List.getElem?_eq_getElem hjl)
      cases e
      exact ⟨g, o, rfl, hg, by rw [h1]; rfl⟩

def AB (σ : St) (μ : Nat → Value) (A : Nat → Prop) (b : List Nat) (g : Nat) : Prop := A g ∨ ∃ id ∈ b, ∃ ob, σ.obj id = some ob ∧ Xcp (μ id) = some g
theorem AB.mono {b b' : List Nat} (h : ∀ i ∈ b, i ∈ b') {g : Nat} (hg : AB σ μ A b g) : AB σ μ A b' g := hg.imp (fun h => h) fun ⟨id, hid, r⟩ => ⟨id, h id hid, r⟩

theorem Xul (h : Xaz C μ A σ a w) {id : Nat} {ob : Obj} {x : SV} {sz : Nat} {xs : List (List SV)} (hob : σ.obj id = some ob) (hx : ob.elems = some (sz, xs)) (hx' : x.elems = some (sz, xs)) (hp : 0 < sz) {u : Value} (hrep : Rep w A μ (.own id) u) : Rep w (AB σ μ A [id]) μ (.sv x) u := by
  cases hrep with
  | own => exact .sv (Xu8 (Xsc (h.objs id ob hob) hx) hx' hp (fun g hg => .inl hg) (fun g hg _ => .inr ⟨id, by simp, ob, hob, hg⟩))
theorem Xum (h : Xaz C μ A σ a w) {id off len : Nat} {ob : Obj} {x : SV} {sz : Nat} {xs : List (List SV)} (hob : σ.obj id = some ob) (hx : ob.elems = some (sz, xs)) (hx' : x.elems = some (sz, (xs.drop off).take len)) (hp : 0 < sz) (hle : off + len ≤ xs.length) {u : Value} (hrep : Rep w A μ (.sub id sz off len) u) : Rep w (AB σ μ A [id]) μ (.sv x) u := by
  refine .sv (Xu8 (Xl0 (h.objs id ob hob) hx hrep hle) hx' hp (fun g hg => .inl hg) (fun g hg hne => .inr ⟨id, by simp, ob, hob, ?_⟩))
  cases hrep with
  | sub _ _ _ _ ad0 ad n cap cap' hm hc1 hc2 ha hz =>
    have hl : 0 < len := by
      rcases Nat.eq_zero_or_pos len with h0 | h0
      · subst h0; simp at hne
      · exact h0
    obtain ⟨g', o', e1, e2⟩ := ha (by omega)
    rw [hm, e1]
    rw [e2] at hg
    exact hg

mutual
theorem Xwz {α : Type 1} (h : Xaz C μ A σ a w) : ∀ (p v : AV) {k : AV → List Nat → Prop → RM α} {ks : List Key} {r : α × List Key} {u : Value}, (Xdy p v k).run σ ks = some r → Rep w A μ v u →
    ∃ v' b c ks', (k v' b c).run σ ks' = some r ∧ (c → Rep w (AB σ μ A b) μ v' u)
  | .sv (.ints kd l0), v, k, ks, r, u, hr, hrep => by
    simp only [Xdy] at hr
    unfold Xuj at hr
    split at hr
    · simp only [RM.run] at hr
      split at hr
      · exact ⟨_, _, _, _, hr, fun _ => Xul h (by assumption) rfl rfl (by decide) hrep⟩
      · simp [RM.run] at hr
    · rename_i id sz off len
      simp only [RM.run] at hr
      split at hr
      · rename_i kd' l hob
        split at hr
        · rename_i hsz
          have hsz := Nat.eq_of_beq_eq_true hsz
          subst hsz
          exact ⟨_, _, _, _, hr, fun hle => Xum h hob (xs := l.map fun n => [SV.int kd' n]) rfl (by simp [SV.elems, List.map_drop, List.map_take]) (by decide) (by simpa using hle) hrep⟩
        · simp [RM.run] at hr
      · simp [RM.run] at hr
    · refine ⟨_, _, _, _, hr, fun _ => ?_⟩
      rw [Xih hrep]
      exact .sv (Xcd.sl _ 1 [] none 0 (fun _ _ => undef) rfl (by simp) (by simp) (by simp) (by simp) (by simp))
    · exact ⟨_, _, _, _, hr, fun _ => hrep.frame (fun g hg => .inl hg) (fun _ _ => rfl) (fun _ _ => rfl)⟩
  | .sv (.sl β d sz0 enc l0), v, k, ks, r, u, hr, hrep => by
    simp only [Xdy] at hr
    unfold Xuk at hr
    split at hr
    · simp only [RM.run] at hr
      split at hr
      · rename_i c l hob
        exact ⟨_, _, _, _, hr, fun _ => Xul h hob rfl rfl ((h.objs _ _ hob).wf : c.ok).2.1 hrep⟩
      · simp [RM.run] at hr
    · rename_i id sz off len
      simp only [RM.run] at hr
      split at hr
      · rename_i c l hob
        split at hr
        · rename_i hsz
          have hsz := Nat.eq_of_beq_eq_true hsz
          subst hsz
          exact ⟨_, _, _, _, hr, fun hle => Xum h hob (xs := l.map c.enc) rfl (by simp [SV.elems, List.map_drop, List.map_take]) ((h.objs _ _ hob).wf : c.ok).2.1 (by simpa using hle) hrep⟩
        · simp [RM.run] at hr
      · simp [RM.run] at hr
    · refine ⟨_, _, _, _, hr, fun _ => ?_⟩
      rw [Xih hrep]
      exact .sv (Xcd.sl _ sz0 [] none 0 (fun _ _ => undef) rfl (by simp) (by simp) (by simp) (by simp) (by simp))
    · exact ⟨_, _, _, _, hr, fun _ => hrep.frame (fun g hg => .inl hg) (fun _ _ => rfl) (fun _ _ => rfl)⟩
  | .agg ps, .agg vs, k, ks, r, u, hr, hrep => by
    simp only [Xdy] at hr
    cases hrep with
    | agg _ us hl hrep =>
      obtain ⟨ws, b, c, ks', hr, hws⟩ := Xi6 h ps vs hr (us := us.toList) (by simpa using hl) (fun j y v hy hv => hrep j y v hy (by simpa using hv))
      refine ⟨_, _, _, _, hr, fun hc => ?_⟩
      obtain ⟨hwl, hw⟩ := hws hc
      exact .agg ws us (by rw [hwl]; simp) fun j y v hy hv => hw j y v hy (by simpa using hv)
  | .agg ps, .any, k, ks, r, u, hr, hrep => by simp only [Xdy] at hr; exact ⟨_, _, _, _, hr, fun _ => hrep.frame (fun g hg => .inl hg) (fun _ _ => rfl) (fun _ _ => rfl)⟩
  | .agg ps, .sv x, k, ks, r, u, hr, hrep => by simp only [Xdy] at hr; exact ⟨_, _, _, _, hr, fun _ => hrep.frame (fun g hg => .inl hg) (fun _ _ => rfl) (fun _ _ => rfl)⟩
  | .agg ps, .own i, k, ks, r, u, hr, hrep => by simp only [Xdy] at hr; exact ⟨_, _, _, _, hr, fun _ => hrep.frame (fun g hg => .inl hg) (fun _ _ => rfl) (fun _ _ => rfl)⟩
  | .agg ps, .sub i z f n, k, ks, r, u, hr, hrep => by simp only [Xdy] at hr; exact ⟨_, _, _, _, hr, fun _ => hrep.frame (fun g hg => .inl hg) (fun _ _ => rfl) (fun _ _ => rfl)⟩
  | .agg ps, .ptr i f, k, ks, r, u, hr, hrep => by simp only [Xdy] at hr; exact ⟨_, _, _, _, hr, fun _ => hrep.frame (fun g hg => .inl hg) (fun _ _ => rfl) (fun _ _ => rfl)⟩
  | .agg ps, .eptr i z j f, k, ks, r, u, hr, hrep => by simp only [Xdy] at hr; exact ⟨_, _, _, _, hr, fun _ => hrep.frame (fun g hg => .inl hg) (fun _ _ => rfl) (fun _ _ => rfl)⟩
  | .agg ps, .iptr c f, k, ks, r, u, hr, hrep => by simp only [Xdy] at hr; exact ⟨_, _, _, _, hr, fun _ => hrep.frame (fun g hg => .inl hg) (fun _ _ => rfl) (fun _ _ => rfl)⟩
  | .agg ps, .tup c, k, ks, r, u, hr, hrep => by simp only [Xdy] at hr; exact ⟨_, _, _, _, hr, fun _ => hrep.frame (fun g hg => .inl hg) (fun _ _ => rfl) (fun _ _ => rfl)⟩
  | .agg ps, .fn f c, k, ks, r, u, hr, hrep => by simp only [Xdy] at hr; exact ⟨_, _, _, _, hr, fun _ => hrep.frame (fun g hg => .inl hg) (fun _ _ => rfl) (fun _ _ => rfl)⟩
  | .any, v, k, ks, r, u, hr, hrep => by simp only [Xdy] at hr; exact ⟨_, _, _, _, hr, fun _ => .any _⟩
  | .sv (.int _ _), v, k, ks, r, u, hr, hrep => by simp only [Xdy] at hr; exact ⟨_, _, _, _, hr, fun _ => hrep.frame (fun g hg => .inl hg) (fun _ _ => rfl) (fun _ _ => rfl)⟩
  | .sv (.bool _), v, k, ks, r, u, hr, hrep => by simp only [Xdy] at hr; exact ⟨_, _, _, _, hr, fun _ => hrep.frame (fun g hg => .inl hg) (fun _ _ => rfl) (fun _ _ => rfl)⟩
  | .sv (.str _), v, k, ks, r, u, hr, hrep => by simp only [Xdy] at hr; exact ⟨_, _, _, _, hr, fun _ => hrep.frame (fun g hg => .inl hg) (fun _ _ => rfl) (fun _ _ => rfl)⟩
  | .sv .nil, v, k, ks, r, u, hr, hrep => by simp only [Xdy] at hr; exact ⟨_, _, _, _, hr, fun _ => hrep.frame (fun g hg => .inl hg) (fun _ _ => rfl) (fun _ _ => rfl)⟩
  | .own _, v, k, ks, r, u, hr, hrep => by simp only [Xdy] at hr; exact ⟨_, _, _, _, hr, fun _ => hrep.frame (fun g hg => .inl hg) (fun _ _ => rfl) (fun _ _ => rfl)⟩
  | .sub _ _ _ _, v, k, ks, r, u, hr, hrep => by simp only [Xdy] at hr; exact ⟨_, _, _, _, hr, fun _ => hrep.frame (fun g hg => .inl hg) (fun _ _ => rfl) (fun _ _ => rfl)⟩
  | .ptr _ _, v, k, ks, r, u, hr, hrep => by simp only [Xdy] at hr; exact ⟨_, _, _, _, hr, fun _ => hrep.frame (fun g hg => .inl hg) (fun _ _ => rfl) (fun _ _ => rfl)⟩
  | .eptr _ _ _ _, v, k, ks, r, u, hr, hrep => by simp only [Xdy] at hr; exact ⟨_, _, _, _, hr, fun _ => hrep.frame (fun g hg => .inl hg) (fun _ _ => rfl) (fun _ _ => rfl)⟩
  | .iptr _ _, v, k, ks, r, u, hr, hrep => by simp only [Xdy] at hr; exact ⟨_, _, _, _, hr, fun _ => hrep.frame (fun g hg => .inl hg) (fun _ _ => rfl) (fun _ _ => rfl)⟩
  | .tup _, v, k, ks, r, u, hr, hrep => by simp only [Xdy] at hr; exact ⟨_, _, _, _, hr, fun _ => hrep.frame (fun g hg => .inl hg) (fun _ _ => rfl) (fun _ _ => rfl)⟩
  | .fn _ _, v, k, ks, r, u, hr, hrep => by simp only [Xdy] at hr; exact ⟨_, _, _, _, hr, fun _ => hrep.frame (fun g hg => .inl hg) (fun _ _ => rfl) (fun _ _ => rfl)⟩
theorem Xi6 {α : Type 1} (h : Xaz C μ A σ a w) : ∀ (ps vs : List AV) {k : List AV → List Nat → Prop → RM α} {ks : List Key} {r : α × List Key} {us : List Value}, (Xro ps vs k).run σ ks = some r → us.length = vs.length → (∀ (j : Nat) (y : AV) (v : Value), vs[j]? = some y → us[j]? = some v → Rep w A μ y v) →
    ∃ ws b c ks', (k ws b c).run σ ks' = some r ∧ (c → ws.length = us.length ∧ ∀ (j : Nat) (y : AV) (v : Value), ws[j]? = some y → us[j]? = some v → Rep w (AB σ μ A b) μ y v)
  | [], [], k, ks, r, us, hr, hl, hrep => by rw [Xro] at hr; exact ⟨_, _, _, _, hr, fun _ => ⟨by simpa using hl.symm, fun j y v hy => by simp at hy⟩⟩
  | [], v :: vs, k, ks, r, us, hr, hl, hrep => by simp [Xro, RM.run] at hr
  | p :: ps, [], k, ks, r, us, hr, hl, hrep => by simp [Xro, RM.run] at hr
  | p :: ps, v :: vs, k, ks, r, [], hr, hl, hrep => by simp at hl
  | p :: ps, v :: vs, k, ks, r, u :: us, hr, hl, hrep => by
    rw [Xro] at hr
    obtain ⟨x, b, c, k1, hr, hx⟩ := Xwz h p v hr (hrep 0 v u rfl rfl)
    obtain ⟨xs, b', c', k2, hr, hxs⟩ := Xi6 h ps vs hr (us := us) (by simpa using hl) (fun j y v hy hv => hrep (j + 1) y v (by simpa using hy) (by simpa using hv))
    refine ⟨x :: xs, b ++ b', c ∧ c', k2, hr, fun ⟨hc, hc'⟩ => ⟨by simp [(hxs hc').1], fun j y v hy hv => ?_⟩⟩
    cases j with
    | zero => simp at hy hv; subst hy; subst hv; exact (hx hc).frame (fun g hg => hg.mono (fun i hi => by simp [hi])) (fun _ _ => rfl) (fun _ _ => rfl)
    | succ j => exact ((hxs hc').2 j y v (by simpa using hy) (by simpa using hv)).frame (fun g hg => hg.mono (fun i hi => by simp [hi])) (fun _ _ => rfl) (fun _ _ => rfl)
end
theorem Xu2 {α : Type 1} : ∀ {l : List Operand} {k : List AV → RM α} {ks : List Key} {r : α × List Key}, (Yap l k).run σ ks = some r → ∃ vs ks', vs.length = l.length ∧ (∀ (j : Nat) (x : Operand) (v : AV), l[j]? = some x → vs[j]? = some v → Ev σ x v) ∧ (k vs).run σ ks' = some r
  | [], k, ks, r, h => ⟨[], ks, rfl, fun j x v hx => by simp at hx, h⟩
  | x :: l, k, ks, r, h => by
    rw [Yap] at h
    obtain ⟨v, k1, hv, h⟩ := Xav h
    obtain ⟨vs, k2, hl, hvs, h⟩ := Xu2 h
    refine ⟨v :: vs, k2, by simp [hl], fun j y z hy hz => ?_, h⟩
    cases j with
    | zero => simp at hy hz; subst hy; subst hz; exact hv
    | succ j => exact hvs j y z (by simpa using hy) (by simpa using hz)
end
end Go.Proofs.YtlebkepfhdjnmabAL
/- An abstract logic for Go functions: calls. Conditions: as each statement tells. -/
namespace Go.Proofs.YtlebkepfhdjnmabAL
open Go.RowKit
set_option linter.unusedVariables false

def rn : List (Nat × Nat) → Nat → Nat
  | [], k => k
  | (a, b) :: l, k => bif Nat.beq a k then b else rn l k
mutual
def AV.ids : AV → List Nat
  | .own k | .sub k _ _ _ | .ptr k _ | .eptr k _ _ _ => [k]
  | .agg cs | .tup cs | .fn _ cs => AV.idsL cs
  | _ => []
def AV.idsL : List AV → List Nat
  | [] => []
  | x :: l => AV.ids x ++ AV.idsL l
end
mutual
theorem AV.has_ids {i : Nat} : ∀ x : AV, x.has i = true → i ∈ x.ids
  | .any, h => by simp [AV.has] at h
  | .sv x, h => by simp [AV.has] at h
  | .own k, h => by simp only [AV.has] at h; simp [AV.ids, Nat.eq_of_beq_eq_true h]
  | .sub k _ _ _, h => by simp only [AV.has] at h; simp [AV.ids, Nat.eq_of_beq_eq_true h]
  | .ptr k _, h => by simp only [AV.has] at h; simp [AV.ids, Nat.eq_of_beq_eq_true h]
  | .eptr k _ _ _, h => by simp only [AV.has] at h; simp [AV.ids, Nat.eq_of_beq_eq_true h]
  | .iptr _ _, h => by simp [AV.has] at h
  | .agg cs, h => by simp only [AV.has] at h; simp only [AV.ids]; exact AV.hasL_ids cs h
  | .tup cs, h => by simp only [AV.has] at h; simp only [AV.ids]; exact AV.hasL_ids cs h
  | .fn _ cs, h => by simp only [AV.has] at h; simp only [AV.ids]; exact AV.hasL_ids cs h
theorem AV.hasL_ids {i : Nat} : ∀ l : List AV, AV.hasL i l = true → i ∈ AV.idsL l
  | [], h => by simp [AV.hasL] at h
  | x :: l, h => by
    rw [AV.hasL, Bool.or_eq_true] at h
    rw [AV.idsL]
    rcases h with h | h
    · exact List.mem_append_left _ (AV.has_ids x h)
    · exact List.mem_append_right _ (AV.hasL_ids l h)
end
def Obj.ids : Obj → List Nat
  | .box cs => AV.idsL cs
  | _ => []
mutual
def AV.flat : AV → Bool
  | .sv x => x.flat
  | .iptr _ _ => false
  | .agg cs | .tup cs | .fn _ cs => AV.flatL cs
  | _ => true
def AV.flatL : List AV → Bool
  | [] => true
  | x :: l => AV.flat x && AV.flatL l
end
def Obj.flat : Obj → Prop
  | .box cs => AV.flatL cs = true
  | .ints _ _ => True
  | .row c _ => ∀ x, Xjm (c.enc x) = true
theorem AV.flatL_mem : ∀ {l : List AV}, AV.flatL l = true → ∀ x ∈ l, x.flat = true
  | [], _, x, hx => by simp at hx
  | y :: l, h, x, hx => by
    rw [AV.flatL, Bool.and_eq_true] at h
    rcases List.mem_cons.1 hx with rfl | hx
    · exact h.1
    · exact AV.flatL_mem h.2 x hx

section
variable {P : Program} {T : Nat → Option TI} {C : Ctx} {μ μ' : Nat → Value} {A A' : Nat → Prop} {σ σ' : St} {a : Act} {w w' : World} {o : Oper}
theorem Xcd.any {x : SV} {v : Value} (hx : x.flat = true) (h : Xcd w A x v) : Xcd w A' x v := by
  cases h with
  | int k n => exact .int k n
  | bool b => exact .bool b
  | str s => exact .str s
  | nil => exact .nil
  | sl _ sz xs ad cap c hx' => cases x <;> first | (cases hx; done) | (cases hx'; done)
theorem Rep.any_A {x : AV} {v : Value} (hx : x.flat = true) (h : Rep w A μ x v) : Rep w A' μ x v := by
  induction h with
  | any v => exact .any v
  | sv h => exact .sv (h.any (by simpa [AV.flat] using hx))
  | own id => exact .own id
  | sub id sz off len ad0 ad n cap cap' h1 h2 h3 h4 h5 => exact .sub id sz off len ad0 ad n cap cap' h1 h2 h3 h4 h5
  | ptr id off g h1 => exact .ptr id off g h1
  | eptr id sz i off g o n cap h1 => exact .eptr id sz i off g o n cap h1
  | iptr cells off g o h1 h2 => simp [AV.flat] at hx
  | agg cs vs hl h ih => exact .agg cs vs hl fun j y u hy hu => ih j y u hy hu (AV.flatL_mem (by simpa [AV.flat] using hx) y (List.mem_of_getElem? hy))
  | tup cs vs hl h ih => exact .tup cs vs hl fun j y u hy hu => ih j y u hy hu (AV.flatL_mem (by simpa [AV.flat] using hx) y (List.mem_of_getElem? hy))
  | fn f cs vs hl h ih => exact .fn f cs vs hl fun j y u hy hu => ih j y u hy hu (AV.flatL_mem (by simpa [AV.flat] using hx) y (List.mem_of_getElem? hy))
theorem Xvh {ob : Obj} {sz : Nat} {xs : List (List SV)} (hf : ob.flat) (hx : ob.elems = some (sz, xs)) {i j : Nat} {x : List SV} {y : SV} (hi : xs[i]? = some x) (hj : x[j]? = some y) : y.flat = true := by
  cases ob with
  | box => cases hx
  | ints k l =>
    simp only [Obj.elems, Option.some.injEq, Prod.mk.injEq] at hx
    obtain ⟨_, rfl⟩ := hx
    rw [List.getElem?_map] at hi
    obtain ⟨n, _, rfl⟩ := Option.map_eq_some_iff.1 hi
    cases j with
    | zero => simp at hj; subst hj; rfl
    | succ j => simp at hj
  | row c l =>
    simp only [Obj.elems, Option.some.injEq, Prod.mk.injEq] at hx
    obtain ⟨_, rfl⟩ := hx
    rw [List.getElem?_map] at hi
    obtain ⟨z, _, rfl⟩ := Option.map_eq_some_iff.1 hi
    exact Xh2 (hf z) y (List.mem_of_getElem? hj)
theorem Xec.any_A {ob : Obj} {v : Value} (hf : ob.flat) (h : Xec w A μ ob v) : Xec w A' μ ob v := by
  cases h with
  | box cells g cs E fr hg hnf hl h => exact .box cells g cs E fr hg hnf hl fun j y u hy hu => ⟨(h j y u hy hu).1.any_A (AV.flatL_mem hf y (List.mem_of_getElem? hy)), (h j y u hy hu).2⟩
  | none _ sz hx hwf => exact .none _ sz hx hwf
  | row _ sz xs hx hwf g o cap cs E fr hg hnf hc hm hs hl h =>
    refine .row _ sz xs hx hwf g o cap cs E fr hg hnf hc hm hs hl fun i j x y hi hj => ?_
    obtain ⟨u, hu, hr⟩ := h i j x y hi hj
    exact ⟨u, hu, hr.any (Xvh hf hx hi hj)⟩

def Xba : Xap → List Nat
  | [] => []
  | p :: l => p.1 :: Xba l
theorem Xd5 {k : Nat} {ob : Obj} : ∀ {l : Xap}, lk l k = some ob → k ∈ Xba l
  | [], h => by simp [lk] at h
  | (i, u) :: l, h => by
    rw [Xan] at h
    rw [Xba]
    split at h
    · rename_i e; subst e; simp
    · exact List.mem_cons_of_mem _ (Xd5 h)
theorem Xrb {k : Nat} : ∀ {l : Xap}, k ∈ Xba l → ∃ ob, lk l k = some ob
  | [], h => by simp [Xba] at h
  | (i, u) :: l, h => by
    rw [Xan]
    by_cases e : i = k
    · exact ⟨u, if_pos e⟩
    · rw [if_neg e]
      rw [Xba] at h
      rcases List.mem_cons.1 h with h | h
      · exact absurd h.symm e
      · exact Xrb h
def Xh0 : List Nat → Bool
  | [] => true
  | x :: l => !inN x l && Xh0 l
def Xld (f : Nat → Nat) : List Nat → List Nat
  | [] => []
  | x :: l => f x :: Xld f l
theorem Xrs {f : Nat → Nat} {y : Nat} : ∀ {l : List Nat}, y ∈ Xld f l ↔ ∃ x ∈ l, f x = y
  | [] => by simp [Xld]
  | x :: l => by rw [Xld, List.mem_cons, Xrs (l := l)]; simp [eq_comm]
theorem Xh1 {f : Nat → Nat} : ∀ {l : List Nat}, Xh0 (Xld f l) = true → ∀ x ∈ l, ∀ y ∈ l, f x = f y → x = y
  | [], _, x, hx, _, _, _ => by simp at hx
  | z :: l, h, x, hx, y, hy, e => by
    rw [Xld, Xh0, Bool.and_eq_true] at h
    have hz : ∀ u ∈ l, f u ≠ f z := fun u hu e => by
      have : inN (f z) (Xld f l) = true := Xfc.2 (Xrs.2 ⟨u, hu, e⟩)
      rw [this] at h; simp at h
    rcases List.mem_cons.1 hx with hx1 | hx1
    · rcases List.mem_cons.1 hy with hy1 | hy1
      · rw [hx1, hy1]
      · exact absurd (by rw [← e, hx1]) (hz y hy1)
    · rcases List.mem_cons.1 hy with hy1 | hy1
      · exact absurd (by rw [e, hy1]) (hz x hx1)
      · exact Xh1 h.2 x hx1 y hy1 e
def Xy5 (l m : List Nat) : List Nat := l.filter fun x => !inN x m
theorem Xwr {l m : List Nat} {x : Nat} : x ∈ Xy5 l m ↔ x ∈ l ∧ x ∉ m := by
  unfold Xy5
  rw [List.mem_filter]
  refine and_congr_right fun _ => ?_
  cases h : inN x m with
  | true => simp [Xfc.1 h]
  | false => simp; intro hm; rw [Xfc.2 hm] at h; cases h
def Xxj (l m : List Nat) : Bool := match l with | [] => true | x :: l => inN x m && Xxj l m
theorem Xsh {m : List Nat} : ∀ {l : List Nat}, Xxj l m = true → ∀ x ∈ l, x ∈ m
  | [], _, x, hx => by simp at hx
  | y :: l, h, x, hx => by
    rw [Xxj, Bool.and_eq_true] at h
    rcases List.mem_cons.1 hx with rfl | hx
    · exact Xfc.1 h.1
    · exact Xsh h.2 x hx
def Xrv : Xap → List Nat
  | [] => []
  | p :: l => p.2.ids ++ Xrv l
theorem Xm7 {k i : Nat} {ob : Obj} : ∀ {l : Xap}, lk l k = some ob → i ∈ ob.ids → i ∈ Xrv l
  | [], h, _ => by simp [lk] at h
  | (j, u) :: l, h, hi => by
    rw [Xan] at h
    rw [Xrv]
    split at h
    · cases h; exact List.mem_append_left _ hi
    · exact List.mem_append_right _ (Xm7 h hi)
def Xay (objs objs' : Xap) : List Nat := Xy5 (Xba objs') (Xba objs)
def Xl3 (f : Nat → Nat) (bor : List Nat) : List Nat → Bool
  | [] => true
  | k :: l => !inN (f k) bor && Xl3 f bor l
theorem Xji {f : Nat → Nat} {bor : List Nat} : ∀ {l : List Nat}, Xl3 f bor l = true → ∀ k ∈ l, f k ∉ bor
  | [], _, k, hk => by simp at hk
  | x :: l, h, k, hk => by
    rw [Xl3, Bool.and_eq_true] at h
    rcases List.mem_cons.1 hk with rfl | hk
    · intro hm; rw [Xfc.2 hm] at h; simp at h
    · exact Xji h.2 k hk
def Xl7 (tab : List (Nat × Nat)) (objs objs' : Xap) (res : AV) (bor : List Nat) : Bool :=
  Xh0 (Xld (rn tab) (Xba objs ++ Xay objs objs')) && Xxj (res.ids ++ Xrv objs') (Xba objs') && Xl3 (rn tab) bor (Xba objs)
def Xc6 (tab : List (Nat × Nat)) (dst : Option Nat) (res : AV) : List (Nat × AV) := match dst with | some d => [(d, res.ren (rn tab))] | none => []
def Xfz (tab : List (Nat × Nat)) : Xap → List (Nat × Option Obj)
  | [] => []
  | p :: l => (rn tab p.1, none) :: Xfz tab l
def Xb2 (tab : List (Nat × Nat)) (objs : Xap) : Xap → List (Nat × Option Obj)
  | [] => Xfz tab objs
  | p :: l => (rn tab p.1, some (p.2.ren (rn tab))) :: Xb2 tab objs l
def Xdi (tab : List (Nat × Nat)) : Xap → List Key
  | [] => []
  | p :: l => .o (rn tab p.1) :: Xdi tab l
def holds (tab : List (Nat × Nat)) (σ : St) : Xap → Prop
  | [] => True
  | p :: l => σ.obj (rn tab p.1) = some (p.2.ren (rn tab)) ∧ holds tab σ l
def Xsm : Xap → Prop
  | [] => True
  | p :: l => p.2.flat ∧ Xsm l
theorem Xuq {k : Nat} {ob : Obj} : ∀ {l : Xap}, lk l k = some ob → (k, ob) ∈ l
  | [], h => by simp [lk] at h
  | (i, u) :: l, h => by
    rw [Xan] at h
    split at h
    · rename_i e; subst e; cases h; simp
    · exact List.mem_cons_of_mem _ (Xuq h)
theorem Xst {tab : List (Nat × Nat)} {σ : St} : ∀ {l : Xap}, holds tab σ l → ∀ p ∈ l, σ.obj (rn tab p.1) = some (p.2.ren (rn tab))
  | [], _, p, hp => by simp at hp
  | q :: l, h, p, hp => by
    rcases List.mem_cons.1 hp with rfl | hp
    · exact h.1
    · exact Xst h.2 p hp
theorem Xsn : ∀ {l : Xap}, Xsm l → ∀ p ∈ l, p.2.flat
  | [], _, p, hp => by simp at hp
  | q :: l, h, p, hp => by
    rcases List.mem_cons.1 hp with rfl | hp
    · exact h.1
    · exact Xsn h.2 p hp
theorem Xwo {tab : List (Nat × Nat)} {id : Nat} : ∀ {l : Xap} {x : Option Obj}, lk (Xfz tab l) id = some x → x = none ∧ ∃ k ∈ Xba l, rn tab k = id
  | [], x, h => by simp [Xfz, lk] at h
  | p :: l, x, h => by
    rw [Xfz, Xan] at h
    rw [Xba]
    split at h
    · cases h; exact ⟨rfl, p.1, by simp, by assumption⟩
    · obtain ⟨h1, k, hk, e⟩ := Xwo h; exact ⟨h1, k, by simp [hk], e⟩
theorem Xku {tab : List (Nat × Nat)} {id : Nat} : ∀ {l : Xap}, lk (Xfz tab l) id = none → ∀ k ∈ Xba l, rn tab k ≠ id
  | [], h, k, hk => by simp [Xba] at hk
  | p :: l, h, k, hk => by
    rw [Xfz, Xan] at h
    rw [Xba] at hk
    split at h
    · cases h
    · rename_i e
      rcases List.mem_cons.1 hk with rfl | hk
      · exact e
      · exact Xku h k hk
theorem Xyk {tab : List (Nat × Nat)} {objs : Xap} {id : Nat} : ∀ {l : Xap} {x : Option Obj}, (∀ a ∈ Xba l, ∀ b ∈ Xba l, rn tab a = rn tab b → a = b) → lk (Xb2 tab objs l) id = some x →
    (∃ k ob, lk l k = some ob ∧ rn tab k = id ∧ x = some (ob.ren (rn tab))) ∨ x = none ∧ (∃ k ∈ Xba objs, rn tab k = id)
  | [], x, _, h => .inr (Xwo h)
  | p :: l, x, hi, h => by
    rw [Xb2, Xan] at h
    split at h
    · cases h; exact .inl ⟨p.1, p.2, by obtain ⟨a, b⟩ := p; rw [Xan, if_pos rfl], by assumption, rfl⟩
    · rename_i e
      rcases Xyk (fun a ha b hb => hi a (by simp [Xba, ha]) b (by simp [Xba, hb])) h with ⟨k, ob, h1, h2, h3⟩ | h1
      · refine .inl ⟨k, ob, ?_, h2, h3⟩
        obtain ⟨a, b⟩ := p
        rw [Xan, if_neg ?_]; exact h1
        intro e'; subst e'; exact e h2
      · exact .inr h1
theorem Xm5 {tab : List (Nat × Nat)} {objs : Xap} {id : Nat} : ∀ {l : Xap}, lk (Xb2 tab objs l) id = none → (∀ k ∈ Xba objs, rn tab k ≠ id) ∧ ∀ k ∈ Xba l, rn tab k ≠ id
  | [], h => ⟨Xku h, fun k hk => by simp [Xba] at hk⟩
  | p :: l, h => by
    rw [Xb2, Xan] at h
    split at h
    · cases h
    · rename_i e
      obtain ⟨h1, h2⟩ := Xm5 h
      refine ⟨h1, fun k hk => ?_⟩
      rw [Xba] at hk
      rcases List.mem_cons.1 hk with rfl | hk
      · exact e
      · exact h2 k hk
def muN (tab : List (Nat × Nat)) (μ' μ : Nat → Value) : List Nat → Nat → Value
  | [], id => μ id
  | k :: l, id => if rn tab k = id then μ' k else muN tab μ' μ l id
theorem Xtx {tab : List (Nat × Nat)} {id : Nat} : ∀ {l : List Nat}, (∀ k ∈ l, rn tab k ≠ id) → muN tab μ' μ l id = μ id
  | [], _ => rfl
  | k :: l, h => by rw [muN, if_neg (h k (by simp))]; exact Xtx fun k hk => h k (by simp [hk])
theorem Xyl {tab : List (Nat × Nat)} {k : Nat} : ∀ {l : List Nat}, (∀ j ∈ l, rn tab j = rn tab k → j = k) → k ∈ l → muN tab μ' μ l (rn tab k) = μ' k
  | [], _, h => by simp at h
  | j :: l, hi, h => by
    rw [muN]
    split
    · rename_i e; rw [hi j (by simp) e]
    · rename_i e
      refine Xyl (fun i hi' => hi i (by simp [hi'])) ?_
      rcases List.mem_cons.1 h with rfl | h
      · exact absurd rfl e
      · exact h
theorem Xws {tab : List (Nat × Nat)} (h1 : ∀ id, (μ id).oneCell' = true) (h2 : ∀ id, (μ' id).oneCell' = true) (id : Nat) : ∀ l : List Nat, (muN tab μ' μ l id).oneCell' = true
  | [] => h1 id
  | k :: l => by rw [muN]; split; exact h2 k; exact Xws h1 h2 id l

structure Xxd (C : Ctx) (tab : List (Nat × Nat)) (objs objs' : Xap) (res : AV) (bor : List Nat) (σ : St) : Prop where
  ok : Xl7 tab objs objs' res bor = true
  holds : holds tab σ objs
  fresh : Xea C (Xld (rn tab) (Xay objs objs')) σ
  keep : bor = [] ∨ res.flat = true ∧ Xsm objs'

theorem Xwc (h : Xaz C μ A σ a w) {tab : List (Nat × Nat)} {objs objs' : Xap} {res : AV} {bor : List Nat} (hs : Xxd C tab objs objs' res bor σ) {dst : Option Nat} (hd : ∀ d, dst = some d → d < C.n) {f : Nat} {args : List AV} {cargs : Array Value}
    (hA : AC P f args objs res objs') (hargs : Yar w (AB σ μ A bor) μ (args.map (AV.ren (rn tab))) cargs) {Q : Ending → World → Prop} (hQ : ∀ v w', Rel C { s := Xc6 tab dst res ++ σ.s, o := Xb2 tab objs objs' ++ σ.o } (a.put dst v) w' → Q (.returned v) w') : Calls P f cargs w Q := by
  obtain ⟨hok, hhold, hfresh, hkeep⟩ := hs
  unfold Xl7 at hok
  rw [Bool.and_eq_true, Bool.and_eq_true] at hok
  obtain ⟨⟨hok1, hok2⟩, hok3⟩ := hok
  have hinj := Xh1 hok1
  have hall := Xsh hok2
  have hout := Xji hok3
  have hnew : ∀ k, k ∈ Xay objs objs' ↔ k ∈ Xba objs' ∧ k ∉ Xba objs := fun k => Xwr
  have hk' : ∀ k ∈ Xba objs', k ∈ Xba objs ++ Xay objs objs' := fun k hk => by
    rw [List.mem_append, hnew]
    by_cases hm : k ∈ Xba objs
    · exact .inl hm
    · exact .inr ⟨hk, hm⟩
  have hko : ∀ k ∈ Xba objs, k ∈ Xba objs ++ Xay objs objs' := fun k hk => List.mem_append_left _ hk
  have hobj : ∀ k ob, lk objs k = some ob → σ.obj (rn tab k) = some (ob.ren (rn tab)) := fun k ob hk => Xst hhold _ (Xuq hk)
  let μc : Nat → Value := fun k => μ (rn tab k)
  have hE : Xzw w μc (AB σ μ A bor) objs := by
    refine ⟨fun id => h.mu1 _, fun k ob hk => ?_, fun i j oi oj g hij hi hj => ?_, fun k ob g hk hg hab => ?_, fun g hg => ?_⟩
    · exact (Xec.unren (h.objs _ _ (hobj k ob hk))).frame (fun g hg => .inl hg) (fun _ _ => rfl) (fun _ _ => rfl) (fun _ _ => rfl)
    · exact h.sep _ _ _ _ g (fun e => hij (hinj i (hko i (Xd5 hi)) j (hko j (Xd5 hj)) e)) (hobj i oi hi) (hobj j oj hj)
    · rcases hab with hab | ⟨id, hid, ob', hob', hg'⟩
      · exact (h.own _ _ g (hobj k ob hk) hg).2 hab
      · refine h.sep _ _ _ _ g (fun e => ?_) (hobj k ob hk) hob' hg hg'
        exact hout k (Xd5 hk) (e ▸ hid)
    · rcases hg with hg | ⟨id, hid, ob', hob', hg'⟩
      · exact (h.stab g hg).1
      · exact (h.objs id ob' hob').lt hg'
  have hFo : ∀ g, C.F g → Fo w μc objs g := fun g hg => ⟨Nat.lt_of_lt_of_le (h.cok.lt g hg) h.frame.size, fun k ob hk hg' => (h.own _ _ g (hobj k ob hk) hg').1 hg⟩
  have hAFo : ∀ g, A g → Fo w μc objs g := fun g hg => ⟨(h.stab g hg).1, fun k ob hk hg' => (h.own _ _ g (hobj k ob hk) hg').2 hg⟩
  have hOFo : ∀ id ob g, σ.obj id = some ob → (∀ k ∈ Xba objs, rn tab k ≠ id) → Xcp (μ id) = some g → Fo w μc objs g := fun id ob g hid hne hg =>
    ⟨(h.objs id ob hid).lt hg, fun k ob' hk hg' => h.sep _ _ _ _ g (hne k (Xd5 hk)) (hobj k ob' hk) hid hg' hg⟩
  refine Calls.mono (hA μc (AB σ μ A bor) w cargs hE ⟨by simpa using hargs.1, fun j y u hy hu => ?_⟩) ?_
  · exact Rep.unren _ _ (hargs.2 j (y.ren (rn tab)) u (by rw [List.getElem?_map, hy]; rfl) hu)
  intro e w' ⟨v, μ', A', he, hL, hres⟩
  subst he
  refine hQ v w' ?_
  have hmuk : ∀ k ∈ Xba objs', muN tab μ' μ (Xay objs objs') (rn tab k) = μ' k := fun k hk => by
    by_cases hm : k ∈ Xba objs
    · rw [Xtx fun j hj e => ?_]
      · obtain ⟨ob, hob⟩ := Xrb hm
        obtain ⟨ob', hob'⟩ := Xrb hk
        exact (hL.pins k ob ob' hob hob').symm
      · have := hinj j (List.mem_append_right _ hj) k (hko k hm) e
        subst this
        exact ((hnew j).1 hj).2 hm
    · exact Xyl (fun j hj e => hinj j (List.mem_append_right _ hj) k (hk' k hk) e) ((hnew k).2 ⟨hk, hm⟩)
  have hfr : ∀ k ∈ Xay objs objs', σ.fresh (rn tab k) ∧ C.pin (rn tab k) = none := fun k hk => hfresh _ (Xrs.2 ⟨k, hk, rfl⟩)
  have hmus : ∀ (id : Nat), (∀ k ∈ Xay objs objs', rn tab k ≠ id) → muN tab μ' μ (Xay objs objs') id = μ id := fun id hid => Xtx hid
  have hinj' : ∀ a ∈ Xba objs', ∀ b ∈ Xba objs', rn tab a = rn tab b → a = b := fun a ha b hb => hinj a (hk' a ha) b (hk' b hb)
  -- which blocks stay
  obtain ⟨A'', hA1, hA2, hA3, hA4, hA5⟩ : ∃ A'' : Nat → Prop, (∀ g, A g → A'' g) ∧ (∀ g, A'' g → A' g) ∧ (∀ g, A'' g → A g ∨ ¬ Fo w μc objs g) ∧ Rep w' A'' μ' res v ∧ ∀ k ob, lk objs' k = some ob → Xec w' A'' μ' ob (μ' k) := by
    rcases hkeep with hb | ⟨hf, hfo⟩
    · subst hb
      have hab : ∀ g, AB σ μ A [] g → A g := fun g hg => hg.elim (fun h => h) fun ⟨id, hid, _⟩ => by simp at hid
      exact ⟨A', fun g hg => hL.mono g (.inl hg), fun _ h => h, fun g hg => (hL.stab g hg).2.imp_left (hab g), hres, hL.reps⟩
    · exact ⟨A, fun _ h => h, fun g hg => hL.mono g (.inl hg), fun g hg => .inl hg, hres.any_A hf, fun k ob hk => (hL.reps k ob hk).any_A (Xsn hfo _ (Xuq hk))⟩
  refine ⟨muN tab μ' μ (Xay objs objs'), A'', ?_⟩
  -- the object that an identifier names afterwards
  have hcase : ∀ id ob, St.obj { s := Xc6 tab dst res ++ σ.s, o := Xb2 tab objs objs' ++ σ.o } id = some ob →
      (∃ k ob', lk objs' k = some ob' ∧ rn tab k = id ∧ ob = ob'.ren (rn tab)) ∨ σ.obj id = some ob ∧ (∀ k ∈ Xba objs, rn tab k ≠ id) ∧ ∀ k ∈ Xba objs', rn tab k ≠ id := by
    intro id ob hid
    unfold St.obj at hid
    simp only at hid
    rw [Xs2] at hid
    cases hl : lk (Xb2 tab objs objs') id with
    | some x =>
      rw [hl] at hid
      simp only [Option.getD_some] at hid
      subst hid
      rcases Xyk hinj' hl with ⟨k, ob', h1, h2, h3⟩ | ⟨h1, _⟩
      · cases h3; exact .inl ⟨k, ob', h1, h2, rfl⟩
      · cases h1
    | none =>
      rw [hl] at hid
      exact .inr ⟨hid, Xm5 hl⟩
  have hnk : ∀ {id : Nat}, (∀ k ∈ Xba objs', rn tab k ≠ id) → muN tab μ' μ (Xay objs objs') id = μ id := fun hne => hmus _ fun k hk => hne k ((hnew k).1 hk).1
  have hbl : ∀ g, A g → w'.heap[g]? = w.heap[g]? := fun g hg => hL.frame.block g (hAFo g hg)
  refine { cok := h.cok, tmps := ?_, defers := ?_, slots := ?_, objs := ?_, sep := ?_, own := ?_, stab := ?_, base := fun g hg => hA1 g (h.base g hg), frame := h.frame.trans (hL.frame.mono hFo), pins := ?_, mu1 := fun id => Xws h.mu1 hL.one id _ }
  · cases dst with
    | none => exact h.tmps
    | some d => rw [Act.put_tmps, Array.size_setIfInBounds]; exact h.tmps
  · cases dst with
    | none => exact h.defers
    | some d => exact h.defers
  · have hold : ∀ t x, lk σ.s t = some x → Rep w' A'' (muN tab μ' μ (Xay objs objs')) x (a.tmps.getD t undef) := fun t x hx =>
      (h.slots t x hx).frame hA1 hbl fun i hi => hmus i fun k hk e => by
        have := (hfr k hk).1.1 t x hx
        rw [e] at this; rw [this] at hi; cases hi
    have hnewr : Rep w' A'' (muN tab μ' μ (Xay objs objs')) (res.ren (rn tab)) v := hA4.ren fun i hi => hmuk i (hall i (List.mem_append_left _ (AV.has_ids res hi)))
    cases dst with
    | none => exact hold
    | some d =>
      intro t x hx
      have hx' : lk ((d, res.ren (rn tab)) :: σ.s) t = some x := hx
      rw [Xan] at hx'
      rw [Act.put_tmps]
      by_cases e : d = t
      · subst e
        rw [if_pos rfl] at hx'
        cases hx'
        have : d < a.tmps.size := by rw [h.tmps]; exact hd d rfl
        rw [Array.getD_eq_getD_getElem?, Array.getElem?_setIfInBounds_self_of_lt this]
        exact hnewr
      · rw [if_neg e] at hx'
        rw [Array.getD_eq_getD_getElem?, Array.getElem?_setIfInBounds_ne e, ← Array.getD_eq_getD_getElem?]
        exact hold t x hx'
  · intro id ob hid
    rcases hcase id ob hid with ⟨k, ob', h1, rfl, rfl⟩ | ⟨h1, h2, h3⟩
    · rw [hmuk k (Xd5 h1)]
      refine (hA5 k ob' h1).ren fun i hi => hmuk i (hall i (List.mem_append_right _ (Xm7 h1 ?_)))
      cases ob' with
      | box cs => exact AV.hasL_ids cs hi
      | ints => cases hi
      | row => cases hi
    · rw [hnk h3]
      refine (h.objs id ob h1).frame hA1 hbl (fun g hg => hL.frame.block g (hOFo id ob g h1 h2 hg)) fun i hi => hmus i fun k hk e => ?_
      have := (hfr k hk).1.2 id ob h1
      rw [e] at this; rw [this] at hi; cases hi
  · intro i j oi oj g hij hi hj
    rcases hcase i oi hi with ⟨k, ob', h1, rfl, rfl⟩ | ⟨h1, h2, h3⟩
    · rw [hmuk k (Xd5 h1)]
      rcases hcase j oj hj with ⟨l, ob'', k1, rfl, rfl⟩ | ⟨k1, k2, k3⟩
      · rw [hmuk l (Xd5 k1)]
        exact hL.sep k l _ _ g (fun e => hij (by rw [e])) h1 k1
      · rw [hnk k3]
        exact fun hg hg' => (hL.own k _ g h1 hg).2 (hOFo j oj g k1 k2 hg')
    · rw [hnk h3]
      rcases hcase j oj hj with ⟨l, ob'', k1, rfl, rfl⟩ | ⟨k1, k2, k3⟩
      · rw [hmuk l (Xd5 k1)]
        exact fun hg hg' => (hL.own l _ g k1 hg').2 (hOFo i oi g h1 h2 hg)
      · rw [hnk k3]
        exact h.sep i j oi oj g hij h1 k1
  · intro id ob g hid hg
    rcases hcase id ob hid with ⟨k, ob', h1, rfl, rfl⟩ | ⟨h1, h2, h3⟩
    · rw [hmuk k (Xd5 h1)] at hg
      exact ⟨fun hF => (hL.own k ob' g h1 hg).2 (hFo g hF), fun hA => (hL.own k ob' g h1 hg).1 (hA2 g hA)⟩
    · rw [hnk h3] at hg
      refine ⟨(h.own id ob g h1 hg).1, fun hA => ?_⟩
      rcases hA3 g hA with hA | hA
      · exact (h.own id ob g h1 hg).2 hA
      · exact hA (hOFo id ob g h1 h2 hg)
  · intro g hg
    refine ⟨?_, ?_⟩
    · exact (hL.stab g (hA2 g hg)).1
    · rcases hA3 g hg with hA | hA
      · exact (h.stab g hA).2
      · exact .inr fun hF => hA (hFo g hF)
  · intro id u ob hu hid
    have hnn : muN tab μ' μ (Xay objs objs') id = μ id := hmus id fun k hk e => by
      have := (hfr k hk).2
      rw [e, hu] at this; cases this
    rw [hnn]
    rcases hcase id ob hid with ⟨k, ob', h1, rfl, rfl⟩ | ⟨h1, h2, h3⟩
    · by_cases hm : k ∈ Xba objs
      · obtain ⟨o0, ho0⟩ := Xrb hm
        exact h.pins _ u _ hu (hobj k o0 ho0)
      · have := (hfr k ((hnew k).2 ⟨Xd5 h1, hm⟩)).2
        rw [hu] at this; cases this
    · exact h.pins id u ob hu h1
end
end Go.Proofs.YtlebkepfhdjnmabAL
/- An abstract logic for Go functions: a call as an operation, and a function's body. Conditions: as each statement tells. -/
namespace Go.Proofs.YtlebkepfhdjnmabAL
open Go.RowKit
set_option linter.unusedVariables false
section
variable {P : Program} {T : Nat → Option TI} {C : Ctx} {μ μ' : Nat → Value} {A A' : Nat → Prop} {σ σ' : St} {a : Act} {w w' : World} {o : Oper} {ops : Array Oper}

theorem Xmb {tab : List (Nat × Nat)} {τ : St} : ∀ {l : Xap}, (∀ k ∈ Xdi tab l, match k with | .s t => lk τ.s t = lk σ.s t | .o id => lk τ.o id = lk σ.o id) → holds tab σ l → holds tab τ l
  | [], _, _ => trivial
  | p :: l, ha, h => ⟨by have := ha (.o (rn tab p.1)) (by simp [Xdi]); unfold St.obj; simp only at this; rw [this]; exact h.1, Xmb (fun k hk => ha k (by simp [Xdi, hk])) h.2⟩

def Fn (P : Program) (f : Nat) : Prop := ∀ (args : Array Value) (w : World), (callFunc f args).run P w = .ok (.enter f args) w

def Xyr (P : Program) (C : Ctx) (o : Oper) (r : Rec) (σ : St) : Prop :=
  ∀ τ, Xxc r.rd σ τ → Xea C r.nw τ → ∀ a w, Rel C τ a w → Xeb P C o (r.app τ) a w
theorem Xwp (hT : TOk P T) {o : Oper} {σ : St} {e : Eff} {ks : List Key} (hd : ∀ d, o.dst = some d → d < C.n) (hr : (aop T o).run σ [] = some (e, ks)) (hc : e.cond) : Xyr P C o ⟨ks, e.slots, e.objs, e.new⟩ σ := by
  intro τ ha hf a w ⟨μ, A, h⟩
  exact Xv4 hT h hd (Xes hr ha) hc hf
theorem Xur {r : Rec} (hg : o.guard = none) (h : Xyr P C o r σ) : Loc P C ops o r σ := by
  intro τ ha hf a w hR
  rw [if_pos (by simp [Region.wanted, hg])]
  exact h τ ha hf a w hR
theorem Xz4 {r : Rec} {i t : Nat} {b : Bool} (hg : o.guard = some (i, b)) (hdi : (ops[i]?).bind (·.dst) = some t) (ht : t < C.n) (hs : lk σ.s t = some (.sv (.bool b))) (h : Xyr P C o r σ) : Loc P C ops o ⟨.s t :: r.rd, r.sl, r.ob, r.nw⟩ σ := by
  intro τ ha hf a w ⟨μ, A, hR⟩
  have hs' : τ.slot t = .sv (.bool b) := by
    have := ha (.s t) (by simp)
    unfold St.slot
    simp only at this
    rw [this, hs]; rfl
  rw [if_pos (by rw [Xoa hR hg hdi ht hs']; simp)]
  exact h τ (fun k hk => ha k (by simp [hk])) hf a w ⟨μ, A, hR⟩

theorem Xvo {c : Call} {fop : Operand} {f : Nat} {cap : Array Value} {ty : TypeId} (ho : o.op = .call c) (hcal : c.callee = .value fop) (hf : Fn P f) (he : a.eval fop = .func (.func f) #[] cap) :
    (execOp a.eval o).run P w = .ok (.enter f (c.args.map a.eval ++ cap)) w := by
  simp [execOp, ho, resolve, hcal, he, Deferred.ofValue, invoke, hf _ w]

theorem Xs5 {c : Call} {fop : Operand} {f : Nat} {tab : List (Nat × Nat)} {args : List AV} {objs objs' : Xap} {res : AV} {bor : List Nat} {cond : Prop} {ks : List Key} (ho : o.op = .call c) (hcal : c.callee = .value fop) (hd : ∀ d, o.dst = some d → d < C.n) (hf : Fn P f)
    (hA : AC P f args objs res objs') (hr : (Xvd args fop f c.args.toList).run σ [] = some (⟨args.map (AV.ren (rn tab)), bor, cond⟩, ks)) (hc : cond) (hh : holds tab σ objs) (hok : Xl7 tab objs objs' res bor = true) (hk : bor = [] ∨ res.flat = true ∧ Xsm objs') :
    Xyr P C o ⟨ks ++ Xdi tab objs, Xc6 tab o.dst res, Xb2 tab objs objs', Xld (rn tab) (Xay objs objs')⟩ σ := by
  intro τ ha hfr a w ⟨μ, A, h⟩
  have hr' := Xes hr fun k hk => ha k (List.mem_append_left _ hk)
  have hh' : holds tab τ objs := Xmb (fun k hk => ha k (List.mem_append_right _ hk)) hh
  unfold Xvd at hr'
  obtain ⟨v, k1, hv, hr1⟩ := Xav hr'
  clear hr' hr
  split at hr1
  · rename_i f' cap
    split at hr1
    · rename_i hff
      have hff := Nat.eq_of_beq_eq_true hff
      subst hff
      have he := h.ev hv
      generalize hfe : a.eval fop = u at he
      cases he with
      | fn _ _ vs hvl hvs =>
        obtain ⟨xs, k2, hxl, hxs, hr2⟩ := Xu2 hr1
        obtain ⟨ws, b, cc, k3, hr3, hws⟩ := Xi6 h args (xs ++ cap) hr2 (us := (c.args.map a.eval ++ vs).toList) (by simp [hxl, hvl]) (fun j y u hy hu => by
          simp only [Array.toList_append, Array.toList_map] at hu
          by_cases hj : j < xs.length
          · rw [List.getElem?_append_left hj] at hy
            have hjl : j < (c.args.toList.map a.eval).length := by simpa [hxl] using hj
            rw [List.getElem?_append_left hjl, List.getElem?_map] at hu
            obtain ⟨x, hx, rfl⟩ := Option.map_eq_some_iff.1 hu
            exact h.ev (hxs j x y hx hy)
          · rw [List.getElem?_append_right (Nat.le_of_not_lt hj)] at hy
            rw [List.getElem?_append_right (by simpa [hxl] using hj)] at hu
            have e : (c.args.toList.map a.eval).length = xs.length := by simp [hxl]
            rw [e] at hu
            exact hvs _ y u hy (by simpa using hu))
        simp only [RM.run, Option.some.injEq, Prod.mk.injEq, Yam.mk.injEq] at hr3
        obtain ⟨⟨rfl, rfl, rfl⟩, _⟩ := hr3
        obtain ⟨hwl, hw⟩ := hws hc
        unfold Xeb Oper.wp
        rw [Xvo (ty := o.type) ho hcal hf hfe]
        rw [Oper.upon_enter]
        refine Xwc h ⟨hok, hh', hfr, hk⟩ hd hA ⟨by simpa using hwl.symm, fun j y u hy hu => hw j y u hy (by rw [Array.getElem?_toList]; exact hu)⟩ ?_
        intro v w' hR
        exact hR
    · simp [RM.run] at hr1
  · simp [RM.run] at hr1

/-! ### A body -/
def Yao (T : Nat → Option TI) (σ : St) : ResultVar → Option AV
  | .tmp t => some (σ.slot t)
  | .cell a t => match σ.slot a, T t with
    | .ptr id off, some ti => (match σ.obj id with | some (.box cells) => Xi5 ti cells off | _ => none)
    | _, _ => none
def Xl5 (T : Nat → Option TI) (σ : St) : List ResultVar → Option (List AV)
  | [] => some []
  | x :: l => match Yao T σ x, Xl5 T σ l with | some v, some vs => some (v :: vs) | _, _ => none
def Xy9 : List AV → AV
  | [v] => v
  | vs => .tup vs
def Xip (T : Nat → Option TI) (σ : St) (l : List ResultVar) : Option AV := match Xl5 T σ l with | some vs => some (Xy9 vs) | none => none
def Xth : Nat → List AV → List (Nat × AV)
  | _, [] => []
  | n, x :: l => (n, x) :: Xth (n + 1) l
def Xu9 : Xap → List (Nat × Option Obj)
  | [] => []
  | p :: l => (p.1, some p.2) :: Xu9 l
def Xx7 (args : List AV) (objs : Xap) : St := ⟨Xth 0 args, Xu9 objs⟩
theorem Xs4 {t : Nat} {x : AV} : ∀ {n : Nat} {l : List AV}, lk (Xth n l) t = some x → n ≤ t ∧ l[t - n]? = some x
  | n, [], h => by simp [Xth, lk] at h
  | n, y :: l, h => by
    rw [Xth, Xan] at h
    split at h
    · rename_i e; subst e; cases h; simp
    · rename_i e
      obtain ⟨h1, h2⟩ := Xs4 h
      refine ⟨by omega, ?_⟩
      have : t - n = (t - (n + 1)) + 1 := by omega
      rw [this]; simpa using h2
theorem Xs3 {k : Nat} : ∀ {l : Xap} , (lk (Xu9 l) k).getD none = lk l k
  | [] => rfl
  | (i, u) :: l => by
    rw [Xu9, Xan, Xan]
    split
    · rfl
    · exact Xs3
def Xss (σ : St) : Xap → Prop
  | [] => True
  | p :: l => σ.obj p.1 = some p.2 ∧ Xss σ l
theorem Xqg {σ : St} : ∀ {l : Xap}, Xss σ l → ∀ p ∈ l, σ.obj p.1 = some p.2
  | [], _, p, hp => by simp at hp
  | q :: l, h, p, hp => by
    rcases List.mem_cons.1 hp with rfl | hp
    · exact h.1
    · exact Xqg h.2 p hp
def Xod (C : Ctx) (T : Nat → Option TI) (rs : List ResultVar) (res : AV) (objs' : Xap) : Exit → St → Prop
  | .normal, σ | .ret, σ => ∃ σ', Xfh C σ σ' ∧ Xip T σ' rs = some res ∧ Xss σ' objs'
  | _, _ => False
structure Xd2 (C : Ctx) (n : Nat) (objs : Xap) : Prop where
  n : C.n = n
  pin : ∀ id, inN id (Xba objs) = false → C.pin id = none

def Xqj (tmps : Array Value) (x : ResultVar) : Sem Value := match x with | .tmp t => pure (tmps.getD t undef) | .cell b t => do loadVar t (← asAddr (tmps.getD b undef))
theorem Xvn (fn : Func) (tmps : Array Value) : results fn tmps = (do
  let vs ← fn.results.mapM (Xqj tmps)
  pure (if h : vs.size = 1 then vs[0] else .tuple vs)) := rfl
theorem Xus {α β : Type} (f : α → Sem β) (P : Program) (w : World) : ∀ (l : List α) (vs : List β), l.length = vs.length → (∀ (j : Nat) (x : α) (v : β), l[j]? = some x → vs[j]? = some v → (f x).run P w = .ok v w) → (l.mapM f).run P w = .ok vs w
  | [], [], _, _ => by simp
  | x :: l, v :: vs, hl, h => by
    rw [List.mapM_cons]
    have h1 := h 0 x v rfl rfl
    have h2 := Xus f P w l vs (by simpa using hl) (fun j y u hy hu => h (j + 1) y u (by simpa using hy) (by simpa using hu))
    simp [Sem.run_bind, h1, h2]
theorem Xx2 (hT : TOk P T) (h : Xaz C μ A σ a w) : ∀ {x : ResultVar} {v : AV}, Yao T σ x = some v → ∃ u, (Xqj a.tmps x).run P w = .ok u w ∧ Rep w A μ v u
  | .tmp t, v, hv => by
    simp only [Yao, Option.some.injEq] at hv
    subst hv
    exact ⟨_, rfl, h.slot t⟩
  | .cell b t, v, hv => by
    simp only [Yao] at hv
    split at hv
    · rename_i id off ti hb ht
      split at hv
      · rename_i cells hid
        obtain ⟨g, cs, E, fr, hm, hg, hf, hl, hcell⟩ := h.box hid
        have hs := h.slot b
        rw [hb] at hs
        generalize hu : a.tmps.getD b undef = u at hs
        cases hs with
        | ptr _ _ g' hm' =>
          rw [hm] at hm'
          injection hm' with e1
          injection e1 with e1
          injection e1 with e1
          subst e1
          obtain ⟨u, hu1, hu2⟩ := Xnf (P := P) hT ht (w := w) (g := g) (b := 0) (A := A) (μ := μ) (cells := cells) (fun j y hy => by
            have hj : j < cs.size := by rw [hl]; exact (List.getElem?_eq_some_iff.1 hy).1
            exact ⟨cs[j], by rw [cell_of_row w g _ cs E fr hg]; simp [hj], (hcell j y _ hy (Array.getElem?_eq_getElem hj)).1⟩) hv
          refine ⟨u, ?_, hu2⟩
          simp only [Nat.zero_add] at hu1
          unfold Xqj
          simp only [hu]
          simp [asAddr, hu1]
      · cases hv
    · cases hv
theorem Xna (hT : TOk P T) (h : Xaz C μ A σ a w) : ∀ {l : List ResultVar} {vs : List AV}, Xl5 T σ l = some vs → ∃ us : List Value, us.length = l.length ∧ us.length = vs.length ∧
    (∀ (j : Nat) (x : ResultVar) (u : Value), l[j]? = some x → us[j]? = some u → (Xqj a.tmps x).run P w = .ok u w) ∧ ∀ (j : Nat) (y : AV) (u : Value), vs[j]? = some y → us[j]? = some u → Rep w A μ y u
  | [], vs, hv => by
    simp only [Xl5, Option.some.injEq] at hv
    subst hv
    exact ⟨[], rfl, rfl, fun j x u hx => by simp at hx, fun j x u hx => by simp at hx⟩
  | x :: l, vs, hv => by
    rw [Xl5] at hv
    split at hv
    · rename_i v vs' h1 h2
      cases hv
      obtain ⟨u, hu1, hu2⟩ := Xx2 (P := P) hT h h1
      obtain ⟨us, h3, h4, h5, h6⟩ := Xna hT h h2
      refine ⟨u :: us, by simp [h3], by simp [h4], fun j x u hx hu => ?_, fun j y u hy hu => ?_⟩
      · cases j with
        | zero => simp at hx hu; subst hx; subst hu; exact hu1
        | succ j => exact h5 j x u (by simpa using hx) (by simpa using hu)
      · cases j with
        | zero => simp at hy hu; subst hy; subst hu; exact hu2
        | succ j => exact h6 j y u (by simpa using hy) (by simpa using hu)
    · cases hv
theorem Xtz (hT : TOk P T) (h : Xaz C μ A σ a w) {fn : Func} {v : AV} (hv : Xip T σ fn.results.toList = some v) : ∃ u, (results fn a.tmps).run P w = .ok u w ∧ Rep w A μ v u := by
  unfold Xip at hv
  split at hv
  · rename_i vs hvs
    cases hv
    obtain ⟨us, h1, h2, h3, h4⟩ := Xna (P := P) hT h hvs
    have hm : ∀ us : List Value, us.length = fn.results.toList.length → (∀ (j : Nat) (x : ResultVar) (u : Value), fn.results.toList[j]? = some x → us[j]? = some u → (Xqj a.tmps x).run P w = .ok u w) →
        (results fn a.tmps).run P w = .ok (if h : us.toArray.size = 1 then us.toArray[0] else .tuple us.toArray) w := fun us hl hus => by
      have := Xus (Xqj a.tmps) P w fn.results.toList us hl.symm hus
      rw [Xvn, Array.mapM_eq_mapM_toList]
      simp [Sem.run_bind, this]
    have hm1 := hm us h1 h3
    refine ⟨_, hm1, ?_⟩
    clear hm1 h1 h3 hm hvs
    match vs, us, h2, h4 with
    | [v], [u], _, h4 => simpa [Xy9] using h4 0 v u rfl rfl
    | [], [], _, _ => simpa [Xy9] using Rep.tup [] #[] rfl (fun j y u hy => by simp at hy)
    | v :: v' :: vs, u :: u' :: us, hl, h4 =>
      have : ¬ (u :: u' :: us).toArray.size = 1 := by simp
      rw [dif_neg this]
      exact Rep.tup _ _ (by simpa using hl) (fun j y u hy hu => h4 j y u hy (by simpa using hu))
  · cases hv

theorem Xab (hT : TOk P T) {f : Nat} {fn : Func} {c : Code} {args : List AV} {objs objs' : Xap} {res : AV} (hf : P.funcs[f]? = some fn) (hb : fn.body = some c)
    (h : ∀ C, Xd2 C (args.length + (fn.ntmps - args.length)) objs → AWp P C c (Xx7 args objs) (Xod C T fn.results.toList res objs')) : AC P f args objs res objs' := by
  intro μ A w cargs hE hargs
  refine calls_of_wp hf hb ?_
  let C : Ctx := ⟨w, Fo w μ objs, A, args.length + (fn.ntmps - args.length), fun id => if inN id (Xba objs) = true then some (μ id) else none⟩
  have hC : Xd2 C (args.length + (fn.ntmps - args.length)) objs := ⟨rfl, fun id hid => by simp [C, hid]⟩
  have hlk : ∀ id ob, St.obj (Xx7 args objs) id = some ob → lk objs id = some ob := fun id ob hid => by
    unfold St.obj Xx7 at hid
    simp only at hid
    rw [Xs3] at hid; exact hid
  have h0 : Xaz C μ A (Xx7 args objs) { tmps := cargs ++ Array.replicate (fn.ntmps - cargs.size) undef, defers := [] } w := by
    refine ⟨⟨fun g hg => hg.1, fun g hg => ⟨hE.lt g hg, fun id ob hid hg' => hE.own id ob g hid hg' hg⟩⟩, by simp [C, hargs.1], rfl, fun t v hv => ?_, fun id ob hid => hE.reps id ob (hlk id ob hid), fun i j oi oj g hij hi hj => hE.sep i j oi oj g hij (hlk i oi hi) (hlk j oj hj),
      fun id ob g hid hg => ⟨fun hF => hF.2 id ob (hlk id ob hid) hg, hE.own id ob g (hlk id ob hid) hg⟩, fun g hg => ⟨hE.lt g hg, .inl hg⟩, fun g hg => hg, Fr.refl _ _, fun id v ob hv hid => ?_, hE.one⟩
    · obtain ⟨_, h2⟩ := Xs4 hv
      simp only [Nat.sub_zero] at h2
      have hlt : t < cargs.size := by rw [hargs.1]; exact (List.getElem?_eq_some_iff.1 h2).1
      have : (cargs ++ Array.replicate (fn.ntmps - cargs.size) undef).getD t undef = cargs[t] := by
        rw [Array.getD_eq_getD_getElem?, Array.getElem?_append_left hlt, Array.getElem?_eq_getElem hlt]; rfl
      rw [this]
      exact hargs.2 t v _ h2 (Array.getElem?_eq_getElem hlt)
    · simp only [C] at hv
      split at hv
      · cases hv; rfl
      · cases hv
  have key : ∀ σ' a' w', (∃ σ'', Xfh C σ' σ'' ∧ Xip T σ'' fn.results.toList = some res ∧ Xss σ'' objs') → Rel C σ' a' w' → a'.defers = [] ∧ ∃ v, (results fn a'.tmps).run P w' = .ok v w' ∧ ∃ v' μ' A', Ending.returned v = .returned v' ∧ Ya3 w μ A objs w' μ' A' objs' ∧ Rep w' A' μ' res v' := by
    intro σ' a' w' ⟨σ'', hw, hres, hho⟩ hR
    obtain ⟨μ', A', hR⟩ := hw a' w' hR
    obtain ⟨u, hu1, hu2⟩ := Xtz hT hR hres
    have hob : ∀ id ob, lk objs' id = some ob → σ''.obj id = some ob := fun id ob hid => Xqg hho _ (Xuq hid)
    refine ⟨hR.defers, u, hu1, u, μ', A', rfl, ⟨hR.mu1, fun id ob hid => hR.objs id ob (hob id ob hid), fun i j oi oj g hij hi hj => hR.sep i j oi oj g hij (hob i oi hi) (hob j oj hj), fun id ob g hid hg => ?_, fun id ob ob' hid hid' => ?_, hR.base, fun g hg => hR.stab g hg, hR.frame⟩, hu2⟩
    · exact ⟨(hR.own id ob g (hob id ob hid) hg).2, (hR.own id ob g (hob id ob hid) hg).1⟩
    · exact hR.pins id (μ id) ob' (by simp [C, Xfc.2 (Xd5 hid)]) (hob id ob' hid')
  refine wp_mono (h C hC _ w ⟨μ, A, h0⟩) fun e a' w' ⟨σ', hq, hR⟩ => ?_
  cases e with
  | normal => exact key σ' a' w' hq hR
  | ret => exact key σ' a' w' hq hR
  | _ => exact hq.elim
end
end Go.Proofs.YtlebkepfhdjnmabAL
/- An abstract logic for Go functions: states in another form. Conditions: as each statement tells. -/
namespace Go.Proofs.YtlebkepfhdjnmabAL
open Go.RowKit
set_option linter.unusedVariables false
section
variable {P : Program} {T : Nat → Option TI} {C : Ctx} {μ μ' : Nat → Value} {A A' : Nat → Prop} {σ σ' : St} {a : Act} {w w' : World} {o : Oper} {ops : Array Oper}

def Xra {β : Type 1} : List (Nat × β) → List Nat
  | [] => []
  | p :: l => p.1 :: Xra l
def Xh8 : List (Nat × Option Obj) → List Nat
  | [] => []
  | (k, some _) :: l => k :: Xh8 l
  | (_, none) :: l => Xh8 l
theorem Xrq {k : Nat} {x : Obj} : ∀ {l : List (Nat × Option Obj)}, lk l k = some (some x) → k ∈ Xh8 l
  | [], h => by simp [lk] at h
  | (i, some u) :: l, h => by
    rw [Xan] at h
    rw [Xh8]
    split at h
    · rename_i e; subst e; simp
    · exact List.mem_cons_of_mem _ (Xrq h)
  | (i, none) :: l, h => by
    rw [Xan] at h
    rw [Xh8]
    split at h
    · cases h
    · exact Xrq h
def Xsd : List (Nat × AV) → List AV
  | [] => []
  | p :: l => p.2 :: Xsd l
def Xy1 (σ : St) (ps vs : List AV) : Option Yam := match (Xro ps vs fun ws b c => .ret ⟨ws, b, c⟩).run σ [] with | some r => some r.1 | none => none
inductive CO (tab : List (Nat × Nat)) (σ : St) : List (Nat × Option Obj) → List Nat → Prop
  | nil : CO tab σ [] []
  | box {id : Nat} {cells cells' : List AV} {b b' : List Nat} {c : Prop} {l : List (Nat × Option Obj)} (h : σ.obj (rn tab id) = some (.box cells')) (hl : Xy1 σ cells cells' = some ⟨AV.renL (rn tab) cells, b, c⟩) (hc : c) (k : CO tab σ l b') : CO tab σ ((id, some (.box cells)) :: l) (b ++ b')
  | gone {id : Nat} {b' : List Nat} {l : List (Nat × Option Obj)} (k : CO tab σ l b') : CO tab σ ((id, none) :: l) b'
  | row {id : Nat} {ob : Obj} {b' : List Nat} {l : List (Nat × Option Obj)} (h : σ.obj (rn tab id) = some ob) (hb : ob.elems.isSome = true) (k : CO tab σ l b') : CO tab σ ((id, some ob) :: l) b'
def Xvm (tab : List (Nat × Nat)) (objs : Xap) : List Nat → Bool
  | [] => true
  | k :: l => (Nat.beq (rn tab k) k || !inN k (Xba objs)) && Xvm tab objs l
theorem Xta {tab : List (Nat × Nat)} {objs : Xap} : ∀ {l : List Nat}, Xvm tab objs l = true → ∀ k ∈ l, rn tab k = k ∨ inN k (Xba objs) = false
  | [], _, k, hk => by simp at hk
  | x :: l, h, k, hk => by
    rw [Xvm, Bool.and_eq_true] at h
    rcases List.mem_cons.1 hk with rfl | hk
    · rcases Bool.or_eq_true _ _ ▸ h.1 with h1 | h1
      · exact .inl (Nat.eq_of_beq_eq_true h1)
      · exact .inr (by simpa using h1)
    · exact Xta h.2 k hk
theorem Xup {k : Nat} {x : AV} : ∀ {l : List (Nat × AV)}, lk l k = some x → ∃ j : Nat, (Xra l)[j]? = some k ∧ (Xsd l)[j]? = some x
  | [], h => by simp [lk] at h
  | (i, u) :: l, h => by
    rw [Xan] at h
    split at h
    · rename_i e; subst e; cases h; exact ⟨0, rfl, rfl⟩
    · obtain ⟨j, h1, h2⟩ := Xup h; exact ⟨j + 1, by simpa [Xra] using h1, by simpa [Xsd] using h2⟩
theorem Xx1 {f : Nat → Nat} {l : List AV} {j : Nat} {y : AV} (h : l[j]? = some y) : (AV.renL f l)[j]? = some (y.ren f) := by rw [Xdr, List.getElem?_map, h]; rfl

theorem Xun (h : Xaz C μ A σ a w) {ps vs ws : List AV} {b : List Nat} {c : Prop} {us : List Value} (hl : Xy1 σ ps vs = some ⟨ws, b, c⟩) (hc : c) (hn : us.length = vs.length) (hu : ∀ (j : Nat) (y : AV) (v : Value), vs[j]? = some y → us[j]? = some v → Rep w A μ y v) :
    ws.length = us.length ∧ ∀ (j : Nat) (y : AV) (v : Value), ws[j]? = some y → us[j]? = some v → Rep w (AB σ μ A b) μ y v := by
  unfold Xy1 at hl
  split at hl
  · rename_i r hr
    simp only [Option.some.injEq] at hl
    obtain ⟨ws', b', c', ks', hr', hws⟩ := Xi6 h ps vs hr hn hu
    simp only [RM.run, Option.some.injEq] at hr'
    rw [← hr'] at hl
    simp only [Yam.mk.injEq] at hl
    obtain ⟨rfl, rfl, rfl⟩ := hl
    exact hws hc
  · cases hl
theorem Xuf {tab : List (Nat × Nat)} {id : Nat} {ob : Obj} : ∀ {l : List (Nat × Option Obj)} {b : List Nat}, CO tab σ l b → lk l id = some (some ob) →
    (∃ cells cells' b' c, ob = .box cells ∧ σ.obj (rn tab id) = some (.box cells') ∧ Xy1 σ cells cells' = some ⟨AV.renL (rn tab) cells, b', c⟩ ∧ c ∧ ∀ i ∈ b', i ∈ b) ∨ σ.obj (rn tab id) = some ob ∧ ob.elems.isSome = true
  | _, _, .nil, h => by simp [lk] at h
  | _, _, .box h1 h2 h3 k, h => by
    rw [Xan] at h
    split at h
    · rename_i e; subst e; cases h; exact .inl ⟨_, _, _, _, rfl, h1, h2, h3, fun i hi => by simp [hi]⟩
    · rcases Xuf k h with ⟨cells, cells', b', c, e1, e2, e3, e4, e5⟩ | e
      · exact .inl ⟨cells, cells', b', c, e1, e2, e3, e4, fun i hi => by simp [e5 i hi]⟩
      · exact .inr e
  | _, _, .gone k, h => by
    rw [Xan] at h
    split at h
    · cases h
    · exact Xuf k h
  | _, _, .row h1 h2 k, h => by
    rw [Xan] at h
    split at h
    · rename_i e; subst e; cases h; exact .inr ⟨h1, h2⟩
    · exact Xuf k h
theorem Xqv {tab : List (Nat × Nat)} {id : Nat} : ∀ {l : List (Nat × Option Obj)} {b : List Nat} {x : Obj}, CO tab σ l b → lk l id = some (some x) → ∃ ob, σ.obj (rn tab id) = some ob
  | _, _, _, .nil, h => by simp [lk] at h
  | _, _, _, .box h1 h2 h3 k, h => by
    rw [Xan] at h
    split at h
    · rename_i e; subst e; exact ⟨_, h1⟩
    · exact Xqv k h
  | _, _, _, .gone k, h => by
    rw [Xan] at h
    split at h
    · cases h
    · exact Xqv k h
  | _, _, _, .row h1 h2 k, h => by
    rw [Xan] at h
    split at h
    · rename_i e; subst e; exact ⟨_, h1⟩
    · exact Xqv k h
theorem Obj.ren_row {f : Nat → Nat} {ob : Obj} (h : ob.elems.isSome = true) : ob.ren f = ob := by cases ob <;> first | rfl | cases h

theorem Xw8 {n : Nat} {objs : Xap} (hC : Xd2 C n objs) (tab : List (Nat × Nat)) {s : List (Nat × AV)} {o : List (Nat × Option Obj)} {b b' : List Nat} {c : Prop} (hs : Xy1 σ (Xsd s) ((Xra s).map σ.slot) = some ⟨AV.renL (rn tab) (Xsd s), b, c⟩) (hc : c) (ho : CO tab σ o b')
    (hok : (Xh0 (Xld (rn tab) (Xh8 o)) && Xl3 (rn tab) (b ++ b') (Xh8 o) && Xvm tab objs (Xh8 o)) = true) : Xfh C σ ⟨s, o⟩ := by
  rw [Bool.and_eq_true, Bool.and_eq_true] at hok
  obtain ⟨⟨hok1, hok2⟩, hok3⟩ := hok
  have hinj := Xh1 hok1
  have hout := Xji hok2
  have hpin := Xta hok3
  intro a w ⟨μ, A, h⟩
  have hlk : ∀ id ob, St.obj ⟨s, o⟩ id = some ob → lk o id = some (some ob) := fun id ob hid => by
    unfold St.obj at hid
    simp only at hid
    cases e : lk o id with
    | none => rw [e] at hid; cases hid
    | some x => rw [e] at hid; simp only [Option.getD_some] at hid; rw [hid]
  have hob : ∀ id ob, St.obj ⟨s, o⟩ id = some ob → ∃ ob', σ.obj (rn tab id) = some ob' := fun id ob hid => Xqv ho (hlk id ob hid)
  have hky : ∀ id ob, St.obj ⟨s, o⟩ id = some ob → id ∈ Xh8 o := fun id ob hid => Xrq (hlk id ob hid)
  refine ⟨fun i => μ (rn tab i), AB σ μ A (b ++ b'), ?_⟩
  refine { cok := h.cok, tmps := h.tmps, defers := h.defers, slots := ?_, objs := ?_, sep := ?_, own := ?_, stab := ?_, base := fun g hg => .inl (h.base g hg), frame := h.frame, pins := ?_, mu1 := fun id => h.mu1 _ }
  · intro t v hv
    obtain ⟨j, h1, h2⟩ := Xup hv
    have := Xun h hs hc (us := (Xra s).map fun t => a.tmps.getD t undef) (by simp) (fun j y u hy hu => by
      rw [List.getElem?_map] at hy hu
      obtain ⟨t, ht, rfl⟩ := Option.map_eq_some_iff.1 hy
      rw [ht] at hu
      cases hu
      exact h.slot t)
    have hr := this.2 j (v.ren (rn tab)) (a.tmps.getD t undef) (Xx1 h2) (by rw [List.getElem?_map, h1]; rfl)
    exact (Rep.unren _ _ hr).frame (fun g hg => hg.mono fun i hi => by simp [hi]) (fun _ _ => rfl) (fun _ _ => rfl)
  · intro id ob hid
    rcases Xuf ho (hlk id ob hid) with ⟨cells, cells', b1, c1, rfl, h2, h3, h4, h5⟩ | ⟨h1, h2⟩
    · have := h.objs _ _ h2
      refine Xec.unren ?_
      generalize hm : μ (rn tab id) = v at this ⊢
      cases this with
      | box _ g cs E fr hg hf hl hcell =>
        have hr := Xun h h3 h4 (us := cs.toList) (by simpa using hl) (fun j y u hy hu => (hcell j y u hy (by simpa using hu)).1)
        refine .box _ g cs E fr hg hf (by simpa using hr.1.symm) fun j y u hy hu => ⟨?_, ?_⟩
        · exact (hr.2 j y u hy (by simpa using hu)).frame (fun g hg => hg.mono fun i hi => by simp [h5 i hi]) (fun _ _ => rfl) (fun _ _ => rfl)
        · have hj : j < cells'.length := by rw [← hl]; exact (Array.getElem?_eq_some_iff.1 hu).1
          exact (hcell j _ u (List.getElem?_eq_getElem hj) hu).2
      | none _ _ hx => cases hx
      | row _ _ _ hx => cases hx
    · refine Xec.unren ?_
      rw [Obj.ren_row h2]
      exact (h.objs _ _ h1).frame (fun g hg => .inl hg) (fun _ _ => rfl) (fun _ _ => rfl) (fun _ _ => rfl)
  · intro i j oi oj g hij hi hj
    obtain ⟨oi', hi'⟩ := hob i oi hi
    obtain ⟨oj', hj'⟩ := hob j oj hj
    exact h.sep _ _ _ _ g (fun e => hij (hinj i (hky i oi hi) j (hky j oj hj) e)) hi' hj'
  · intro id ob g hid hg
    obtain ⟨ob', hid'⟩ := hob id ob hid
    refine ⟨(h.own _ _ g hid' hg).1, fun hA => ?_⟩
    rcases hA with hA | ⟨i, hi, oi, hoi, hgi⟩
    · exact (h.own _ _ g hid' hg).2 hA
    · refine h.sep _ _ _ _ g (fun e => hout id (hky id ob hid) ?_) hid' hoi hg hgi
      rw [e]; exact hi
  · intro g hg
    rcases hg with hg | ⟨i, hi, oi, hoi, hgi⟩
    · exact h.stab g hg
    · exact ⟨(h.objs i oi hoi).lt hgi, .inr (h.own i oi g hoi hgi).1⟩
  · intro id v ob hv hid
    obtain ⟨ob', hid'⟩ := hob id ob hid
    rcases hpin id (hky id ob hid) with e | e
    · show μ (rn tab id) = v
      rw [e] at hid' ⊢
      exact h.pins id v ob' hv hid'
    · rw [hC.pin id e] at hv; cases hv

end
end Go.Proofs.YtlebkepfhdjnmabAL
/- An abstract logic for Go functions: the steps of a walk. Conditions: as each statement tells. -/
namespace Go.Proofs.YtlebkepfhdjnmabAL
open Go.RowKit
set_option linter.unusedVariables false

/-! ### Partial values -/
def req {β : Type} (c : Prop) [Decidable c] (k : Option β) : Option β := if c then k else none
theorem Xc7 {β : Type} {c : Prop} [Decidable c] {k : Option β} {r : β} (h : req c k = some r) : c ∧ k = some r := by
  unfold req at h
  split at h
  · exact ⟨by assumption, h⟩
  · cases h
def bnd {α β : Type} (x : Option α) (f : α → Option β) : Option β := match x with | some a => f a | none => none
theorem Xcl {α β : Type} {x : Option α} {f : α → Option β} {r : β} (h : bnd x f = some r) : ∃ a, x = some a ∧ f a = some r := by
  unfold bnd at h
  split at h
  · exact ⟨_, rfl, h⟩
  · cases h
def sel {β : Type} (b : Bool) (x y : β) : β := match b with | true => x | false => y
theorem Xx4 {β : Type} {b : Bool} {x y : Option β} {r : β} (h : sel b x y = some r) : b = true ∧ x = some r ∨ b = false ∧ y = some r := by
  cases b
  · exact .inr ⟨rfl, h⟩
  · exact .inl ⟨rfl, h⟩
inductive Lp (V O : Type) where
  | go (v : V)
  | done (o : O)
def it {V O : Type} (f : V → Option (Lp V O)) : Nat → V → Option O
  | 0, _ => none
  | k + 1, x => match f x with | some (.go y) => it f k y | some (.done o) => some o | none => none
theorem Xtt {V O : Type} {f : V → Option (Lp V O)} {o : O} : ∀ {k : Nat} {x : V} {k' : Nat}, it f k x = some o → k ≤ k' → it f k' x = some o
  | 0, x, k', h, _ => by cases h
  | k + 1, x, 0, h, hk => by omega
  | k + 1, x, k' + 1, h, hk => by
    rw [it] at h ⊢
    cases e : f x with
    | none => rw [e] at h; exact h
    | some s =>
      rw [e] at h
      cases s with
      | go y => exact Xtt (k := k) h (by omega)
      | done o' => exact h
open Classical in
noncomputable def loop {V O : Type} (f : V → Option (Lp V O)) (x : V) : Option O := if h : ∃ k o, it f k x = some o then some (Classical.choose (Classical.choose_spec h)) else none
theorem Xrr {V O : Type} {f : V → Option (Lp V O)} {x : V} {o : O} : loop f x = some o ↔ ∃ k, it f k x = some o := by
  unfold loop
  constructor
  · intro h
    split at h
    · rename_i hk
      cases h
      exact ⟨_, Classical.choose_spec (Classical.choose_spec hk)⟩
    · cases h
  · intro ⟨k, h⟩
    have hk : ∃ k o, it f k x = some o := ⟨k, o, h⟩
    rw [dif_pos hk]
    have h2 := Classical.choose_spec (Classical.choose_spec hk)
    have h3 := Xtt h2 (Nat.le_max_left _ k)
    have h4 := Xtt h (Nat.le_max_right (Classical.choose hk) k)
    rw [h3] at h4
    exact h4
theorem Xd6 {V O : Type} {f : V → Option (Lp V O)} {x y : V} (h : f x = some (.go y)) : loop f x = loop f y := by
  apply Option.ext
  intro o
  rw [Xrr, Xrr]
  constructor
  · intro ⟨k, hk⟩
    cases k with
    | zero => cases hk
    | succ k => rw [it, h] at hk; exact ⟨k, hk⟩
  · intro ⟨k, hk⟩
    exact ⟨k + 1, by rw [it, h]; exact hk⟩
theorem Xb0 {V O : Type} {f : V → Option (Lp V O)} {x : V} {o : O} (h : f x = some (.done o)) : loop f x = some o := Xrr.2 ⟨1, by rw [it, h]⟩

/-! ### Steps -/
def RM.get {α : Type 1} (σ : St) : RM α → List Key → Option (α × List Key)
  | .ret a, ks => some (a, ks)
  | .fail, _ => none
  | .slot t k, ks => match lk σ.s t with | some v => (k v).get σ (.s t :: ks) | none => (k .any).get σ (.s t :: ks)
  | .obj id k, ks => match lk σ.o id with | some (some ob) => (k (some ob)).get σ (.o id :: ks) | _ => (k none).get σ (.o id :: ks)
theorem Xd4 {α : Type 1} {σ : St} : ∀ {m : RM α} {ks : List Key} {r : α × List Key}, m.get σ ks = some r → m.run σ ks = some r
  | .ret a, ks, r, h => h
  | .fail, ks, r, h => h
  | .slot t f, ks, r, h => by
    unfold RM.get at h
    show (f (σ.slot t)).run σ (.s t :: ks) = some r
    unfold St.slot
    split at h
    · rename_i v hv; rw [hv]; exact Xd4 (m := f v) h
    · rename_i hv; rw [hv]; exact Xd4 (m := f .any) h
  | .obj id f, ks, r, h => by
    unfold RM.get at h
    show (f (σ.obj id)).run σ (.o id :: ks) = some r
    unfold St.obj
    split at h
    · rename_i v hv; rw [hv]; exact Xd4 (m := f (some v)) h
    · rename_i hv
      have : (lk σ.o id).getD none = none := by
        cases e : lk σ.o id with
        | none => rfl
        | some x => cases x with
          | none => rfl
          | some ob => exact absurd e (hv ob)
      rw [this]; exact Xd4 (m := f none) h
theorem Xkq {a b : Nat} (h : Nat.blt a b = true) : a < b := Nat.le_of_ble_eq_true h
/-! What an operation leaves, with its lists written out. -/
def Xsp {γ : Type 1} : List AV → (List AV → γ) → γ
  | [], k => k []
  | x :: l, k => Xsp l fun l' => k (x :: l')
theorem Xma {γ : Type 1} : ∀ (l : List AV) (k : List AV → γ), Xsp l k = k l
  | [], k => rfl
  | x :: l, k => by rw [Xsp, Xma l]
def AV.nfK {γ : Type 1} : AV → (AV → γ) → γ
  | .agg cs, k => Xsp cs fun c => k (.agg c)
  | v, k => k v
theorem AV.nfK_eq {γ : Type 1} (v : AV) (k : AV → γ) : v.nfK k = k v := by cases v <;> first | rfl | exact Xma _ _
def slK {γ : Type 1} : List (Nat × AV) → (List (Nat × AV) → γ) → γ
  | [], k => k []
  | (d, v) :: l, k => v.nfK fun v' => slK l fun l' => k ((d, v') :: l')
theorem Xyo {γ : Type 1} : ∀ (l : List (Nat × AV)) (k : List (Nat × AV) → γ), slK l k = k l
  | [], k => rfl
  | (d, v) :: l, k => by rw [slK, AV.nfK_eq, Xyo l]
def obK {γ : Type 1} : List (Nat × Option Obj) → (List (Nat × Option Obj) → γ) → γ
  | [], k => k []
  | (d, some (.box cs)) :: l, k => Xsp cs fun c => obK l fun l' => k ((d, some (.box c)) :: l')
  | (d, v) :: l, k => obK l fun l' => k ((d, v) :: l')
theorem Xs8 {γ : Type 1} : ∀ (l : List (Nat × Option Obj)) (k : List (Nat × Option Obj) → γ), obK l k = k l
  | [], k => rfl
  | (d, some (.box cs)) :: l, k => by rw [obK, Xma, Xs8 l]
  | (d, some (.ints _ _)) :: l, k => by rw [obK, Xs8 l]; intro _ h; cases h
  | (d, some (.row _ _)) :: l, k => by rw [obK, Xs8 l]; intro _ h; cases h
  | (d, none) :: l, k => by rw [obK, Xs8 l]; intro _ h; cases h
def got (m : RM Eff) (σ : St) : Option (Eff × List Key) := match m.get σ [] with | some (e, ks) => slK e.slots fun s => obK e.objs fun o => some (⟨s, o, e.new, e.cond⟩, ks) | none => none
theorem Xwi {m : RM Eff} {σ : St} {e : Eff} {ks : List Key} (h : got m σ = some (e, ks)) : m.run σ [] = some (e, ks) := by
  unfold got at h
  split at h
  · rename_i e' ks' he
    rw [Xyo, Xs8] at h
    rw [Xd4 he]; exact h
  · cases h
def Xti (n : Nat) : Option Nat → Bool
  | none => true
  | some d => Nat.blt d n
def Xxt (id : Nat) : List (Nat × AV) → Bool
  | [] => true
  | p :: l => !p.2.has id && Xxt id l
def Xvi (id : Nat) : List (Nat × Option Obj) → Bool
  | [] => true
  | (_, some ob) :: l => !ob.has id && Xvi id l
  | (_, none) :: l => Xvi id l
def frs (objs : Xap) (σ : St) : List Nat → Bool
  | [] => true
  | id :: l => Xxt id σ.s && Xvi id σ.o && !inN id (Xba objs) && frs objs σ l
theorem Xuh {id t : Nat} {v : AV} : ∀ {l : List (Nat × AV)}, Xxt id l = true → lk l t = some v → v.has id = false
  | [], _, h => by simp [lk] at h
  | (k, u) :: l, hf, h => by
    rw [Xxt, Bool.and_eq_true] at hf
    rw [Xan] at h
    split at h
    · cases h; simpa using hf.1
    · exact Xuh hf.2 h
theorem Xqz {id k : Nat} {ob : Obj} : ∀ {l : List (Nat × Option Obj)}, Xvi id l = true → lk l k = some (some ob) → ob.has id = false
  | [], _, h => by simp [lk] at h
  | (i, some u) :: l, hf, h => by
    rw [Xvi, Bool.and_eq_true] at hf
    rw [Xan] at h
    split at h
    · cases h; simpa using hf.1
    · exact Xqz hf.2 h
  | (i, none) :: l, hf, h => by
    rw [Xvi] at hf
    rw [Xan] at h
    split at h
    · cases h
    · exact Xqz hf h
section
variable {P : Program} {T : Nat → Option TI} {C : Ctx} {σ : St} {n : Nat} {objs : Xap} {ops : Array Oper} {o : Oper} {l : List Oper} {rs : List Rec} {K : List Rec → St → Prop}
theorem Xh3 (hC : Xd2 C n objs) : ∀ {ids : List Nat}, frs objs σ ids = true → Xea C ids σ
  | [], _, id, h => by simp at h
  | i :: l, hf, id, h => by
    rw [frs, Bool.and_eq_true, Bool.and_eq_true, Bool.and_eq_true] at hf
    obtain ⟨⟨⟨h1, h2⟩, h3⟩, h4⟩ := hf
    rcases List.mem_cons.1 h with rfl | h
    · refine ⟨⟨fun t v hv => Xuh h1 hv, fun k ob hk => ?_⟩, hC.pin _ (by simpa using h3)⟩
      unfold St.obj at hk
      cases e : lk σ.o k with
      | none => rw [e] at hk; cases hk
      | some x => rw [e] at hk; simp only [Option.getD_some] at hk; subst hk; exact Xqz h2 e
    · exact Xh3 hC h4 id h
theorem Xhz (hC : Xd2 C n objs) {d : Option Nat} (h : Xti n d = true) : ∀ t, d = some t → t < C.n := fun t e => by
  subst e
  rw [hC.n]
  exact Xkq h

theorem Xyq (hT : TOk P T) (hC : Xd2 C n objs) {e : Eff} {ks : List Key} (hg : o.guard = none) (hr : got (aop T o) σ = some (e, ks)) (hd : Xti n o.dst = true) (hf : frs objs σ e.new = true) (hc : e.cond)
    (k : Vc P C ops l (rs ++ [⟨ks, e.slots, e.objs, e.new⟩]) (Rec.app ⟨ks, e.slots, e.objs, e.new⟩ σ) K) : Vc P C ops (o :: l) rs σ K :=
  .cons _ (Xur hg (Xwp hT (Xhz hC hd) (Xwi hr) hc)) (Xh3 hC hf) k
theorem Xtu {r : Rec} {i t : Nat} {b e : Bool} (hg : o.guard = some (i, b)) (hdi : (ops[i]?).bind (·.dst) = some t) (ht : t < C.n) (hs : lk σ.s t = some (.sv (.bool e))) (he : e = b) (h : Xyr P C o r σ) : Loc P C ops o ⟨.s t :: r.rd, r.sl, r.ob, r.nw⟩ σ := Xz4 hg hdi ht (by rw [hs, he]) h
theorem Ybk (hT : TOk P T) (hC : Xd2 C n objs) {i t : Nat} {b x : Bool} {e : Eff} {ks : List Key} (hg : o.guard = some (i, b)) (hdi : (ops[i]?).bind (·.dst) = some t) (hs : lk σ.s t = some (.sv (.bool x))) (ht : Nat.blt t n = true) (hx : x = b)
    (hr : got (aop T o) σ = some (e, ks)) (hd : Xti n o.dst = true) (hf : frs objs σ e.new = true) (hc : e.cond)
    (k : Vc P C ops l (rs ++ [⟨.s t :: ks, e.slots, e.objs, e.new⟩]) (Rec.app ⟨.s t :: ks, e.slots, e.objs, e.new⟩ σ) K) : Vc P C ops (o :: l) rs σ K :=
  .cons _ (Xtu hg hdi (by rw [hC.n]; exact Xkq ht) hs hx (Xwp hT (Xhz hC hd) (Xwi hr) hc)) (Xh3 hC hf) k
theorem Ya2 (hC : Xd2 C n objs) {i t d : Nat} {b x : Bool} (hg : o.guard = some (i, b)) (hdi : (ops[i]?).bind (·.dst) = some t) (hs : lk σ.s t = some (.sv (.bool x))) (ht : Nat.blt t n = true) (hx : x = !b) (hd : o.dst = some d) (hdn : Nat.blt d n = true)
    (k : Vc P C ops l (rs ++ [⟨[.s t], [(d, .tup [])], [], []⟩]) (Rec.app ⟨[.s t], [(d, .tup [])], [], []⟩ σ) K) : Vc P C ops (o :: l) rs σ K :=
  .cons _ (Xtv hg hdi (by rw [hC.n]; exact Xkq ht) hs (by rw [hx]; cases b <;> rfl) hd (by rw [hC.n]; exact Xkq hdn)) (fun _ h => by simp at h) k
theorem Xyp (hC : Xd2 C n objs) {i t d : Nat} {b : Bool} (hg : o.guard = some (i, b)) (hdi : (ops[i]?).bind (·.dst) = some t) (hs : lk σ.s t = some (.tup [])) (ht : Nat.blt t n = true) (hd : o.dst = some d) (hdn : Nat.blt d n = true)
    (k : Vc P C ops l (rs ++ [⟨[.s t], [(d, .tup [])], [], []⟩]) (Rec.app ⟨[.s t], [(d, .tup [])], [], []⟩ σ) K) : Vc P C ops (o :: l) rs σ K :=
  .cons _ (Xxw hg hdi (by rw [hC.n]; exact Xkq ht) hs hd (by rw [hC.n]; exact Xkq hdn)) (fun _ h => by simp at h) k
theorem Yak (hC : Xd2 C n objs) {c : Call} {fop : Operand} {f : Nat} {args : List AV} {ob ob' : Xap} {res : AV} {bor : List Nat} {cond : Prop} {ks : List Key} (tab : List (Nat × Nat)) (hg : o.guard = none) (ho : o.op = .call c) (hcal : c.callee = .value fop) (hd : Xti n o.dst = true) (hf : Fn P f)
    (hA : AC P f args ob res ob') (hr : (Xvd args fop f c.args.toList).get σ [] = some (⟨args.map (AV.ren (rn tab)), bor, cond⟩, ks)) (hc : cond) (hh : holds tab σ ob) (hok : Xl7 tab ob ob' res bor = true) (hk : bor = [] ∨ res.flat = true ∧ Xsm ob')
    (hfr : frs objs σ (Xld (rn tab) (Xay ob ob')) = true)
    (k : Vc P C ops l (rs ++ [⟨ks ++ Xdi tab ob, Xc6 tab o.dst res, Xb2 tab ob ob', Xld (rn tab) (Xay ob ob')⟩]) (Rec.app ⟨ks ++ Xdi tab ob, Xc6 tab o.dst res, Xb2 tab ob ob', Xld (rn tab) (Xay ob ob')⟩ σ) K) : Vc P C ops (o :: l) rs σ K :=
  .cons _ (Xur hg (Xs5 ho hcal (Xhz hC hd) hf hA (Xd4 hr) hc hh hok hk)) (Xh3 hC hfr) k
theorem Xw5 (hC : Xd2 C n objs) {c : Call} {fop : Operand} {f : Nat} {args : List AV} {ob ob' : Xap} {res : AV} {bor : List Nat} {cond : Prop} {ks : List Key} {i t : Nat} {b x : Bool} (tab : List (Nat × Nat)) (hg : o.guard = some (i, b)) (hdi : (ops[i]?).bind (·.dst) = some t) (hs : lk σ.s t = some (.sv (.bool x))) (ht : Nat.blt t n = true) (hx : x = b)
    (ho : o.op = .call c) (hcal : c.callee = .value fop) (hd : Xti n o.dst = true) (hf : Fn P f)
    (hA : AC P f args ob res ob') (hr : (Xvd args fop f c.args.toList).get σ [] = some (⟨args.map (AV.ren (rn tab)), bor, cond⟩, ks)) (hc : cond) (hh : holds tab σ ob) (hok : Xl7 tab ob ob' res bor = true) (hk : bor = [] ∨ res.flat = true ∧ Xsm ob')
    (hfr : frs objs σ (Xld (rn tab) (Xay ob ob')) = true)
    (k : Vc P C ops l (rs ++ [⟨.s t :: (ks ++ Xdi tab ob), Xc6 tab o.dst res, Xb2 tab ob ob', Xld (rn tab) (Xay ob ob')⟩]) (Rec.app ⟨.s t :: (ks ++ Xdi tab ob), Xc6 tab o.dst res, Xb2 tab ob ob', Xld (rn tab) (Xay ob ob')⟩ σ) K) : Vc P C ops (o :: l) rs σ K :=
  .cons _ (Xtu hg hdi (by rw [hC.n]; exact Xkq ht) hs hx (Xs5 ho hcal (Xhz hC hd) hf hA (Xd4 hr) hc hh hok hk)) (Xh3 hC hfr) k
def rid {β : Type 1} (ks : List Nat) : List (Nat × β) → List (Nat × β)
  | [] => []
  | p :: l => bif inN p.1 ks then rid ks l else p :: rid ks l
abbrev Chg := List (Nat × AV) × List (Nat × Option Obj)
def St.upd (σ : St) (D : Chg) : St := ⟨D.1 ++ rid (Xra D.1) σ.s, D.2 ++ rid (Xra D.2) σ.o⟩
theorem Xtn {c : Code} {Q : Exit → St → Prop} (h : AWp P C c σ (fun e σ' => ∃ σ'', Xfh C σ' σ'' ∧ Q e σ'')) : AWp P C c σ Q := fun a w hR => wp_mono (h a w hR) fun e a' w' ⟨σ', ⟨σ'', hw, hq⟩, hR'⟩ => ⟨σ'', hq, hw a' w' hR'⟩
def Yas (C : Ctx) (τ : St) (Q : Exit → St → Prop) : Exit → St → Prop
  | .normal, σ' => Xfh C σ' τ
  | e, σ' => Q e σ'
theorem Yaw {x y : Code} {Q : Exit → St → Prop} (D : Chg) (hx : AWp P C x σ (Yas C (σ.upd D) Q)) (hy : AWp P C y (σ.upd D) Q) : AWp P C (.seq x y) σ Q := by
  refine Xt9 (Xtn (Xv7 hx fun e σ' h => ?_))
  cases e with
  | normal => exact ⟨_, h, hy⟩
  | _ => exact ⟨σ', Xfh.refl _, h⟩
def Xtk {V O : Type} (C : Ctx) (S : V → St) (R : O → Exit → St → Prop) : Lp V O → Exit → St → Prop
  | .go y, .normal, σ' => Xfh C σ' (S y)
  | .done _, .normal, _ => False
  | .done o, e, σ' => R o e σ'
  | .go _, _, _ => False
theorem Xsi {V O : Type} {f : V → Option (Lp V O)} {x : V} {o : O} {c : Code} {Q : Exit → St → Prop} (D : V → Chg) (R : O → Exit → St → Prop) (h : loop f x = some o) (h0 : Xfh C σ (σ.upd (D x)))
    (hb : ∀ x s, f x = some s → AWp P C c (σ.upd (D x)) (Xtk C (fun v => σ.upd (D v)) R s)) (hq : ∀ e σ', R o e σ' → Q e σ') : AWp P C (.loop c) σ Q := by
  obtain ⟨k, hk⟩ := Xrr.1 h
  refine Xv8 h0 (Xyu (fun k σ' => ∃ x, it f k x = some o ∧ σ' = σ.upd (D x)) ⟨x, hk, rfl⟩ ?_)
  intro k σ' ⟨x, hx, e⟩
  subst e
  cases k with
  | zero => cases hx
  | succ k =>
    rw [it] at hx
    cases hf : f x with
    | none => rw [hf] at hx; cases hx
    | some s =>
      rw [hf] at hx
      refine Xv7 (hb x s hf) fun e σ' hr => ?_
      cases s with
      | go y =>
        cases e with
        | normal => exact ⟨_, hr, k, Nat.lt_succ_self k, y, hx, rfl⟩
        | _ => exact hr.elim
      | done o' =>
        cases hx
        cases e with
        | normal => exact hr.elim
        | _ => exact hq _ _ hr
end
end Go.Proofs.YtlebkepfhdjnmabAL
/- An abstract logic for Go functions: the steps of a walk through code. Conditions: as each statement tells. -/
namespace Go.Proofs.YtlebkepfhdjnmabAL
open Go.RowKit
set_option linter.unusedVariables false
inductive Ou (V R : Type) where
  | out (v : V)
  | ret (r : R)
def Xxa {β : Type 1} : List Nat → List (Nat × β) → List (Nat × β)
  | [], _ => []
  | k :: ks, l => match lk l k with | some v => (k, v) :: Xxa ks l | none => Xxa ks l
section
variable {P : Program} {T : Nat → Option TI} {C : Ctx} {σ : St} {n : Nat} {objs : Xap} {x y z : Code} {Q : Exit → St → Prop} {id t : Nat} {l : List Oper}
theorem Xrp {β : Type 1} {l : List (Nat × β)} {t : Nat} : ∀ {ks : List Nat} {v : β}, lk (Xxa ks l) t = some v → lk l t = some v
  | [], v, h => by simp [Xxa, lk] at h
  | k :: ks, v, h => by
    rw [Xxa] at h
    split at h
    · rename_i u hu
      rw [Xan] at h
      split at h
      · rename_i e; subst e; cases h; exact hu
      · exact Xrp h
    · exact Xrp h
theorem Ybl (ks os : List Nat) {s' : List (Nat × AV)} {o' : List (Nat × Option Obj)} (hs : Xxa ks σ.s = s') (ho : Xxa os σ.o = o') (k : AWp P C x ⟨s', o'⟩ Q) : AWp P C x σ Q := by
  refine Xv8 (fun a w ⟨μ, A, h⟩ => ⟨μ, A, h.weaken (fun t v hv => ?_) fun id ob hb => ?_⟩) k
  · subst hs; exact .inl (Xrp hv)
  · subst ho
    unfold St.obj at hb ⊢
    simp only at hb
    cases e : lk (Xxa os σ.o) id with
    | none => rw [e] at hb; cases hb
    | some u => rw [e] at hb; rw [Xrp e]; exact hb
theorem Xaa (h : Vc P C l.toArray l [] σ (fun _ σ' => AWp P C y σ' Q)) : AWp P C (.seq (.region id l.toArray false) y) σ Q := Xt9 (Xaf h)
theorem Xfb (hm : P.follows .mixedOrders = true) (h : Vc P C l.toArray l [] σ (fun rs σ' => Xce l rs σ = true ∧ AWp P C y σ' Q)) : AWp P C (.seq (.region id l.toArray true) y) σ Q := Xt9 (Xl6 hm h)
theorem Xao (h : AWp P C x σ (Xvy (fun σ' => AWp P C y σ' Q) Q)) : AWp P C (.seq x y) σ Q := Xt9 h
theorem Xad (h : AWp P C y σ Q) : Xvy (fun σ' => AWp P C y σ' Q) Q .normal σ := h
theorem Xbw (h : Q (.exit id) σ) : Xvy (fun σ' => AWp P C y σ' Q) Q (.exit id) σ := h
theorem Xak (h : Q .ret σ) : Xvy (fun σ' => AWp P C y σ' Q) Q .ret σ := h
theorem Yac {b : Bool} (hs : lk σ.s t = some (.sv (.bool b))) (hb : b = true) (h : AWp P C x σ Q) : AWp P C (.cond (.tmp t) x y) σ Q := Xv6 hs (fun _ => h) (fun e => by rw [hb] at e; cases e)
theorem Xzb {b : Bool} (hs : lk σ.s t = some (.sv (.bool b))) (hb : b = false) (h : AWp P C y σ Q) : AWp P C (.cond (.tmp t) x y) σ Q := Xv6 hs (fun e => by rw [hb] at e; cases e) (fun _ => h)
theorem Xa0 (h : AWp P C x σ (Xg3 id Q)) : AWp P C (.block id x) σ Q := Xqs h
theorem Xbi (h : Q .normal σ) : Xg3 id Q .normal σ := h
theorem Xyi (h : Q .normal σ) : Xg3 id Q (.exit id) σ := by
  show (if id = id then _ else _)
  rw [if_pos rfl]; exact h
theorem Xky (h : Q .ret σ) : Xg3 id Q .ret σ := h
theorem Xz5 {τ : St} (h : Xfh C σ τ) : Yas C τ Q .normal σ := h
theorem Ya0 {V O : Type} {S : V → St} {R : O → Exit → St → Prop} {v : V} (h : Xfh C σ (S v)) : Xtk C S R (.go v) .normal σ := h
theorem Xyn {V O : Type} {S : V → St} {R : O → Exit → St → Prop} {o : O} (h : R o (.exit id) σ) : Xtk C S R (.done o) (.exit id) σ := h
theorem Xrx {V O : Type} {S : V → St} {R : O → Exit → St → Prop} {o : O} (h : R o .ret σ) : Xtk C S R (.done o) .ret σ := h
def Yan {V : Type} (C : Ctx) (id : Nat) (S : V → St) : V → Exit → St → Prop
  | v, .exit i, σ => i = id ∧ Xfh C σ (S v)
  | _, _, _ => False
def Xxf {V R : Type} (C : Ctx) (id : Nat) (S : V → St) (E : R → Exit → St → Prop) : Ou V R → Exit → St → Prop
  | .out v, .exit i, σ => i = id ∧ Xfh C σ (S v)
  | .ret r, .ret, σ => E r .ret σ
  | _, _, _ => False
theorem Yaz {V : Type} {S : V → St} {v : V} (h : Xfh C σ (S v)) : Yan C id S v (.exit id) σ := ⟨rfl, h⟩
theorem Xz6 {V R : Type} {S : V → St} {E : R → Exit → St → Prop} {v : V} (h : Xfh C σ (S v)) : Xxf C id S E (.out v) (.exit id) σ := ⟨rfl, h⟩
theorem Xrt {V R : Type} {S : V → St} {E : R → Exit → St → Prop} {r : R} (h : E r .ret σ) : Xxf C id S E (.ret r) .ret σ := h
theorem Yab {V O : Type} {f : V → Option (Lp V O)} {v0 : V} {o : O} (D : V → Chg) (D' : O → Chg) (h : loop f v0 = some o) (h0 : Xfh C σ (σ.upd (D v0)))
    (hb : ∀ v s, f v = some s → AWp P C x (σ.upd (D v)) (Xtk C (fun v => σ.upd (D v)) (Yan C id fun o => σ.upd (D' o)) s)) (hk : Q .normal (σ.upd (D' o))) : AWp P C (.block id (.loop x)) σ Q := by
  refine Xqs (Xtn (Xsi D (Yan C id fun o => σ.upd (D' o)) h h0 hb ?_))
  intro e σ' hr
  cases e with
  | exit i => obtain ⟨rfl, hw⟩ := hr; exact ⟨_, hw, Xyi hk⟩
  | _ => exact hr.elim
theorem Xgq {V W R : Type} {f : V → Option (Lp V (Ou W R))} {v0 : V} {o : Ou W R} (D : V → Chg) (D' : W → Chg) (E : R → Exit → St → Prop) (h : loop f v0 = some o) (h0 : Xfh C σ (σ.upd (D v0)))
    (hb : ∀ v s, f v = some s → AWp P C x (σ.upd (D v)) (Xtk C (fun v => σ.upd (D v)) (Xxf C id (fun o => σ.upd (D' o)) E) s)) (hk : ∀ v, o = .out v → Q .normal (σ.upd (D' v))) (hr : ∀ r σ', o = .ret r → E r .ret σ' → Q .ret σ') : AWp P C (.block id (.loop x)) σ Q := by
  refine Xqs (Xtn (Xsi D (Xxf C id (fun o => σ.upd (D' o)) E) h h0 hb ?_))
  intro e σ' hr'
  cases o with
  | out v =>
    cases e with
    | exit i => obtain ⟨rfl, hw⟩ := hr'; exact ⟨_, hw, Xyi (hk v rfl)⟩
    | _ => exact hr'.elim
  | ret r =>
    cases e with
    | ret => exact ⟨σ', Xfh.refl _, hr r σ' rfl hr'⟩
    | _ => exact hr'.elim
theorem Xjg (hC : Xd2 C n objs) (tab : List (Nat × Nat)) {s : List (Nat × AV)} {o : List (Nat × Option Obj)} {b b' : List Nat} {c : Prop} (ho : CO tab σ o b') (hs : Xy1 σ (Xsd s) ((Xra s).map σ.slot) = some ⟨AV.renL (rn tab) (Xsd s), b, c⟩) (hc : c)
    (hok : (Xh0 (Xld (rn tab) (Xh8 o)) && Xl3 (rn tab) (b ++ b') (Xh8 o) && Xvm tab objs (Xh8 o)) = true) : Xfh C σ ⟨s, o⟩ := Xw8 hC tab hs hc ho hok
theorem Xwh {P : Program} {C : Ctx} {μ : Nat → Value} {A : Nat → Prop} {σ : St} {a : Act} {w : World} {o : Oper} (h : Xaz C μ A σ a w) (hd : ∀ d, o.dst = some d → d < C.n) {c x y : Operand} {b : Bool} (ho : o.op = .pick c x y) (hc : a.eval c = .bool b) {e : Eff} {ks ks' : List Key}
    (hr : (ev (bif b then x else y) fun v => Xbq o v True).run σ ks = some (e, ks')) (hco : e.cond) : Xeb P C o (e.app σ) a w := by
  obtain ⟨v, k1, hv, hr⟩ := Xav hr
  refine Xai h hr hd (fun _ => ?_) (fun _ => h.ev hv) hco
  cases b <;> simp [execOp, ho, hc, asBool]
theorem Xs6 {o : Oper} {c x y : Operand} {b b' : Bool} {ks1 ks2 : List Key} {e : Eff} (hd : ∀ d, o.dst = some d → d < C.n) (ho : o.op = .pick c x y) (hc : (ev c .ret).run σ [] = some (.sv (.bool b'), ks1)) (hb : b' = b) (hr : (ev (bif b then x else y) fun v => Xbq o v True).run σ [] = some (e, ks2)) (hco : e.cond) :
    Xyr P C o ⟨ks1 ++ ks2, e.slots, e.objs, e.new⟩ σ := by
  intro τ ha hf a w ⟨μ, A, h⟩
  obtain ⟨v, k1, hv, hr1⟩ := Xav (Xes hc fun k hk => ha k (List.mem_append_left _ hk))
  simp only [RM.run, Option.some.injEq, Prod.mk.injEq] at hr1
  obtain ⟨rfl, _⟩ := hr1
  have he := Xds (h.ev hv)
  rw [hb] at he
  exact Xwh h hd ho he (Xes hr fun k hk => ha k (List.mem_append_right _ hk)) hco
theorem Yal (hC : Xd2 C n objs) {ops : Array Oper} {o : Oper} {l : List Oper} {rs : List Rec} {K : List Rec → St → Prop} {c x y : Operand} {b b' : Bool} {ks1 ks2 : List Key} {e : Eff} (hg : o.guard = none) (ho : o.op = .pick c x y) (hc : (ev c .ret).get σ [] = some (.sv (.bool b'), ks1)) (hb : b' = b) (hr : (ev (bif b then x else y) fun v => Xbq o v True).get σ [] = some (e, ks2)) (hd : Xti n o.dst = true) (hf : frs objs σ e.new = true) (hco : e.cond)
    (k : Vc P C ops l (rs ++ [⟨ks1 ++ ks2, e.slots, e.objs, e.new⟩]) (Rec.app ⟨ks1 ++ ks2, e.slots, e.objs, e.new⟩ σ) K) : Vc P C ops (o :: l) rs σ K :=
  .cons _ (Xur hg (Xs6 (Xhz hC hd) ho (Xd4 hc) hb (Xd4 hr) hco)) (Xh3 hC hf) k
theorem Xjf (hC : Xd2 C n objs) {ops : Array Oper} {o : Oper} {l : List Oper} {rs : List Rec} {K : List Rec → St → Prop} {i t : Nat} {g u : Bool} {c x y : Operand} {b b' : Bool} {ks1 ks2 : List Key} {e : Eff} (hg : o.guard = some (i, g)) (hdi : (ops[i]?).bind (·.dst) = some t) (hs : lk σ.s t = some (.sv (.bool u))) (ht : Nat.blt t n = true) (hu : u = g)
    (ho : o.op = .pick c x y) (hc : (ev c .ret).get σ [] = some (.sv (.bool b'), ks1)) (hb : b' = b) (hr : (ev (bif b then x else y) fun v => Xbq o v True).get σ [] = some (e, ks2)) (hd : Xti n o.dst = true) (hf : frs objs σ e.new = true) (hco : e.cond)
    (k : Vc P C ops l (rs ++ [⟨.s t :: (ks1 ++ ks2), e.slots, e.objs, e.new⟩]) (Rec.app ⟨.s t :: (ks1 ++ ks2), e.slots, e.objs, e.new⟩ σ) K) : Vc P C ops (o :: l) rs σ K :=
  .cons _ (Xtu hg hdi (by rw [hC.n]; exact Xkq ht) hs hu (Xs6 (Xhz hC hd) ho (Xd4 hc) hb (Xd4 hr) hco)) (Xh3 hC hf) k
theorem Xqe {rs : List ResultVar} {res : AV} {objs' : Xap} {τ : St} (h : Xfh C σ τ) (h1 : Xip T τ rs = some res) (h2 : Xss τ objs') : Xod C T rs res objs' .ret σ := ⟨τ, h, h1, h2⟩
end
end Go.Proofs.YtlebkepfhdjnmabAL
/- An abstract logic for Go functions: help for a seat's own base. Conditions: as each statement tells. -/
namespace Go.Proofs.YtlebkepfhdjnmabAL
open Go.RowKit
set_option linter.unusedVariables false
abbrev Xin.sv (c : Xin) (l : List c.α) : SV := .sl c.α c.d c.sz c.enc l
def gS : SV → Option ByteArray
  | .str b => some b
  | _ => none
def gL (k : IntKind) : SV → Option (List Int)
  | .ints k' l => if k' = k then some l else none
  | .nil => some []
  | _ => none
theorem Xz3 {x : SV} {n : ByteArray} (h : gS x = some n) : ∀ (w : World) (A : Nat → Prop) (v : Value), Xcd w A x v → Xcd w A (.str n) v := by
  cases x <;> simp only [gS] at h <;> first | (cases h; done) | skip
  cases h; exact fun _ _ _ h => h
theorem Xyj {k : IntKind} {x : SV} {l : List Int} (h : gL k x = some l) : ∀ (w : World) (A : Nat → Prop) (v : Value), Xcd w A x v → Xcd w A (.ints k l) v := by
  cases x <;> simp only [gL] at h <;> first | (cases h; done) | skip
  · cases h
    intro w A v hv
    have : v = .slice none 0 0 := Xih (μ := fun _ => undef) (.sv hv)
    subst this
    exact Xcd.sl _ 1 [] none 0 (fun _ _ => undef) rfl (by simp) (by simp) (by simp) (by simp) (by simp)
  · split at h
    · rename_i e; cases h; subst e; exact fun _ _ _ h => h
    · cases h
theorem Xbp {P : Program} {t : Nat} {i : TypeInfo} (h : P.types[t]? = some i) : P.info? t = some i := by
  show (if t < P.types.size then P.types[t]? else _) = _
  rw [if_pos (Array.getElem?_eq_some_iff.1 h).1]; exact h
def lkT : List (Nat × TI) → Nat → Option TI
  | [], _ => none
  | (k, v) :: l, t => bif Nat.beq k t then some v else lkT l t
theorem Xy3 {l : List (Nat × TI)} {t : Nat} {ti : TI} (h : lkT l t = some ti) : (t, ti) ∈ l := by
  induction l with
  | nil => cases h
  | cons p l ih =>
    obtain ⟨k, v⟩ := p
    rw [lkT] at h
    cases e : Nat.beq k t with
    | true => rw [e] at h; cases h; rw [Nat.eq_of_beq_eq_true e]; simp
    | false => rw [e] at h; exact List.mem_cons_of_mem _ (ih h)
theorem Xy2 {P : Program} {l : List (Nat × TI)} (h : ∀ p ∈ l, p.2.ok P p.1) : TOk P (lkT l) := fun t ti ht => h _ (Xy3 ht)
end Go.Proofs.YtlebkepfhdjnmabAL
/- An abstract logic for Go functions: what reads at a type stands for; a contract as a row wants it. Conditions: as each statement tells. -/
namespace Go.Proofs.YtlebkepfhdjnmabAL
open Go.RowKit Go.Deep Go.ChangeShapes Go.WideShapes
set_option linter.unusedVariables false
def Xzu (w : World) (g : Nat) : Prop := g < w.heap.size
def FR (w : World) : List SV → List Value → Prop
  | [], [] => True
  | y :: ys, u :: us => Xcd w (Xzu w) y u ∧ FR w ys us
  | _, _ => False
theorem FR.len {w : World} : ∀ {ys : List SV} {us : List Value}, FR w ys us → us.length = ys.length
  | [], [], _ => rfl
  | y :: ys, u :: us, h => by rw [List.length_cons, List.length_cons, FR.len h.2]
  | [], _ :: _, h => h.elim
  | _ :: _, [], h => h.elim
theorem FR.get {w : World} : ∀ {ys : List SV} {us : List Value}, FR w ys us → ∀ {j : Nat} {y : SV} {u : Value}, ys[j]? = some y → us[j]? = some u → Xcd w (Xzu w) y u
  | [], [], _, j, y, u, hy, _ => by simp at hy
  | a :: ys, b :: us, h, 0, y, u, hy, hu => by cases hy; cases hu; exact h.1
  | a :: ys, b :: us, h, j + 1, y, u, hy, hu => FR.get h.2 (j := j) hy hu
  | [], _ :: _, h, _, _, _, _, _ => h.elim
  | _ :: _, [], h, _, _, _, _, _ => h.elim
theorem FR.append {w : World} : ∀ {ys zs : List SV} {us vs : List Value}, FR w ys us → FR w zs vs → FR w (ys ++ zs) (us ++ vs)
  | [], zs, [], vs, _, k => k
  | a :: ys, zs, b :: us, vs, h, k => ⟨h.1, FR.append h.2 k⟩
  | [], _, _ :: _, _, h, _ => h.elim
  | _ :: _, _, [], _, h, _ => h.elim
def Xau {α : Type} (P : Program) (f : α → List SV) (ok : α → Prop) (t : TypeId) : Prop :=
  ∀ {H : Type} (enc : TypeId × Value → H) (w : World) (base : Nat) (spare : Nat → Bool) (held : Bool) (fuel : Nat) (cs : List Value) (x : DataW H × List MemPlace),
    DataW.trod enc P w base spare held fuel t cs = some x → ∃ v, ok v ∧ FR w (f v) cs
theorem Xau.int {P : Program} {k : IntKind} {t : TypeId} (ht : P.underlying t = some (.int k)) : Xau P (fun n => [.int k n]) (fun n => (Lit.int k n).wf = true) t := by
  intro H enc w base spare held fuel cs x h
  obtain ⟨n, rfl, _, hw⟩ := DataW.trod_int ht h
  exact ⟨n, hw, .int k n, trivial⟩
theorem Xau.bool {P : Program} {t : TypeId} (ht : P.underlying t = some .bool) : Xau P (fun b => [.bool b]) (fun _ => True) t := by
  intro H enc w base spare held fuel cs x h
  obtain ⟨n, rfl, _⟩ := DataW.trod_bool ht h
  exact ⟨n, trivial, .bool n, trivial⟩
theorem Xau.string {P : Program} {t : TypeId} (ht : P.underlying t = some .string) : Xau P (fun s => [.str s]) (fun s => s.size ≤ maxLen) t := by
  intro H enc w base spare held fuel cs x h
  obtain ⟨n, rfl, _, hs⟩ := DataW.trod_string ht h
  exact ⟨n, hs, .str n, trivial⟩
theorem Xau.map {α β : Type} {P : Program} {f : α → List SV} {ok : α → Prop} {f' : β → List SV} {ok' : β → Prop} {t : TypeId} (h : Xau P f ok t) (m : α → β) (hf : ∀ v, f v = f' (m v)) (ho : ∀ v, ok v → ok' (m v)) : Xau P f' ok' t := by
  intro H enc w base spare held fuel cs x hx
  obtain ⟨v, h1, h2⟩ := h enc w base spare held fuel cs x hx
  exact ⟨m v, ho v h1, hf v ▸ h2⟩
theorem Xau.rows {α : Type} {P : Program} {f : α → List SV} {ok : α → Prop} {t e : TypeId} {sz : Nat} (ht : P.underlying t = some (.slice e)) (hc : P.cellsOf e = sz) (hp : 0 < sz) (hf : ∀ v, (f v).length = sz) (h : Xau P f ok e) (S : List α → SV) (hS : ∀ l, (S l).elems = some (sz, l.map f)) :
    Xau P (fun l => [S l]) (fun xs => xs.length ≤ maxLen ∧ ∀ x ∈ xs, ok x) t := by
  intro H enc w base spare held fuel cs x hx
  rcases open_slice ht hx with ⟨rfl, _⟩ | ⟨a, len, cap, m, n, D, Pl, rfl, hb, hl, hm, hmm, _, hi⟩
  · refine ⟨[], ⟨by simp, by simp⟩, ?_, trivial⟩
    exact Xcd.sl (S []) sz [] none 0 (fun _ _ => undef) (hS []) (by simp) (by simp) (by simp) (by simp) (by simp)
  · have hle : len ≤ m := by rw [hmm]; split <;> omega
    have one : ∀ i, i < len → ∃ v, ok v ∧ ∃ c, c.length = sz ∧ FR w (f v) c ∧ ∀ j u, c[j]? = some u → w.cell? (a.add (i * sz + j)) = some u := by
      intro i hil
      obtain ⟨cs', h1, h2⟩ := hi i (by omega)
      obtain ⟨v, hv, hK⟩ := h enc w base spare held n cs' _ h2
      rw [hc] at h1
      obtain ⟨_, hcl, hat⟩ := World.cells?_some h1
      refine ⟨v, hv, cs', hcl, hK, fun j u hj => ?_⟩
      have hjl : j < cs'.length := (List.getElem?_eq_some_iff.1 hj).1
      have := hat j (by omega)
      rw [← Go.Deep.add_add, this, hj]
    have all : ∀ k, k ≤ len → ∃ xs : List α, xs.length = k ∧ (∀ x ∈ xs, ok x) ∧ ∀ i p, xs[i]? = some p → ∃ c, c.length = sz ∧ FR w (f p) c ∧ ∀ j u, c[j]? = some u → w.cell? (a.add (i * sz + j)) = some u := by
      intro k
      induction k with
      | zero => exact fun _ => ⟨[], rfl, by simp, fun i p hp => by simp at hp⟩
      | succ k ih =>
        intro hk
        obtain ⟨xs, hxl, hxo, hxc⟩ := ih (by omega)
        obtain ⟨v, hv, hrest⟩ := one k (by omega)
        refine ⟨xs ++ [v], by simp [hxl], ?_, fun i p hp => ?_⟩
        · intro x hx'
          rcases List.mem_append.1 hx' with h' | h'
          · exact hxo x h'
          · rw [List.mem_singleton.1 h']; exact hv
        · rcases Nat.lt_or_ge i xs.length with hlt | hge
          · rw [List.getElem?_append_left hlt] at hp
            exact hxc i p hp
          · have hil : i < (xs ++ [v]).length := (List.getElem?_eq_some_iff.1 hp).1
            rw [List.length_append, List.length_singleton] at hil
            obtain rfl : i = k := by omega
            rw [List.getElem?_append_right hge, hxl, Nat.sub_self] at hp
            simp only [List.getElem?_cons_zero, Option.some.injEq] at hp
            rw [← hp]
            exact hrest
    obtain ⟨xs, hxl, hxo, hxc⟩ := all len (Nat.le_refl _)
    have hm' : len ≤ maxLen := Nat.le_trans hl hm
    refine ⟨xs, ⟨by omega, hxo⟩, ?_, trivial⟩
    have cellAt : ∀ i j, i < xs.length → j < sz → ∃ g o, (some a : Option Addr) = some ⟨g, o, none⟩ ∧ Xzu w g ∧ ∃ u, w.cell? ⟨g, o + (i * sz + j), none⟩ = some u := by
      intro i j hi hj
      obtain ⟨c, hcl, hK, hcell⟩ := hxc i _ (List.getElem?_eq_getElem hi)
      have hcj : c[j]? = some (c[j]'(by omega)) := List.getElem?_eq_getElem (by omega)
      have h1 := hcell j _ hcj
      have hsome : ∃ g o, a = ⟨g, o, none⟩ := by
        obtain ⟨c0, hcl0, hK0, hcell0⟩ := hxc 0 _ (List.getElem?_eq_getElem (show 0 < xs.length by omega))
        have h0 := hcell0 0 _ (List.getElem?_eq_getElem (show 0 < c0.length by omega))
        obtain ⟨g, o, sp⟩ := a
        cases sp with
        | none => exact ⟨g, o, rfl⟩
        | some q =>
          simp only [Nat.zero_mul, Nat.add_zero, Addr.add, if_true] at h0
          unfold World.cell? at h0
          split at h0
          · simp at h0
          · cases h0
      obtain ⟨g, o, rfl⟩ := hsome
      have e : (Addr.add ⟨g, o, none⟩ (i * sz + j)) = ⟨g, o + (i * sz + j), none⟩ := by
        unfold Addr.add
        split
        · rename_i h0; rw [h0]; rfl
        · rfl
      rw [e] at h1
      refine ⟨g, o, rfl, ?_, _, h1⟩
      unfold World.cell? at h1
      split at h1
      · rename_i hg; exact (Array.getElem?_eq_some_iff.1 hg).1
      · cases h1
    rw [show (Value.slice (some a) len cap) = Value.slice (some a) (xs.map f).length cap by rw [List.length_map, hxl]]
    refine Xcd.sl (S xs) sz (xs.map f) (some a) cap (fun i j => (w.cell? ⟨a.block, a.off + (i * sz + j), none⟩).getD undef) (hS xs) ?_ ?_ ?_ ?_ ?_
    · intro x hx'
      obtain ⟨v, _, rfl⟩ := List.mem_map.1 hx'
      exact hf v
    · intro i j x y hx' hy
      rw [List.getElem?_map] at hx'
      obtain ⟨p, hp, rfl⟩ := Option.map_eq_some_iff.1 hx'
      have hi := (List.getElem?_eq_some_iff.1 hp).1
      have hj : j < sz := by have := (List.getElem?_eq_some_iff.1 hy).1; rw [hf] at this; exact this
      obtain ⟨c, hcl, hK, hcell⟩ := hxc i p hp
      have hcj : c[j]? = some (c[j]'(by omega)) := List.getElem?_eq_getElem (by omega)
      obtain ⟨g, o, e1, _, u, hu⟩ := cellAt i j hi hj
      cases e1
      have h1 := hcell j _ hcj
      have e : (Addr.add ⟨g, o, none⟩ (i * sz + j)) = ⟨g, o + (i * sz + j), none⟩ := by
        unfold Addr.add
        split
        · rename_i h0; rw [h0]; rfl
        · rfl
      rw [e] at h1
      rw [h1]
      exact FR.get hK hy hcj
    · intro i j hi hj
      rw [List.length_map] at hi
      obtain ⟨g, o, e1, hg, u, hu⟩ := cellAt i j hi hj
      cases e1
      exact ⟨g, o, rfl, hg, by simp only [hu, Option.getD_some]⟩
    · intro hne
      obtain ⟨g, o, e1, _⟩ := cellAt 0 0 (List.length_pos_iff.2 (by simpa using hne)) hp
      exact ⟨g, o, e1⟩
    · rw [List.length_map]; omega

theorem Xau.ints {P : Program} {t e : TypeId} {k : IntKind} (ht : P.underlying t = some (.slice e)) (he : P.underlying e = some (.int k)) (hc : P.cellsOf e = 1) : Xau P (fun l => [.ints k l]) (fun xs => xs.length ≤ maxLen ∧ ∀ x ∈ xs, (Lit.int k x).wf = true) t :=
  Xau.rows ht hc (by decide) (fun _ => rfl) (Xau.int he) (SV.ints k) (fun _ => rfl)
theorem Xau.row {P : Program} {t e : TypeId} (c : Xin) (hk : c.ok) {ok : c.α → Prop} (ht : P.underlying t = some (.slice e)) (hc : P.cellsOf e = c.sz) (h : Xau P c.enc ok e) : Xau P (fun l => [c.sv l]) (fun xs => xs.length ≤ maxLen ∧ ∀ x ∈ xs, ok x) t :=
  Xau.rows ht hc hk.2.1 hk.1 h c.sv (fun _ => rfl)
def Xbd {α : Type} (P : Program) (f : α → List SV) (ok : α → Prop) (fs : List Field) (off sz : Nat) : Prop :=
  ∀ {H : Type} (enc : TypeId × Value → H) (w : World) (base : Nat) (spare : Nat → Bool) (held : Bool) (n : Nat) (cs : List Value),
    (∀ f ∈ fs, ∃ y, DataW.trod enc P w base spare held n f.type ((cs.drop f.offset).take (P.cellsOf f.type)) = some y) → ∃ v, ok v ∧ FR w (f v) ((cs.drop off).take sz)
theorem Xbd.one {α : Type} {P : Program} {g : α → List SV} {ok : α → Prop} {f : Field} {off sz : Nat} (ho : f.offset = off) (hc : P.cellsOf f.type = sz) (h : Xau P g ok f.type) : Xbd P g ok [f] off sz := by
  intro H enc w base spare held n cs hf
  obtain ⟨y, hy⟩ := hf f (by simp)
  rw [ho, hc] at hy
  exact h enc w base spare held n _ y hy
theorem Xbd.cons {α β : Type} {P : Program} {g : α → List SV} {g2 : β → List SV} {ok : α → Prop} {ok2 : β → Prop} {f : Field} {fs : List Field} {off sz off2 sz2 : Nat} (ho : f.offset = off) (hc : P.cellsOf f.type = sz) (h : Xau P g ok f.type) (h2 : Xbd P g2 ok2 fs off2 sz2) (he : off2 = off + sz) :
    Xbd P (fun x : α × β => g x.1 ++ g2 x.2) (fun x => ok x.1 ∧ ok2 x.2) (f :: fs) off (sz + sz2) := by
  intro H enc w base spare held n cs hf
  obtain ⟨y, hy⟩ := hf f (by simp)
  rw [ho, hc] at hy
  obtain ⟨v, hv, hK⟩ := h enc w base spare held n _ y hy
  obtain ⟨v2, hv2, hK2⟩ := h2 enc w base spare held n cs (fun g hg => hf g (List.mem_cons_of_mem _ hg))
  refine ⟨(v, v2), ⟨hv, hv2⟩, ?_⟩
  subst he
  have : ((cs.drop off).take (sz + sz2)) = (cs.drop off).take sz ++ (cs.drop (off + sz)).take sz2 := by rw [List.take_add, List.drop_drop]
  rw [this]
  exact FR.append hK hK2
theorem Xau.struct {α : Type} {P : Program} {g : α → List SV} {ok : α → Prop} {t : TypeId} {fs : Array Field} {sz : Nat} (ht : P.underlying t = some (.struct fs)) (hc : P.cellsOf t = sz) (h : Xbd P g ok fs.toList 0 sz) : Xau P g ok t := by
  intro H enc w base spare held fuel cs x hx
  obtain ⟨xs, n, _, _, hl, hxl, hf⟩ := DataW.trod_struct ht hx
  obtain ⟨v, hv, hK⟩ := h enc w base spare held n cs (fun f hfm => by
    obtain ⟨i, hi, he⟩ := List.getElem_of_mem hfm
    have hi' : i < fs.size := by simpa using hi
    have h1 := hf i f (by rw [← he]; simp [hi'])
    exact ⟨xs[i]'(by omega), by rw [h1]; exact List.getElem?_eq_getElem (by omega)⟩)
  refine ⟨v, hv, ?_⟩
  rw [List.drop_zero, List.take_of_length_le (by omega)] at hK
  exact hK
/-! What a row wants. -/
theorem Xy7 {w : World} {μ : Nat → Value} {ys : List SV} {cs : Array Value} (h : FR w ys cs.toList) : Rep w (Xzu w) μ (.agg (ys.map .sv)) (.agg cs) := by
  refine .agg _ cs ?_ fun j y u hy hu => ?_
  · have := h.len; rw [List.length_map]; simpa using this
  · rw [List.getElem?_map] at hy
    obtain ⟨z, hz, rfl⟩ := Option.map_eq_some_iff.1 hy
    exact .sv (h.get hz (by rw [← Array.getElem?_toList] at hu; exact hu))
theorem Xyt {w : World} {A : Nat → Prop} {μ : Nat → Value} {ys : List AV} {us : List Value} (h : ys.length = us.length) (hr : ∀ (j : Nat) y u, ys[j]? = some y → us[j]? = some u → Rep w A μ y u) : Yar w A μ ys us.toArray :=
  ⟨by simp [h], fun j y u hy hu => hr j y u hy (by simpa using hu)⟩
def Xv0 (w : World) (A : Nat → Prop) (μ : Nat → Value) : List AV → List Value → Prop
  | [], [] => True
  | y :: ys, u :: us => Rep w A μ y u ∧ Xv0 w A μ ys us
  | _, _ => False
theorem Xv0.args {w : World} {A : Nat → Prop} {μ : Nat → Value} : ∀ {ys : List AV} {us : List Value}, Xv0 w A μ ys us → ys.length = us.length ∧ ∀ (j : Nat) y u, ys[j]? = some y → us[j]? = some u → Rep w A μ y u
  | [], [], _ => ⟨rfl, fun j y u hy _ => by simp at hy⟩
  | y :: ys, u :: us, h => by
    obtain ⟨h1, h2⟩ := Xv0.args h.2
    refine ⟨by simp [h1], fun j z v hz hv => ?_⟩
    cases j with
    | zero => cases hz; cases hv; exact h.1
    | succ j => exact h2 j z v hz hv
  | [], _ :: _, h => h.elim
  | _ :: _, [], h => h.elim
theorem Xxh {P : Program} {f : Nat} {args : List AV} {b : Bool} (h : AC P f args [] (.sv (.bool b)) []) {w : World} {us : List Value} (ha : Xv0 w (Xzu w) (fun _ => .bool false) args us) :
    Calls P f us.toArray w fun e w' => e = .returned (.bool b) ∧ Below w.heap.size w w' := by
  obtain ⟨h1, h2⟩ := ha.args
  refine (h (fun _ => .bool false) (Xzu w) w us.toArray ⟨fun _ => rfl, fun id ob h => by simp [lk] at h, fun i j oi oj g _ h => by simp [lk] at h, fun id ob g h => by simp [lk] at h, fun g hg => hg⟩ (Xyt h1 h2)).mono ?_
  rintro e w' ⟨v, μ', A', rfl, hL, hr⟩
  have hv : v = .bool b := Xds hr
  subst hv
  refine ⟨rfl, ?_⟩
  have hf := hL.frame
  exact ⟨hf.os, hf.tape, hf.output, hf.size, fun k hk => hf.block k ⟨hk, fun id ob h => by simp [lk] at h⟩⟩
end Go.Proofs.YtlebkepfhdjnmabAL
/- An abstract logic for Go functions: structs held against each other. Conditions: as each statement tells. -/
namespace Go.Proofs.YtlebkepfhdjnmabAL
open Go.RowKit
set_option linter.unusedVariables false
section
variable {P : Program} {d : Nat} {xs ys : Array Value} {f : Field} {fs : List Field} {a b : Value} {r s : Bool} {w : World}
theorem Xxo (hn : (f.name == "_") = false) (ha : (part f.type xs f.offset).run P w = .ok a w) (hb : (part f.type ys f.offset).run P w = .ok b w) (he : (Op.equalIn d f.type a b).run P w = .ok r w) : (Op.eqFields d xs ys [f]).run P w = .ok r w := by
  have hn' : f.name ≠ "_" := by simpa using hn
  simp only [Op.eqFields, if_pos hn', Sem.run_bind, ha, hb, he, Result.andThen_ok]
  cases r <;> simp
theorem Xug (hn : (f.name == "_") = false) (ha : (part f.type xs f.offset).run P w = .ok a w) (hb : (part f.type ys f.offset).run P w = .ok b w) (he : (Op.equalIn d f.type a b).run P w = .ok r w) (hr : (Op.eqFields d xs ys fs).run P w = .ok s w) : (Op.eqFields d xs ys (f :: fs)).run P w = .ok (r && s) w := by
  have hn' : f.name ≠ "_" := by simpa using hn
  rw [Op.eqFields]
  simp only [if_pos hn', Sem.run_bind, ha, hb, he, Result.andThen_ok]
  cases r
  · simp
  · simpa using hr
theorem Xz0 {t : TypeId} {fs : Array Field} (hu : P.underlying t = some (.struct fs)) (hp : P.stoodInHeld t = false) (h : (Op.eqFields d xs ys fs.toList).run P w = .ok r w) : (Op.equalIn (d + 1) t (.agg xs) (.agg ys)).run P w = .ok r w := by
  have hf : P.fieldsOf t = fs := by simp [Program.fieldsOf, hu]
  rw [run_equalIn_struct (P := P) w d t xs ys (by rw [hf]; exact hu) hp, hf]
  exact h
end
def Xx8 : SV → Value
  | .int k n => .int k n
  | .bool b => .bool b
  | .str s => .string s
  | _ => undef
def SV.plain : SV → Bool
  | .int _ _ | .bool _ | .str _ => true
  | _ => false
def Xg0 : List SV → Bool
  | [] => true
  | x :: l => x.plain && Xg0 l
theorem Xww {w : World} {A : Nat → Prop} {μ : Nat → Value} {x : SV} {v : Value} (hx : x.plain = true) (h : Rep w A μ (.sv x) v) : v = Xx8 x := by
  cases x with
  | int k n => exact Xa3 h
  | bool b => exact Xds h
  | str s => exact Xd7 h
  | _ => cases hx
theorem Xkp : ∀ {l : List SV}, Xg0 l = true → ∀ x ∈ l, x.plain = true
  | x :: l, h, y, hy => by
    rw [Xg0, Bool.and_eq_true] at h
    rcases List.mem_cons.1 hy with rfl | hy
    · exact h.1
    · exact Xkp h.2 y hy
theorem Xuy {w : World} {A : Nat → Prop} {μ : Nat → Value} {cs : List SV} {v : Value} (hx : Xg0 cs = true) (h : Rep w A μ (.agg (cs.map .sv)) v) : v = .agg (cs.map Xx8).toArray := by
  cases h with
  | agg _ vs hl hr =>
    congr 1
    refine Array.ext_getElem? fun j => ?_
    have hj : (cs.map AV.sv)[j]? = cs[j]?.map .sv := List.getElem?_map
    simp only [List.getElem?_toArray, List.getElem?_map]
    cases e : cs[j]? with
    | none =>
      have := List.getElem?_eq_none_iff.1 e
      simp only [Option.map_none]
      exact Array.getElem?_eq_none (by simp at hl; omega)
    | some y =>
      have hlt := (List.getElem?_eq_some_iff.1 e).1
      have hv : vs[j]? = some (vs[j]'(by simp at hl; omega)) := Array.getElem?_eq_getElem _
      rw [hv]
      have := hr j (.sv y) _ (by rw [hj, e]; rfl) hv
      rw [Xww (Xkp hx y (List.mem_of_getElem? e)) this]
      rfl
def EqT (P : Program) (t : Nat) (cs ds : List SV) (b : Bool) : Prop := P.eqGuardType P.depth t = false ∧ Xg0 cs = true ∧ Xg0 ds = true ∧ ∀ w, (Op.equal t (.agg (cs.map Xx8).toArray) (.agg (ds.map Xx8).toArray)).run P w = .ok b w
section
variable {P : Program} {T : Nat → Option TI} {C : Ctx} {σ : St} {n : Nat} {objs : Xap} {ops : Array Oper} {o : Oper} {l : List Oper} {rs : List Rec} {K : List Rec → St → Prop}
def Xva {α : Type 1} : List AV → (List SV → RM α) → RM α
  | [], k => k []
  | .sv x :: l, k => Xva l fun ys => k (x :: ys)
  | _, _ => .fail
theorem Xr0 {α : Type 1} {σ : St} : ∀ {l : List AV} {k : List SV → RM α} {ks : List Key} {r : α × List Key}, (Xva l k).run σ ks = some r → ∃ ys, l = ys.map .sv ∧ (k ys).run σ ks = some r
  | [], k, ks, r, h => ⟨[], rfl, h⟩
  | .sv x :: l, k, ks, r, h => by
    rw [Xva] at h
    obtain ⟨ys, e, h⟩ := Xr0 h
    exact ⟨x :: ys, by rw [e]; rfl, h⟩
  | .any :: l, _, _, _, h => by simp [Xva, RM.run] at h
  | .own _ :: l, _, _, _, h => by simp [Xva, RM.run] at h
  | .sub _ _ _ _ :: l, _, _, _, h => by simp [Xva, RM.run] at h
  | .ptr _ _ :: l, _, _, _, h => by simp [Xva, RM.run] at h
  | .eptr _ _ _ _ :: l, _, _, _, h => by simp [Xva, RM.run] at h
  | .iptr _ _ :: l, _, _, _, h => by simp [Xva, RM.run] at h
  | .agg _ :: l, _, _, _, h => by simp [Xva, RM.run] at h
  | .tup _ :: l, _, _, _, h => by simp [Xva, RM.run] at h
  | .fn _ _ :: l, _, _, _, h => by simp [Xva, RM.run] at h
def Ya5 (x y : Operand) : RM (List SV × List SV) := ev x fun a => ev y fun b => match a, b with
  | .agg cs, .agg ds => Xva cs fun xs => Xva ds fun ys => .ret (xs, ys)
  | _, _ => .fail
def Ya6 : BinOp → Option Bool
  | .eql => some true
  | .neq => some false
  | _ => none
theorem Xy4 {op : BinOp} {t ty : Nat} {x y : Operand} {cs ds : List SV} {b p : Bool} {ks : List Key} (hd : ∀ d, o.dst = some d → d < C.n) (ho : o.op = .binOp op t x y ty) (hp : Ya6 op = some p) (hr : (Ya5 x y).run σ [] = some ((cs, ds), ks)) (hE : EqT P t cs ds b) {d : Nat} (hdst : o.dst = some d) :
    Xyr P C o ⟨ks, [(d, .sv (.bool (b == p)))], [], []⟩ σ := by
  intro τ ha hf a w ⟨μ, A, h⟩
  have hr' := Xes hr ha
  obtain ⟨hE1, hE2, hE3, hE4⟩ := hE
  obtain ⟨v, k1, hv, hr1⟩ := Xav hr'
  obtain ⟨u, k2, hu, hr2⟩ := Xav hr1
  split at hr2
  · rename_i es fs
    obtain ⟨xs, e1, hr2⟩ := Xr0 hr2
    obtain ⟨ys, e2, hr2⟩ := Xr0 hr2
    cases hr2
    have h1 := h.ev hv
    have h2 := h.ev hu
    rw [e1] at h1
    rw [e2] at h2
    have g1 := Xuy hE2 h1
    have g2 := Xuy hE3 h2
    refine Xai (v := .sv (.bool (b == p))) (c := True) (ks := []) (ks' := []) h (by simp only [Xbq, hdst]; rfl) hd (fun _ => ?_) (fun _ => .sv (.bool _)) trivial
    cases op <;> cases hp
    · simp [execOp, ho, g1, g2, binOp, run_eqGuard_agg (P := P) w _ t x y _ _ hE1, hE4]
    · simp [execOp, ho, g1, g2, binOp, run_eqGuard_agg (P := P) w _ t x y _ _ hE1, hE4]
  · cases hr2
theorem Ybm (hC : Xd2 C n objs) {op : BinOp} {t ty d : Nat} {x y : Operand} {cs ds : List SV} {b p : Bool} {ks : List Key} (hg : o.guard = none) (ho : o.op = .binOp op t x y ty) (hp : Ya6 op = some p) (hr : (Ya5 x y).get σ [] = some ((cs, ds), ks)) (hE : EqT P t cs ds b) (hdst : o.dst = some d) (hd : Xti n o.dst = true)
    (k : Vc P C ops l (rs ++ [⟨ks, [(d, .sv (.bool (b == p)))], [], []⟩]) (Rec.app ⟨ks, [(d, .sv (.bool (b == p)))], [], []⟩ σ) K) : Vc P C ops (o :: l) rs σ K :=
  .cons _ (Xur hg (Xy4 (Xhz hC hd) ho hp (Xd4 hr) hE hdst)) (fun _ h => by simp at h) k
end
end Go.Proofs.YtlebkepfhdjnmabAL
/- An abstract logic for Go functions: rows that are shut as soon as they are made. Conditions: as each statement tells. -/
namespace Go.Proofs.YtlebkepfhdjnmabAL
open Go.RowKit
set_option linter.unusedVariables false
section
variable {P : Program} {T : Nat → Option TI} {C : Ctx} {σ : St} {n : Nat} {objs : Xap} {ops : Array Oper} {o : Oper} {l : List Oper} {rs : List Rec} {K : List Rec → St → Prop}
end
end Go.Proofs.YtlebkepfhdjnmabAL
/- An abstract logic for Go functions: a part of a row becomes a row. Conditions: as each statement tells. -/
namespace Go.Proofs.YtlebkepfhdjnmabAL
open Go.RowKit
set_option linter.unusedVariables false
section
variable {P : Program} {T : Nat → Option TI} {C : Ctx} {σ : St} {n : Nat} {objs : Xap} {w : World} {A : Nat → Prop} {μ : Nat → Value}
end
end Go.Proofs.YtlebkepfhdjnmabAL
/- An abstract logic for Go functions: arrays, and copy. Conditions: as each statement tells. -/
namespace Go.Proofs.YtlebkepfhdjnmabAL
open Go.RowKit
set_option linter.unusedVariables false
section
variable {P : Program} {T : Nat → Option TI} {C : Ctx} {σ : St} {n : Nat} {objs : Xap} {ops : Array Oper} {o : Oper} {l : List Oper} {rs : List Rec} {K : List Rec → St → Prop} {w : World} {A : Nat → Prop} {μ : Nat → Value} {a : Act}
structure R3 : Type 1 where
  l : List Int
  i : Int
  j : Nat
/-! An array of numbers, read at a place that is reckoned. -/
structure R6 : Type 1 where
  id : Nat
  off : Nat
  len : Nat
  l : List Int
  l' : List Int
  c : Prop
def over (l : List Int) (i : Nat) (m : List Int) : List Int := l.take i ++ m ++ l.drop (i + m.length)
end
end Go.Proofs.YtlebkepfhdjnmabAL
