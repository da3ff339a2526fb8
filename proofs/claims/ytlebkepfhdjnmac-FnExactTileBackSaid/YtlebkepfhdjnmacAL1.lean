/- An abstract logic for Go functions, part 1: what a state of symbolic values and objects says of a world, and what each operation does to it. Conditions: as each statement tells. -/
import Derived.Below
import Derived.ChangeArms
import Derived.ChangeShapes
import Derived.Deep.Slices
import Derived.Laws.StructEq
import Derived.Orders
import Derived.Tactics
import Derived.WideShapes
import Derived.Test.YtlebkepfhdjnmacAL0
set_option linter.unusedSimpArgs false
/- An abstract logic for Go functions: statements whose order is open. Conditions: as each statement tells. -/
namespace Go.Proofs.YtlebkepfhdjnmacAL
open Go.RowKit
set_option linter.unusedVariables false

def Xp2 (b : Nat → Bool) : Nat → List Rec → St → St
  | _, [], σ => σ
  | i, r :: rs, σ => Xp2 b (i + 1) rs (bif b i then r.app σ else σ)
def Xur {β : Type 1} (f : Rec → List (Nat × β)) (b : Nat → Bool) : Nat → List Rec → Nat → Option β
  | _, [], _ => none
  | i, r :: rs, t => (Xur f b (i + 1) rs t).or (bif b i then lk (f r) t else none)
theorem Ybi {β : Type 1} (l l' : List (Nat × β)) (t : Nat) : lk (l ++ l') t = (lk l t).or (lk l' t) := by
  rw [Xzg]; cases lk l t <;> rfl
theorem Xzu (b : Nat → Bool) : ∀ (rs : List Rec) (i : Nat) (σ : St) (t : Nat), lk (Xp2 b i rs σ).s t = (Xur Rec.sl b i rs t).or (lk σ.s t)
  | [], i, σ, t => rfl
  | r :: rs, i, σ, t => by
    rw [Xp2, Xzu b rs (i + 1), Xur, Option.or_assoc]
    congr 1
    cases hb : b i with
    | true => simp only [cond_true, Rec.app]; rw [Ybi]
    | false => rfl
theorem Xzt (b : Nat → Bool) : ∀ (rs : List Rec) (i : Nat) (σ : St) (t : Nat), lk (Xp2 b i rs σ).o t = (Xur Rec.ob b i rs t).or (lk σ.o t)
  | [], i, σ, t => rfl
  | r :: rs, i, σ, t => by
    rw [Xp2, Xzt b rs (i + 1), Xur, Option.or_assoc]
    congr 1
    cases hb : b i with
    | true => simp only [cond_true, Rec.app]; rw [Ybi]
    | false => rfl
theorem Xnv {β : Type 1} (f : Rec → List (Nat × β)) {b b' : Nat → Bool} {t : Nat} : ∀ (rs : List Rec) (i : Nat), (∀ (j : Nat) (r : Rec), rs[j]? = some r → (lk (f r) t).isSome = true → b (i + j) = b' (i + j)) → Xur f b i rs t = Xur f b' i rs t
  | [], i, _ => rfl
  | r :: rs, i, h => by
    have ih := Xnv (t := t) f rs (i + 1) (fun j r' hj hs => by
      have h1 := h (j + 1) r' (by simpa using hj) hs
      exact (show i + (j + 1) = i + 1 + j by omega) ▸ h1)
    rw [Xur, Xur, ih]
    have h0 := h 0 r rfl
    simp only [Nat.add_zero] at h0
    congr 1
    cases hs : lk (f r) t with
    | none => cases b i <;> cases b' i <;> rfl
    | some v => rw [h0 (by rw [hs]; rfl)]
theorem Xzf {β : Type 1} (f : Rec → List (Nat × β)) {b : Nat → Bool} {t : Nat} : ∀ (rs : List Rec) (i : Nat), (∀ (j : Nat) (r : Rec), rs[j]? = some r → b (i + j) = true → lk (f r) t = none) → Xur f b i rs t = none
  | [], i, _ => rfl
  | r :: rs, i, h => by
    rw [Xur, Xzf f rs (i + 1) (fun j r' hj hb => h (j + 1) r' (by simpa using hj) (by rwa [show i + (j + 1) = i + 1 + j by omega]))]
    cases hb : b i with
    | false => rfl
    | true => simpa using h 0 r rfl (by simpa using hb)
theorem Ydc {β : Type 1} (f : Rec → List (Nat × β)) {b : Nat → Bool} {t : Nat} : ∀ (rs : List Rec) (i m : Nat) (r : Rec), rs[m]? = some r → b (i + m) = true → (lk (f r) t).isSome = true → (∀ (j : Nat) (r' : Rec), m < j → rs[j]? = some r' → b (i + j) = true → lk (f r') t = none) → Xur f b i rs t = lk (f r) t
  | [], i, m, r, hm, _, _, _ => by simp at hm
  | r0 :: rs, i, 0, r, hm, hb, hs, h => by
    simp at hm; subst hm
    rw [Xur, Xzf f rs (i + 1) (fun j r' hj hb' => h (j + 1) r' (by omega) (by simpa using hj) (by rwa [show i + (j + 1) = i + 1 + j by omega]))]
    simp only [Nat.add_zero] at hb
    rw [hb]; rfl
  | r0 :: rs, i, m + 1, r, hm, hb, hs, h => by
    rw [Xur, Ydc f rs (i + 1) m r (by simpa using hm) (by rwa [show i + 1 + m = i + (m + 1) by omega]) hs (fun j r' hj hr' hb' => h (j + 1) r' (by omega) (by simpa using hr') (by rwa [show i + (j + 1) = i + 1 + j by omega]))]
    obtain ⟨v, hv⟩ := Option.isSome_iff_exists.1 hs
    rw [hv]; rfl
theorem Xxj {β : Type 1} (f : Rec → List (Nat × β)) {b : Nat → Bool} {t : Nat} {v : β} : ∀ (rs : List Rec) (i : Nat), Xur f b i rs t = some v → ∃ (j : Nat) (r : Rec), rs[j]? = some r ∧ b (i + j) = true ∧ lk (f r) t = some v
  | [], i, h => by simp [Xur] at h
  | r :: rs, i, h => by
    rw [Xur] at h
    cases hl : Xur f b (i + 1) rs t with
    | some u =>
      rw [hl] at h; cases h
      obtain ⟨j, r', h1, h2, h3⟩ := Xxj f rs (i + 1) hl
      exact ⟨j + 1, r', by simpa using h1, by rwa [show i + (j + 1) = i + 1 + j by omega], h3⟩
    | none =>
      rw [hl] at h
      cases hb : b i with
      | false => rw [hb] at h; cases h
      | true => rw [hb] at h; exact ⟨0, r, rfl, hb, h⟩

/-! ### What may be exchanged -/
def inN (t : Nat) : List Nat → Bool
  | [] => false
  | x :: l => Nat.beq x t || inN t l
theorem Xiw {t : Nat} : ∀ {l : List Nat}, inN t l = true ↔ t ∈ l
  | [] => by simp [inN]
  | x :: l => by
    rw [inN, Bool.or_eq_true, Xiw (l := l), List.mem_cons]
    exact ⟨fun h => h.imp (fun e => (Nat.eq_of_beq_eq_true e).symm) id, fun h => h.imp (fun e => by rw [e]; exact Nat.beq_refl x) id⟩
def Xix (o : Oper) : List Nat := (o.after.toList.filter (fun e => Region.binds .any e)).map (fun e => e.on)
def Yib (d : Nat) (l : List Nat) : List Nat := bif inN d l then l else d :: l
def Yda : List Nat → List Nat → List Nat
  | [], m => m
  | x :: l, m => Yda l (Yib x m)
theorem Ybm {d k : Nat} {l : List Nat} (h : k ∈ Yib d l) : k = d ∨ k ∈ l := by
  unfold Yib at h
  cases e : inN d l with
  | true => rw [e] at h; exact .inr h
  | false => rw [e] at h; exact List.mem_cons.1 h
theorem Xwd {k : Nat} : ∀ {l m : List Nat}, k ∈ Yda l m → k ∈ l ∨ k ∈ m
  | [], m, h => .inr h
  | x :: l, m, h => by
    rcases Xwd (l := l) h with h | h
    · exact .inl (List.mem_cons_of_mem _ h)
    · rcases Ybm h with rfl | h
      · exact .inl (List.mem_cons_self ..)
      · exact .inr h
def Xv5 : List (List Nat) → List Nat → List Nat
  | anc, [] => []
  | anc, d :: l => Yib d (Yda (anc.getD d []) (Xv5 anc l))
def Xuq : List Oper → List (List Nat) → List (List Nat)
  | [], anc => anc
  | o :: l, anc => Xuq l (anc ++ [Xv5 anc (Xix o)])
def Xwe {β : Type 1} (t : Nat) : List (Nat × β) → Bool
  | [] => true
  | p :: l => !Nat.beq p.1 t && Xwe t l
def Xjz (ks : List Key) (r : Rec) : Bool :=
  match ks with
  | [] => true
  | .s t :: l => Xwe t r.sl && Xjz l r
  | .o id :: l => Xwe id r.ob && Xjz l r
def Xi7 {β : Type 1} : List (Nat × β) → List (Nat × β) → Bool
  | [], _ => true
  | p :: l, m => Xwe p.1 m && Xi7 l m
def Ycj (id : Nat) : List (Nat × AV) → Bool
  | [] => false
  | p :: l => p.2.has id || Ycj id l
def Yca (id : Nat) : List (Nat × Option Obj) → Bool
  | [] => false
  | p :: l => (match p.2 with | some ob => ob.has id | none => false) || Yca id l
def Xjx : List Nat → Rec → Bool
  | [], _ => true
  | id :: l, r => !Ycj id r.sl && !Yca id r.ob && Xjx l r
def Xmz (r r' : Rec) : Bool := Xjz r.rd r' && Xjz r'.rd r && Xi7 r.sl r'.sl && Xi7 r.ob r'.ob
def Xzo (anc : List (List Nat)) (i : Nat) (r : Rec) (j : Nat) (r' : Rec) : Bool :=
  (inN i (anc.getD j []) || Xjx r.nw r') && (inN j (anc.getD i []) || Xjx r'.nw r) && (inN i (anc.getD j []) || inN j (anc.getD i []) || Xmz r r')
def Ydr (anc : List (List Nat)) (i : Nat) (r : Rec) : Nat → List Rec → Bool
  | _, [] => true
  | j, r' :: l => Xzo anc i r j r' && Ydr anc i r (j + 1) l
def Yct (anc : List (List Nat)) : Nat → List Rec → Bool
  | _, [] => true
  | i, r :: l => Ydr anc i r (i + 1) l && Yct anc (i + 1) l
def Xm1 : Nat → List Oper → Bool
  | _, [] => true
  | i, o :: l => (Xix o).all (fun d => Nat.blt d i) && Xm1 (i + 1) l
def Yc0 (σ : St) : List Rec → Bool
  | [] => true
  | r :: l => Xjx r.nw ⟨[], σ.s, σ.o, []⟩ && Yc0 σ l
def Xen (ops : List Oper) (rs : List Rec) (σ : St) : Bool := Nat.beq rs.length ops.length && Xm1 0 ops && Yct (Xuq ops []) 0 rs && Yc0 σ rs

theorem Xrr {β : Type 1} {t : Nat} : ∀ {l : List (Nat × β)}, Xwe t l = true → lk l t = none
  | [], _ => rfl
  | (k, v) :: l, h => by
    rw [Xwe, Bool.and_eq_true] at h
    rw [Xa8, if_neg, Xrr h.2]
    intro e; subst e; simp at h
theorem Xli {r : Rec} : ∀ {ks : List Key}, Xjz ks r = true → ∀ k ∈ ks, match k with | .s t => lk r.sl t = none | .o id => lk r.ob id = none
  | [], _, k, hk => by simp at hk
  | .s t :: l, h, k, hk => by
    rw [Xjz, Bool.and_eq_true] at h
    rcases List.mem_cons.1 hk with rfl | hk
    · exact Xrr h.1
    · exact Xli h.2 k hk
  | .o id :: l, h, k, hk => by
    rw [Xjz, Bool.and_eq_true] at h
    rcases List.mem_cons.1 hk with rfl | hk
    · exact Xrr h.1
    · exact Xli h.2 k hk
theorem Xp0 {β : Type 1} {m : List (Nat × β)} {t : Nat} : ∀ {l : List (Nat × β)}, Xi7 l m = true → (lk l t).isSome = true → lk m t = none
  | [], _, h => by simp [lk] at h
  | (k, v) :: l, h, hs => by
    rw [Xi7, Bool.and_eq_true] at h
    rw [Xa8] at hs
    by_cases e : k = t
    · subst e; exact Xrr h.1
    · rw [if_neg e] at hs; exact Xp0 h.2 hs
theorem Xx1 {id t : Nat} {v : AV} : ∀ {l : List (Nat × AV)}, Ycj id l = false → lk l t = some v → v.has id = false
  | [], _, h => by simp [lk] at h
  | (k, u) :: l, h, hv => by
    rw [Ycj, Bool.or_eq_false_iff] at h
    rw [Xa8] at hv
    split at hv
    · cases hv; exact h.1
    · exact Xx1 h.2 hv
theorem Xxr {id t : Nat} {ob : Obj} : ∀ {l : List (Nat × Option Obj)}, Yca id l = false → lk l t = some (some ob) → ob.has id = false
  | [], _, h => by simp [lk] at h
  | (k, u) :: l, h, hv => by
    rw [Yca, Bool.or_eq_false_iff] at h
    rw [Xa8] at hv
    split at hv
    · cases hv; exact h.1
    · exact Xxr h.2 hv
theorem Xjy {r : Rec} {id : Nat} : ∀ {l : List Nat}, Xjx l r = true → id ∈ l → Ycj id r.sl = false ∧ Yca id r.ob = false
  | [], _, h => by simp at h
  | x :: l, h, hm => by
    rw [Xjx, Bool.and_eq_true, Bool.and_eq_true] at h
    rcases List.mem_cons.1 hm with rfl | hm
    · exact ⟨by simpa using h.1.1, by simpa using h.1.2⟩
    · exact Xjy h.2 hm
theorem Ybr {anc : List (List Nat)} {i : Nat} {r : Rec} : ∀ {l : List Rec} {n j : Nat} {r' : Rec}, Ydr anc i r n l = true → l[j]? = some r' → Xzo anc i r (n + j) r' = true
  | [], n, j, r', _, h => by simp at h
  | x :: l, n, 0, r', h, hj => by rw [Ydr, Bool.and_eq_true] at h; simp at hj; subst hj; exact h.1
  | x :: l, n, j + 1, r', h, hj => by rw [Ydr, Bool.and_eq_true] at h; have := Ybr h.2 (show l[j]? = some r' by simpa using hj); rwa [show n + (j + 1) = n + 1 + j by omega]
theorem Xwt {anc : List (List Nat)} : ∀ {l : List Rec} {n i j : Nat} {r r' : Rec}, Yct anc n l = true → l[i]? = some r → l[j]? = some r' → i < j → Xzo anc (n + i) r (n + j) r' = true
  | [], n, i, j, r, r', _, h, _, _ => by simp at h
  | x :: l, n, 0, j, r, r', h, hi, hj, hij => by
    rw [Yct, Bool.and_eq_true] at h
    simp at hi; subst hi
    obtain ⟨k, rfl⟩ : ∃ k, j = k + 1 := ⟨j - 1, by omega⟩
    have := Ybr h.1 (show l[k]? = some r' by simpa using hj)
    rwa [show n + (k + 1) = n + 1 + k by omega]
  | x :: l, n, i + 1, j, r, r', h, hi, hj, hij => by
    rw [Yct, Bool.and_eq_true] at h
    obtain ⟨k, rfl⟩ : ∃ k, j = k + 1 := ⟨j - 1, by omega⟩
    have := Xwt h.2 (show l[i]? = some r by simpa using hi) (show l[k]? = some r' by simpa using hj) (by omega)
    rwa [show n + (i + 1) = n + 1 + i by omega, show n + (k + 1) = n + 1 + k by omega]
end Go.Proofs.YtlebkepfhdjnmacAL
/- An abstract logic for Go functions: whatever order a statement takes, it comes to the same. Conditions: as each statement tells. -/
namespace Go.Proofs.YtlebkepfhdjnmacAL
open Go.RowKit
set_option linter.unusedVariables false

def Ya3 : List Rec → St → St
  | [], σ => σ
  | r :: rs, σ => Ya3 rs (r.app σ)
theorem Xwj {b : Nat → Bool} : ∀ (rs : List Rec) (n : Nat) (σ : St), (∀ j, n ≤ j → b j = false) → Xp2 b n rs σ = σ
  | [], _, _, _ => rfl
  | r :: rs, n, σ, h => by rw [Xp2, h n (Nat.le_refl _)]; exact Xwj rs (n + 1) σ (fun j hj => h j (by omega))
theorem Xzv {b : Nat → Bool} : ∀ (rs : List Rec) (n i : Nat) (σ : St), (∀ j, b j = decide (j < n + i)) → Xp2 b n rs σ = Ya3 (rs.take i) σ
  | [], n, i, σ, h => by simp [Xp2, Ya3]
  | r :: rs, n, 0, σ, h => by rw [Xwj (r :: rs) n σ (fun j hj => by rw [h]; simp; omega)]; rfl
  | r :: rs, n, i + 1, σ, h => by
    rw [Xp2, h n, decide_eq_true (by omega)]
    exact Xzv rs (n + 1) i (r.app σ) (fun j => by rw [h]; congr 1; rw [show n + (i + 1) = n + 1 + i by omega])
theorem Ybu {b : Nat → Bool} : ∀ (rs : List Rec) (n : Nat) (σ : St), (∀ j, n ≤ j → j < n + rs.length → b j = true) → Xp2 b n rs σ = Ya3 rs σ
  | [], _, _, _ => rfl
  | r :: rs, n, σ, h => by
    rw [Xp2, h n (Nat.le_refl _) (by simp)]
    exact Ybu rs (n + 1) (r.app σ) (fun j h1 h2 => h j (by omega) (by simp; omega))

section
variable {P : Program} {C : Ctx} {opsA : Array Oper}
theorem Yec : ∀ {l : List Oper} {rs0 : List Rec} {σ : St} {K : List Rec → St → Prop}, Vc P C opsA l rs0 σ K →
    ∃ rs, rs.length = l.length ∧ K (rs0 ++ rs) (Ya3 rs σ) ∧ ∀ (i : Nat) (o : Oper) (r : Rec), l[i]? = some o → rs[i]? = some r → Loc P C opsA o r (Ya3 (rs.take i) σ) ∧ Xhi C r.nw (Ya3 (rs.take i) σ)
  | _, rs0, σ, K, .nil h => ⟨[], rfl, by simpa [Ya3] using h, fun i o r hi => by simp at hi⟩
  | _, rs0, σ, K, .cons (o := o) (l := l) r h hf hk => by
    obtain ⟨rs, h1, h2, h3⟩ := Yec hk
    refine ⟨r :: rs, by simp [h1], by simpa [Ya3, List.append_assoc] using h2, fun i o' r' ho hr => ?_⟩
    cases i with
    | zero => simp at ho hr; subst ho; subst hr; exact ⟨h, hf⟩
    | succ i => exact h3 i o' r' (by simpa using ho) (by simpa using hr)

theorem Xtf {anc : List (List Nat)} {k : Nat} : ∀ {l : List Nat}, k ∈ Xv5 anc l → ∃ d ∈ l, k = d ∨ k ∈ anc.getD d []
  | [], h => by simp [Xv5] at h
  | d :: l, h => by
    rw [Xv5] at h
    rcases Ybm h with rfl | h
    · exact ⟨k, by simp, .inl rfl⟩
    · rcases Xwd h with h | h
      · exact ⟨d, by simp, .inr h⟩
      · obtain ⟨d', h1, h2⟩ := Xtf h
        exact ⟨d', by simp [h1], h2⟩
theorem Ya2 : ∀ (l : List Oper) (anc : List (List Nat)), ∃ m, Xuq l anc = anc ++ m ∧ m.length = l.length
  | [], anc => ⟨[], by simp [Xuq], rfl⟩
  | o :: l, anc => by
    obtain ⟨m, h, hl⟩ := Ya2 l (anc ++ [Xv5 anc (Xix o)])
    exact ⟨Xv5 anc (Xix o) :: m, by rw [Xuq, h]; simp, by simp [hl]⟩
theorem Yab : ∀ (l : List Oper) (anc : List (List Nat)) (j : Nat) (o : Oper), l[j]? = some o → (Xuq l anc).getD (anc.length + j) [] = Xv5 ((Xuq l anc).take (anc.length + j)) (Xix o)
  | [], anc, j, o, h => by simp at h
  | o0 :: l, anc, 0, o, h => by
    simp at h; subst h
    obtain ⟨m, hm, _⟩ := Ya2 l (anc ++ [Xv5 anc (Xix o0)])
    rw [Xuq, hm]
    simp [List.getD]
  | o0 :: l, anc, j + 1, o, h => by
    have := Yab l (anc ++ [Xv5 anc (Xix o0)]) j o (by simpa using h)
    rw [Xuq]
    simpa [Nat.add_assoc, Nat.add_comm 1 j] using this
theorem Xkl : ∀ {l : List Oper} {n i : Nat} {o : Oper}, Xm1 n l = true → l[i]? = some o → ∀ d ∈ Xix o, d < n + i
  | [], n, i, o, _, h => by simp at h
  | o0 :: l, n, 0, o, hb, h => by
    rw [Xm1, Bool.and_eq_true] at hb
    simp at h; subst h
    intro d hd
    have := List.all_eq_true.1 hb.1 d hd
    simpa [Nat.blt_eq] using this
  | o0 :: l, n, i + 1, o, hb, h => by
    rw [Xm1, Bool.and_eq_true] at hb
    intro d hd
    have := Xkl hb.2 (show l[i]? = some o by simpa using h) d hd
    omega

theorem Yfx {l : List Oper} (hb : Xm1 0 l = true) : ∀ (j : Nat), j < l.length → ∀ k ∈ (Xuq l []).getD j [], k < j := by
  intro j
  induction j using Nat.strongRecOn with
  | _ j ih =>
    intro hj k hk
    have ho : l[j]? = some l[j] := List.getElem?_eq_getElem hj
    have e := Yab l [] j _ ho
    simp only [List.length_nil, Nat.zero_add] at e
    rw [e] at hk
    obtain ⟨d, hd, h⟩ := Xtf hk
    have hdj := Xkl hb ho d hd
    rw [Nat.zero_add] at hdj
    rcases h with rfl | h
    · exact hdj
    · have h' : k ∈ (Xuq l []).getD d [] := by
        rw [List.getD_eq_getElem?_getD, List.getElem?_take_of_lt hdj, ← List.getD_eq_getElem?_getD] at h
        exact h
      have := ih d hdj (by omega) k h'
      omega
theorem Yfw {l : List Oper} (hb : Xm1 0 l = true) {b : Nat → Bool} (hc : ∀ (j : Nat) (o : Oper), l[j]? = some o → b j = true → ∀ d ∈ Xix o, b d = true) : ∀ (j : Nat) (o : Oper), l[j]? = some o → (∀ d ∈ Xix o, b d = true) → ∀ k ∈ (Xuq l []).getD j [], b k = true := by
  intro j
  induction j using Nat.strongRecOn with
  | _ j ih =>
    intro o ho hn k hk
    have e := Yab l [] j _ ho
    simp only [List.length_nil, Nat.zero_add] at e
    rw [e] at hk
    obtain ⟨d, hd, h⟩ := Xtf hk
    have hdj := Xkl hb ho d hd
    rw [Nat.zero_add] at hdj
    rcases h with rfl | h
    · exact hn k hd
    · have h' : k ∈ (Xuq l []).getD d [] := by
        rw [List.getD_eq_getElem?_getD, List.getElem?_take_of_lt hdj, ← List.getD_eq_getElem?_getD] at h
        exact h
      have hdl : d < l.length := by have := (List.getElem?_eq_some_iff.1 ho).1; omega
      exact ih d hdj l[d] (List.getElem?_eq_getElem hdl) (hc d _ (List.getElem?_eq_getElem hdl) (hn d hd)) k h'

def Eqv (σ τ : St) : Prop := (∀ t, lk σ.s t = lk τ.s t) ∧ ∀ t, lk σ.o t = lk τ.o t
theorem Rel.eqv {σ τ : St} {a : Act} {w : World} (h : Rel C σ a w) (he : Eqv σ τ) : Rel C τ a w := by
  obtain ⟨μ, A, h⟩ := h
  exact ⟨μ, A, h.weaken (fun t v hv => .inl (by rw [he.1]; exact hv)) fun id ob hb => by unfold St.obj at hb ⊢; rw [he.2]; exact hb⟩

def Xyh (b : Nat → Bool) (i : Nat) : Nat → Bool := fun j => if j = i then true else b j
section
variable {l : List Oper} {rs : List Rec} {σ0 : St} {b : Nat → Bool} {i : Nat} {o : Oper} {r : Rec}

theorem Xro (hfree : Xen l rs σ0 = true) {i j : Nat} {r r' : Rec} (hi : rs[i]? = some r) (hj : rs[j]? = some r') (hij : i < j) (hn : i ∉ (Xuq l []).getD j []) : Xmz r r' = true ∧ Xjx r.nw r' = true := by
  unfold Xen at hfree
  rw [Bool.and_eq_true, Bool.and_eq_true, Bool.and_eq_true] at hfree
  obtain ⟨⟨⟨hl, hb⟩, hall⟩, _⟩ := hfree
  have hl := Nat.eq_of_beq_eq_true hl
  have h := Xwt hall hi hj hij
  simp only [Nat.zero_add] at h
  unfold Xzo at h
  rw [Bool.and_eq_true, Bool.and_eq_true] at h
  have hni : inN i ((Xuq l []).getD j []) = false := by
    cases e : inN i ((Xuq l []).getD j []) with
    | false => rfl
    | true => exact absurd (Xiw.1 e) hn
  have hil : i < l.length := by rw [← hl]; exact (List.getElem?_eq_some_iff.1 hi).1
  have hnj : inN j ((Xuq l []).getD i []) = false := by
    cases e : inN j ((Xuq l []).getD i []) with
    | false => rfl
    | true => have := Yfx hb i hil j (Xiw.1 e); omega
  rw [hni, hnj] at h
  simp only [Bool.false_or] at h
  exact ⟨h.2, h.1.1⟩
theorem Ydo (hfree : Xen l rs σ0 = true) {i j : Nat} {r r' : Rec} (hi : rs[i]? = some r) (hj : rs[j]? = some r') (hij : i < j) : Xjx r'.nw r = true := by
  unfold Xen at hfree
  rw [Bool.and_eq_true, Bool.and_eq_true, Bool.and_eq_true] at hfree
  obtain ⟨⟨⟨hl, hb⟩, hall⟩, _⟩ := hfree
  have hl := Nat.eq_of_beq_eq_true hl
  have h := Xwt hall hi hj hij
  simp only [Nat.zero_add] at h
  unfold Xzo at h
  rw [Bool.and_eq_true, Bool.and_eq_true] at h
  have hil : i < l.length := by rw [← hl]; exact (List.getElem?_eq_some_iff.1 hi).1
  have hnj : inN j ((Xuq l []).getD i []) = false := by
    cases e : inN j ((Xuq l []).getD i []) with
    | false => rfl
    | true => have := Yfx hb i hil j (Xiw.1 e); omega
  rw [hnj] at h
  simpa using h.1.2
theorem Ygd (hfree : Xen l rs σ0 = true) {i : Nat} {r : Rec} (hi : rs[i]? = some r) : Xjx r.nw ⟨[], σ0.s, σ0.o, []⟩ = true := by
  unfold Xen at hfree
  rw [Bool.and_eq_true] at hfree
  have h := hfree.2
  clear hfree
  induction rs generalizing i with
  | nil => simp at hi
  | cons x rs ih =>
    rw [Yc0, Bool.and_eq_true] at h
    cases i with
    | zero => simp at hi; subst hi; exact h.1
    | succ i => exact ih (by simpa using hi) h.2

theorem Yap (hfree : Xen l rs σ0 = true) (hc : ∀ (j : Nat) (o : Oper), l[j]? = some o → b j = true → ∀ d ∈ Xix o, b d = true) (ho : l[i]? = some o) (hbi : b i = false) (hneed : ∀ d ∈ Xix o, b d = true) :
    (∀ j, j < i → b j = false → j ∉ (Xuq l []).getD i []) ∧ (∀ j o', l[j]? = some o' → b j = true → i ∉ (Xuq l []).getD j []) := by
  have hb : Xm1 0 l = true := by
    unfold Xen at hfree
    rw [Bool.and_eq_true, Bool.and_eq_true, Bool.and_eq_true] at hfree
    exact hfree.1.1.2
  refine ⟨fun j _ hbj hm => ?_, fun j o' ho' hbj hm => ?_⟩
  · have := Yfw hb hc i o ho hneed j hm
    rw [hbj] at this; cases this
  · have := Yfw hb hc j o' ho' (hc j o' ho' hbj) i hm
    rw [hbi] at this; cases this

theorem Yeo (hfree : Xen l rs σ0 = true) (hc : ∀ (j : Nat) (o : Oper), l[j]? = some o → b j = true → ∀ d ∈ Xix o, b d = true) (ho : l[i]? = some o) (hr : rs[i]? = some r) (hbi : b i = false) (hneed : ∀ d ∈ Xix o, b d = true) :
    Yeg r.rd (Ya3 (rs.take i) σ0) (Xp2 b 0 rs σ0) := by
  obtain ⟨h1, h2⟩ := Yap hfree hc ho hbi hneed
  have hlen : rs.length = l.length := by
    unfold Xen at hfree
    rw [Bool.and_eq_true, Bool.and_eq_true, Bool.and_eq_true] at hfree
    exact Nat.eq_of_beq_eq_true hfree.1.1.1
  have hin : Ya3 (rs.take i) σ0 = Xp2 (fun j => decide (j < 0 + i)) 0 rs σ0 := (Xzv rs 0 i σ0 (fun j => rfl)).symm
  -- writers of a key that is read
  have key : ∀ {β : Type 1} (f : Rec → List (Nat × β)) (t : Nat), (∀ (r' : Rec), Xjz r.rd r' = true → lk (f r') t = none) → ∀ (j : Nat) (r' : Rec), rs[j]? = some r' → (lk (f r') t).isSome = true → b (0 + j) = decide (0 + j < 0 + i) := by
    intro β f t hap j r' hj hs
    have hjl : j < l.length := by rw [← hlen]; exact (List.getElem?_eq_some_iff.1 hj).1
    have no : Xmz r r' = true ∨ Xmz r' r = true → False := by
      intro h
      have : Xjz r.rd r' = true := by
        rcases h with h | h
        · unfold Xmz at h; rw [Bool.and_eq_true, Bool.and_eq_true, Bool.and_eq_true] at h; exact h.1.1.1
        · unfold Xmz at h; rw [Bool.and_eq_true, Bool.and_eq_true, Bool.and_eq_true] at h; exact h.1.1.2
      rw [hap r' this] at hs; cases hs
    simp only [Nat.zero_add]
    rcases Nat.lt_trichotomy j i with hlt | heq | hgt
    · rw [decide_eq_true hlt]
      cases hbj : b j with
      | true => rfl
      | false => exact (no (.inr (Xro hfree hj hr hlt (h1 j hlt hbj)).1)).elim
    · subst heq; rw [hbi, decide_eq_false (by omega)]
    · rw [decide_eq_false (by omega)]
      cases hbj : b j with
      | false => rfl
      | true => exact (no (.inl (Xro hfree hr hj hgt (h2 j _ (List.getElem?_eq_getElem hjl) hbj)).1)).elim
  intro k hk
  rw [hin]
  cases k with
  | s t =>
    simp only [Xzu]
    rw [Xnv (b' := fun j => decide (j < 0 + i)) Rec.sl rs 0 (key Rec.sl t (fun r' h => Xli h _ hk))]
  | o id =>
    simp only [Xzt]
    rw [Xnv (b' := fun j => decide (j < 0 + i)) Rec.ob rs 0 (key Rec.ob id (fun r' h => Xli h _ hk))]

theorem Yez {C : Ctx} (hfree : Xen l rs σ0 = true) (hc : ∀ (j : Nat) (o : Oper), l[j]? = some o → b j = true → ∀ d ∈ Xix o, b d = true) (ho : l[i]? = some o) (hr : rs[i]? = some r) (hbi : b i = false) (hneed : ∀ d ∈ Xix o, b d = true)
    {σ : St} (hf : Xhi C r.nw σ) : Xhi C r.nw (Xp2 b 0 rs σ0) := by
  obtain ⟨h1, h2⟩ := Yap hfree hc ho hbi hneed
  have hlen : rs.length = l.length := by
    unfold Xen at hfree
    rw [Bool.and_eq_true, Bool.and_eq_true, Bool.and_eq_true] at hfree
    exact Nat.eq_of_beq_eq_true hfree.1.1.1
  intro id hid
  have other : ∀ (j : Nat) (r' : Rec), rs[j]? = some r' → b (0 + j) = true → Ycj id r'.sl = false ∧ Yca id r'.ob = false := by
    intro j r' hj hbj
    rw [Nat.zero_add] at hbj
    have hjl : j < l.length := by rw [← hlen]; exact (List.getElem?_eq_some_iff.1 hj).1
    rcases Nat.lt_trichotomy j i with hlt | heq | hgt
    · exact Xjy (Ydo hfree hj hr hlt) hid
    · subst heq; rw [hbi] at hbj; cases hbj
    · exact Xjy (Xro hfree hr hj hgt (h2 j _ (List.getElem?_eq_getElem hjl) hbj)).2 hid
  have hbase := Xjy (Ygd hfree hr) hid
  refine ⟨⟨fun t v hv => ?_, fun k ob hk => ?_⟩, (hf id hid).2⟩
  · rw [Xzu] at hv
    cases e : Xur Rec.sl b 0 rs t with
    | some u =>
      rw [e] at hv; cases hv
      obtain ⟨j, r', hj, hbj, hl⟩ := Xxj Rec.sl rs 0 e
      exact Xx1 (other j r' hj hbj).1 hl
    | none => rw [e] at hv; exact Xx1 hbase.1 hv
  · unfold St.obj at hk
    rw [Xzt] at hk
    cases e : Xur Rec.ob b 0 rs k with
    | some u =>
      rw [e] at hk
      obtain ⟨j, r', hj, hbj, hl⟩ := Xxj Rec.ob rs 0 e
      have hu : u = some ob := hk
      subst hu
      exact Xxr (other j r' hj hbj).2 hl
    | none =>
      rw [e] at hk
      cases hs : lk σ0.o k with
      | none => rw [hs] at hk; cases hk
      | some u =>
        rw [hs] at hk
        have hu : u = some ob := hk
        subst hu
        exact Xxr hbase.2 hs

theorem Yhk (hfree : Xen l rs σ0 = true) (hc : ∀ (j : Nat) (o : Oper), l[j]? = some o → b j = true → ∀ d ∈ Xix o, b d = true) (ho : l[i]? = some o) (hr : rs[i]? = some r) (hbi : b i = false) (hneed : ∀ d ∈ Xix o, b d = true) :
    Eqv (r.app (Xp2 b 0 rs σ0)) (Xp2 (Xyh b i) 0 rs σ0) := by
  obtain ⟨h1, h2⟩ := Yap hfree hc ho hbi hneed
  have hlen : rs.length = l.length := by
    unfold Xen at hfree
    rw [Bool.and_eq_true, Bool.and_eq_true, Bool.and_eq_true] at hfree
    exact Nat.eq_of_beq_eq_true hfree.1.1.1
  have main : ∀ {β : Type 1} (f : Rec → List (Nat × β)) (t : Nat) (base : Option β), (∀ r', Xmz r r' = true → Xi7 (f r) (f r') = true) → (lk (f r) t).or ((Xur f b 0 rs t).or base) = (Xur f (Xyh b i) 0 rs t).or base := by
    intro β f t base hap
    rw [← Option.or_assoc]
    congr 1
    cases hs : lk (f r) t with
    | some v =>
      have e := Ydc (b := Xyh b i) (t := t) f rs 0 i r hr (by simp [Xyh]) (by rw [hs]; rfl) (fun j r' hij hj hbj => ?_)
      · rw [e, hs]; rfl
      · have hjl : j < l.length := by rw [← hlen]; exact (List.getElem?_eq_some_iff.1 hj).1
        have hbj' : b j = true := by simpa [Xyh, show ¬ j = i by omega] using hbj
        exact Xp0 (hap r' (Xro hfree hr hj hij (h2 j _ (List.getElem?_eq_getElem hjl) hbj')).1) (by rw [hs]; rfl)
    | none =>
      rw [Option.none_or]
      refine Xnv f rs 0 fun j r' hj hs' => ?_
      unfold Xyh
      split
      · rename_i e
        rw [Nat.zero_add] at e
        subst e
        rw [hr] at hj; cases hj
        rw [hs] at hs'; cases hs'
      · rfl
  constructor
  · intro t
    show lk (r.sl ++ (Xp2 b 0 rs σ0).s) t = _
    rw [Ybi, Xzu, Xzu]
    exact main Rec.sl t _ (fun r' h => by unfold Xmz at h; rw [Bool.and_eq_true, Bool.and_eq_true] at h; exact h.1.2)
  · intro t
    show lk (r.ob ++ (Xp2 b 0 rs σ0).o) t = _
    rw [Ybi, Xzt, Xzt]
    exact main Rec.ob t _ (fun r' h => by unfold Xmz at h; rw [Bool.and_eq_true] at h; exact h.2)
end

theorem Ygj {o : Oper} {σ' : St} {a : Act} {w : World} {Q : Exit → Act → World → Prop} (h1 : Xhj P C o σ' a w) : Oper.wp P o a w (fun a' w' => Rel C σ' a' w') Q := by
  unfold Xhj at h1
  unfold Oper.wp at h1 ⊢
  generalize (execOp a.eval o).run P w = res at h1
  cases res with
  | ok n w' =>
    cases n <;> simp only [Oper.upon] at h1 ⊢ <;> first
      | exact h1
      | exact Calls.mono h1 (fun e w'' he => by cases e <;> first | exact he | exact he.elim | (obtain ⟨_, _, hf⟩ := he; exact hf.elim))
  | halt x w' => cases x <;> simp only [Oper.upon] at h1

def cnt : Nat → (Nat → Bool) → Nat
  | 0, _ => 0
  | n + 1, b => cnt n b + if b n then 0 else 1
theorem Ya5 {b : Nat → Bool} : ∀ {n : Nat}, cnt n b = 0 → ∀ j, j < n → b j = true
  | 0, _, j, hj => by omega
  | n + 1, h, j, hj => by
    rw [cnt] at h
    cases hb : b n with
    | false => rw [hb] at h; simp at h
    | true =>
      rw [hb] at h
      by_cases e : j = n
      · rw [e]; exact hb
      · exact Ya5 (by simpa using h) j (by omega)
theorem Ya4 {b : Nat → Bool} {i : Nat} : ∀ {n : Nat}, n ≤ i → cnt n (Xyh b i) = cnt n b
  | 0, _ => rfl
  | n + 1, h => by
    have e2 : Xyh b i n = b n := by unfold Xyh; rw [if_neg (by omega)]
    rw [cnt, cnt, Ya4 (by omega), e2]
theorem Yc3 {b : Nat → Bool} {i : Nat} : ∀ {n : Nat}, i < n → b i = false → cnt n (Xyh b i) + 1 = cnt n b
  | 0, h, _ => by omega
  | n + 1, h, hb => by
    rw [cnt, cnt]
    by_cases e : i = n
    · subst e; rw [Ya4 (Nat.le_refl _), hb]; simp [Xyh]
    · have := Yc3 (show i < n by omega) hb
      have e2 : Xyh b i n = b n := by unfold Xyh; rw [if_neg (fun h => e h.symm)]
      rw [e2]; omega
theorem Ycu {l : List Oper} {rs : List Rec} {σ0 : St} {Q : Exit → Act → World → Prop} (hfree : Xen l rs σ0 = true) (hloc : ∀ (i : Nat) (o : Oper) (r : Rec), l[i]? = some o → rs[i]? = some r → Loc P C l.toArray o r (Ya3 (rs.take i) σ0) ∧ Xhi C r.nw (Ya3 (rs.take i) σ0))
    (hQ : ∀ a w, Rel C (Ya3 rs σ0) a w → Q .normal a w) :
    ∀ (fuel : Nat) (listed : Array Bool) (a : Act) (w : World), listed.size = l.length → (∀ (j : Nat) (o : Oper), l[j]? = some o → listed.getD j true = true → ∀ d ∈ Xix o, listed.getD d true = true) →
      cnt l.length (fun j => listed.getD j true) ≤ fuel → Rel C (Xp2 (fun j => listed.getD j true) 0 rs σ0) a w → wpAny P .any l.toArray Q fuel listed a w := by
  have hlen : rs.length = l.length := by
    unfold Xen at hfree
    rw [Bool.and_eq_true, Bool.and_eq_true, Bool.and_eq_true] at hfree
    exact Nat.eq_of_beq_eq_true hfree.1.1.1
  have hback : Xm1 0 l = true := by
    unfold Xen at hfree
    rw [Bool.and_eq_true, Bool.and_eq_true, Bool.and_eq_true] at hfree
    exact hfree.1.1.2
  -- an operation that may come next
  have ready : ∀ (listed : Array Bool) (i : Nat), i ∈ Region.ready .any l.toArray listed ↔ i < l.length ∧ listed.getD i true = false ∧ ∃ o, l[i]? = some o ∧ ∀ d ∈ Xix o, listed.getD d false = true := by
    intro listed i
    unfold Region.ready
    rw [List.mem_filter, List.mem_range, List.size_toArray]
    constructor
    · rintro ⟨h1, h2⟩
      rw [Bool.and_eq_true] at h2
      have ho : l[i]? = some l[i] := List.getElem?_eq_getElem h1
      refine ⟨h1, by simpa using h2.1, l[i], ho, fun d hd => ?_⟩
      have h3 := h2.2
      rw [List.getElem?_toArray, ho] at h3
      simp only [Option.map_some, Option.getD_some] at h3
      obtain ⟨e, he, rfl⟩ := List.mem_map.1 hd
      rw [List.mem_filter] at he
      have := (Array.all_eq_true'.1 h3) e (by simpa using he.1)
      rw [he.2] at this
      simpa using this
    · rintro ⟨h1, h2, o, ho, h3⟩
      refine ⟨h1, ?_⟩
      rw [Bool.and_eq_true]
      refine ⟨by rw [h2]; rfl, ?_⟩
      rw [List.getElem?_toArray, ho]
      simp only [Option.map_some, Option.getD_some]
      refine Array.all_eq_true'.2 fun e he => ?_
      cases hb : Region.binds .any e with
      | false => rfl
      | true =>
        have := h3 e.on (List.mem_map.2 ⟨e, List.mem_filter.2 ⟨by simpa using he, hb⟩, rfl⟩)
        simpa using this
  -- if not all are listed, one may come next
  have none_ready : ∀ (listed : Array Bool), listed.size = l.length → Region.ready .any l.toArray listed = [] → ∀ j, j < l.length → listed.getD j true = true := by
    intro listed hsz hr j
    induction j using Nat.strongRecOn with
    | _ j ih =>
      intro hj
      cases hb : listed.getD j true with
      | true => rfl
      | false =>
        have ho : l[j]? = some l[j] := List.getElem?_eq_getElem hj
        have : j ∈ Region.ready .any l.toArray listed := (ready listed j).2 ⟨hj, hb, l[j], ho, fun d hd => by
          have hdj := Xkl hback ho d hd
          rw [Nat.zero_add] at hdj
          have h1 := ih d hdj (by omega)
          have hds : d < listed.size := by omega
          simpa [Array.getD, hds] using h1⟩
        rw [hr] at this; simp at this
  have alls : ∀ (listed : Array Bool), (∀ j, j < l.length → listed.getD j true = true) → ∀ a w, Rel C (Xp2 (fun j => listed.getD j true) 0 rs σ0) a w → Q .normal a w := by
    intro listed hall a w hR
    rw [Ybu rs 0 σ0 (fun j _ hj => hall j (by omega))] at hR
    exact hQ a w hR
  intro fuel
  induction fuel with
  | zero =>
    intro listed a w hsz hc hf hR
    have hall := Ya5 (Nat.le_zero.1 hf)
    refine ⟨?_, alls listed hall a w hR⟩
    cases hr : Region.ready .any l.toArray listed with
    | nil => rfl
    | cons i t =>
      obtain ⟨h1, h2, _⟩ := (ready listed i).1 (by rw [hr]; simp)
      rw [hall i h1] at h2; cases h2
  | succ fuel ih =>
    intro listed a w hsz hc hf hR
    refine ⟨fun hr => alls listed (none_ready listed hsz hr) a w hR, fun i hi => ?_⟩
    obtain ⟨h1, h2, o, ho, h3⟩ := (ready listed i).1 hi
    have hri : rs[i]? = some (rs[i]'(by omega)) := List.getElem?_eq_getElem (by omega)
    generalize rs[i]'(by omega) = r at hri
    have hneed : ∀ d ∈ Xix o, (fun j => listed.getD j true) d = true := by
      intro d hd
      have := h3 d hd
      have hd2 := Xkl hback ho d hd
      have hds : d < listed.size := by omega
      simpa [Array.getD, hds] using this
    obtain ⟨hl, hfr⟩ := hloc i o r ho hri
    have hstep := hl _ (Yeo hfree hc ho hri h2 hneed) (Yez hfree hc ho hri h2 hneed hfr) a w hR
    have heq := Yhk hfree hc ho hri h2 hneed
    have hnext : ∀ a' w', Rel C (r.app (Xp2 (fun j => listed.getD j true) 0 rs σ0)) a' w' → wpAny P .any l.toArray Q fuel (listed.setIfInBounds i true) a' w' := by
      intro a' w' hR'
      have hput : (fun j => (listed.setIfInBounds i true).getD j true) = Xyh (fun j => listed.getD j true) i := by
        funext j
        unfold Xyh
        by_cases e : j = i
        · subst e; rw [if_pos rfl, Array.getD_eq_getD_getElem?, Array.getElem?_setIfInBounds_self_of_lt (by omega)]; rfl
        · rw [if_neg e, Array.getD_eq_getD_getElem?, Array.getElem?_setIfInBounds_ne (fun h => e h.symm), ← Array.getD_eq_getD_getElem?]
      refine ih _ a' w' (by simpa using hsz) ?_ ?_ ?_
      · intro j o' hj hb d hd
        have e1 : (listed.setIfInBounds i true).getD j true = Xyh (fun j => listed.getD j true) i j := congrFun hput j
        have e2 : (listed.setIfInBounds i true).getD d true = Xyh (fun j => listed.getD j true) i d := congrFun hput d
        rw [e1] at hb
        rw [e2]
        unfold Xyh at hb ⊢
        by_cases ed : d = i
        · rw [if_pos ed]
        · rw [if_neg ed]
          by_cases ej : j = i
          · subst ej
            rw [ho] at hj; cases hj
            exact hneed d hd
          · rw [if_neg ej] at hb
            exact hc j o' hj hb d hd
      · rw [hput]
        have := Yc3 (b := fun j => listed.getD j true) h1 h2
        omega
      · rw [hput]
        exact hR'.eqv heq
    unfold wpOp
    rw [List.getElem?_toArray, ho]
    simp only
    split
    · rename_i hw
      rw [if_pos hw] at hstep
      exact .inl (Oper.wp_mono hnext (Ygj hstep))
    · rename_i hw
      rw [if_neg hw] at hstep
      exact hnext _ _ hstep
end
end Go.Proofs.YtlebkepfhdjnmacAL
/- An abstract logic for Go functions: code, loops, cuts. Conditions: as each statement tells. -/
namespace Go.Proofs.YtlebkepfhdjnmacAL
open Go.RowKit
set_option linter.unusedVariables false
section
variable {P : Program} {C : Ctx}

def AWp (P : Program) (C : Ctx) (c : Code) (σ : St) (Q : Exit → St → Prop) : Prop := ∀ a w, Rel C σ a w → c.wp P (fun e a' w' => ∃ σ', Q e σ' ∧ Rel C σ' a' w') a w
def Xhs (C : Ctx) (σ σ' : St) : Prop := ∀ a w, Rel C σ a w → Rel C σ' a w
theorem Xhs.refl (σ : St) : Xhs C σ σ := fun _ _ h => h
theorem Xhs.trans {σ σ' σ'' : St} (h : Xhs C σ σ') (k : Xhs C σ' σ'') : Xhs C σ σ'' := fun a w hR => k a w (h a w hR)
def Ycq (next : St → Prop) (Q : Exit → St → Prop) : Exit → St → Prop
  | .normal, σ => next σ
  | e, σ => Q e σ
def Xld (id : Nat) (Q : Exit → St → Prop) : Exit → St → Prop
  | .exit i, σ => if i = id then Q .normal σ else Q (.exit i) σ
  | e, σ => Q e σ
theorem Ycy {c : Code} {σ σ' : St} {Q : Exit → St → Prop} (h : Xhs C σ σ') (k : AWp P C c σ' Q) : AWp P C c σ Q := fun a w hR => k a w (h a w hR)
theorem Yac {c : Code} {σ : St} {Q Q' : Exit → St → Prop} (h : AWp P C c σ Q) (hq : ∀ e σ, Q e σ → Q' e σ) : AWp P C c σ Q' := fun a w hR => wp_mono (h a w hR) fun e a' w' ⟨σ', h1, h2⟩ => ⟨σ', hq _ _ h1, h2⟩
theorem Xyn {x y : Code} {σ : St} {Q : Exit → St → Prop} (h : AWp P C x σ (Ycq (fun σ' => AWp P C y σ' Q) Q)) : AWp P C (.seq x y) σ Q := fun a w hR =>
  wp_seq (wp_mono (h a w hR) fun e a' w' ⟨σ', h1, h2⟩ => by
    cases e with
    | normal => exact h1 a' w' h2
    | _ => exact ⟨σ', h1, h2⟩)
theorem Xae {σ : St} {Q : Exit → St → Prop} (h : Q .normal σ) : AWp P C .skip σ Q := fun a w hR => wp_skip ⟨σ, h, hR⟩
theorem Xah {σ : St} {Q : Exit → St → Prop} (h : Q .ret σ) : AWp P C .ret σ Q := fun a w hR => wp_ret ⟨σ, h, hR⟩
theorem Xan {id : Nat} {σ : St} {Q : Exit → St → Prop} (h : Q (.exit id) σ) : AWp P C (.exit id) σ Q := fun a w hR => wp_exit ⟨σ, h, hR⟩
theorem Xwu {id : Nat} {c : Code} {σ : St} {Q : Exit → St → Prop} (h : AWp P C c σ (Xld id Q)) : AWp P C (.block id c) σ Q := fun a w hR =>
  wp_block (wp_mono (h a w hR) fun e a' w' ⟨σ', h1, h2⟩ => by
    cases e with
    | exit i =>
      simp only [Xld] at h1
      simp only [Exit.inBlock]
      split
      · rename_i e; rw [if_pos e] at h1; exact ⟨σ', h1, h2⟩
      · rename_i e; rw [if_neg e] at h1; exact ⟨σ', h1, h2⟩
    | _ => exact ⟨σ', h1, h2⟩)
theorem Ycx {t : Nat} {x y : Code} {σ : St} {Q : Exit → St → Prop} {b : Bool} (hs : lk σ.s t = some (.sv (.bool b))) (h1 : b = true → AWp P C x σ Q) (h2 : b = false → AWp P C y σ Q) : AWp P C (.cond (.tmp t) x y) σ Q := by
  intro a w ⟨μ, A, hR⟩
  have hb : a.eval (.tmp t) = .bool b := Xho (hR.slots t _ hs)
  exact wp_cond_split hb (fun e => h1 e a w ⟨μ, A, hR⟩) (fun e => h2 e a w ⟨μ, A, hR⟩)
theorem Xab {id : Nat} {l : List Oper} {σ : St} {Q : Exit → St → Prop} (h : Vc P C l.toArray l [] σ (fun _ σ' => Q .normal σ')) : AWp P C (.region id l.toArray false) σ Q := fun a w hR =>
  wp_region_lit (Xyd h (fun _ σ' a' w' hq hr => ⟨σ', hq, hr⟩) a w hR)
theorem Xdt {id : Nat} {l : List Oper} {σ : St} {Q : Exit → St → Prop} (hm : P.follows .mixedOrders = true) (h : Vc P C l.toArray l [] σ (fun rs σ' => Xen l rs σ = true ∧ Q .normal σ')) : AWp P C (.region id l.toArray true) σ Q := by
  intro a w ⟨μ, A, hR⟩
  obtain ⟨rs, hl, ⟨hfree, hq⟩, hloc⟩ := Yec h
  rw [List.nil_append] at hfree
  refine wp_region_any hm ?_
  have hR' : Rel C σ a { w with drawn := w.drawn + 1 } := ⟨μ, A, hR.world (w' := w.drew) (Ygi w _)⟩
  have hfalse : ∀ j, j < l.length → (Array.replicate l.length false).getD j true = false := fun j hj => by simp [Array.getD, hj]
  have hb : Xp2 (fun j => (Array.replicate l.length false).getD j true) 0 rs σ = σ := by
    have : ∀ (rs : List Rec) (n : Nat) (σ : St), n + rs.length ≤ l.length → Xp2 (fun j => (Array.replicate l.length false).getD j true) n rs σ = σ := by
      intro rs
      induction rs with
      | nil => intro n σ _; rfl
      | cons r rs ih => intro n σ hn; rw [Xp2, hfalse n (by simp at hn; omega)]; exact ih (n + 1) σ (by simp at hn; omega)
    exact this rs 0 σ (by omega)
  refine Ycu (Q := fun e a' w' => ∃ σ', Q e σ' ∧ Rel C σ' a' w') hfree hloc (fun a' w' hr => ⟨_, hq, hr⟩) l.toArray.size _ a _ (by simp) (fun j o ho hb d hd => ?_) ?_ ?_
  · have hjl : j < l.length := (List.getElem?_eq_some_iff.1 ho).1
    have := hfalse j hjl
    simp only [List.size_toArray] at hb
    rw [this] at hb; cases hb
  · have : ∀ n b, cnt n b ≤ n := by
      intro n b
      induction n with
      | zero => exact Nat.le_refl _
      | succ n ih => rw [cnt]; split <;> omega
    simpa using this l.length _
  · simp only [List.size_toArray]
    rw [hb]; exact hR'

theorem Ydd {p : Nat → Prop} (h : ∃ k, p k) : ∃ k, p k ∧ ∀ j, p j → k ≤ j := by
  obtain ⟨k, hk⟩ := h
  induction k using Nat.strongRecOn with
  | _ k ih =>
    by_cases hl : ∃ j, j < k ∧ p j
    · obtain ⟨j, hj, hp⟩ := hl; exact ih j hj hp
    · exact ⟨k, hk, fun j hj => Nat.le_of_not_lt fun hlt => hl ⟨j, hlt, hj⟩⟩
open Classical in
theorem Ygc {c : Code} {σ : St} {Q : Exit → St → Prop} (J : Nat → St → Prop) {k : Nat} (h0 : J k σ) (round : ∀ k σ, J k σ → AWp P C c σ (Ycq (fun σ' => ∃ σ'', Xhs C σ' σ'' ∧ ∃ k', k' < k ∧ J k' σ'') Q)) : AWp P C (.loop c) σ Q := by
  intro a w hR
  let I : Act → World → Prop := fun a w => ∃ k σ, J k σ ∧ Rel C σ a w
  let K : Act → World → Nat → Prop := fun a w k => ∃ σ, J k σ ∧ Rel C σ a w
  let m : Act → World → Nat := fun a w => if h : ∃ k, K a w k then Classical.choose (Ydd h) else 0
  refine wp_loop I m ⟨k, σ, h0, hR⟩ fun a w hI => ?_
  have hex : ∃ k, K a w k := by obtain ⟨k, σ, h1, h2⟩ := hI; exact ⟨k, σ, h1, h2⟩
  have hm : m a w = Classical.choose (Ydd hex) := dif_pos hex
  obtain ⟨⟨σ1, hJ, hR1⟩, _⟩ := Classical.choose_spec (Ydd hex)
  refine wp_mono (round _ σ1 hJ a w hR1) fun e a' w' ⟨σ', h1, h2⟩ => ?_
  cases e with
  | normal =>
    obtain ⟨σ'', hw, k', hk, hJ'⟩ := h1
    have hR2 := hw a' w' h2
    have hex' : ∃ k, K a' w' k := ⟨k', σ'', hJ', hR2⟩
    refine ⟨⟨k', σ'', hJ', hR2⟩, ?_⟩
    rw [hm, show m a' w' = Classical.choose (Ydd hex') from dif_pos hex']
    exact Nat.lt_of_le_of_lt ((Classical.choose_spec (Ydd hex')).2 k' ⟨σ'', hJ', hR2⟩) hk
  | _ => exact ⟨σ', h1, h2⟩
end
end Go.Proofs.YtlebkepfhdjnmacAL
/- An abstract logic for Go functions: contracts and calls. Conditions: as each statement tells. -/
namespace Go.Proofs.YtlebkepfhdjnmacAL
open Go.RowKit
set_option linter.unusedVariables false

mutual
def AV.ren (f : Nat → Nat) : AV → AV
  | .own k => .own (f k)
  | .sub k sz off len => .sub (f k) sz off len
  | .ptr k off => .ptr (f k) off
  | .eptr k sz i off => .eptr (f k) sz i off
  | .agg cs => .agg (AV.renL f cs)
  | .tup cs => .tup (AV.renL f cs)
  | .fn g cs => .fn g (AV.renL f cs)
  | .any => .any
  | .sv x => .sv x
  | .iptr cells off => .iptr cells off
def AV.renL (f : Nat → Nat) : List AV → List AV
  | [] => []
  | x :: l => AV.ren f x :: AV.renL f l
end
theorem Xgr (f : Nat → Nat) : ∀ l : List AV, AV.renL f l = l.map (AV.ren f)
  | [] => by simp [AV.renL]
  | x :: l => by rw [AV.renL, Xgr f l]; rfl
def Obj.ren (f : Nat → Nat) : Obj → Obj
  | .box cs => .box (AV.renL f cs)
  | .ints k l => .ints k l
  | .row c l => .row c l
section
variable {w : World} {A A' : Nat → Prop} {μ μ' : Nat → Value} {f : Nat → Nat}
theorem Rep.ren {x : AV} {v : Value} (h : Rep w A μ x v) (hm : ∀ i, x.has i = true → μ' (f i) = μ i) : Rep w A μ' (x.ren f) v := by
  induction h with
  | any v => simp only [AV.ren]; exact .any v
  | sv h => simp only [AV.ren]; exact .sv h
  | own id => simp only [AV.ren]; rw [← hm id (by simp [AV.has])]; exact .own (f id)
  | sub id sz off len ad0 ad n cap cap' h1 h2 h3 h4 h5 => simp only [AV.ren]; exact .sub (f id) sz off len ad0 ad n cap cap' ((hm id (by simp [AV.has])).trans h1) h2 h3 h4 h5
  | ptr id off g h1 => simp only [AV.ren]; exact .ptr (f id) off g ((hm id (by simp [AV.has])).trans h1)
  | eptr id sz i off g o n cap h1 => simp only [AV.ren]; exact .eptr (f id) sz i off g o n cap ((hm id (by simp [AV.has])).trans h1)
  | iptr cells off g o h1 h2 => simp only [AV.ren]; exact .iptr cells off g o h1 h2
  | agg cs vs hl h ih =>
    simp only [AV.ren]
    rw [Xgr]
    refine .agg _ vs (by simpa using hl) fun j y u hy hu => ?_
    rw [List.getElem?_map] at hy
    obtain ⟨z, hz, rfl⟩ := Option.map_eq_some_iff.1 hy
    refine ih j z u hz hu fun i hi => hm i ?_
    by_cases hf : AV.hasL i cs = true
    · simpa [AV.has] using hf
    · have := AV.hasL_false (by simpa using hf) z (List.mem_of_getElem? hz); rw [this] at hi; cases hi
  | tup cs vs hl h ih =>
    simp only [AV.ren]
    rw [Xgr]
    refine .tup _ vs (by simpa using hl) fun j y u hy hu => ?_
    rw [List.getElem?_map] at hy
    obtain ⟨z, hz, rfl⟩ := Option.map_eq_some_iff.1 hy
    refine ih j z u hz hu fun i hi => hm i ?_
    by_cases hf : AV.hasL i cs = true
    · simpa [AV.has] using hf
    · have := AV.hasL_false (by simpa using hf) z (List.mem_of_getElem? hz); rw [this] at hi; cases hi
  | fn g cs vs hl h ih =>
    simp only [AV.ren]
    rw [Xgr]
    refine .fn g _ vs (by simpa using hl) fun j y u hy hu => ?_
    rw [List.getElem?_map] at hy
    obtain ⟨z, hz, rfl⟩ := Option.map_eq_some_iff.1 hy
    refine ih j z u hz hu fun i hi => hm i ?_
    by_cases hf : AV.hasL i cs = true
    · simpa [AV.has] using hf
    · have := AV.hasL_false (by simpa using hf) z (List.mem_of_getElem? hz); rw [this] at hi; cases hi
theorem Rep.unren : ∀ (x : AV) (v : Value), Rep w A μ (x.ren f) v → Rep w A (fun i => μ (f i)) x v
  | .any, v, h => .any v
  | .sv x, v, h => by simp only [AV.ren] at h; cases h with | sv h => exact .sv h
  | .own k, v, h => by simp only [AV.ren] at h; cases h with | own => exact .own (μ := fun i => μ (f i)) k
  | .sub k sz off len, v, h => by simp only [AV.ren] at h; cases h with | sub _ _ _ _ ad0 ad n cap cap' h1 h2 h3 h4 h5 => exact .sub k sz off len ad0 ad n cap cap' h1 h2 h3 h4 h5
  | .ptr k off, v, h => by simp only [AV.ren] at h; cases h with | ptr _ _ g h1 => exact .ptr k off g h1
  | .eptr k sz i off, v, h => by simp only [AV.ren] at h; cases h with | eptr _ _ _ _ g o n cap h1 => exact .eptr k sz i off g o n cap h1
  | .iptr cells off, v, h => by simp only [AV.ren] at h; cases h with | iptr _ _ g o h1 h2 => exact .iptr cells off g o h1 h2
  | .agg cs, v, h => by
    simp only [AV.ren] at h
    rw [Xgr] at h
    cases h with
    | agg _ vs hl h => exact .agg cs vs (by simpa using hl) fun j y u hy hu => have := List.sizeOf_lt_of_mem (List.mem_of_getElem? hy); Rep.unren y u (h j (y.ren f) u (by rw [List.getElem?_map, hy]; rfl) hu)
  | .tup cs, v, h => by
    simp only [AV.ren] at h
    rw [Xgr] at h
    cases h with
    | tup _ vs hl h => exact .tup cs vs (by simpa using hl) fun j y u hy hu => have := List.sizeOf_lt_of_mem (List.mem_of_getElem? hy); Rep.unren y u (h j (y.ren f) u (by rw [List.getElem?_map, hy]; rfl) hu)
  | .fn g cs, v, h => by
    simp only [AV.ren] at h
    rw [Xgr] at h
    cases h with
    | fn _ _ vs hl h => exact .fn g cs vs (by simpa using hl) fun j y u hy hu => have := List.sizeOf_lt_of_mem (List.mem_of_getElem? hy); Rep.unren y u (h j (y.ren f) u (by rw [List.getElem?_map, hy]; rfl) hu)
termination_by x => SizeOf.sizeOf x

theorem Xg8.ren {ob : Obj} {v : Value} (h : Xg8 w A μ ob v) (hm : ∀ i, ob.has i = true → μ' (f i) = μ i) : Xg8 w A μ' (ob.ren f) v := by
  cases h with
  | box cells g cs E fr hg hf hl h =>
    simp only [Obj.ren]
    rw [Xgr]
    refine .box _ g cs E fr hg hf (by simpa using hl) fun j y u hy hu => ?_
    rw [List.getElem?_map] at hy
    obtain ⟨z, hz, rfl⟩ := Option.map_eq_some_iff.1 hy
    refine ⟨(h j z u hz hu).1.ren fun i hi => hm i ?_, (h j z u hz hu).2⟩
    by_cases hf : AV.hasL i cells = true
    · simpa [Obj.has] using hf
    · have := AV.hasL_false (by simpa using hf) z (List.mem_of_getElem? hz); rw [this] at hi; cases hi
  | none ob sz hx hwf => cases ob <;> first | (cases hx; done) | exact .none _ sz hx hwf
  | row ob sz xs hx hwf g o cap cs E fr hg hf hc hm' hs hl h => cases ob <;> first | (cases hx; done) | exact .row _ sz xs hx hwf g o cap cs E fr hg hf hc hm' hs hl h
theorem Xg8.unren {ob : Obj} {v : Value} (h : Xg8 w A μ (ob.ren f) v) : Xg8 w A (fun i => μ (f i)) ob v := by
  cases ob with
  | box cells =>
    simp only [Obj.ren] at h
    rw [Xgr] at h
    cases h with
    | box _ g cs E fr hg hf hl h => exact .box cells g cs E fr hg hf (by simpa using hl) fun j y u hy hu => ⟨Rep.unren y u (h j (y.ren f) u (by rw [List.getElem?_map, hy]; rfl) hu).1, (h j (y.ren f) u (by rw [List.getElem?_map, hy]; rfl) hu).2⟩
    | none _ _ hx => cases hx
    | row _ _ _ hx => cases hx
  | ints k l =>
    simp only [Obj.ren] at h
    cases h with
    | none _ sz hx hwf => exact .none _ sz hx hwf
    | row _ sz xs hx hwf g o cap cs E fr hg hf hc hm' hs hl h => exact .row _ sz xs hx hwf g o cap cs E fr hg hf hc hm' hs hl h
  | row c l =>
    simp only [Obj.ren] at h
    cases h with
    | none _ sz hx hwf => exact .none _ sz hx hwf
    | row _ sz xs hx hwf g o cap cs E fr hg hf hc hm' hs hl h => exact .row _ sz xs hx hwf g o cap cs E fr hg hf hc hm' hs hl h
end

/-! ### Contracts -/
abbrev Xa2 := List (Nat × Obj)
def Fo (w : World) (μ : Nat → Value) (objs : Xa2) (g : Nat) : Prop := g < w.heap.size ∧ ∀ id ob, lk objs id = some ob → Xem (μ id) ≠ some g
structure Yhe (w : World) (μ : Nat → Value) (A : Nat → Prop) (objs : Xa2) : Prop where
  one : ∀ id, (μ id).oneCell' = true
  reps : ∀ id ob, lk objs id = some ob → Xg8 w A μ ob (μ id)
  sep : ∀ i j oi oj g, i ≠ j → lk objs i = some oi → lk objs j = some oj → Xem (μ i) = some g → Xem (μ j) ≠ some g
  own : ∀ id ob g, lk objs id = some ob → Xem (μ id) = some g → ¬ A g
  lt : ∀ g, A g → g < w.heap.size
structure Left (w : World) (μ : Nat → Value) (A : Nat → Prop) (objs : Xa2) (w' : World) (μ' : Nat → Value) (A' : Nat → Prop) (objs' : Xa2) : Prop where
  one : ∀ id, (μ' id).oneCell' = true
  reps : ∀ id ob, lk objs' id = some ob → Xg8 w' A' μ' ob (μ' id)
  sep : ∀ i j oi oj g, i ≠ j → lk objs' i = some oi → lk objs' j = some oj → Xem (μ' i) = some g → Xem (μ' j) ≠ some g
  own : ∀ id ob g, lk objs' id = some ob → Xem (μ' id) = some g → ¬ A' g ∧ ¬ Fo w μ objs g
  pins : ∀ id ob ob', lk objs id = some ob → lk objs' id = some ob' → μ' id = μ id
  mono : ∀ g, A g → A' g
  stab : ∀ g, A' g → g < w'.heap.size ∧ (A g ∨ ¬ Fo w μ objs g)
  frame : Fr (Fo w μ objs) w w'
def Yic (w : World) (A : Nat → Prop) (μ : Nat → Value) (args : List AV) (cargs : Array Value) : Prop :=
  cargs.size = args.length ∧ ∀ (j : Nat) (y : AV) (u : Value), args[j]? = some y → cargs[j]? = some u → Rep w A μ y u
def AC (P : Program) (f : Nat) (args : List AV) (objs : Xa2) (res : AV) (objs' : Xa2) : Prop :=
  ∀ (μ : Nat → Value) (A : Nat → Prop) (w : World) (cargs : Array Value), Yhe w μ A objs → Yic w A μ args cargs →
    Calls P f cargs w (fun e w' => ∃ v μ' A', e = .returned v ∧ Left w μ A objs w' μ' A' objs' ∧ Rep w' A' μ' res v)
end Go.Proofs.YtlebkepfhdjnmacAL
/- An abstract logic for Go functions: what is handed to a call. Conditions: as each statement tells. -/
namespace Go.Proofs.YtlebkepfhdjnmacAL
open Go.RowKit
set_option linter.unusedVariables false

def Ybd {α : Type 1} (kd : IntKind) (v : AV) (k : AV → List Nat → Prop → RM α) : RM α :=
  match v with
  | .own id => .obj id fun | some (.ints kd' l) => k (.sv (.ints kd' l)) [id] True | _ => .fail
  | .sub id sz off len => .obj id fun | some (.ints kd' l) => if Nat.beq sz 1 then k (.sv (.ints kd' ((l.drop off).take len))) [id] (off + len ≤ l.length) else .fail | _ => .fail
  | .sv .nil => k (.sv (.ints kd [])) [] True
  | v => k v [] True
def Ybe {α : Type 1} (β : Type) (d : β) (sz : Nat) (enc : β → List SV) (v : AV) (k : AV → List Nat → Prop → RM α) : RM α :=
  match v with
  | .own id => .obj id fun | some (.row c l) => k (.sv (.sl c.α c.d c.sz c.enc l)) [id] True | _ => .fail
  | .sub id sz' off len => .obj id fun | some (.row c l) => if Nat.beq sz' c.sz then k (.sv (.sl c.α c.d c.sz c.enc ((l.drop off).take len))) [id] (off + len ≤ l.length) else .fail | _ => .fail
  | .sv .nil => k (.sv (.sl β d sz enc [])) [] True
  | v => k v [] True
mutual
def Xg1 {α : Type 1} : AV → AV → (AV → List Nat → Prop → RM α) → RM α
  | .sv (.ints kd _), v, k => Ybd kd v k
  | .sv (.sl β d sz enc _), v, k => Ybe β d sz enc v k
  | .agg ps, .agg vs, k => Xxn ps vs fun ws b c => k (.agg ws) b c
  | .any, _, k => k .any [] True
  | _, v, k => k v [] True
def Xxn {α : Type 1} : List AV → List AV → (List AV → List Nat → Prop → RM α) → RM α
  | [], [], k => k [] [] True
  | p :: ps, v :: vs, k => Xg1 p v fun x b c => Xxn ps vs fun xs b' c' => k (x :: xs) (b ++ b') (c ∧ c')
  | _, _, _ => .fail
end
def Yia {α : Type 1} : List Operand → (List AV → RM α) → RM α
  | [], k => k []
  | x :: l, k => ev x fun v => Yia l fun vs => k (v :: vs)
structure Yh7 : Type 1 where
  avs : List AV
  bor : List Nat
  cond : Prop
def Yb0 (pats : List AV) (fop : Operand) (f : Nat) (xs : List Operand) : RM Yh7 :=
  ev fop fun
    | .fn f' cap => if Nat.beq f' f then Yia xs fun vs => Xxn pats (vs ++ cap) fun ws b c => .ret ⟨ws, b, c⟩ else .fail
    | _ => .fail

section
variable {P : Program} {T : Nat → Option TI} {C : Ctx} {μ : Nat → Value} {A : Nat → Prop} {σ σ' : St} {a : Act} {w w' : World} {o : Oper}

theorem Ybx {x : SV} {u : Value} {sz : Nat} {ys : List (List SV)} {A' : Nat → Prop} (h : Src w A u sz ys) (hx : x.elems = some (sz, ys)) (hp : 0 < sz) (hA : ∀ g, A g → A' g) (hb : ∀ g, Xem u = some g → ys ≠ [] → A' g) : Xek w A' x u := by
  obtain ⟨ad, cap, rfl, hc, hl, had, hcell⟩ := h
  by_cases hne : ys = []
  · subst hne
    exact Xek.sl x sz [] ad cap (fun _ _ => undef) hx (by simp) (by simp) (by simp) (by simp) (by simp)
  · obtain ⟨g, o, rfl⟩ := had hne
    have hg : A' g := hb g rfl hne
    refine Xek.sl x sz ys (some ⟨g, o, none⟩) cap (fun i j => (w.cell? ⟨g, o + (i * sz + j), none⟩).getD undef) hx hl (fun i j x y hi hj => ?_) (fun i j hi hj => ?_) (fun _ => ⟨g, o, rfl⟩) hc
    · obtain ⟨g', o', v, e, h1, h2⟩ := hcell i j x y hi hj
      cases e
      rw [h1]; exact h2.frame hA (fun _ _ => rfl)
    · have hjl : j < ys[i].length := by rw [hl _ (List.getElem_mem hi)]; exact hj
      obtain ⟨g', o', v, e, h1, h2⟩ := hcell i j _ _ (List.getElem?_eq_getElem hi) (List.getElem?_eq_getElem hjl)
      cases e
      exact ⟨g, o, rfl, hg, by rw [h1]; rfl⟩

def AB (σ : St) (μ : Nat → Value) (A : Nat → Prop) (b : List Nat) (g : Nat) : Prop := A g ∨ ∃ id ∈ b, ∃ ob, σ.obj id = some ob ∧ Xem (μ id) = some g
theorem AB.mono {b b' : List Nat} (h : ∀ i ∈ b, i ∈ b') {g : Nat} (hg : AB σ μ A b g) : AB σ μ A b' g := hg.imp (fun h => h) fun ⟨id, hid, r⟩ => ⟨id, h id hid, r⟩

theorem Ybf (h : Xbv C μ A σ a w) {id : Nat} {ob : Obj} {x : SV} {sz : Nat} {xs : List (List SV)} (hob : σ.obj id = some ob) (hx : ob.elems = some (sz, xs)) (hx' : x.elems = some (sz, xs)) (hp : 0 < sz) {u : Value} (hrep : Rep w A μ (.own id) u) : Rep w (AB σ μ A [id]) μ (.sv x) u := by
  cases hrep with
  | own => exact .sv (Ybx (Xya (h.objs id ob hob) hx) hx' hp (fun g hg => .inl hg) (fun g hg _ => .inr ⟨id, by simp, ob, hob, hg⟩))
theorem Ybg (h : Xbv C μ A σ a w) {id off len : Nat} {ob : Obj} {x : SV} {sz : Nat} {xs : List (List SV)} (hob : σ.obj id = some ob) (hx : ob.elems = some (sz, xs)) (hx' : x.elems = some (sz, (xs.drop off).take len)) (hp : 0 < sz) (hle : off + len ≤ xs.length) {u : Value} (hrep : Rep w A μ (.sub id sz off len) u) : Rep w (AB σ μ A [id]) μ (.sv x) u := by
  refine .sv (Ybx (Xrt (h.objs id ob hob) hx hrep hle) hx' hp (fun g hg => .inl hg) (fun g hg hne => .inr ⟨id, by simp, ob, hob, ?_⟩))
  cases hrep with
  | sub _ _ _ _ ad0 ad n cap cap' hm hc1 hc2 ha hz =>
    have hl : 0 < len := by
      rcases Nat.eq_zero_or_pos len with h0 | h0
      · subst h0; simp at hne
      · exact h0
    obtain ⟨g', o', e1, e2⟩ := ha (by omega)
    rw [hm, e1]
    rw [e2] at hg
    exact hg

mutual
theorem Ydu {α : Type 1} (h : Xbv C μ A σ a w) : ∀ (p v : AV) {k : AV → List Nat → Prop → RM α} {ks : List Key} {r : α × List Key} {u : Value}, (Xg1 p v k).run σ ks = some r → Rep w A μ v u →
    ∃ v' b c ks', (k v' b c).run σ ks' = some r ∧ (c → Rep w (AB σ μ A b) μ v' u)
  | .sv (.ints kd l0), v, k, ks, r, u, hr, hrep => by
    simp only [Xg1] at hr
    unfold Ybd at hr
    split at hr
    · simp only [RM.run] at hr
      split at hr
      · exact ⟨_, _, _, _, hr, fun _ => Ybf h (by assumption) rfl rfl (by decide) hrep⟩
      · simp [RM.run] at hr
    · rename_i id sz off len
      simp only [RM.run] at hr
      split at hr
      · rename_i kd' l hob
        split at hr
        · rename_i hsz
          have hsz := Nat.eq_of_beq_eq_true hsz
          subst hsz
          exact ⟨_, _, _, _, hr, fun hle => Ybg h hob (xs := l.map fun n => [SV.int kd' n]) rfl (by simp [SV.elems, List.map_drop, List.map_take]) (by decide) (by simpa using hle) hrep⟩
        · simp [RM.run] at hr
      · simp [RM.run] at hr
    · refine ⟨_, _, _, _, hr, fun _ => ?_⟩
      rw [Xkx hrep]
      exact .sv (Xek.sl _ 1 [] none 0 (fun _ _ => undef) rfl (by simp) (by simp) (by simp) (by simp) (by simp))
    · exact ⟨_, _, _, _, hr, fun _ => hrep.frame (fun g hg => .inl hg) (fun _ _ => rfl) (fun _ _ => rfl)⟩
  | .sv (.sl β d sz0 enc l0), v, k, ks, r, u, hr, hrep => by
    simp only [Xg1] at hr
    unfold Ybe at hr
    split at hr
    · simp only [RM.run] at hr
      split at hr
      · rename_i c l hob
        exact ⟨_, _, _, _, hr, fun _ => Ybf h hob rfl rfl ((h.objs _ _ hob).wf : c.ok).2.1 hrep⟩
      · simp [RM.run] at hr
    · rename_i id sz off len
      simp only [RM.run] at hr
      split at hr
      · rename_i c l hob
        split at hr
        · rename_i hsz
          have hsz := Nat.eq_of_beq_eq_true hsz
          subst hsz
          exact ⟨_, _, _, _, hr, fun hle => Ybg h hob (xs := l.map c.enc) rfl (by simp [SV.elems, List.map_drop, List.map_take]) ((h.objs _ _ hob).wf : c.ok).2.1 (by simpa using hle) hrep⟩
        · simp [RM.run] at hr
      · simp [RM.run] at hr
    · refine ⟨_, _, _, _, hr, fun _ => ?_⟩
      rw [Xkx hrep]
      exact .sv (Xek.sl _ sz0 [] none 0 (fun _ _ => undef) rfl (by simp) (by simp) (by simp) (by simp) (by simp))
    · exact ⟨_, _, _, _, hr, fun _ => hrep.frame (fun g hg => .inl hg) (fun _ _ => rfl) (fun _ _ => rfl)⟩
  | .agg ps, .agg vs, k, ks, r, u, hr, hrep => by
    simp only [Xg1] at hr
    cases hrep with
    | agg _ us hl hrep =>
      obtain ⟨ws, b, c, ks', hr, hws⟩ := Xn3 h ps vs hr (us := us.toList) (by simpa using hl) (fun j y v hy hv => hrep j y v hy (by simpa using hv))
      refine ⟨_, _, _, _, hr, fun hc => ?_⟩
      obtain ⟨hwl, hw⟩ := hws hc
      exact .agg ws us (by rw [hwl]; simp) fun j y v hy hv => hw j y v hy (by simpa using hv)
  | .agg ps, .any, k, ks, r, u, hr, hrep => by simp only [Xg1] at hr; exact ⟨_, _, _, _, hr, fun _ => hrep.frame (fun g hg => .inl hg) (fun _ _ => rfl) (fun _ _ => rfl)⟩
  | .agg ps, .sv x, k, ks, r, u, hr, hrep => by simp only [Xg1] at hr; exact ⟨_, _, _, _, hr, fun _ => hrep.frame (fun g hg => .inl hg) (fun _ _ => rfl) (fun _ _ => rfl)⟩
  | .agg ps, .own i, k, ks, r, u, hr, hrep => by simp only [Xg1] at hr; exact ⟨_, _, _, _, hr, fun _ => hrep.frame (fun g hg => .inl hg) (fun _ _ => rfl) (fun _ _ => rfl)⟩
  | .agg ps, .sub i z f n, k, ks, r, u, hr, hrep => by simp only [Xg1] at hr; exact ⟨_, _, _, _, hr, fun _ => hrep.frame (fun g hg => .inl hg) (fun _ _ => rfl) (fun _ _ => rfl)⟩
  | .agg ps, .ptr i f, k, ks, r, u, hr, hrep => by simp only [Xg1] at hr; exact ⟨_, _, _, _, hr, fun _ => hrep.frame (fun g hg => .inl hg) (fun _ _ => rfl) (fun _ _ => rfl)⟩
  | .agg ps, .eptr i z j f, k, ks, r, u, hr, hrep => by simp only [Xg1] at hr; exact ⟨_, _, _, _, hr, fun _ => hrep.frame (fun g hg => .inl hg) (fun _ _ => rfl) (fun _ _ => rfl)⟩
  | .agg ps, .iptr c f, k, ks, r, u, hr, hrep => by simp only [Xg1] at hr; exact ⟨_, _, _, _, hr, fun _ => hrep.frame (fun g hg => .inl hg) (fun _ _ => rfl) (fun _ _ => rfl)⟩
  | .agg ps, .tup c, k, ks, r, u, hr, hrep => by simp only [Xg1] at hr; exact ⟨_, _, _, _, hr, fun _ => hrep.frame (fun g hg => .inl hg) (fun _ _ => rfl) (fun _ _ => rfl)⟩
  | .agg ps, .fn f c, k, ks, r, u, hr, hrep => by simp only [Xg1] at hr; exact ⟨_, _, _, _, hr, fun _ => hrep.frame (fun g hg => .inl hg) (fun _ _ => rfl) (fun _ _ => rfl)⟩
  | .any, v, k, ks, r, u, hr, hrep => by simp only [Xg1] at hr; exact ⟨_, _, _, _, hr, fun _ => .any _⟩
  | .sv (.int _ _), v, k, ks, r, u, hr, hrep => by simp only [Xg1] at hr; exact ⟨_, _, _, _, hr, fun _ => hrep.frame (fun g hg => .inl hg) (fun _ _ => rfl) (fun _ _ => rfl)⟩
  | .sv (.bool _), v, k, ks, r, u, hr, hrep => by simp only [Xg1] at hr; exact ⟨_, _, _, _, hr, fun _ => hrep.frame (fun g hg => .inl hg) (fun _ _ => rfl) (fun _ _ => rfl)⟩
  | .sv (.str _), v, k, ks, r, u, hr, hrep => by simp only [Xg1] at hr; exact ⟨_, _, _, _, hr, fun _ => hrep.frame (fun g hg => .inl hg) (fun _ _ => rfl) (fun _ _ => rfl)⟩
  | .sv .nil, v, k, ks, r, u, hr, hrep => by simp only [Xg1] at hr; exact ⟨_, _, _, _, hr, fun _ => hrep.frame (fun g hg => .inl hg) (fun _ _ => rfl) (fun _ _ => rfl)⟩
  | .own _, v, k, ks, r, u, hr, hrep => by simp only [Xg1] at hr; exact ⟨_, _, _, _, hr, fun _ => hrep.frame (fun g hg => .inl hg) (fun _ _ => rfl) (fun _ _ => rfl)⟩
  | .sub _ _ _ _, v, k, ks, r, u, hr, hrep => by simp only [Xg1] at hr; exact ⟨_, _, _, _, hr, fun _ => hrep.frame (fun g hg => .inl hg) (fun _ _ => rfl) (fun _ _ => rfl)⟩
  | .ptr _ _, v, k, ks, r, u, hr, hrep => by simp only [Xg1] at hr; exact ⟨_, _, _, _, hr, fun _ => hrep.frame (fun g hg => .inl hg) (fun _ _ => rfl) (fun _ _ => rfl)⟩
  | .eptr _ _ _ _, v, k, ks, r, u, hr, hrep => by simp only [Xg1] at hr; exact ⟨_, _, _, _, hr, fun _ => hrep.frame (fun g hg => .inl hg) (fun _ _ => rfl) (fun _ _ => rfl)⟩
  | .iptr _ _, v, k, ks, r, u, hr, hrep => by simp only [Xg1] at hr; exact ⟨_, _, _, _, hr, fun _ => hrep.frame (fun g hg => .inl hg) (fun _ _ => rfl) (fun _ _ => rfl)⟩
  | .tup _, v, k, ks, r, u, hr, hrep => by simp only [Xg1] at hr; exact ⟨_, _, _, _, hr, fun _ => hrep.frame (fun g hg => .inl hg) (fun _ _ => rfl) (fun _ _ => rfl)⟩
  | .fn _ _, v, k, ks, r, u, hr, hrep => by simp only [Xg1] at hr; exact ⟨_, _, _, _, hr, fun _ => hrep.frame (fun g hg => .inl hg) (fun _ _ => rfl) (fun _ _ => rfl)⟩
theorem Xn3 {α : Type 1} (h : Xbv C μ A σ a w) : ∀ (ps vs : List AV) {k : List AV → List Nat → Prop → RM α} {ks : List Key} {r : α × List Key} {us : List Value}, (Xxn ps vs k).run σ ks = some r → us.length = vs.length → (∀ (j : Nat) (y : AV) (v : Value), vs[j]? = some y → us[j]? = some v → Rep w A μ y v) →
    ∃ ws b c ks', (k ws b c).run σ ks' = some r ∧ (c → ws.length = us.length ∧ ∀ (j : Nat) (y : AV) (v : Value), ws[j]? = some y → us[j]? = some v → Rep w (AB σ μ A b) μ y v)
  | [], [], k, ks, r, us, hr, hl, hrep => by rw [Xxn] at hr; exact ⟨_, _, _, _, hr, fun _ => ⟨by simpa using hl.symm, fun j y v hy => by simp at hy⟩⟩
  | [], v :: vs, k, ks, r, us, hr, hl, hrep => by simp [Xxn, RM.run] at hr
  | p :: ps, [], k, ks, r, us, hr, hl, hrep => by simp [Xxn, RM.run] at hr
  | p :: ps, v :: vs, k, ks, r, [], hr, hl, hrep => by simp at hl
  | p :: ps, v :: vs, k, ks, r, u :: us, hr, hl, hrep => by
    rw [Xxn] at hr
    obtain ⟨x, b, c, k1, hr, hx⟩ := Ydu h p v hr (hrep 0 v u rfl rfl)
    obtain ⟨xs, b', c', k2, hr, hxs⟩ := Xn3 h ps vs hr (us := us) (by simpa using hl) (fun j y v hy hv => hrep (j + 1) y v (by simpa using hy) (by simpa using hv))
    refine ⟨x :: xs, b ++ b', c ∧ c', k2, hr, fun ⟨hc, hc'⟩ => ⟨by simp [(hxs hc').1], fun j y v hy hv => ?_⟩⟩
    cases j with
    | zero => simp at hy hv; subst hy; subst hv; exact (hx hc).frame (fun g hg => hg.mono (fun i hi => by simp [hi])) (fun _ _ => rfl) (fun _ _ => rfl)
    | succ j => exact ((hxs hc').2 j y v (by simpa using hy) (by simpa using hv)).frame (fun g hg => hg.mono (fun i hi => by simp [hi])) (fun _ _ => rfl) (fun _ _ => rfl)
end
theorem Ybt {α : Type 1} : ∀ {l : List Operand} {k : List AV → RM α} {ks : List Key} {r : α × List Key}, (Yia l k).run σ ks = some r → ∃ vs ks', vs.length = l.length ∧ (∀ (j : Nat) (x : Operand) (v : AV), l[j]? = some x → vs[j]? = some v → Ev σ x v) ∧ (k vs).run σ ks' = some r
  | [], k, ks, r, h => ⟨[], ks, rfl, fun j x v hx => by simp at hx, h⟩
  | x :: l, k, ks, r, h => by
    rw [Yia] at h
    obtain ⟨v, k1, hv, h⟩ := Xbc h
    obtain ⟨vs, k2, hl, hvs, h⟩ := Ybt h
    refine ⟨v :: vs, k2, by simp [hl], fun j y z hy hz => ?_, h⟩
    cases j with
    | zero => simp at hy hz; subst hy; subst hz; exact hv
    | succ j => exact hvs j y z (by simpa using hy) (by simpa using hz)
end
end Go.Proofs.YtlebkepfhdjnmacAL
/- An abstract logic for Go functions: calls. Conditions: as each statement tells. -/
namespace Go.Proofs.YtlebkepfhdjnmacAL
open Go.RowKit
set_option linter.unusedVariables false

def rn : List (Nat × Nat) → Nat → Nat
  | [], k => k
  | (a, b) :: l, k => bif Nat.beq a k then b else rn l k
mutual
def AV.ids : AV → List Nat
  | .own k | .sub k _ _ _ | .ptr k _ | .eptr k _ _ _ => [k]
  | .agg cs | .tup cs | .fn _ cs => AV.idsL cs
  | _ => []
def AV.idsL : List AV → List Nat
  | [] => []
  | x :: l => AV.ids x ++ AV.idsL l
end
mutual
theorem AV.has_ids {i : Nat} : ∀ x : AV, x.has i = true → i ∈ x.ids
  | .any, h => by simp [AV.has] at h
  | .sv x, h => by simp [AV.has] at h
  | .own k, h => by simp only [AV.has] at h; simp [AV.ids, Nat.eq_of_beq_eq_true h]
  | .sub k _ _ _, h => by simp only [AV.has] at h; simp [AV.ids, Nat.eq_of_beq_eq_true h]
  | .ptr k _, h => by simp only [AV.has] at h; simp [AV.ids, Nat.eq_of_beq_eq_true h]
  | .eptr k _ _ _, h => by simp only [AV.has] at h; simp [AV.ids, Nat.eq_of_beq_eq_true h]
  | .iptr _ _, h => by simp [AV.has] at h
  | .agg cs, h => by simp only [AV.has] at h; simp only [AV.ids]; exact AV.hasL_ids cs h
  | .tup cs, h => by simp only [AV.has] at h; simp only [AV.ids]; exact AV.hasL_ids cs h
  | .fn _ cs, h => by simp only [AV.has] at h; simp only [AV.ids]; exact AV.hasL_ids cs h
theorem AV.hasL_ids {i : Nat} : ∀ l : List AV, AV.hasL i l = true → i ∈ AV.idsL l
  | [], h => by simp [AV.hasL] at h
  | x :: l, h => by
    rw [AV.hasL, Bool.or_eq_true] at h
    rw [AV.idsL]
    rcases h with h | h
    · exact List.mem_append_left _ (AV.has_ids x h)
    · exact List.mem_append_right _ (AV.hasL_ids l h)
end
def Obj.ids : Obj → List Nat
  | .box cs => AV.idsL cs
  | _ => []
mutual
def AV.flat : AV → Bool
  | .sv x => x.flat
  | .iptr _ _ => false
  | .agg cs | .tup cs | .fn _ cs => AV.flatL cs
  | _ => true
def AV.flatL : List AV → Bool
  | [] => true
  | x :: l => AV.flat x && AV.flatL l
end
def Obj.flat : Obj → Prop
  | .box cs => AV.flatL cs = true
  | .ints _ _ => True
  | .row c _ => ∀ x, Xop (c.enc x) = true
theorem AV.flatL_mem : ∀ {l : List AV}, AV.flatL l = true → ∀ x ∈ l, x.flat = true
  | [], _, x, hx => by simp at hx
  | y :: l, h, x, hx => by
    rw [AV.flatL, Bool.and_eq_true] at h
    rcases List.mem_cons.1 hx with rfl | hx
    · exact h.1
    · exact AV.flatL_mem h.2 x hx

section
variable {P : Program} {T : Nat → Option TI} {C : Ctx} {μ μ' : Nat → Value} {A A' : Nat → Prop} {σ σ' : St} {a : Act} {w w' : World} {o : Oper}
theorem Xek.any {x : SV} {v : Value} (hx : x.flat = true) (h : Xek w A x v) : Xek w A' x v := by
  cases h with
  | int k n => exact .int k n
  | bool b => exact .bool b
  | str s => exact .str s
  | nil => exact .nil
  | sl _ sz xs ad cap c hx' => cases x <;> first | (cases hx; done) | (cases hx'; done)
theorem Rep.any_A {x : AV} {v : Value} (hx : x.flat = true) (h : Rep w A μ x v) : Rep w A' μ x v := by
  induction h with
  | any v => exact .any v
  | sv h => exact .sv (h.any (by simpa [AV.flat] using hx))
  | own id => exact .own id
  | sub id sz off len ad0 ad n cap cap' h1 h2 h3 h4 h5 => exact .sub id sz off len ad0 ad n cap cap' h1 h2 h3 h4 h5
  | ptr id off g h1 => exact .ptr id off g h1
  | eptr id sz i off g o n cap h1 => exact .eptr id sz i off g o n cap h1
  | iptr cells off g o h1 h2 => simp [AV.flat] at hx
  | agg cs vs hl h ih => exact .agg cs vs hl fun j y u hy hu => ih j y u hy hu (AV.flatL_mem (by simpa [AV.flat] using hx) y (List.mem_of_getElem? hy))
  | tup cs vs hl h ih => exact .tup cs vs hl fun j y u hy hu => ih j y u hy hu (AV.flatL_mem (by simpa [AV.flat] using hx) y (List.mem_of_getElem? hy))
  | fn f cs vs hl h ih => exact .fn f cs vs hl fun j y u hy hu => ih j y u hy hu (AV.flatL_mem (by simpa [AV.flat] using hx) y (List.mem_of_getElem? hy))
theorem Yb3 {ob : Obj} {sz : Nat} {xs : List (List SV)} (hf : ob.flat) (hx : ob.elems = some (sz, xs)) {i j : Nat} {x : List SV} {y : SV} (hi : xs[i]? = some x) (hj : x[j]? = some y) : y.flat = true := by
  cases ob with
  | box => cases hx
  | ints k l =>
    simp only [Obj.elems, Option.some.injEq, Prod.mk.injEq] at hx
    obtain ⟨_, rfl⟩ := hx
    rw [List.getElem?_map] at hi
    obtain ⟨n, _, rfl⟩ := Option.map_eq_some_iff.1 hi
    cases j with
    | zero => simp at hj; subst hj; rfl
    | succ j => simp at hj
  | row c l =>
    simp only [Obj.elems, Option.some.injEq, Prod.mk.injEq] at hx
    obtain ⟨_, rfl⟩ := hx
    rw [List.getElem?_map] at hi
    obtain ⟨z, _, rfl⟩ := Option.map_eq_some_iff.1 hi
    exact Xmd (hf z) y (List.mem_of_getElem? hj)
theorem Xg8.any_A {ob : Obj} {v : Value} (hf : ob.flat) (h : Xg8 w A μ ob v) : Xg8 w A' μ ob v := by
  cases h with
  | box cells g cs E fr hg hnf hl h => exact .box cells g cs E fr hg hnf hl fun j y u hy hu => ⟨(h j y u hy hu).1.any_A (AV.flatL_mem hf y (List.mem_of_getElem? hy)), (h j y u hy hu).2⟩
  | none _ sz hx hwf => exact .none _ sz hx hwf
  | row _ sz xs hx hwf g o cap cs E fr hg hnf hc hm hs hl h =>
    refine .row _ sz xs hx hwf g o cap cs E fr hg hnf hc hm hs hl fun i j x y hi hj => ?_
    obtain ⟨u, hu, hr⟩ := h i j x y hi hj
    exact ⟨u, hu, hr.any (Yb3 hf hx hi hj)⟩

def Xcd : Xa2 → List Nat
  | [] => []
  | p :: l => p.1 :: Xcd l
theorem Xhb {k : Nat} {ob : Obj} : ∀ {l : Xa2}, lk l k = some ob → k ∈ Xcd l
  | [], h => by simp [lk] at h
  | (i, u) :: l, h => by
    rw [Xa8] at h
    rw [Xcd]
    split at h
    · rename_i e; subst e; simp
    · exact List.mem_cons_of_mem _ (Xhb h)
theorem Xxi {k : Nat} : ∀ {l : Xa2}, k ∈ Xcd l → ∃ ob, lk l k = some ob
  | [], h => by simp [Xcd] at h
  | (i, u) :: l, h => by
    rw [Xa8]
    by_cases e : i = k
    · exact ⟨u, if_pos e⟩
    · rw [if_neg e]
      rw [Xcd] at h
      rcases List.mem_cons.1 h with h | h
      · exact absurd h.symm e
      · exact Xxi h
def Xmb : List Nat → Bool
  | [] => true
  | x :: l => !inN x l && Xmb l
def Xqr (f : Nat → Nat) : List Nat → List Nat
  | [] => []
  | x :: l => f x :: Xqr f l
theorem Xxq {f : Nat → Nat} {y : Nat} : ∀ {l : List Nat}, y ∈ Xqr f l ↔ ∃ x ∈ l, f x = y
  | [] => by simp [Xqr]
  | x :: l => by rw [Xqr, List.mem_cons, Xxq (l := l)]; simp [eq_comm]
theorem Xmc {f : Nat → Nat} : ∀ {l : List Nat}, Xmb (Xqr f l) = true → ∀ x ∈ l, ∀ y ∈ l, f x = f y → x = y
  | [], _, x, hx, _, _, _ => by simp at hx
  | z :: l, h, x, hx, y, hy, e => by
    rw [Xqr, Xmb, Bool.and_eq_true] at h
    have hz : ∀ u ∈ l, f u ≠ f z := fun u hu e => by
      have : inN (f z) (Xqr f l) = true := Xiw.2 (Xxq.2 ⟨u, hu, e⟩)
      rw [this] at h; simp at h
    rcases List.mem_cons.1 hx with hx1 | hx1
    · rcases List.mem_cons.1 hy with hy1 | hy1
      · rw [hx1, hy1]
      · exact absurd (by rw [← e, hx1]) (hz y hy1)
    · rcases List.mem_cons.1 hy with hy1 | hy1
      · exact absurd (by rw [e, hy1]) (hz x hx1)
      · exact Xmc h.2 x hx1 y hy1 e
def Ygo (l m : List Nat) : List Nat := l.filter fun x => !inN x m
theorem Ydl {l m : List Nat} {x : Nat} : x ∈ Ygo l m ↔ x ∈ l ∧ x ∉ m := by
  unfold Ygo
  rw [List.mem_filter]
  refine and_congr_right fun _ => ?_
  cases h : inN x m with
  | true => simp [Xiw.1 h]
  | false => simp; intro hm; rw [Xiw.2 hm] at h; cases h
def Yep (l m : List Nat) : Bool := match l with | [] => true | x :: l => inN x m && Yep l m
theorem Xyl {m : List Nat} : ∀ {l : List Nat}, Yep l m = true → ∀ x ∈ l, x ∈ m
  | [], _, x, hx => by simp at hx
  | y :: l, h, x, hx => by
    rw [Yep, Bool.and_eq_true] at h
    rcases List.mem_cons.1 hx with rfl | hx
    · exact Xiw.1 h.1
    · exact Xyl h.2 x hx
def Xxs : Xa2 → List Nat
  | [] => []
  | p :: l => p.2.ids ++ Xxs l
theorem Xtg {k i : Nat} {ob : Obj} : ∀ {l : Xa2}, lk l k = some ob → i ∈ ob.ids → i ∈ Xxs l
  | [], h, _ => by simp [lk] at h
  | (j, u) :: l, h, hi => by
    rw [Xa8] at h
    rw [Xxs]
    split at h
    · cases h; exact List.mem_append_left _ hi
    · exact List.mem_append_right _ (Xtg h hi)
def Xbq (objs objs' : Xa2) : List Nat := Ygo (Xcd objs') (Xcd objs)
def Xr1 (f : Nat → Nat) (bor : List Nat) : List Nat → Bool
  | [] => true
  | k :: l => !inN (f k) bor && Xr1 f bor l
theorem Xol {f : Nat → Nat} {bor : List Nat} : ∀ {l : List Nat}, Xr1 f bor l = true → ∀ k ∈ l, f k ∉ bor
  | [], _, k, hk => by simp at hk
  | x :: l, h, k, hk => by
    rw [Xr1, Bool.and_eq_true] at h
    rcases List.mem_cons.1 hk with rfl | hk
    · intro hm; rw [Xiw.2 hm] at h; simp at h
    · exact Xol h.2 k hk
def Xr7 (tab : List (Nat × Nat)) (objs objs' : Xa2) (res : AV) (bor : List Nat) : Bool :=
  Xmb (Xqr (rn tab) (Xcd objs ++ Xbq objs objs')) && Yep (res.ids ++ Xxs objs') (Xcd objs') && Xr1 (rn tab) bor (Xcd objs)
def Xfx (tab : List (Nat × Nat)) (dst : Option Nat) (res : AV) : List (Nat × AV) := match dst with | some d => [(d, res.ren (rn tab))] | none => []
def Xjp (tab : List (Nat × Nat)) : Xa2 → List (Nat × Option Obj)
  | [] => []
  | p :: l => (rn tab p.1, none) :: Xjp tab l
def Xdw (tab : List (Nat × Nat)) (objs : Xa2) : Xa2 → List (Nat × Option Obj)
  | [] => Xjp tab objs
  | p :: l => (rn tab p.1, some (p.2.ren (rn tab))) :: Xdw tab objs l
def Xgh (tab : List (Nat × Nat)) : Xa2 → List Key
  | [] => []
  | p :: l => .o (rn tab p.1) :: Xgh tab l
def holds (tab : List (Nat × Nat)) (σ : St) : Xa2 → Prop
  | [] => True
  | p :: l => σ.obj (rn tab p.1) = some (p.2.ren (rn tab)) ∧ holds tab σ l
def Xyx : Xa2 → Prop
  | [] => True
  | p :: l => p.2.flat ∧ Xyx l
theorem Ybk {k : Nat} {ob : Obj} : ∀ {l : Xa2}, lk l k = some ob → (k, ob) ∈ l
  | [], h => by simp [lk] at h
  | (i, u) :: l, h => by
    rw [Xa8] at h
    split at h
    · rename_i e; subst e; cases h; simp
    · exact List.mem_cons_of_mem _ (Ybk h)
theorem Xy5 {tab : List (Nat × Nat)} {σ : St} : ∀ {l : Xa2}, holds tab σ l → ∀ p ∈ l, σ.obj (rn tab p.1) = some (p.2.ren (rn tab))
  | [], _, p, hp => by simp at hp
  | q :: l, h, p, hp => by
    rcases List.mem_cons.1 hp with rfl | hp
    · exact h.1
    · exact Xy5 h.2 p hp
theorem Xyy : ∀ {l : Xa2}, Xyx l → ∀ p ∈ l, p.2.flat
  | [], _, p, hp => by simp at hp
  | q :: l, h, p, hp => by
    rcases List.mem_cons.1 hp with rfl | hp
    · exact h.1
    · exact Xyy h.2 p hp
theorem Yde {tab : List (Nat × Nat)} {id : Nat} : ∀ {l : Xa2} {x : Option Obj}, lk (Xjp tab l) id = some x → x = none ∧ ∃ k ∈ Xcd l, rn tab k = id
  | [], x, h => by simp [Xjp, lk] at h
  | p :: l, x, h => by
    rw [Xjp, Xa8] at h
    rw [Xcd]
    split at h
    · cases h; exact ⟨rfl, p.1, by simp, by assumption⟩
    · obtain ⟨h1, k, hk, e⟩ := Yde h; exact ⟨h1, k, by simp [hk], e⟩
theorem Xp1 {tab : List (Nat × Nat)} {id : Nat} : ∀ {l : Xa2}, lk (Xjp tab l) id = none → ∀ k ∈ Xcd l, rn tab k ≠ id
  | [], h, k, hk => by simp [Xcd] at hk
  | p :: l, h, k, hk => by
    rw [Xjp, Xa8] at h
    rw [Xcd] at hk
    split at h
    · cases h
    · rename_i e
      rcases List.mem_cons.1 hk with rfl | hk
      · exact e
      · exact Xp1 h k hk
theorem Yf1 {tab : List (Nat × Nat)} {objs : Xa2} {id : Nat} : ∀ {l : Xa2} {x : Option Obj}, (∀ a ∈ Xcd l, ∀ b ∈ Xcd l, rn tab a = rn tab b → a = b) → lk (Xdw tab objs l) id = some x →
    (∃ k ob, lk l k = some ob ∧ rn tab k = id ∧ x = some (ob.ren (rn tab))) ∨ x = none ∧ (∃ k ∈ Xcd objs, rn tab k = id)
  | [], x, _, h => .inr (Yde h)
  | p :: l, x, hi, h => by
    rw [Xdw, Xa8] at h
    split at h
    · cases h; exact .inl ⟨p.1, p.2, by obtain ⟨a, b⟩ := p; rw [Xa8, if_pos rfl], by assumption, rfl⟩
    · rename_i e
      rcases Yf1 (fun a ha b hb => hi a (by simp [Xcd, ha]) b (by simp [Xcd, hb])) h with ⟨k, ob, h1, h2, h3⟩ | h1
      · refine .inl ⟨k, ob, ?_, h2, h3⟩
        obtain ⟨a, b⟩ := p
        rw [Xa8, if_neg ?_]; exact h1
        intro e'; subst e'; exact e h2
      · exact .inr h1
theorem Xtd {tab : List (Nat × Nat)} {objs : Xa2} {id : Nat} : ∀ {l : Xa2}, lk (Xdw tab objs l) id = none → (∀ k ∈ Xcd objs, rn tab k ≠ id) ∧ ∀ k ∈ Xcd l, rn tab k ≠ id
  | [], h => ⟨Xp1 h, fun k hk => by simp [Xcd] at hk⟩
  | p :: l, h => by
    rw [Xdw, Xa8] at h
    split at h
    · cases h
    · rename_i e
      obtain ⟨h1, h2⟩ := Xtd h
      refine ⟨h1, fun k hk => ?_⟩
      rw [Xcd] at hk
      rcases List.mem_cons.1 hk with rfl | hk
      · exact e
      · exact h2 k hk
def muN (tab : List (Nat × Nat)) (μ' μ : Nat → Value) : List Nat → Nat → Value
  | [], id => μ id
  | k :: l, id => if rn tab k = id then μ' k else muN tab μ' μ l id
theorem Yao {tab : List (Nat × Nat)} {id : Nat} : ∀ {l : List Nat}, (∀ k ∈ l, rn tab k ≠ id) → muN tab μ' μ l id = μ id
  | [], _ => rfl
  | k :: l, h => by rw [muN, if_neg (h k (by simp))]; exact Yao fun k hk => h k (by simp [hk])
theorem Yf2 {tab : List (Nat × Nat)} {k : Nat} : ∀ {l : List Nat}, (∀ j ∈ l, rn tab j = rn tab k → j = k) → k ∈ l → muN tab μ' μ l (rn tab k) = μ' k
  | [], _, h => by simp at h
  | j :: l, hi, h => by
    rw [muN]
    split
    · rename_i e; rw [hi j (by simp) e]
    · rename_i e
      refine Yf2 (fun i hi' => hi i (by simp [hi'])) ?_
      rcases List.mem_cons.1 h with rfl | h
      · exact absurd rfl e
      · exact h
theorem Ydn {tab : List (Nat × Nat)} (h1 : ∀ id, (μ id).oneCell' = true) (h2 : ∀ id, (μ' id).oneCell' = true) (id : Nat) : ∀ l : List Nat, (muN tab μ' μ l id).oneCell' = true
  | [] => h1 id
  | k :: l => by rw [muN]; split; exact h2 k; exact Ydn h1 h2 id l

structure Yeh (C : Ctx) (tab : List (Nat × Nat)) (objs objs' : Xa2) (res : AV) (bor : List Nat) (σ : St) : Prop where
  ok : Xr7 tab objs objs' res bor = true
  holds : holds tab σ objs
  fresh : Xhi C (Xqr (rn tab) (Xbq objs objs')) σ
  keep : bor = [] ∨ res.flat = true ∧ Xyx objs'

theorem Yc1 (h : Xbv C μ A σ a w) {tab : List (Nat × Nat)} {objs objs' : Xa2} {res : AV} {bor : List Nat} (hs : Yeh C tab objs objs' res bor σ) {dst : Option Nat} (hd : ∀ d, dst = some d → d < C.n) {f : Nat} {args : List AV} {cargs : Array Value}
    (hA : AC P f args objs res objs') (hargs : Yic w (AB σ μ A bor) μ (args.map (AV.ren (rn tab))) cargs) {Q : Ending → World → Prop} (hQ : ∀ v w', Rel C { s := Xfx tab dst res ++ σ.s, o := Xdw tab objs objs' ++ σ.o } (a.put dst v) w' → Q (.returned v) w') : Calls P f cargs w Q := by
  obtain ⟨hok, hhold, hfresh, hkeep⟩ := hs
  unfold Xr7 at hok
  rw [Bool.and_eq_true, Bool.and_eq_true] at hok
  obtain ⟨⟨hok1, hok2⟩, hok3⟩ := hok
  have hinj := Xmc hok1
  have hall := Xyl hok2
  have hout := Xol hok3
  have hnew : ∀ k, k ∈ Xbq objs objs' ↔ k ∈ Xcd objs' ∧ k ∉ Xcd objs := fun k => Ydl
  have hk' : ∀ k ∈ Xcd objs', k ∈ Xcd objs ++ Xbq objs objs' := fun k hk => by
    rw [List.mem_append, hnew]
    by_cases hm : k ∈ Xcd objs
    · exact .inl hm
    · exact .inr ⟨hk, hm⟩
  have hko : ∀ k ∈ Xcd objs, k ∈ Xcd objs ++ Xbq objs objs' := fun k hk => List.mem_append_left _ hk
  have hobj : ∀ k ob, lk objs k = some ob → σ.obj (rn tab k) = some (ob.ren (rn tab)) := fun k ob hk => Xy5 hhold _ (Ybk hk)
  let μc : Nat → Value := fun k => μ (rn tab k)
  have hE : Yhe w μc (AB σ μ A bor) objs := by
    refine ⟨fun id => h.mu1 _, fun k ob hk => ?_, fun i j oi oj g hij hi hj => ?_, fun k ob g hk hg hab => ?_, fun g hg => ?_⟩
    · exact (Xg8.unren (h.objs _ _ (hobj k ob hk))).frame (fun g hg => .inl hg) (fun _ _ => rfl) (fun _ _ => rfl) (fun _ _ => rfl)
    · exact h.sep _ _ _ _ g (fun e => hij (hinj i (hko i (Xhb hi)) j (hko j (Xhb hj)) e)) (hobj i oi hi) (hobj j oj hj)
    · rcases hab with hab | ⟨id, hid, ob', hob', hg'⟩
      · exact (h.own _ _ g (hobj k ob hk) hg).2 hab
      · refine h.sep _ _ _ _ g (fun e => ?_) (hobj k ob hk) hob' hg hg'
        exact hout k (Xhb hk) (e ▸ hid)
    · rcases hg with hg | ⟨id, hid, ob', hob', hg'⟩
      · exact (h.stab g hg).1
      · exact (h.objs id ob' hob').lt hg'
  have hFo : ∀ g, C.F g → Fo w μc objs g := fun g hg => ⟨Nat.lt_of_lt_of_le (h.cok.lt g hg) h.frame.size, fun k ob hk hg' => (h.own _ _ g (hobj k ob hk) hg').1 hg⟩
  have hAFo : ∀ g, A g → Fo w μc objs g := fun g hg => ⟨(h.stab g hg).1, fun k ob hk hg' => (h.own _ _ g (hobj k ob hk) hg').2 hg⟩
  have hOFo : ∀ id ob g, σ.obj id = some ob → (∀ k ∈ Xcd objs, rn tab k ≠ id) → Xem (μ id) = some g → Fo w μc objs g := fun id ob g hid hne hg =>
    ⟨(h.objs id ob hid).lt hg, fun k ob' hk hg' => h.sep _ _ _ _ g (hne k (Xhb hk)) (hobj k ob' hk) hid hg' hg⟩
  refine Calls.mono (hA μc (AB σ μ A bor) w cargs hE ⟨by simpa using hargs.1, fun j y u hy hu => ?_⟩) ?_
  · exact Rep.unren _ _ (hargs.2 j (y.ren (rn tab)) u (by rw [List.getElem?_map, hy]; rfl) hu)
  intro e w' ⟨v, μ', A', he, hL, hres⟩
  subst he
  refine hQ v w' ?_
  have hmuk : ∀ k ∈ Xcd objs', muN tab μ' μ (Xbq objs objs') (rn tab k) = μ' k := fun k hk => by
    by_cases hm : k ∈ Xcd objs
    · rw [Yao fun j hj e => ?_]
      · obtain ⟨ob, hob⟩ := Xxi hm
        obtain ⟨ob', hob'⟩ := Xxi hk
        exact (hL.pins k ob ob' hob hob').symm
      · have := hinj j (List.mem_append_right _ hj) k (hko k hm) e
        subst this
        exact ((hnew j).1 hj).2 hm
    · exact Yf2 (fun j hj e => hinj j (List.mem_append_right _ hj) k (hk' k hk) e) ((hnew k).2 ⟨hk, hm⟩)
  have hfr : ∀ k ∈ Xbq objs objs', σ.fresh (rn tab k) ∧ C.pin (rn tab k) = none := fun k hk => hfresh _ (Xxq.2 ⟨k, hk, rfl⟩)
  have hmus : ∀ (id : Nat), (∀ k ∈ Xbq objs objs', rn tab k ≠ id) → muN tab μ' μ (Xbq objs objs') id = μ id := fun id hid => Yao hid
  have hinj' : ∀ a ∈ Xcd objs', ∀ b ∈ Xcd objs', rn tab a = rn tab b → a = b := fun a ha b hb => hinj a (hk' a ha) b (hk' b hb)
  -- which blocks stay
  obtain ⟨A'', hA1, hA2, hA3, hA4, hA5⟩ : ∃ A'' : Nat → Prop, (∀ g, A g → A'' g) ∧ (∀ g, A'' g → A' g) ∧ (∀ g, A'' g → A g ∨ ¬ Fo w μc objs g) ∧ Rep w' A'' μ' res v ∧ ∀ k ob, lk objs' k = some ob → Xg8 w' A'' μ' ob (μ' k) := by
    rcases hkeep with hb | ⟨hf, hfo⟩
    · subst hb
      have hab : ∀ g, AB σ μ A [] g → A g := fun g hg => hg.elim (fun h => h) fun ⟨id, hid, _⟩ => by simp at hid
      exact ⟨A', fun g hg => hL.mono g (.inl hg), fun _ h => h, fun g hg => (hL.stab g hg).2.imp_left (hab g), hres, hL.reps⟩
    · exact ⟨A, fun _ h => h, fun g hg => hL.mono g (.inl hg), fun g hg => .inl hg, hres.any_A hf, fun k ob hk => (hL.reps k ob hk).any_A (Xyy hfo _ (Ybk hk))⟩
  refine ⟨muN tab μ' μ (Xbq objs objs'), A'', ?_⟩
  -- the object that an identifier names afterwards
  have hcase : ∀ id ob, St.obj { s := Xfx tab dst res ++ σ.s, o := Xdw tab objs objs' ++ σ.o } id = some ob →
      (∃ k ob', lk objs' k = some ob' ∧ rn tab k = id ∧ ob = ob'.ren (rn tab)) ∨ σ.obj id = some ob ∧ (∀ k ∈ Xcd objs, rn tab k ≠ id) ∧ ∀ k ∈ Xcd objs', rn tab k ≠ id := by
    intro id ob hid
    unfold St.obj at hid
    simp only at hid
    rw [Xzg] at hid
    cases hl : lk (Xdw tab objs objs') id with
    | some x =>
      rw [hl] at hid
      simp only [Option.getD_some] at hid
      subst hid
      rcases Yf1 hinj' hl with ⟨k, ob', h1, h2, h3⟩ | ⟨h1, _⟩
      · cases h3; exact .inl ⟨k, ob', h1, h2, rfl⟩
      · cases h1
    | none =>
      rw [hl] at hid
      exact .inr ⟨hid, Xtd hl⟩
  have hnk : ∀ {id : Nat}, (∀ k ∈ Xcd objs', rn tab k ≠ id) → muN tab μ' μ (Xbq objs objs') id = μ id := fun hne => hmus _ fun k hk => hne k ((hnew k).1 hk).1
  have hbl : ∀ g, A g → w'.heap[g]? = w.heap[g]? := fun g hg => hL.frame.block g (hAFo g hg)
  refine { cok := h.cok, tmps := ?_, defers := ?_, slots := ?_, objs := ?_, sep := ?_, own := ?_, stab := ?_, base := fun g hg => hA1 g (h.base g hg), frame := h.frame.trans (hL.frame.mono hFo), pins := ?_, mu1 := fun id => Ydn h.mu1 hL.one id _ }
  · cases dst with
    | none => exact h.tmps
    | some d => rw [Act.put_tmps, Array.size_setIfInBounds]; exact h.tmps
  · cases dst with
    | none => exact h.defers
    | some d => exact h.defers
  · have hold : ∀ t x, lk σ.s t = some x → Rep w' A'' (muN tab μ' μ (Xbq objs objs')) x (a.tmps.getD t undef) := fun t x hx =>
      (h.slots t x hx).frame hA1 hbl fun i hi => hmus i fun k hk e => by
        have := (hfr k hk).1.1 t x hx
        rw [e] at this; rw [this] at hi; cases hi
    have hnewr : Rep w' A'' (muN tab μ' μ (Xbq objs objs')) (res.ren (rn tab)) v := hA4.ren fun i hi => hmuk i (hall i (List.mem_append_left _ (AV.has_ids res hi)))
    cases dst with
    | none => exact hold
    | some d =>
      intro t x hx
      have hx' : lk ((d, res.ren (rn tab)) :: σ.s) t = some x := hx
      rw [Xa8] at hx'
      rw [Act.put_tmps]
      by_cases e : d = t
      · subst e
        rw [if_pos rfl] at hx'
        cases hx'
        have : d < a.tmps.size := by rw [h.tmps]; exact hd d rfl
        rw [Array.getD_eq_getD_getElem?, Array.getElem?_setIfInBounds_self_of_lt this]
        exact hnewr
      · rw [if_neg e] at hx'
        rw [Array.getD_eq_getD_getElem?, Array.getElem?_setIfInBounds_ne e, ← Array.getD_eq_getD_getElem?]
        exact hold t x hx'
  · intro id ob hid
    rcases hcase id ob hid with ⟨k, ob', h1, rfl, rfl⟩ | ⟨h1, h2, h3⟩
    · rw [hmuk k (Xhb h1)]
      refine (hA5 k ob' h1).ren fun i hi => hmuk i (hall i (List.mem_append_right _ (Xtg h1 ?_)))
      cases ob' with
      | box cs => exact AV.hasL_ids cs hi
      | ints => cases hi
      | row => cases hi
    · rw [hnk h3]
      refine (h.objs id ob h1).frame hA1 hbl (fun g hg => hL.frame.block g (hOFo id ob g h1 h2 hg)) fun i hi => hmus i fun k hk e => ?_
      have := (hfr k hk).1.2 id ob h1
      rw [e] at this; rw [this] at hi; cases hi
  · intro i j oi oj g hij hi hj
    rcases hcase i oi hi with ⟨k, ob', h1, rfl, rfl⟩ | ⟨h1, h2, h3⟩
    · rw [hmuk k (Xhb h1)]
      rcases hcase j oj hj with ⟨l, ob'', k1, rfl, rfl⟩ | ⟨k1, k2, k3⟩
      · rw [hmuk l (Xhb k1)]
        exact hL.sep k l _ _ g (fun e => hij (by rw [e])) h1 k1
      · rw [hnk k3]
        exact fun hg hg' => (hL.own k _ g h1 hg).2 (hOFo j oj g k1 k2 hg')
    · rw [hnk h3]
      rcases hcase j oj hj with ⟨l, ob'', k1, rfl, rfl⟩ | ⟨k1, k2, k3⟩
      · rw [hmuk l (Xhb k1)]
        exact fun hg hg' => (hL.own l _ g k1 hg').2 (hOFo i oi g h1 h2 hg)
      · rw [hnk k3]
        exact h.sep i j oi oj g hij h1 k1
  · intro id ob g hid hg
    rcases hcase id ob hid with ⟨k, ob', h1, rfl, rfl⟩ | ⟨h1, h2, h3⟩
    · rw [hmuk k (Xhb h1)] at hg
      exact ⟨fun hF => (hL.own k ob' g h1 hg).2 (hFo g hF), fun hA => (hL.own k ob' g h1 hg).1 (hA2 g hA)⟩
    · rw [hnk h3] at hg
      refine ⟨(h.own id ob g h1 hg).1, fun hA => ?_⟩
      rcases hA3 g hA with hA | hA
      · exact (h.own id ob g h1 hg).2 hA
      · exact hA (hOFo id ob g h1 h2 hg)
  · intro g hg
    refine ⟨?_, ?_⟩
    · exact (hL.stab g (hA2 g hg)).1
    · rcases hA3 g hg with hA | hA
      · exact (h.stab g hA).2
      · exact .inr fun hF => hA (hFo g hF)
  · intro id u ob hu hid
    have hnn : muN tab μ' μ (Xbq objs objs') id = μ id := hmus id fun k hk e => by
      have := (hfr k hk).2
      rw [e, hu] at this; cases this
    rw [hnn]
    rcases hcase id ob hid with ⟨k, ob', h1, rfl, rfl⟩ | ⟨h1, h2, h3⟩
    · by_cases hm : k ∈ Xcd objs
      · obtain ⟨o0, ho0⟩ := Xxi hm
        exact h.pins _ u _ hu (hobj k o0 ho0)
      · have := (hfr k ((hnew k).2 ⟨Xhb h1, hm⟩)).2
        rw [hu] at this; cases this
    · exact h.pins id u ob hu h1
end
end Go.Proofs.YtlebkepfhdjnmacAL
/- An abstract logic for Go functions: a call as an operation, and a function's body. Conditions: as each statement tells. -/
namespace Go.Proofs.YtlebkepfhdjnmacAL
open Go.RowKit
set_option linter.unusedVariables false
section
variable {P : Program} {T : Nat → Option TI} {C : Ctx} {μ μ' : Nat → Value} {A A' : Nat → Prop} {σ σ' : St} {a : Act} {w w' : World} {o : Oper} {ops : Array Oper}

theorem Xsd {tab : List (Nat × Nat)} {τ : St} : ∀ {l : Xa2}, (∀ k ∈ Xgh tab l, match k with | .s t => lk τ.s t = lk σ.s t | .o id => lk τ.o id = lk σ.o id) → holds tab σ l → holds tab τ l
  | [], _, _ => trivial
  | p :: l, ha, h => ⟨by have := ha (.o (rn tab p.1)) (by simp [Xgh]); unfold St.obj; simp only at this; rw [this]; exact h.1, Xsd (fun k hk => ha k (by simp [Xgh, hk])) h.2⟩

def Fn (P : Program) (f : Nat) : Prop := ∀ (args : Array Value) (w : World), (callFunc f args).run P w = .ok (.enter f args) w

def Yee (P : Program) (C : Ctx) (o : Oper) (r : Rec) (σ : St) : Prop :=
  ∀ τ, Yeg r.rd σ τ → Xhi C r.nw τ → ∀ a w, Rel C τ a w → Xhj P C o (r.app τ) a w
theorem Ydg (hT : TOk P T) {o : Oper} {σ : St} {e : Eff} {ks : List Key} (hd : ∀ d, o.dst = some d → d < C.n) (hr : (aop T o).run σ [] = some (e, ks)) (hc : e.cond) : Yee P C o ⟨ks, e.slots, e.objs, e.new⟩ σ := by
  intro τ ha hf a w ⟨μ, A, h⟩
  exact Ycv hT h hd (Xex hr ha) hc hf
theorem Xte {r : Rec} (hg : o.guard = none) (h : Yee P C o r σ) : Loc P C ops o r σ := by
  intro τ ha hf a w hR
  rw [if_pos (by simp [Region.wanted, hg])]
  exact h τ ha hf a w hR
theorem Yhn {r : Rec} {i t : Nat} {b : Bool} (hg : o.guard = some (i, b)) (hdi : (ops[i]?).bind (·.dst) = some t) (ht : t < C.n) (hs : lk σ.s t = some (.sv (.bool b))) (h : Yee P C o r σ) : Loc P C ops o ⟨.s t :: r.rd, r.sl, r.ob, r.nw⟩ σ := by
  intro τ ha hf a w ⟨μ, A, hR⟩
  have hs' : τ.slot t = .sv (.bool b) := by
    have := ha (.s t) (by simp)
    unfold St.slot
    simp only at this
    rw [this, hs]; rfl
  rw [if_pos (by rw [Xup hR hg hdi ht hs']; simp)]
  exact h τ (fun k hk => ha k (by simp [hk])) hf a w ⟨μ, A, hR⟩

theorem Ycg {c : Call} {fop : Operand} {f : Nat} {cap : Array Value} {ty : TypeId} (ho : o.op = .call c) (hcal : c.callee = .value fop) (hf : Fn P f) (he : a.eval fop = .func (.func f) #[] cap) :
    (execOp a.eval o).run P w = .ok (.enter f (c.args.map a.eval ++ cap)) w := by
  simp [execOp, ho, resolve, hcal, he, Deferred.ofValue, invoke, hf _ w]

theorem Xzj {c : Call} {fop : Operand} {f : Nat} {tab : List (Nat × Nat)} {args : List AV} {objs objs' : Xa2} {res : AV} {bor : List Nat} {cond : Prop} {ks : List Key} (ho : o.op = .call c) (hcal : c.callee = .value fop) (hd : ∀ d, o.dst = some d → d < C.n) (hf : Fn P f)
    (hA : AC P f args objs res objs') (hr : (Yb0 args fop f c.args.toList).run σ [] = some (⟨args.map (AV.ren (rn tab)), bor, cond⟩, ks)) (hc : cond) (hh : holds tab σ objs) (hok : Xr7 tab objs objs' res bor = true) (hk : bor = [] ∨ res.flat = true ∧ Xyx objs') :
    Yee P C o ⟨ks ++ Xgh tab objs, Xfx tab o.dst res, Xdw tab objs objs', Xqr (rn tab) (Xbq objs objs')⟩ σ := by
  intro τ ha hfr a w ⟨μ, A, h⟩
  have hr' := Xex hr fun k hk => ha k (List.mem_append_left _ hk)
  have hh' : holds tab τ objs := Xsd (fun k hk => ha k (List.mem_append_right _ hk)) hh
  unfold Yb0 at hr'
  obtain ⟨v, k1, hv, hr1⟩ := Xbc hr'
  clear hr' hr
  split at hr1
  · rename_i f' cap
    split at hr1
    · rename_i hff
      have hff := Nat.eq_of_beq_eq_true hff
      subst hff
      have he := h.ev hv
      generalize hfe : a.eval fop = u at he
      cases he with
      | fn _ _ vs hvl hvs =>
        obtain ⟨xs, k2, hxl, hxs, hr2⟩ := Ybt hr1
        obtain ⟨ws, b, cc, k3, hr3, hws⟩ := Xn3 h args (xs ++ cap) hr2 (us := (c.args.map a.eval ++ vs).toList) (by simp [hxl, hvl]) (fun j y u hy hu => by
          simp only [Array.toList_append, Array.toList_map] at hu
          by_cases hj : j < xs.length
          · rw [List.getElem?_append_left hj] at hy
            have hjl : j < (c.args.toList.map a.eval).length := by simpa [hxl] using hj
            rw [List.getElem?_append_left hjl, List.getElem?_map] at hu
            obtain ⟨x, hx, rfl⟩ := Option.map_eq_some_iff.1 hu
            exact h.ev (hxs j x y hx hy)
          · rw [List.getElem?_append_right (Nat.le_of_not_lt hj)] at hy
            rw [List.getElem?_append_right (by simpa [hxl] using hj)] at hu
            have e : (c.args.toList.map a.eval).length = xs.length := by simp [hxl]
            rw [e] at hu
            exact hvs _ y u hy (by simpa using hu))
        simp only [RM.run, Option.some.injEq, Prod.mk.injEq, Yh7.mk.injEq] at hr3
        obtain ⟨⟨rfl, rfl, rfl⟩, _⟩ := hr3
        obtain ⟨hwl, hw⟩ := hws hc
        unfold Xhj Oper.wp
        rw [Ycg (ty := o.type) ho hcal hf hfe]
        rw [Oper.upon_enter]
        refine Yc1 h ⟨hok, hh', hfr, hk⟩ hd hA ⟨by simpa using hwl.symm, fun j y u hy hu => hw j y u hy (by rw [Array.getElem?_toList]; exact hu)⟩ ?_
        intro v w' hR
        exact hR
    · simp [RM.run] at hr1
  · simp [RM.run] at hr1

/-! ### A body -/
def Yh9 (T : Nat → Option TI) (σ : St) : ResultVar → Option AV
  | .tmp t => some (σ.slot t)
  | .cell a t => match σ.slot a, T t with
    | .ptr id off, some ti => (match σ.obj id with | some (.box cells) => Xlv ti cells off | _ => none)
    | _, _ => none
def Xr4 (T : Nat → Option TI) (σ : St) : List ResultVar → Option (List AV)
  | [] => some []
  | x :: l => match Yh9 T σ x, Xr4 T σ l with | some v, some vs => some (v :: vs) | _, _ => none
def Ygs : List AV → AV
  | [v] => v
  | vs => .tup vs
def Xm0 (T : Nat → Option TI) (σ : St) (l : List ResultVar) : Option AV := match Xr4 T σ l with | some vs => some (Ygs vs) | none => none
def Xz4 : Nat → List AV → List (Nat × AV)
  | _, [] => []
  | n, x :: l => (n, x) :: Xz4 (n + 1) l
def Yby : Xa2 → List (Nat × Option Obj)
  | [] => []
  | p :: l => (p.1, some p.2) :: Yby l
def Yfj (args : List AV) (objs : Xa2) : St := ⟨Xz4 0 args, Yby objs⟩
theorem Xzi {t : Nat} {x : AV} : ∀ {n : Nat} {l : List AV}, lk (Xz4 n l) t = some x → n ≤ t ∧ l[t - n]? = some x
  | n, [], h => by simp [Xz4, lk] at h
  | n, y :: l, h => by
    rw [Xz4, Xa8] at h
    split at h
    · rename_i e; subst e; cases h; simp
    · rename_i e
      obtain ⟨h1, h2⟩ := Xzi h
      refine ⟨by omega, ?_⟩
      have : t - n = (t - (n + 1)) + 1 := by omega
      rw [this]; simpa using h2
theorem Xzh {k : Nat} : ∀ {l : Xa2} , (lk (Yby l) k).getD none = lk l k
  | [] => rfl
  | (i, u) :: l => by
    rw [Yby, Xa8, Xa8]
    split
    · rfl
    · exact Xzh
def Xy4 (σ : St) : Xa2 → Prop
  | [] => True
  | p :: l => σ.obj p.1 = some p.2 ∧ Xy4 σ l
theorem Xwb {σ : St} : ∀ {l : Xa2}, Xy4 σ l → ∀ p ∈ l, σ.obj p.1 = some p.2
  | [], _, p, hp => by simp at hp
  | q :: l, h, p, hp => by
    rcases List.mem_cons.1 hp with rfl | hp
    · exact h.1
    · exact Xwb h.2 p hp
def Xmy (C : Ctx) (T : Nat → Option TI) (rs : List ResultVar) (res : AV) (objs' : Xa2) : Exit → St → Prop
  | .normal, σ | .ret, σ => ∃ σ', Xhs C σ σ' ∧ Xm0 T σ' rs = some res ∧ Xy4 σ' objs'
  | _, _ => False
structure Xfj (C : Ctx) (n : Nat) (objs : Xa2) : Prop where
  n : C.n = n
  pin : ∀ id, inN id (Xcd objs) = false → C.pin id = none

def Xwf (tmps : Array Value) (x : ResultVar) : Sem Value := match x with | .tmp t => pure (tmps.getD t undef) | .cell b t => do loadVar t (← asAddr (tmps.getD b undef))
theorem Ycf (fn : Func) (tmps : Array Value) : results fn tmps = (do
  let vs ← fn.results.mapM (Xwf tmps)
  pure (if h : vs.size = 1 then vs[0] else .tuple vs)) := rfl
theorem Ybl {α β : Type} (f : α → Sem β) (P : Program) (w : World) : ∀ (l : List α) (vs : List β), l.length = vs.length → (∀ (j : Nat) (x : α) (v : β), l[j]? = some x → vs[j]? = some v → (f x).run P w = .ok v w) → (l.mapM f).run P w = .ok vs w
  | [], [], _, _ => by simp
  | x :: l, v :: vs, hl, h => by
    rw [List.mapM_cons]
    have h1 := h 0 x v rfl rfl
    have h2 := Ybl f P w l vs (by simpa using hl) (fun j y u hy hu => h (j + 1) y u (by simpa using hy) (by simpa using hu))
    simp [Sem.run_bind, h1, h2]
theorem Yfb (hT : TOk P T) (h : Xbv C μ A σ a w) : ∀ {x : ResultVar} {v : AV}, Yh9 T σ x = some v → ∃ u, (Xwf a.tmps x).run P w = .ok u w ∧ Rep w A μ v u
  | .tmp t, v, hv => by
    simp only [Yh9, Option.some.injEq] at hv
    subst hv
    exact ⟨_, rfl, h.slot t⟩
  | .cell b t, v, hv => by
    simp only [Yh9] at hv
    split at hv
    · rename_i id off ti hb ht
      split at hv
      · rename_i cells hid
        obtain ⟨g, cs, E, fr, hm, hg, hf, hl, hcell⟩ := h.box hid
        have hs := h.slot b
        rw [hb] at hs
        generalize hu : a.tmps.getD b undef = u at hs
        cases hs with
        | ptr _ _ g' hm' =>
          rw [hm] at hm'
          injection hm' with e1
          injection e1 with e1
          injection e1 with e1
          subst e1
          obtain ⟨u, hu1, hu2⟩ := Xmr (P := P) hT ht (w := w) (g := g) (b := 0) (A := A) (μ := μ) (cells := cells) (fun j y hy => by
            have hj : j < cs.size := by rw [hl]; exact (List.getElem?_eq_some_iff.1 hy).1
            exact ⟨cs[j], by rw [cell_of_row w g _ cs E fr hg]; simp [hj], (hcell j y _ hy (Array.getElem?_eq_getElem hj)).1⟩) hv
          refine ⟨u, ?_, hu2⟩
          simp only [Nat.zero_add] at hu1
          unfold Xwf
          simp only [hu]
          simp [asAddr, hu1]
      · cases hv
    · cases hv
theorem Xtj (hT : TOk P T) (h : Xbv C μ A σ a w) : ∀ {l : List ResultVar} {vs : List AV}, Xr4 T σ l = some vs → ∃ us : List Value, us.length = l.length ∧ us.length = vs.length ∧
    (∀ (j : Nat) (x : ResultVar) (u : Value), l[j]? = some x → us[j]? = some u → (Xwf a.tmps x).run P w = .ok u w) ∧ ∀ (j : Nat) (y : AV) (u : Value), vs[j]? = some y → us[j]? = some u → Rep w A μ y u
  | [], vs, hv => by
    simp only [Xr4, Option.some.injEq] at hv
    subst hv
    exact ⟨[], rfl, rfl, fun j x u hx => by simp at hx, fun j x u hx => by simp at hx⟩
  | x :: l, vs, hv => by
    rw [Xr4] at hv
    split at hv
    · rename_i v vs' h1 h2
      cases hv
      obtain ⟨u, hu1, hu2⟩ := Yfb (P := P) hT h h1
      obtain ⟨us, h3, h4, h5, h6⟩ := Xtj hT h h2
      refine ⟨u :: us, by simp [h3], by simp [h4], fun j x u hx hu => ?_, fun j y u hy hu => ?_⟩
      · cases j with
        | zero => simp at hx hu; subst hx; subst hu; exact hu1
        | succ j => exact h5 j x u (by simpa using hx) (by simpa using hu)
      · cases j with
        | zero => simp at hy hu; subst hy; subst hu; exact hu2
        | succ j => exact h6 j y u (by simpa using hy) (by simpa using hu)
    · cases hv
theorem Yat (hT : TOk P T) (h : Xbv C μ A σ a w) {fn : Func} {v : AV} (hv : Xm0 T σ fn.results.toList = some v) : ∃ u, (results fn a.tmps).run P w = .ok u w ∧ Rep w A μ v u := by
  unfold Xm0 at hv
  split at hv
  · rename_i vs hvs
    cases hv
    obtain ⟨us, h1, h2, h3, h4⟩ := Xtj (P := P) hT h hvs
    have hm : ∀ us : List Value, us.length = fn.results.toList.length → (∀ (j : Nat) (x : ResultVar) (u : Value), fn.results.toList[j]? = some x → us[j]? = some u → (Xwf a.tmps x).run P w = .ok u w) →
        (results fn a.tmps).run P w = .ok (if h : us.toArray.size = 1 then us.toArray[0] else .tuple us.toArray) w := fun us hl hus => by
      have := Ybl (Xwf a.tmps) P w fn.results.toList us hl.symm hus
      rw [Ycf, Array.mapM_eq_mapM_toList]
      simp [Sem.run_bind, this]
    have hm1 := hm us h1 h3
    refine ⟨_, hm1, ?_⟩
    clear hm1 h1 h3 hm hvs
    match vs, us, h2, h4 with
    | [v], [u], _, h4 => simpa [Ygs] using h4 0 v u rfl rfl
    | [], [], _, _ => simpa [Ygs] using Rep.tup [] #[] rfl (fun j y u hy => by simp at hy)
    | v :: v' :: vs, u :: u' :: us, hl, h4 =>
      have : ¬ (u :: u' :: us).toArray.size = 1 := by simp
      rw [dif_neg this]
      exact Rep.tup _ _ (by simpa using hl) (fun j y u hy hu => h4 j y u hy (by simpa using hu))
  · cases hv

theorem Xaf (hT : TOk P T) {f : Nat} {fn : Func} {c : Code} {args : List AV} {objs objs' : Xa2} {res : AV} (hf : P.funcs[f]? = some fn) (hb : fn.body = some c)
    (h : ∀ C, Xfj C (args.length + (fn.ntmps - args.length)) objs → AWp P C c (Yfj args objs) (Xmy C T fn.results.toList res objs')) : AC P f args objs res objs' := by
  intro μ A w cargs hE hargs
  refine calls_of_wp hf hb ?_
  let C : Ctx := ⟨w, Fo w μ objs, A, args.length + (fn.ntmps - args.length), fun id => if inN id (Xcd objs) = true then some (μ id) else none⟩
  have hC : Xfj C (args.length + (fn.ntmps - args.length)) objs := ⟨rfl, fun id hid => by simp [C, hid]⟩
  have hlk : ∀ id ob, St.obj (Yfj args objs) id = some ob → lk objs id = some ob := fun id ob hid => by
    unfold St.obj Yfj at hid
    simp only at hid
    rw [Xzh] at hid; exact hid
  have h0 : Xbv C μ A (Yfj args objs) { tmps := cargs ++ Array.replicate (fn.ntmps - cargs.size) undef, defers := [] } w := by
    refine ⟨⟨fun g hg => hg.1, fun g hg => ⟨hE.lt g hg, fun id ob hid hg' => hE.own id ob g hid hg' hg⟩⟩, by simp [C, hargs.1], rfl, fun t v hv => ?_, fun id ob hid => hE.reps id ob (hlk id ob hid), fun i j oi oj g hij hi hj => hE.sep i j oi oj g hij (hlk i oi hi) (hlk j oj hj),
      fun id ob g hid hg => ⟨fun hF => hF.2 id ob (hlk id ob hid) hg, hE.own id ob g (hlk id ob hid) hg⟩, fun g hg => ⟨hE.lt g hg, .inl hg⟩, fun g hg => hg, Fr.refl _ _, fun id v ob hv hid => ?_, hE.one⟩
    · obtain ⟨_, h2⟩ := Xzi hv
      simp only [Nat.sub_zero] at h2
      have hlt : t < cargs.size := by rw [hargs.1]; exact (List.getElem?_eq_some_iff.1 h2).1
      have : (cargs ++ Array.replicate (fn.ntmps - cargs.size) undef).getD t undef = cargs[t] := by
        rw [Array.getD_eq_getD_getElem?, Array.getElem?_append_left hlt, Array.getElem?_eq_getElem hlt]; rfl
      rw [this]
      exact hargs.2 t v _ h2 (Array.getElem?_eq_getElem hlt)
    · simp only [C] at hv
      split at hv
      · cases hv; rfl
      · cases hv
  have key : ∀ σ' a' w', (∃ σ'', Xhs C σ' σ'' ∧ Xm0 T σ'' fn.results.toList = some res ∧ Xy4 σ'' objs') → Rel C σ' a' w' → a'.defers = [] ∧ ∃ v, (results fn a'.tmps).run P w' = .ok v w' ∧ ∃ v' μ' A', Ending.returned v = .returned v' ∧ Left w μ A objs w' μ' A' objs' ∧ Rep w' A' μ' res v' := by
    intro σ' a' w' ⟨σ'', hw, hres, hho⟩ hR
    obtain ⟨μ', A', hR⟩ := hw a' w' hR
    obtain ⟨u, hu1, hu2⟩ := Yat hT hR hres
    have hob : ∀ id ob, lk objs' id = some ob → σ''.obj id = some ob := fun id ob hid => Xwb hho _ (Ybk hid)
    refine ⟨hR.defers, u, hu1, u, μ', A', rfl, ⟨hR.mu1, fun id ob hid => hR.objs id ob (hob id ob hid), fun i j oi oj g hij hi hj => hR.sep i j oi oj g hij (hob i oi hi) (hob j oj hj), fun id ob g hid hg => ?_, fun id ob ob' hid hid' => ?_, hR.base, fun g hg => hR.stab g hg, hR.frame⟩, hu2⟩
    · exact ⟨(hR.own id ob g (hob id ob hid) hg).2, (hR.own id ob g (hob id ob hid) hg).1⟩
    · exact hR.pins id (μ id) ob' (by simp [C, Xiw.2 (Xhb hid)]) (hob id ob' hid')
  refine wp_mono (h C hC _ w ⟨μ, A, h0⟩) fun e a' w' ⟨σ', hq, hR⟩ => ?_
  cases e with
  | normal => exact key σ' a' w' hq hR
  | ret => exact key σ' a' w' hq hR
  | _ => exact hq.elim
end
end Go.Proofs.YtlebkepfhdjnmacAL
/- An abstract logic for Go functions: states in another form. Conditions: as each statement tells. -/
namespace Go.Proofs.YtlebkepfhdjnmacAL
open Go.RowKit
set_option linter.unusedVariables false
section
variable {P : Program} {T : Nat → Option TI} {C : Ctx} {μ μ' : Nat → Value} {A A' : Nat → Prop} {σ σ' : St} {a : Act} {w w' : World} {o : Oper} {ops : Array Oper}

def Xxh {β : Type 1} : List (Nat × β) → List Nat
  | [] => []
  | p :: l => p.1 :: Xxh l
def Xmn : List (Nat × Option Obj) → List Nat
  | [] => []
  | (k, some _) :: l => k :: Xmn l
  | (_, none) :: l => Xmn l
theorem Xxp {k : Nat} {x : Obj} : ∀ {l : List (Nat × Option Obj)}, lk l k = some (some x) → k ∈ Xmn l
  | [], h => by simp [lk] at h
  | (i, some u) :: l, h => by
    rw [Xa8] at h
    rw [Xmn]
    split at h
    · rename_i e; subst e; simp
    · exact List.mem_cons_of_mem _ (Xxp h)
  | (i, none) :: l, h => by
    rw [Xa8] at h
    rw [Xmn]
    split at h
    · cases h
    · exact Xxp h
def Xyc : List (Nat × AV) → List AV
  | [] => []
  | p :: l => p.2 :: Xyc l
def Ygl (σ : St) (ps vs : List AV) : Option Yh7 := match (Xxn ps vs fun ws b c => .ret ⟨ws, b, c⟩).run σ [] with | some r => some r.1 | none => none
inductive CO (tab : List (Nat × Nat)) (σ : St) : List (Nat × Option Obj) → List Nat → Prop
  | nil : CO tab σ [] []
  | box {id : Nat} {cells cells' : List AV} {b b' : List Nat} {c : Prop} {l : List (Nat × Option Obj)} (h : σ.obj (rn tab id) = some (.box cells')) (hl : Ygl σ cells cells' = some ⟨AV.renL (rn tab) cells, b, c⟩) (hc : c) (k : CO tab σ l b') : CO tab σ ((id, some (.box cells)) :: l) (b ++ b')
  | gone {id : Nat} {b' : List Nat} {l : List (Nat × Option Obj)} (k : CO tab σ l b') : CO tab σ ((id, none) :: l) b'
  | row {id : Nat} {ob : Obj} {b' : List Nat} {l : List (Nat × Option Obj)} (h : σ.obj (rn tab id) = some ob) (hb : ob.elems.isSome = true) (k : CO tab σ l b') : CO tab σ ((id, some ob) :: l) b'
def Ycc (tab : List (Nat × Nat)) (objs : Xa2) : List Nat → Bool
  | [] => true
  | k :: l => (Nat.beq (rn tab k) k || !inN k (Xcd objs)) && Ycc tab objs l
theorem Xzq {tab : List (Nat × Nat)} {objs : Xa2} : ∀ {l : List Nat}, Ycc tab objs l = true → ∀ k ∈ l, rn tab k = k ∨ inN k (Xcd objs) = false
  | [], _, k, hk => by simp at hk
  | x :: l, h, k, hk => by
    rw [Ycc, Bool.and_eq_true] at h
    rcases List.mem_cons.1 hk with rfl | hk
    · rcases Bool.or_eq_true _ _ ▸ h.1 with h1 | h1
      · exact .inl (Nat.eq_of_beq_eq_true h1)
      · exact .inr (by simpa using h1)
    · exact Xzq h.2 k hk
theorem Ybj {k : Nat} {x : AV} : ∀ {l : List (Nat × AV)}, lk l k = some x → ∃ j : Nat, (Xxh l)[j]? = some k ∧ (Xyc l)[j]? = some x
  | [], h => by simp [lk] at h
  | (i, u) :: l, h => by
    rw [Xa8] at h
    split at h
    · rename_i e; subst e; cases h; exact ⟨0, rfl, rfl⟩
    · obtain ⟨j, h1, h2⟩ := Ybj h; exact ⟨j + 1, by simpa [Xxh] using h1, by simpa [Xyc] using h2⟩
theorem Ye9 {f : Nat → Nat} {l : List AV} {j : Nat} {y : AV} (h : l[j]? = some y) : (AV.renL f l)[j]? = some (y.ren f) := by rw [Xgr, List.getElem?_map, h]; rfl

theorem Ybh (h : Xbv C μ A σ a w) {ps vs ws : List AV} {b : List Nat} {c : Prop} {us : List Value} (hl : Ygl σ ps vs = some ⟨ws, b, c⟩) (hc : c) (hn : us.length = vs.length) (hu : ∀ (j : Nat) (y : AV) (v : Value), vs[j]? = some y → us[j]? = some v → Rep w A μ y v) :
    ws.length = us.length ∧ ∀ (j : Nat) (y : AV) (v : Value), ws[j]? = some y → us[j]? = some v → Rep w (AB σ μ A b) μ y v := by
  unfold Ygl at hl
  split at hl
  · rename_i r hr
    simp only [Option.some.injEq] at hl
    obtain ⟨ws', b', c', ks', hr', hws⟩ := Xn3 h ps vs hr hn hu
    simp only [RM.run, Option.some.injEq] at hr'
    rw [← hr'] at hl
    simp only [Yh7.mk.injEq] at hl
    obtain ⟨rfl, rfl, rfl⟩ := hl
    exact hws hc
  · cases hl
theorem Ya6 {tab : List (Nat × Nat)} {id : Nat} {ob : Obj} : ∀ {l : List (Nat × Option Obj)} {b : List Nat}, CO tab σ l b → lk l id = some (some ob) →
    (∃ cells cells' b' c, ob = .box cells ∧ σ.obj (rn tab id) = some (.box cells') ∧ Ygl σ cells cells' = some ⟨AV.renL (rn tab) cells, b', c⟩ ∧ c ∧ ∀ i ∈ b', i ∈ b) ∨ σ.obj (rn tab id) = some ob ∧ ob.elems.isSome = true
  | _, _, .nil, h => by simp [lk] at h
  | _, _, .box h1 h2 h3 k, h => by
    rw [Xa8] at h
    split at h
    · rename_i e; subst e; cases h; exact .inl ⟨_, _, _, _, rfl, h1, h2, h3, fun i hi => by simp [hi]⟩
    · rcases Ya6 k h with ⟨cells, cells', b', c, e1, e2, e3, e4, e5⟩ | e
      · exact .inl ⟨cells, cells', b', c, e1, e2, e3, e4, fun i hi => by simp [e5 i hi]⟩
      · exact .inr e
  | _, _, .gone k, h => by
    rw [Xa8] at h
    split at h
    · cases h
    · exact Ya6 k h
  | _, _, .row h1 h2 k, h => by
    rw [Xa8] at h
    split at h
    · rename_i e; subst e; cases h; exact .inr ⟨h1, h2⟩
    · exact Ya6 k h
theorem Xw0 {tab : List (Nat × Nat)} {id : Nat} : ∀ {l : List (Nat × Option Obj)} {b : List Nat} {x : Obj}, CO tab σ l b → lk l id = some (some x) → ∃ ob, σ.obj (rn tab id) = some ob
  | _, _, _, .nil, h => by simp [lk] at h
  | _, _, _, .box h1 h2 h3 k, h => by
    rw [Xa8] at h
    split at h
    · rename_i e; subst e; exact ⟨_, h1⟩
    · exact Xw0 k h
  | _, _, _, .gone k, h => by
    rw [Xa8] at h
    split at h
    · cases h
    · exact Xw0 k h
  | _, _, _, .row h1 h2 k, h => by
    rw [Xa8] at h
    split at h
    · rename_i e; subst e; exact ⟨_, h1⟩
    · exact Xw0 k h
theorem Obj.ren_row {f : Nat → Nat} {ob : Obj} (h : ob.elems.isSome = true) : ob.ren f = ob := by cases ob <;> first | rfl | cases h

theorem Yed {n : Nat} {objs : Xa2} (hC : Xfj C n objs) (tab : List (Nat × Nat)) {s : List (Nat × AV)} {o : List (Nat × Option Obj)} {b b' : List Nat} {c : Prop} (hs : Ygl σ (Xyc s) ((Xxh s).map σ.slot) = some ⟨AV.renL (rn tab) (Xyc s), b, c⟩) (hc : c) (ho : CO tab σ o b')
    (hok : (Xmb (Xqr (rn tab) (Xmn o)) && Xr1 (rn tab) (b ++ b') (Xmn o) && Ycc tab objs (Xmn o)) = true) : Xhs C σ ⟨s, o⟩ := by
  rw [Bool.and_eq_true, Bool.and_eq_true] at hok
  obtain ⟨⟨hok1, hok2⟩, hok3⟩ := hok
  have hinj := Xmc hok1
  have hout := Xol hok2
  have hpin := Xzq hok3
  intro a w ⟨μ, A, h⟩
  have hlk : ∀ id ob, St.obj ⟨s, o⟩ id = some ob → lk o id = some (some ob) := fun id ob hid => by
    unfold St.obj at hid
    simp only at hid
    cases e : lk o id with
    | none => rw [e] at hid; cases hid
    | some x => rw [e] at hid; simp only [Option.getD_some] at hid; rw [hid]
  have hob : ∀ id ob, St.obj ⟨s, o⟩ id = some ob → ∃ ob', σ.obj (rn tab id) = some ob' := fun id ob hid => Xw0 ho (hlk id ob hid)
  have hky : ∀ id ob, St.obj ⟨s, o⟩ id = some ob → id ∈ Xmn o := fun id ob hid => Xxp (hlk id ob hid)
  refine ⟨fun i => μ (rn tab i), AB σ μ A (b ++ b'), ?_⟩
  refine { cok := h.cok, tmps := h.tmps, defers := h.defers, slots := ?_, objs := ?_, sep := ?_, own := ?_, stab := ?_, base := fun g hg => .inl (h.base g hg), frame := h.frame, pins := ?_, mu1 := fun id => h.mu1 _ }
  · intro t v hv
    obtain ⟨j, h1, h2⟩ := Ybj hv
    have := Ybh h hs hc (us := (Xxh s).map fun t => a.tmps.getD t undef) (by simp) (fun j y u hy hu => by
      rw [List.getElem?_map] at hy hu
      obtain ⟨t, ht, rfl⟩ := Option.map_eq_some_iff.1 hy
      rw [ht] at hu
      cases hu
      exact h.slot t)
    have hr := this.2 j (v.ren (rn tab)) (a.tmps.getD t undef) (Ye9 h2) (by rw [List.getElem?_map, h1]; rfl)
    exact (Rep.unren _ _ hr).frame (fun g hg => hg.mono fun i hi => by simp [hi]) (fun _ _ => rfl) (fun _ _ => rfl)
  · intro id ob hid
    rcases Ya6 ho (hlk id ob hid) with ⟨cells, cells', b1, c1, rfl, h2, h3, h4, h5⟩ | ⟨h1, h2⟩
    · have := h.objs _ _ h2
      refine Xg8.unren ?_
      generalize hm : μ (rn tab id) = v at this ⊢
      cases this with
      | box _ g cs E fr hg hf hl hcell =>
        have hr := Ybh h h3 h4 (us := cs.toList) (by simpa using hl) (fun j y u hy hu => (hcell j y u hy (by simpa using hu)).1)
        refine .box _ g cs E fr hg hf (by simpa using hr.1.symm) fun j y u hy hu => ⟨?_, ?_⟩
        · exact (hr.2 j y u hy (by simpa using hu)).frame (fun g hg => hg.mono fun i hi => by simp [h5 i hi]) (fun _ _ => rfl) (fun _ _ => rfl)
        · have hj : j < cells'.length := by rw [← hl]; exact (Array.getElem?_eq_some_iff.1 hu).1
          exact (hcell j _ u (List.getElem?_eq_getElem hj) hu).2
      | none _ _ hx => cases hx
      | row _ _ _ hx => cases hx
    · refine Xg8.unren ?_
      rw [Obj.ren_row h2]
      exact (h.objs _ _ h1).frame (fun g hg => .inl hg) (fun _ _ => rfl) (fun _ _ => rfl) (fun _ _ => rfl)
  · intro i j oi oj g hij hi hj
    obtain ⟨oi', hi'⟩ := hob i oi hi
    obtain ⟨oj', hj'⟩ := hob j oj hj
    exact h.sep _ _ _ _ g (fun e => hij (hinj i (hky i oi hi) j (hky j oj hj) e)) hi' hj'
  · intro id ob g hid hg
    obtain ⟨ob', hid'⟩ := hob id ob hid
    refine ⟨(h.own _ _ g hid' hg).1, fun hA => ?_⟩
    rcases hA with hA | ⟨i, hi, oi, hoi, hgi⟩
    · exact (h.own _ _ g hid' hg).2 hA
    · refine h.sep _ _ _ _ g (fun e => hout id (hky id ob hid) ?_) hid' hoi hg hgi
      rw [e]; exact hi
  · intro g hg
    rcases hg with hg | ⟨i, hi, oi, hoi, hgi⟩
    · exact h.stab g hg
    · exact ⟨(h.objs i oi hoi).lt hgi, .inr (h.own i oi g hoi hgi).1⟩
  · intro id v ob hv hid
    obtain ⟨ob', hid'⟩ := hob id ob hid
    rcases hpin id (hky id ob hid) with e | e
    · show μ (rn tab id) = v
      rw [e] at hid' ⊢
      exact h.pins id v ob' hv hid'
    · rw [hC.pin id e] at hv; cases hv

theorem Xye (k i id : Nat) (ob : Obj) {sz : Nat} {cells : List AV} (hs : σ.obj k = some (.box cells)) (hi : cells[i]? = some (.sv .nil)) (hf : σ.fresh id ∧ C.pin id = none) (hne : σ.obj id = none) (hx : ob.elems = some (sz, [])) (hwf : ob.wf) :
    Xhs C σ ⟨σ.s, (k, some (.box (cells.set i (.own id)))) :: (id, some ob) :: σ.o⟩ := by
  intro a w ⟨μ, A, h⟩
  have hki : k ≠ id := fun e => by rw [e, hne] at hs; cases hs
  have h1 := h.name (id := id) (ob := ob) (v := .slice none 0 0) hf.1 hf.2 (fun g hg => by simp [Xem] at hg) (.none ob sz hx hwf)
  have hk1 : (σ.setO id (some ob)).obj k = some (.box cells) := by rw [St.obj_setO, if_neg (fun e => hki e.symm)]; exact hs
  refine ⟨upd μ id (.slice none 0 0), A, ?_⟩
  have hcase : ∀ j oj, St.obj ⟨σ.s, (k, some (.box (cells.set i (.own id)))) :: (id, some ob) :: σ.o⟩ j = some oj → j = k ∧ oj = .box (cells.set i (.own id)) ∨ j ≠ k ∧ (σ.setO id (some ob)).obj j = some oj := fun j oj hj => by
    have : St.obj ⟨σ.s, (k, some (.box (cells.set i (.own id)))) :: (id, some ob) :: σ.o⟩ j = if k = j then some (.box (cells.set i (.own id))) else (σ.setO id (some ob)).obj j := St.obj_setO (σ.setO id (some ob)) k _ j
    rw [this] at hj
    split at hj
    · rename_i e; cases hj; exact .inl ⟨e.symm, rfl⟩
    · rename_i e; exact .inr ⟨fun e' => e e'.symm, hj⟩
  have hex : ∀ j oj, St.obj ⟨σ.s, (k, some (.box (cells.set i (.own id)))) :: (id, some ob) :: σ.o⟩ j = some oj → ∃ oj', (σ.setO id (some ob)).obj j = some oj' := fun j oj hj => by
    rcases hcase j oj hj with ⟨rfl, _⟩ | ⟨_, h2⟩
    · exact ⟨_, hk1⟩
    · exact ⟨_, h2⟩
  refine { h1 with slots := h1.slots, objs := fun j oj hj => ?_, sep := fun i j oi oj g hij hi hj => ?_, own := fun j oj g hj => ?_, pins := fun j v oj hv hj => ?_ }
  · rcases hcase j oj hj with ⟨rfl, rfl⟩ | ⟨_, h2⟩
    · have ho := h1.objs _ _ hk1
      generalize upd μ id (.slice none 0 0) j = v at ho
      cases ho with
      | box _ g cs E fr hg hfz hl hcell =>
        refine .box _ g cs E fr hg hfz (by simpa using hl) fun n y u hy hu => ?_
        rw [List.getElem?_set] at hy
        split at hy
        · rename_i e
          subst e
          split at hy
          · cases hy
            obtain ⟨hr, h1⟩ := hcell i _ u hi hu
            have := Xkx hr
            refine ⟨?_, h1⟩
            have hR := Rep.own (w := w) (A := A) (μ := upd μ id (.slice none 0 0)) id
            rw [Xe3] at hR
            rw [this]; exact hR
          · cases hy
        · exact hcell n y u hy hu
      | none _ _ hx => cases hx
      | row _ _ _ hx => cases hx
    · exact h1.objs j oj h2
  · obtain ⟨oi', hi'⟩ := hex i oi hi
    obtain ⟨oj', hj'⟩ := hex j oj hj
    exact h1.sep i j oi' oj' g hij hi' hj'
  · obtain ⟨oj', hj'⟩ := hex j oj hj
    exact h1.own j oj' g hj'
  · obtain ⟨oj', hj'⟩ := hex j oj hj
    exact h1.pins j v oj' hv hj'

end
end Go.Proofs.YtlebkepfhdjnmacAL
/- An abstract logic for Go functions: the steps of a walk. Conditions: as each statement tells. -/
namespace Go.Proofs.YtlebkepfhdjnmacAL
open Go.RowKit
set_option linter.unusedVariables false

/-! ### Partial values -/
def req {β : Type} (c : Prop) [Decidable c] (k : Option β) : Option β := if c then k else none
theorem Xaw {β : Type} {c : Prop} [Decidable c] {k : Option β} {r : β} (h : req c k = some r) : c ∧ k = some r := by
  unfold req at h
  split at h
  · exact ⟨by assumption, h⟩
  · cases h
def bnd {α β : Type} (x : Option α) (f : α → Option β) : Option β := match x with | some a => f a | none => none
theorem Xa9 {α β : Type} {x : Option α} {f : α → Option β} {r : β} (h : bnd x f = some r) : ∃ a, x = some a ∧ f a = some r := by
  unfold bnd at h
  split at h
  · exact ⟨_, rfl, h⟩
  · cases h
def sel {β : Type} (b : Bool) (x y : β) : β := match b with | true => x | false => y
theorem Xj0 {β : Type} {b : Bool} {x y : Option β} {r : β} (h : sel b x y = some r) : b = true ∧ x = some r ∨ b = false ∧ y = some r := by
  cases b
  · exact .inr ⟨rfl, h⟩
  · exact .inl ⟨rfl, h⟩
def Yhm {α β : Type} (j : α) (f : α → β) : β := f j
inductive Lp (V O : Type) where
  | go (v : V)
  | done (o : O)
def it {V O : Type} (f : V → Option (Lp V O)) : Nat → V → Option O
  | 0, _ => none
  | k + 1, x => match f x with | some (.go y) => it f k y | some (.done o) => some o | none => none
theorem Yak {V O : Type} {f : V → Option (Lp V O)} {o : O} : ∀ {k : Nat} {x : V} {k' : Nat}, it f k x = some o → k ≤ k' → it f k' x = some o
  | 0, x, k', h, _ => by cases h
  | k + 1, x, 0, h, hk => by omega
  | k + 1, x, k' + 1, h, hk => by
    rw [it] at h ⊢
    cases e : f x with
    | none => rw [e] at h; exact h
    | some s =>
      rw [e] at h
      cases s with
      | go y => exact Yak (k := k) h (by omega)
      | done o' => exact h
open Classical in
noncomputable def loop {V O : Type} (f : V → Option (Lp V O)) (x : V) : Option O := if h : ∃ k o, it f k x = some o then some (Classical.choose (Classical.choose_spec h)) else none
theorem Xel {V O : Type} {f : V → Option (Lp V O)} {x : V} {o : O} : loop f x = some o ↔ ∃ k, it f k x = some o := by
  unfold loop
  constructor
  · intro h
    split at h
    · rename_i hk
      cases h
      exact ⟨_, Classical.choose_spec (Classical.choose_spec hk)⟩
    · cases h
  · intro ⟨k, h⟩
    have hk : ∃ k o, it f k x = some o := ⟨k, o, h⟩
    rw [dif_pos hk]
    have h2 := Classical.choose_spec (Classical.choose_spec hk)
    have h3 := Yak h2 (Nat.le_max_left _ k)
    have h4 := Yak h (Nat.le_max_right (Classical.choose hk) k)
    rw [h3] at h4
    exact h4
theorem Xpf {V O : Type} {f : V → Option (Lp V O)} {x y : V} (h : f x = some (.go y)) : loop f x = loop f y := by
  apply Option.ext
  intro o
  rw [Xel, Xel]
  constructor
  · intro ⟨k, hk⟩
    cases k with
    | zero => cases hk
    | succ k => rw [it, h] at hk; exact ⟨k, hk⟩
  · intro ⟨k, hk⟩
    exact ⟨k + 1, by rw [it, h]; exact hk⟩
theorem Xg2 {V O : Type} {f : V → Option (Lp V O)} {x : V} {o : O} (h : f x = some (.done o)) : loop f x = some o := Xel.2 ⟨1, by rw [it, h]⟩

/-! ### Steps -/
def RM.get {α : Type 1} (σ : St) : RM α → List Key → Option (α × List Key)
  | .ret a, ks => some (a, ks)
  | .fail, _ => none
  | .slot t k, ks => match lk σ.s t with | some v => (k v).get σ (.s t :: ks) | none => (k .any).get σ (.s t :: ks)
  | .obj id k, ks => match lk σ.o id with | some (some ob) => (k (some ob)).get σ (.o id :: ks) | _ => (k none).get σ (.o id :: ks)
theorem Xe5 {α : Type 1} {σ : St} : ∀ {m : RM α} {ks : List Key} {r : α × List Key}, m.get σ ks = some r → m.run σ ks = some r
  | .ret a, ks, r, h => h
  | .fail, ks, r, h => h
  | .slot t f, ks, r, h => by
    unfold RM.get at h
    show (f (σ.slot t)).run σ (.s t :: ks) = some r
    unfold St.slot
    split at h
    · rename_i v hv; rw [hv]; exact Xe5 (m := f v) h
    · rename_i hv; rw [hv]; exact Xe5 (m := f .any) h
  | .obj id f, ks, r, h => by
    unfold RM.get at h
    show (f (σ.obj id)).run σ (.o id :: ks) = some r
    unfold St.obj
    split at h
    · rename_i v hv; rw [hv]; exact Xe5 (m := f (some v)) h
    · rename_i hv
      have : (lk σ.o id).getD none = none := by
        cases e : lk σ.o id with
        | none => rfl
        | some x => cases x with
          | none => rfl
          | some ob => exact absurd e (hv ob)
      rw [this]; exact Xe5 (m := f none) h
theorem Xpx {a b : Nat} (h : Nat.blt a b = true) : a < b := Nat.le_of_ble_eq_true h
/-! What an operation leaves, with its lists written out. -/
def Xy0 {γ : Type 1} : List AV → (List AV → γ) → γ
  | [], k => k []
  | x :: l, k => Xy0 l fun l' => k (x :: l')
theorem Xsb {γ : Type 1} : ∀ (l : List AV) (k : List AV → γ), Xy0 l k = k l
  | [], k => rfl
  | x :: l, k => by rw [Xy0, Xsb l]
def AV.nfK {γ : Type 1} : AV → (AV → γ) → γ
  | .agg cs, k => Xy0 cs fun c => k (.agg c)
  | v, k => k v
theorem AV.nfK_eq {γ : Type 1} (v : AV) (k : AV → γ) : v.nfK k = k v := by cases v <;> first | rfl | exact Xsb _ _
def slK {γ : Type 1} : List (Nat × AV) → (List (Nat × AV) → γ) → γ
  | [], k => k []
  | (d, v) :: l, k => v.nfK fun v' => slK l fun l' => k ((d, v') :: l')
theorem Yf5 {γ : Type 1} : ∀ (l : List (Nat × AV)) (k : List (Nat × AV) → γ), slK l k = k l
  | [], k => rfl
  | (d, v) :: l, k => by rw [slK, AV.nfK_eq, Yf5 l]
def obK {γ : Type 1} : List (Nat × Option Obj) → (List (Nat × Option Obj) → γ) → γ
  | [], k => k []
  | (d, some (.box cs)) :: l, k => Xy0 cs fun c => obK l fun l' => k ((d, some (.box c)) :: l')
  | (d, v) :: l, k => obK l fun l' => k ((d, v) :: l')
theorem Xzl {γ : Type 1} : ∀ (l : List (Nat × Option Obj)) (k : List (Nat × Option Obj) → γ), obK l k = k l
  | [], k => rfl
  | (d, some (.box cs)) :: l, k => by rw [obK, Xsb, Xzl l]
  | (d, some (.ints _ _)) :: l, k => by rw [obK, Xzl l]; intro _ h; cases h
  | (d, some (.row _ _)) :: l, k => by rw [obK, Xzl l]; intro _ h; cases h
  | (d, none) :: l, k => by rw [obK, Xzl l]; intro _ h; cases h
def got (m : RM Eff) (σ : St) : Option (Eff × List Key) := match m.get σ [] with | some (e, ks) => slK e.slots fun s => obK e.objs fun o => some (⟨s, o, e.new, e.cond⟩, ks) | none => none
theorem Yc7 {m : RM Eff} {σ : St} {e : Eff} {ks : List Key} (h : got m σ = some (e, ks)) : m.run σ [] = some (e, ks) := by
  unfold got at h
  split at h
  · rename_i e' ks' he
    rw [Yf5, Xzl] at h
    rw [Xe5 he]; exact h
  · cases h
def Xwz (n : Nat) : Option Nat → Bool
  | none => true
  | some d => Nat.blt d n
def Yex (id : Nat) : List (Nat × AV) → Bool
  | [] => true
  | p :: l => !p.2.has id && Yex id l
def Yb5 (id : Nat) : List (Nat × Option Obj) → Bool
  | [] => true
  | (_, some ob) :: l => !ob.has id && Yb5 id l
  | (_, none) :: l => Yb5 id l
def frs (objs : Xa2) (σ : St) : List Nat → Bool
  | [] => true
  | id :: l => Yex id σ.s && Yb5 id σ.o && !inN id (Xcd objs) && frs objs σ l
theorem Ya8 {id t : Nat} {v : AV} : ∀ {l : List (Nat × AV)}, Yex id l = true → lk l t = some v → v.has id = false
  | [], _, h => by simp [lk] at h
  | (k, u) :: l, hf, h => by
    rw [Yex, Bool.and_eq_true] at hf
    rw [Xa8] at h
    split at h
    · cases h; simpa using hf.1
    · exact Ya8 hf.2 h
theorem Xw3 {id k : Nat} {ob : Obj} : ∀ {l : List (Nat × Option Obj)}, Yb5 id l = true → lk l k = some (some ob) → ob.has id = false
  | [], _, h => by simp [lk] at h
  | (i, some u) :: l, hf, h => by
    rw [Yb5, Bool.and_eq_true] at hf
    rw [Xa8] at h
    split at h
    · cases h; simpa using hf.1
    · exact Xw3 hf.2 h
  | (i, none) :: l, hf, h => by
    rw [Yb5] at hf
    rw [Xa8] at h
    split at h
    · cases h
    · exact Xw3 hf h
section
variable {P : Program} {T : Nat → Option TI} {C : Ctx} {σ : St} {n : Nat} {objs : Xa2} {ops : Array Oper} {o : Oper} {l : List Oper} {rs : List Rec} {K : List Rec → St → Prop}
theorem Xjn (hC : Xfj C n objs) : ∀ {ids : List Nat}, frs objs σ ids = true → Xhi C ids σ
  | [], _, id, h => by simp at h
  | i :: l, hf, id, h => by
    rw [frs, Bool.and_eq_true, Bool.and_eq_true, Bool.and_eq_true] at hf
    obtain ⟨⟨⟨h1, h2⟩, h3⟩, h4⟩ := hf
    rcases List.mem_cons.1 h with rfl | h
    · refine ⟨⟨fun t v hv => Ya8 h1 hv, fun k ob hk => ?_⟩, hC.pin _ (by simpa using h3)⟩
      unfold St.obj at hk
      cases e : lk σ.o k with
      | none => rw [e] at hk; cases hk
      | some x => rw [e] at hk; simp only [Option.getD_some] at hk; subst hk; exact Xw3 h2 e
    · exact Xjn hC h4 id h
theorem Xir (hC : Xfj C n objs) {d : Option Nat} (h : Xwz n d = true) : ∀ t, d = some t → t < C.n := fun t e => by
  subst e
  rw [hC.n]
  exact Xpx h

theorem Xz6 (hT : TOk P T) (hC : Xfj C n objs) {e : Eff} {ks : List Key} (hg : o.guard = none) (hr : got (aop T o) σ = some (e, ks)) (hd : Xwz n o.dst = true) (hf : frs objs σ e.new = true) (hc : e.cond)
    (k : Vc P C ops l (rs ++ [⟨ks, e.slots, e.objs, e.new⟩]) (Rec.app ⟨ks, e.slots, e.objs, e.new⟩ σ) K) : Vc P C ops (o :: l) rs σ K :=
  .cons _ (Xte hg (Ydg hT (Xir hC hd) (Yc7 hr) hc)) (Xjn hC hf) k
theorem Yal {r : Rec} {i t : Nat} {b e : Bool} (hg : o.guard = some (i, b)) (hdi : (ops[i]?).bind (·.dst) = some t) (ht : t < C.n) (hs : lk σ.s t = some (.sv (.bool e))) (he : e = b) (h : Yee P C o r σ) : Loc P C ops o ⟨.s t :: r.rd, r.sl, r.ob, r.nw⟩ σ := Yhn hg hdi ht (by rw [hs, he]) h
theorem Yi0 (hT : TOk P T) (hC : Xfj C n objs) {i t : Nat} {b x : Bool} {e : Eff} {ks : List Key} (hg : o.guard = some (i, b)) (hdi : (ops[i]?).bind (·.dst) = some t) (hs : lk σ.s t = some (.sv (.bool x))) (ht : Nat.blt t n = true) (hx : x = b)
    (hr : got (aop T o) σ = some (e, ks)) (hd : Xwz n o.dst = true) (hf : frs objs σ e.new = true) (hc : e.cond)
    (k : Vc P C ops l (rs ++ [⟨.s t :: ks, e.slots, e.objs, e.new⟩]) (Rec.app ⟨.s t :: ks, e.slots, e.objs, e.new⟩ σ) K) : Vc P C ops (o :: l) rs σ K :=
  .cons _ (Yal hg hdi (by rw [hC.n]; exact Xpx ht) hs hx (Ydg hT (Xir hC hd) (Yc7 hr) hc)) (Xjn hC hf) k
theorem Yil (hC : Xfj C n objs) {i t d : Nat} {b x : Bool} (hg : o.guard = some (i, b)) (hdi : (ops[i]?).bind (·.dst) = some t) (hs : lk σ.s t = some (.sv (.bool x))) (ht : Nat.blt t n = true) (hx : x = !b) (hd : o.dst = some d) (hdn : Nat.blt d n = true)
    (k : Vc P C ops l (rs ++ [⟨[.s t], [(d, .tup [])], [], []⟩]) (Rec.app ⟨[.s t], [(d, .tup [])], [], []⟩ σ) K) : Vc P C ops (o :: l) rs σ K :=
  .cons _ (Yam hg hdi (by rw [hC.n]; exact Xpx ht) hs (by rw [hx]; cases b <;> rfl) hd (by rw [hC.n]; exact Xpx hdn)) (fun _ h => by simp at h) k
theorem Xla (hC : Xfj C n objs) {i t d : Nat} {b : Bool} (hg : o.guard = some (i, b)) (hdi : (ops[i]?).bind (·.dst) = some t) (hs : lk σ.s t = some (.tup [])) (ht : Nat.blt t n = true) (hd : o.dst = some d) (hdn : Nat.blt d n = true)
    (k : Vc P C ops l (rs ++ [⟨[.s t], [(d, .tup [])], [], []⟩]) (Rec.app ⟨[.s t], [(d, .tup [])], [], []⟩ σ) K) : Vc P C ops (o :: l) rs σ K :=
  .cons _ (Ye4 hg hdi (by rw [hC.n]; exact Xpx ht) hs hd (by rw [hC.n]; exact Xpx hdn)) (fun _ h => by simp at h) k
theorem Yh4 (hC : Xfj C n objs) {c : Call} {fop : Operand} {f : Nat} {args : List AV} {ob ob' : Xa2} {res : AV} {bor : List Nat} {cond : Prop} {ks : List Key} (tab : List (Nat × Nat)) (hg : o.guard = none) (ho : o.op = .call c) (hcal : c.callee = .value fop) (hd : Xwz n o.dst = true) (hf : Fn P f)
    (hA : AC P f args ob res ob') (hr : (Yb0 args fop f c.args.toList).get σ [] = some (⟨args.map (AV.ren (rn tab)), bor, cond⟩, ks)) (hc : cond) (hh : holds tab σ ob) (hok : Xr7 tab ob ob' res bor = true) (hk : bor = [] ∨ res.flat = true ∧ Xyx ob')
    (hfr : frs objs σ (Xqr (rn tab) (Xbq ob ob')) = true)
    (k : Vc P C ops l (rs ++ [⟨ks ++ Xgh tab ob, Xfx tab o.dst res, Xdw tab ob ob', Xqr (rn tab) (Xbq ob ob')⟩]) (Rec.app ⟨ks ++ Xgh tab ob, Xfx tab o.dst res, Xdw tab ob ob', Xqr (rn tab) (Xbq ob ob')⟩ σ) K) : Vc P C ops (o :: l) rs σ K :=
  .cons _ (Xte hg (Xzj ho hcal (Xir hC hd) hf hA (Xe5 hr) hc hh hok hk)) (Xjn hC hfr) k
theorem Yeb (hC : Xfj C n objs) {c : Call} {fop : Operand} {f : Nat} {args : List AV} {ob ob' : Xa2} {res : AV} {bor : List Nat} {cond : Prop} {ks : List Key} {i t : Nat} {b x : Bool} (tab : List (Nat × Nat)) (hg : o.guard = some (i, b)) (hdi : (ops[i]?).bind (·.dst) = some t) (hs : lk σ.s t = some (.sv (.bool x))) (ht : Nat.blt t n = true) (hx : x = b)
    (ho : o.op = .call c) (hcal : c.callee = .value fop) (hd : Xwz n o.dst = true) (hf : Fn P f)
    (hA : AC P f args ob res ob') (hr : (Yb0 args fop f c.args.toList).get σ [] = some (⟨args.map (AV.ren (rn tab)), bor, cond⟩, ks)) (hc : cond) (hh : holds tab σ ob) (hok : Xr7 tab ob ob' res bor = true) (hk : bor = [] ∨ res.flat = true ∧ Xyx ob')
    (hfr : frs objs σ (Xqr (rn tab) (Xbq ob ob')) = true)
    (k : Vc P C ops l (rs ++ [⟨.s t :: (ks ++ Xgh tab ob), Xfx tab o.dst res, Xdw tab ob ob', Xqr (rn tab) (Xbq ob ob')⟩]) (Rec.app ⟨.s t :: (ks ++ Xgh tab ob), Xfx tab o.dst res, Xdw tab ob ob', Xqr (rn tab) (Xbq ob ob')⟩ σ) K) : Vc P C ops (o :: l) rs σ K :=
  .cons _ (Yal hg hdi (by rw [hC.n]; exact Xpx ht) hs hx (Xzj ho hcal (Xir hC hd) hf hA (Xe5 hr) hc hh hok hk)) (Xjn hC hfr) k
def rid {β : Type 1} (ks : List Nat) : List (Nat × β) → List (Nat × β)
  | [] => []
  | p :: l => bif inN p.1 ks then rid ks l else p :: rid ks l
abbrev Chg := List (Nat × AV) × List (Nat × Option Obj)
def St.upd (σ : St) (D : Chg) : St := ⟨D.1 ++ rid (Xxh D.1) σ.s, D.2 ++ rid (Xxh D.2) σ.o⟩
theorem Xwv {c : Code} {Q : Exit → St → Prop} (h : AWp P C c σ (fun e σ' => ∃ σ'', Xhs C σ' σ'' ∧ Q e σ'')) : AWp P C c σ Q := fun a w hR => wp_mono (h a w hR) fun e a' w' ⟨σ', ⟨σ'', hw, hq⟩, hR'⟩ => ⟨σ'', hq, hw a' w' hR'⟩
def Yid (C : Ctx) (τ : St) (Q : Exit → St → Prop) : Exit → St → Prop
  | .normal, σ' => Xhs C σ' τ
  | e, σ' => Q e σ'
theorem Yif {x y : Code} {Q : Exit → St → Prop} (D : Chg) (hx : AWp P C x σ (Yid C (σ.upd D) Q)) (hy : AWp P C y (σ.upd D) Q) : AWp P C (.seq x y) σ Q := by
  refine Xyn (Xwv (Yac hx fun e σ' h => ?_))
  cases e with
  | normal => exact ⟨_, h, hy⟩
  | _ => exact ⟨σ', Xhs.refl _, h⟩
def Yej {V R : Type} (C : Ctx) (S : V → St) (j : V → Option R) (r : R) (Q : Exit → St → Prop) : Exit → St → Prop
  | .normal, σ' => ∃ v, j v = some r ∧ Xhs C σ' (S v)
  | e, σ' => Q e σ'
theorem Ygb {V R : Type} {r : R} {x y : Code} {Q : Exit → St → Prop} (D : V → Chg) (j : V → Option R) (hx : AWp P C x σ (Yej C (fun v => σ.upd (D v)) j r Q)) (hy : ∀ v, j v = some r → AWp P C y (σ.upd (D v)) Q) : AWp P C (.seq x y) σ Q := by
  refine Xyn (Xwv (Yac hx fun e σ' h => ?_))
  cases e with
  | normal => obtain ⟨v, hv, hw⟩ := h; exact ⟨_, hw, hy v hv⟩
  | _ => exact ⟨σ', Xhs.refl _, h⟩
def Xz9 {V O : Type} (C : Ctx) (S : V → St) (R : O → Exit → St → Prop) : Lp V O → Exit → St → Prop
  | .go y, .normal, σ' => Xhs C σ' (S y)
  | .done _, .normal, _ => False
  | .done o, e, σ' => R o e σ'
  | .go _, _, _ => False
theorem Xym {V O : Type} {f : V → Option (Lp V O)} {x : V} {o : O} {c : Code} {Q : Exit → St → Prop} (D : V → Chg) (R : O → Exit → St → Prop) (h : loop f x = some o) (h0 : Xhs C σ (σ.upd (D x)))
    (hb : ∀ x s, f x = some s → AWp P C c (σ.upd (D x)) (Xz9 C (fun v => σ.upd (D v)) R s)) (hq : ∀ e σ', R o e σ' → Q e σ') : AWp P C (.loop c) σ Q := by
  obtain ⟨k, hk⟩ := Xel.1 h
  refine Ycy h0 (Ygc (fun k σ' => ∃ x, it f k x = some o ∧ σ' = σ.upd (D x)) ⟨x, hk, rfl⟩ ?_)
  intro k σ' ⟨x, hx, e⟩
  subst e
  cases k with
  | zero => cases hx
  | succ k =>
    rw [it] at hx
    cases hf : f x with
    | none => rw [hf] at hx; cases hx
    | some s =>
      rw [hf] at hx
      refine Yac (hb x s hf) fun e σ' hr => ?_
      cases s with
      | go y =>
        cases e with
        | normal => exact ⟨_, hr, k, Nat.lt_succ_self k, y, hx, rfl⟩
        | _ => exact hr.elim
      | done o' =>
        cases hx
        cases e with
        | normal => exact hr.elim
        | _ => exact hq _ _ hr
end
end Go.Proofs.YtlebkepfhdjnmacAL
/- An abstract logic for Go functions: the steps of a walk through code. Conditions: as each statement tells. -/
namespace Go.Proofs.YtlebkepfhdjnmacAL
open Go.RowKit
set_option linter.unusedVariables false
inductive Ou (V R : Type) where
  | out (v : V)
  | ret (r : R)
def Yef {β : Type 1} : List Nat → List (Nat × β) → List (Nat × β)
  | [], _ => []
  | k :: ks, l => match lk l k with | some v => (k, v) :: Yef ks l | none => Yef ks l
section
variable {P : Program} {T : Nat → Option TI} {C : Ctx} {σ : St} {n : Nat} {objs : Xa2} {x y z : Code} {Q : Exit → St → Prop} {id t : Nat} {l : List Oper}
theorem Xxo {β : Type 1} {l : List (Nat × β)} {t : Nat} : ∀ {ks : List Nat} {v : β}, lk (Yef ks l) t = some v → lk l t = some v
  | [], v, h => by simp [Yef, lk] at h
  | k :: ks, v, h => by
    rw [Yef] at h
    split at h
    · rename_i u hu
      rw [Xa8] at h
      split at h
      · rename_i e; subst e; cases h; exact hu
      · exact Xxo h
    · exact Xxo h
theorem Yi1 (ks os : List Nat) {s' : List (Nat × AV)} {o' : List (Nat × Option Obj)} (hs : Yef ks σ.s = s') (ho : Yef os σ.o = o') (k : AWp P C x ⟨s', o'⟩ Q) : AWp P C x σ Q := by
  refine Ycy (fun a w ⟨μ, A, h⟩ => ⟨μ, A, h.weaken (fun t v hv => ?_) fun id ob hb => ?_⟩) k
  · subst hs; exact .inl (Xxo hv)
  · subst ho
    unfold St.obj at hb ⊢
    simp only at hb
    cases e : lk (Yef os σ.o) id with
    | none => rw [e] at hb; cases hb
    | some u => rw [e] at hb; rw [Xxo e]; exact hb
theorem Xac (h : Vc P C l.toArray l [] σ (fun _ σ' => AWp P C y σ' Q)) : AWp P C (.seq (.region id l.toArray false) y) σ Q := Xyn (Xab h)
theorem Xjd (hm : P.follows .mixedOrders = true) (h : Vc P C l.toArray l [] σ (fun rs σ' => Xen l rs σ = true ∧ AWp P C y σ' Q)) : AWp P C (.seq (.region id l.toArray true) y) σ Q := Xyn (Xdt hm h)
theorem Yeq {V R : Type} {j : V → Option R} {f : (V → Option R) → Option R} {r : R} (h : Yhm j f = some r) (D : V → Chg) (hy : ∀ v, j v = some r → AWp P C y (σ.upd (D v)) Q) (hx : f j = some r → AWp P C x σ (Yej C (fun v => σ.upd (D v)) j r Q)) : AWp P C (.seq x y) σ Q := Ygb D j (hx h) hy
theorem Xap (h : AWp P C x σ (Ycq (fun σ' => AWp P C y σ' Q) Q)) : AWp P C (.seq x y) σ Q := Xyn h
theorem Xad (h : AWp P C y σ Q) : Ycq (fun σ' => AWp P C y σ' Q) Q .normal σ := h
theorem Xav (h : Q (.exit id) σ) : Ycq (fun σ' => AWp P C y σ' Q) Q (.exit id) σ := h
theorem Xau (h : Q .ret σ) : Ycq (fun σ' => AWp P C y σ' Q) Q .ret σ := h
theorem Yhr {b : Bool} (hs : lk σ.s t = some (.sv (.bool b))) (hb : b = true) (h : AWp P C x σ Q) : AWp P C (.cond (.tmp t) x y) σ Q := Ycx hs (fun _ => h) (fun e => by rw [hb] at e; cases e)
theorem Ygv {b : Bool} (hs : lk σ.s t = some (.sv (.bool b))) (hb : b = false) (h : AWp P C y σ Q) : AWp P C (.cond (.tmp t) x y) σ Q := Ycx hs (fun e => by rw [hb] at e; cases e) (fun _ => h)
theorem Xal (h : AWp P C x σ (Xld id Q)) : AWp P C (.block id x) σ Q := Xwu h
theorem Xam (h : Q .normal σ) : Xld id Q .normal σ := h
theorem Ycz (h : Q .normal σ) : Xld id Q (.exit id) σ := by
  show (if id = id then _ else _)
  rw [if_pos rfl]; exact h
theorem Xid (h : Q .ret σ) : Xld id Q .ret σ := h
theorem Xil {τ : St} (h : Xhs C σ τ) : Yid C τ Q .normal σ := h
theorem Yf0 {V R : Type} {S : V → St} {j : V → Option R} {r : R} (v : V) (hv : j v = some r) (h : Xhs C σ (S v)) : Yej C S j r Q .normal σ := ⟨v, hv, h⟩
theorem Yig {V R : Type} {S : V → St} {j : V → Option R} {r : R} (h : Q .ret σ) : Yej C S j r Q .ret σ := h
theorem Yce {V O : Type} {S : V → St} {R : O → Exit → St → Prop} {v : V} (h : Xhs C σ (S v)) : Xz9 C S R (.go v) .normal σ := h
theorem Ybq {V O : Type} {S : V → St} {R : O → Exit → St → Prop} {o : O} (h : R o (.exit id) σ) : Xz9 C S R (.done o) (.exit id) σ := h
theorem Xqt {V O : Type} {S : V → St} {R : O → Exit → St → Prop} {o : O} (h : R o .ret σ) : Xz9 C S R (.done o) .ret σ := h
def Yh8 {V : Type} (C : Ctx) (id : Nat) (S : V → St) : V → Exit → St → Prop
  | v, .exit i, σ => i = id ∧ Xhs C σ (S v)
  | _, _, _ => False
def Yek {V R : Type} (C : Ctx) (id : Nat) (S : V → St) (E : R → Exit → St → Prop) : Ou V R → Exit → St → Prop
  | .out v, .exit i, σ => i = id ∧ Xhs C σ (S v)
  | .ret r, .ret, σ => E r .ret σ
  | _, _, _ => False
theorem Ygp {V : Type} {S : V → St} {v : V} (h : Xhs C σ (S v)) : Yh8 C id S v (.exit id) σ := ⟨rfl, h⟩
theorem Yho {V R : Type} {S : V → St} {E : R → Exit → St → Prop} {v : V} (h : Xhs C σ (S v)) : Yek C id S E (.out v) (.exit id) σ := ⟨rfl, h⟩
theorem Xqs {V R : Type} {S : V → St} {E : R → Exit → St → Prop} {r : R} (h : E r .ret σ) : Yek C id S E (.ret r) .ret σ := h
theorem Ydv {V O : Type} {f : V → Option (Lp V O)} {v0 : V} {o : O} (D : V → Chg) (D' : O → Chg) (h : loop f v0 = some o) (h0 : Xhs C σ (σ.upd (D v0)))
    (hb : ∀ v s, f v = some s → AWp P C x (σ.upd (D v)) (Xz9 C (fun v => σ.upd (D v)) (Yh8 C id fun o => σ.upd (D' o)) s)) (hk : Q .normal (σ.upd (D' o))) : AWp P C (.block id (.loop x)) σ Q := by
  refine Xwu (Xwv (Xym D (Yh8 C id fun o => σ.upd (D' o)) h h0 hb ?_))
  intro e σ' hr
  cases e with
  | exit i => obtain ⟨rfl, hw⟩ := hr; exact ⟨_, hw, Ycz hk⟩
  | _ => exact hr.elim
theorem Xhc {V W R : Type} {f : V → Option (Lp V (Ou W R))} {v0 : V} {o : Ou W R} (D : V → Chg) (D' : W → Chg) (E : R → Exit → St → Prop) (h : loop f v0 = some o) (h0 : Xhs C σ (σ.upd (D v0)))
    (hb : ∀ v s, f v = some s → AWp P C x (σ.upd (D v)) (Xz9 C (fun v => σ.upd (D v)) (Yek C id (fun o => σ.upd (D' o)) E) s)) (hk : ∀ v, o = .out v → Q .normal (σ.upd (D' v))) (hr : ∀ r σ', o = .ret r → E r .ret σ' → Q .ret σ') : AWp P C (.block id (.loop x)) σ Q := by
  refine Xwu (Xwv (Xym D (Yek C id (fun o => σ.upd (D' o)) E) h h0 hb ?_))
  intro e σ' hr'
  cases o with
  | out v =>
    cases e with
    | exit i => obtain ⟨rfl, hw⟩ := hr'; exact ⟨_, hw, Ycz (hk v rfl)⟩
    | _ => exact hr'.elim
  | ret r =>
    cases e with
    | ret => exact ⟨σ', Xhs.refl _, hr r σ' rfl hr'⟩
    | _ => exact hr'.elim
theorem Xp3 (hC : Xfj C n objs) {τ : St} (k i id : Nat) (ob : Obj) {sz : Nat} {cells : List AV} (hs : σ.obj k = some (.box cells)) (hi : cells[i]? = some (.sv .nil)) (hf : frs objs σ [id] = true) (hne : σ.obj id = none) (hx : ob.elems = some (sz, [])) (hwf : ob.wf)
    (hk : Xhs C ⟨σ.s, (k, some (.box (cells.set i (.own id)))) :: (id, some ob) :: σ.o⟩ τ) : Xhs C σ τ :=
  (Xye k i id ob hs hi (Xjn hC hf id (by simp)) hne hx hwf).trans hk
theorem Xg7 (hC : Xfj C n objs) (tab : List (Nat × Nat)) {s : List (Nat × AV)} {o : List (Nat × Option Obj)} {b b' : List Nat} {c : Prop} (ho : CO tab σ o b') (hs : Ygl σ (Xyc s) ((Xxh s).map σ.slot) = some ⟨AV.renL (rn tab) (Xyc s), b, c⟩) (hc : c)
    (hok : (Xmb (Xqr (rn tab) (Xmn o)) && Xr1 (rn tab) (b ++ b') (Xmn o) && Ycc tab objs (Xmn o)) = true) : Xhs C σ ⟨s, o⟩ := Yed hC tab hs hc ho hok
theorem Yc6 {P : Program} {C : Ctx} {μ : Nat → Value} {A : Nat → Prop} {σ : St} {a : Act} {w : World} {o : Oper} (h : Xbv C μ A σ a w) (hd : ∀ d, o.dst = some d → d < C.n) {c x y : Operand} {b : Bool} (ho : o.op = .pick c x y) (hc : a.eval c = .bool b) {e : Eff} {ks ks' : List Key}
    (hr : (ev (bif b then x else y) fun v => Xdb o v True).run σ ks = some (e, ks')) (hco : e.cond) : Xhj P C o (e.app σ) a w := by
  obtain ⟨v, k1, hv, hr⟩ := Xbc hr
  refine Xat h hr hd (fun _ => ?_) (fun _ => h.ev hv) hco
  cases b <;> simp [execOp, ho, hc, asBool]
theorem Xzk {o : Oper} {c x y : Operand} {b b' : Bool} {ks1 ks2 : List Key} {e : Eff} (hd : ∀ d, o.dst = some d → d < C.n) (ho : o.op = .pick c x y) (hc : (ev c .ret).run σ [] = some (.sv (.bool b'), ks1)) (hb : b' = b) (hr : (ev (bif b then x else y) fun v => Xdb o v True).run σ [] = some (e, ks2)) (hco : e.cond) :
    Yee P C o ⟨ks1 ++ ks2, e.slots, e.objs, e.new⟩ σ := by
  intro τ ha hf a w ⟨μ, A, h⟩
  obtain ⟨v, k1, hv, hr1⟩ := Xbc (Xex hc fun k hk => ha k (List.mem_append_left _ hk))
  simp only [RM.run, Option.some.injEq, Prod.mk.injEq] at hr1
  obtain ⟨rfl, _⟩ := hr1
  have he := Xho (h.ev hv)
  rw [hb] at he
  exact Yc6 h hd ho he (Xex hr fun k hk => ha k (List.mem_append_right _ hk)) hco
theorem Yh6 (hC : Xfj C n objs) {ops : Array Oper} {o : Oper} {l : List Oper} {rs : List Rec} {K : List Rec → St → Prop} {c x y : Operand} {b b' : Bool} {ks1 ks2 : List Key} {e : Eff} (hg : o.guard = none) (ho : o.op = .pick c x y) (hc : (ev c .ret).get σ [] = some (.sv (.bool b'), ks1)) (hb : b' = b) (hr : (ev (bif b then x else y) fun v => Xdb o v True).get σ [] = some (e, ks2)) (hd : Xwz n o.dst = true) (hf : frs objs σ e.new = true) (hco : e.cond)
    (k : Vc P C ops l (rs ++ [⟨ks1 ++ ks2, e.slots, e.objs, e.new⟩]) (Rec.app ⟨ks1 ++ ks2, e.slots, e.objs, e.new⟩ σ) K) : Vc P C ops (o :: l) rs σ K :=
  .cons _ (Xte hg (Xzk (Xir hC hd) ho (Xe5 hc) hb (Xe5 hr) hco)) (Xjn hC hf) k
theorem Xe1 (hC : Xfj C n objs) {ops : Array Oper} {o : Oper} {l : List Oper} {rs : List Rec} {K : List Rec → St → Prop} {i t : Nat} {g u : Bool} {c x y : Operand} {b b' : Bool} {ks1 ks2 : List Key} {e : Eff} (hg : o.guard = some (i, g)) (hdi : (ops[i]?).bind (·.dst) = some t) (hs : lk σ.s t = some (.sv (.bool u))) (ht : Nat.blt t n = true) (hu : u = g)
    (ho : o.op = .pick c x y) (hc : (ev c .ret).get σ [] = some (.sv (.bool b'), ks1)) (hb : b' = b) (hr : (ev (bif b then x else y) fun v => Xdb o v True).get σ [] = some (e, ks2)) (hd : Xwz n o.dst = true) (hf : frs objs σ e.new = true) (hco : e.cond)
    (k : Vc P C ops l (rs ++ [⟨.s t :: (ks1 ++ ks2), e.slots, e.objs, e.new⟩]) (Rec.app ⟨.s t :: (ks1 ++ ks2), e.slots, e.objs, e.new⟩ σ) K) : Vc P C ops (o :: l) rs σ K :=
  .cons _ (Yal hg hdi (by rw [hC.n]; exact Xpx ht) hs hu (Xzk (Xir hC hd) ho (Xe5 hc) hb (Xe5 hr) hco)) (Xjn hC hf) k
theorem Xea {rs : List ResultVar} {res : AV} {objs' : Xa2} {τ : St} (h : Xhs C σ τ) (h1 : Xm0 T τ rs = some res) (h2 : Xy4 τ objs') : Xmy C T rs res objs' .ret σ := ⟨τ, h, h1, h2⟩
end
end Go.Proofs.YtlebkepfhdjnmacAL
/- An abstract logic for Go functions: help for a seat's own base. Conditions: as each statement tells. -/
namespace Go.Proofs.YtlebkepfhdjnmacAL
open Go.RowKit
set_option linter.unusedVariables false
abbrev Xmx.sv (c : Xmx) (l : List c.α) : SV := .sl c.α c.d c.sz c.enc l
def gI (k : IntKind) : SV → Option Int
  | .int k' n => if k' = k then some n else none
  | _ => none
def gS : SV → Option ByteArray
  | .str b => some b
  | _ => none
def gL (k : IntKind) : SV → Option (List Int)
  | .ints k' l => if k' = k then some l else none
  | .nil => some []
  | _ => none
theorem Ya9 {k : IntKind} {x : SV} {n : Int} (h : gI k x = some n) : ∀ (w : World) (A : Nat → Prop) (v : Value), Xek w A x v → Xek w A (.int k n) v := by
  cases x <;> simp only [gI] at h <;> first | (cases h; done) | skip
  split at h
  · rename_i e; cases h; subst e; exact fun _ _ _ h => h
  · cases h
theorem Yba {k : IntKind} {x : SV} {l : List Int} (h : gL k x = some l) : ∀ (w : World) (A : Nat → Prop) (v : Value), Xek w A x v → Xek w A (.ints k l) v := by
  cases x <;> simp only [gL] at h <;> first | (cases h; done) | skip
  · cases h
    intro w A v hv
    have : v = .slice none 0 0 := Xkx (μ := fun _ => undef) (.sv hv)
    subst this
    exact Xek.sl _ 1 [] none 0 (fun _ _ => undef) rfl (by simp) (by simp) (by simp) (by simp) (by simp)
  · split at h
    · rename_i e; cases h; subst e; exact fun _ _ _ h => h
    · cases h
theorem Xcp {P : Program} {t : Nat} {i : TypeInfo} (h : P.types[t]? = some i) : P.info? t = some i := by
  show (if t < P.types.size then P.types[t]? else _) = _
  rw [if_pos (Array.getElem?_eq_some_iff.1 h).1]; exact h
def lkT : List (Nat × TI) → Nat → Option TI
  | [], _ => none
  | (k, v) :: l, t => bif Nat.beq k t then some v else lkT l t
theorem Ygn {l : List (Nat × TI)} {t : Nat} {ti : TI} (h : lkT l t = some ti) : (t, ti) ∈ l := by
  induction l with
  | nil => cases h
  | cons p l ih =>
    obtain ⟨k, v⟩ := p
    rw [lkT] at h
    cases e : Nat.beq k t with
    | true => rw [e] at h; cases h; rw [Nat.eq_of_beq_eq_true e]; simp
    | false => rw [e] at h; exact List.mem_cons_of_mem _ (ih h)
theorem Ygm {P : Program} {l : List (Nat × TI)} (h : ∀ p ∈ l, p.2.ok P p.1) : TOk P (lkT l) := fun t ti ht => h _ (Ygn ht)
end Go.Proofs.YtlebkepfhdjnmacAL
/- An abstract logic for Go functions: what reads at a type stands for; a contract as a row wants it. Conditions: as each statement tells. -/
namespace Go.Proofs.YtlebkepfhdjnmacAL
open Go.RowKit Go.Deep Go.ChangeShapes Go.WideShapes
set_option linter.unusedVariables false
def Yf6 (w : World) (g : Nat) : Prop := g < w.heap.size
def FR (w : World) : List SV → List Value → Prop
  | [], [] => True
  | y :: ys, u :: us => Xek w (Yf6 w) y u ∧ FR w ys us
  | _, _ => False
theorem FR.len {w : World} : ∀ {ys : List SV} {us : List Value}, FR w ys us → us.length = ys.length
  | [], [], _ => rfl
  | y :: ys, u :: us, h => by rw [List.length_cons, List.length_cons, FR.len h.2]
  | [], _ :: _, h => h.elim
  | _ :: _, [], h => h.elim
theorem FR.get {w : World} : ∀ {ys : List SV} {us : List Value}, FR w ys us → ∀ {j : Nat} {y : SV} {u : Value}, ys[j]? = some y → us[j]? = some u → Xek w (Yf6 w) y u
  | [], [], _, j, y, u, hy, _ => by simp at hy
  | a :: ys, b :: us, h, 0, y, u, hy, hu => by cases hy; cases hu; exact h.1
  | a :: ys, b :: us, h, j + 1, y, u, hy, hu => FR.get h.2 (j := j) hy hu
  | [], _ :: _, h, _, _, _, _, _ => h.elim
  | _ :: _, [], h, _, _, _, _, _ => h.elim
theorem FR.append {w : World} : ∀ {ys zs : List SV} {us vs : List Value}, FR w ys us → FR w zs vs → FR w (ys ++ zs) (us ++ vs)
  | [], zs, [], vs, _, k => k
  | a :: ys, zs, b :: us, vs, h, k => ⟨h.1, FR.append h.2 k⟩
  | [], _, _ :: _, _, h, _ => h.elim
  | _ :: _, _, [], _, h, _ => h.elim
def Xbw {α : Type} (P : Program) (f : α → List SV) (ok : α → Prop) (t : TypeId) : Prop :=
  ∀ {H : Type} (enc : TypeId × Value → H) (w : World) (base : Nat) (spare : Nat → Bool) (held : Bool) (fuel : Nat) (cs : List Value) (x : DataW H × List MemPlace),
    DataW.trod enc P w base spare held fuel t cs = some x → ∃ v, ok v ∧ FR w (f v) cs
theorem Xbw.int {P : Program} {k : IntKind} {t : TypeId} (ht : P.underlying t = some (.int k)) : Xbw P (fun n => [.int k n]) (fun n => (Lit.int k n).wf = true) t := by
  intro H enc w base spare held fuel cs x h
  obtain ⟨n, rfl, _, hw⟩ := DataW.trod_int ht h
  exact ⟨n, hw, .int k n, trivial⟩
theorem Xbw.bool {P : Program} {t : TypeId} (ht : P.underlying t = some .bool) : Xbw P (fun b => [.bool b]) (fun _ => True) t := by
  intro H enc w base spare held fuel cs x h
  obtain ⟨n, rfl, _⟩ := DataW.trod_bool ht h
  exact ⟨n, trivial, .bool n, trivial⟩
theorem Xbw.string {P : Program} {t : TypeId} (ht : P.underlying t = some .string) : Xbw P (fun s => [.str s]) (fun s => s.size ≤ maxLen) t := by
  intro H enc w base spare held fuel cs x h
  obtain ⟨n, rfl, _, hs⟩ := DataW.trod_string ht h
  exact ⟨n, hs, .str n, trivial⟩
theorem Xbw.map {α β : Type} {P : Program} {f : α → List SV} {ok : α → Prop} {f' : β → List SV} {ok' : β → Prop} {t : TypeId} (h : Xbw P f ok t) (m : α → β) (hf : ∀ v, f v = f' (m v)) (ho : ∀ v, ok v → ok' (m v)) : Xbw P f' ok' t := by
  intro H enc w base spare held fuel cs x hx
  obtain ⟨v, h1, h2⟩ := h enc w base spare held fuel cs x hx
  exact ⟨m v, ho v h1, hf v ▸ h2⟩
theorem Xbw.rows {α : Type} {P : Program} {f : α → List SV} {ok : α → Prop} {t e : TypeId} {sz : Nat} (ht : P.underlying t = some (.slice e)) (hc : P.cellsOf e = sz) (hp : 0 < sz) (hf : ∀ v, (f v).length = sz) (h : Xbw P f ok e) (S : List α → SV) (hS : ∀ l, (S l).elems = some (sz, l.map f)) :
    Xbw P (fun l => [S l]) (fun xs => xs.length ≤ maxLen ∧ ∀ x ∈ xs, ok x) t := by
  intro H enc w base spare held fuel cs x hx
  rcases open_slice ht hx with ⟨rfl, _⟩ | ⟨a, len, cap, m, n, D, Pl, rfl, hb, hl, hm, hmm, _, hi⟩
  · refine ⟨[], ⟨by simp, by simp⟩, ?_, trivial⟩
    exact Xek.sl (S []) sz [] none 0 (fun _ _ => undef) (hS []) (by simp) (by simp) (by simp) (by simp) (by simp)
  · have hle : len ≤ m := by rw [hmm]; split <;> omega
    have one : ∀ i, i < len → ∃ v, ok v ∧ ∃ c, c.length = sz ∧ FR w (f v) c ∧ ∀ j u, c[j]? = some u → w.cell? (a.add (i * sz + j)) = some u := by
      intro i hil
      obtain ⟨cs', h1, h2⟩ := hi i (by omega)
      obtain ⟨v, hv, hK⟩ := h enc w base spare held n cs' _ h2
      rw [hc] at h1
      obtain ⟨_, hcl, hat⟩ := World.cells?_some h1
      refine ⟨v, hv, cs', hcl, hK, fun j u hj => ?_⟩
      have hjl : j < cs'.length := (List.getElem?_eq_some_iff.1 hj).1
      have := hat j (by omega)
      rw [← Go.Deep.add_add, this, hj]
    have all : ∀ k, k ≤ len → ∃ xs : List α, xs.length = k ∧ (∀ x ∈ xs, ok x) ∧ ∀ i p, xs[i]? = some p → ∃ c, c.length = sz ∧ FR w (f p) c ∧ ∀ j u, c[j]? = some u → w.cell? (a.add (i * sz + j)) = some u := by
      intro k
      induction k with
      | zero => exact fun _ => ⟨[], rfl, by simp, fun i p hp => by simp at hp⟩
      | succ k ih =>
        intro hk
        obtain ⟨xs, hxl, hxo, hxc⟩ := ih (by omega)
        obtain ⟨v, hv, hrest⟩ := one k (by omega)
        refine ⟨xs ++ [v], by simp [hxl], ?_, fun i p hp => ?_⟩
        · intro x hx'
          rcases List.mem_append.1 hx' with h' | h'
          · exact hxo x h'
          · rw [List.mem_singleton.1 h']; exact hv
        · rcases Nat.lt_or_ge i xs.length with hlt | hge
          · rw [List.getElem?_append_left hlt] at hp
            exact hxc i p hp
          · have hil : i < (xs ++ [v]).length := (List.getElem?_eq_some_iff.1 hp).1
            rw [List.length_append, List.length_singleton] at hil
            obtain rfl : i = k := by omega
            rw [List.getElem?_append_right hge, hxl, Nat.sub_self] at hp
            simp only [List.getElem?_cons_zero, Option.some.injEq] at hp
            rw [← hp]
            exact hrest
    obtain ⟨xs, hxl, hxo, hxc⟩ := all len (Nat.le_refl _)
    have hm' : len ≤ maxLen := Nat.le_trans hl hm
    refine ⟨xs, ⟨by omega, hxo⟩, ?_, trivial⟩
    have cellAt : ∀ i j, i < xs.length → j < sz → ∃ g o, (some a : Option Addr) = some ⟨g, o, none⟩ ∧ Yf6 w g ∧ ∃ u, w.cell? ⟨g, o + (i * sz + j), none⟩ = some u := by
      intro i j hi hj
      obtain ⟨c, hcl, hK, hcell⟩ := hxc i _ (List.getElem?_eq_getElem hi)
      have hcj : c[j]? = some (c[j]'(by omega)) := List.getElem?_eq_getElem (by omega)
      have h1 := hcell j _ hcj
      have hsome : ∃ g o, a = ⟨g, o, none⟩ := by
        obtain ⟨c0, hcl0, hK0, hcell0⟩ := hxc 0 _ (List.getElem?_eq_getElem (show 0 < xs.length by omega))
        have h0 := hcell0 0 _ (List.getElem?_eq_getElem (show 0 < c0.length by omega))
        obtain ⟨g, o, sp⟩ := a
        cases sp with
        | none => exact ⟨g, o, rfl⟩
        | some q =>
          simp only [Nat.zero_mul, Nat.add_zero, Addr.add, if_true] at h0
          unfold World.cell? at h0
          split at h0
          · simp at h0
          · cases h0
      obtain ⟨g, o, rfl⟩ := hsome
      have e : (Addr.add ⟨g, o, none⟩ (i * sz + j)) = ⟨g, o + (i * sz + j), none⟩ := by
        unfold Addr.add
        split
        · rename_i h0; rw [h0]; rfl
        · rfl
      rw [e] at h1
      refine ⟨g, o, rfl, ?_, _, h1⟩
      unfold World.cell? at h1
      split at h1
      · rename_i hg; exact (Array.getElem?_eq_some_iff.1 hg).1
      · cases h1
    rw [show (Value.slice (some a) len cap) = Value.slice (some a) (xs.map f).length cap by rw [List.length_map, hxl]]
    refine Xek.sl (S xs) sz (xs.map f) (some a) cap (fun i j => (w.cell? ⟨a.block, a.off + (i * sz + j), none⟩).getD undef) (hS xs) ?_ ?_ ?_ ?_ ?_
    · intro x hx'
      obtain ⟨v, _, rfl⟩ := List.mem_map.1 hx'
      exact hf v
    · intro i j x y hx' hy
      rw [List.getElem?_map] at hx'
      obtain ⟨p, hp, rfl⟩ := Option.map_eq_some_iff.1 hx'
      have hi := (List.getElem?_eq_some_iff.1 hp).1
      have hj : j < sz := by have := (List.getElem?_eq_some_iff.1 hy).1; rw [hf] at this; exact this
      obtain ⟨c, hcl, hK, hcell⟩ := hxc i p hp
      have hcj : c[j]? = some (c[j]'(by omega)) := List.getElem?_eq_getElem (by omega)
      obtain ⟨g, o, e1, _, u, hu⟩ := cellAt i j hi hj
      cases e1
      have h1 := hcell j _ hcj
      have e : (Addr.add ⟨g, o, none⟩ (i * sz + j)) = ⟨g, o + (i * sz + j), none⟩ := by
        unfold Addr.add
        split
        · rename_i h0; rw [h0]; rfl
        · rfl
      rw [e] at h1
      rw [h1]
      exact FR.get hK hy hcj
    · intro i j hi hj
      rw [List.length_map] at hi
      obtain ⟨g, o, e1, hg, u, hu⟩ := cellAt i j hi hj
      cases e1
      exact ⟨g, o, rfl, hg, by simp only [hu, Option.getD_some]⟩
    · intro hne
      obtain ⟨g, o, e1, _⟩ := cellAt 0 0 (List.length_pos_iff.2 (by simpa using hne)) hp
      exact ⟨g, o, e1⟩
    · rw [List.length_map]; omega

theorem Xbw.ints {P : Program} {t e : TypeId} {k : IntKind} (ht : P.underlying t = some (.slice e)) (he : P.underlying e = some (.int k)) (hc : P.cellsOf e = 1) : Xbw P (fun l => [.ints k l]) (fun xs => xs.length ≤ maxLen ∧ ∀ x ∈ xs, (Lit.int k x).wf = true) t :=
  Xbw.rows ht hc (by decide) (fun _ => rfl) (Xbw.int he) (SV.ints k) (fun _ => rfl)
theorem Xbw.row {P : Program} {t e : TypeId} (c : Xmx) (hk : c.ok) {ok : c.α → Prop} (ht : P.underlying t = some (.slice e)) (hc : P.cellsOf e = c.sz) (h : Xbw P c.enc ok e) : Xbw P (fun l => [c.sv l]) (fun xs => xs.length ≤ maxLen ∧ ∀ x ∈ xs, ok x) t :=
  Xbw.rows ht hc hk.2.1 hk.1 h c.sv (fun _ => rfl)
def Xej {α : Type} (P : Program) (f : α → List SV) (ok : α → Prop) (fs : List Field) (off sz : Nat) : Prop :=
  ∀ {H : Type} (enc : TypeId × Value → H) (w : World) (base : Nat) (spare : Nat → Bool) (held : Bool) (n : Nat) (cs : List Value),
    (∀ f ∈ fs, ∃ y, DataW.trod enc P w base spare held n f.type ((cs.drop f.offset).take (P.cellsOf f.type)) = some y) → ∃ v, ok v ∧ FR w (f v) ((cs.drop off).take sz)
theorem Xej.one {α : Type} {P : Program} {g : α → List SV} {ok : α → Prop} {f : Field} {off sz : Nat} (ho : f.offset = off) (hc : P.cellsOf f.type = sz) (h : Xbw P g ok f.type) : Xej P g ok [f] off sz := by
  intro H enc w base spare held n cs hf
  obtain ⟨y, hy⟩ := hf f (by simp)
  rw [ho, hc] at hy
  exact h enc w base spare held n _ y hy
theorem Xej.cons {α β : Type} {P : Program} {g : α → List SV} {g2 : β → List SV} {ok : α → Prop} {ok2 : β → Prop} {f : Field} {fs : List Field} {off sz off2 sz2 : Nat} (ho : f.offset = off) (hc : P.cellsOf f.type = sz) (h : Xbw P g ok f.type) (h2 : Xej P g2 ok2 fs off2 sz2) (he : off2 = off + sz) :
    Xej P (fun x : α × β => g x.1 ++ g2 x.2) (fun x => ok x.1 ∧ ok2 x.2) (f :: fs) off (sz + sz2) := by
  intro H enc w base spare held n cs hf
  obtain ⟨y, hy⟩ := hf f (by simp)
  rw [ho, hc] at hy
  obtain ⟨v, hv, hK⟩ := h enc w base spare held n _ y hy
  obtain ⟨v2, hv2, hK2⟩ := h2 enc w base spare held n cs (fun g hg => hf g (List.mem_cons_of_mem _ hg))
  refine ⟨(v, v2), ⟨hv, hv2⟩, ?_⟩
  subst he
  have : ((cs.drop off).take (sz + sz2)) = (cs.drop off).take sz ++ (cs.drop (off + sz)).take sz2 := by rw [List.take_add, List.drop_drop]
  rw [this]
  exact FR.append hK hK2
theorem Xbw.struct {α : Type} {P : Program} {g : α → List SV} {ok : α → Prop} {t : TypeId} {fs : Array Field} {sz : Nat} (ht : P.underlying t = some (.struct fs)) (hc : P.cellsOf t = sz) (h : Xej P g ok fs.toList 0 sz) : Xbw P g ok t := by
  intro H enc w base spare held fuel cs x hx
  obtain ⟨xs, n, _, _, hl, hxl, hf⟩ := DataW.trod_struct ht hx
  obtain ⟨v, hv, hK⟩ := h enc w base spare held n cs (fun f hfm => by
    obtain ⟨i, hi, he⟩ := List.getElem_of_mem hfm
    have hi' : i < fs.size := by simpa using hi
    have h1 := hf i f (by rw [← he]; simp [hi'])
    exact ⟨xs[i]'(by omega), by rw [h1]; exact List.getElem?_eq_getElem (by omega)⟩)
  refine ⟨v, hv, ?_⟩
  rw [List.drop_zero, List.take_of_length_le (by omega)] at hK
  exact hK
/-! What a row wants. -/
theorem Ygr {w : World} {μ : Nat → Value} {y : SV} {v : Value} (h : FR w [y] [v]) : Rep w (Yf6 w) μ (.sv y) v := .sv h.1
theorem Yas {w : World} {μ : Nat → Value} {ys : List SV} {cs : Array Value} (h : FR w ys cs.toList) : Rep w (Yf6 w) μ (.agg (ys.map .sv)) (.agg cs) := by
  refine .agg _ cs ?_ fun j y u hy hu => ?_
  · have := h.len; rw [List.length_map]; simpa using this
  · rw [List.getElem?_map] at hy
    obtain ⟨z, hz, rfl⟩ := Option.map_eq_some_iff.1 hy
    exact .sv (h.get hz (by rw [← Array.getElem?_toList] at hu; exact hu))
theorem Yga {w : World} {A : Nat → Prop} {μ : Nat → Value} {ys : List AV} {us : List Value} (h : ys.length = us.length) (hr : ∀ (j : Nat) y u, ys[j]? = some y → us[j]? = some u → Rep w A μ y u) : Yic w A μ ys us.toArray :=
  ⟨by simp [h], fun j y u hy hu => hr j y u hy (by simpa using hu)⟩
def Ycr (w : World) (A : Nat → Prop) (μ : Nat → Value) : List AV → List Value → Prop
  | [], [] => True
  | y :: ys, u :: us => Rep w A μ y u ∧ Ycr w A μ ys us
  | _, _ => False
theorem Ycr.args {w : World} {A : Nat → Prop} {μ : Nat → Value} : ∀ {ys : List AV} {us : List Value}, Ycr w A μ ys us → ys.length = us.length ∧ ∀ (j : Nat) y u, ys[j]? = some y → us[j]? = some u → Rep w A μ y u
  | [], [], _ => ⟨rfl, fun j y u hy _ => by simp at hy⟩
  | y :: ys, u :: us, h => by
    obtain ⟨h1, h2⟩ := Ycr.args h.2
    refine ⟨by simp [h1], fun j z v hz hv => ?_⟩
    cases j with
    | zero => cases hz; cases hv; exact h.1
    | succ j => exact h2 j z v hz hv
  | [], _ :: _, h => h.elim
  | _ :: _, [], h => h.elim
theorem Yen {P : Program} {f : Nat} {args : List AV} {b : Bool} (h : AC P f args [] (.sv (.bool b)) []) {w : World} {us : List Value} (ha : Ycr w (Yf6 w) (fun _ => .bool false) args us) :
    Calls P f us.toArray w fun e w' => e = .returned (.bool b) ∧ Below w.heap.size w w' := by
  obtain ⟨h1, h2⟩ := ha.args
  refine (h (fun _ => .bool false) (Yf6 w) w us.toArray ⟨fun _ => rfl, fun id ob h => by simp [lk] at h, fun i j oi oj g _ h => by simp [lk] at h, fun id ob g h => by simp [lk] at h, fun g hg => hg⟩ (Yga h1 h2)).mono ?_
  rintro e w' ⟨v, μ', A', rfl, hL, hr⟩
  have hv : v = .bool b := Xho hr
  subst hv
  refine ⟨rfl, ?_⟩
  have hf := hL.frame
  exact ⟨hf.os, hf.tape, hf.output, hf.size, fun k hk => hf.block k ⟨hk, fun id ob h => by simp [lk] at h⟩⟩
end Go.Proofs.YtlebkepfhdjnmacAL
/- An abstract logic for Go functions: structs held against each other. Conditions: as each statement tells. -/
namespace Go.Proofs.YtlebkepfhdjnmacAL
open Go.RowKit
set_option linter.unusedVariables false
section
variable {P : Program} {d : Nat} {xs ys : Array Value} {f : Field} {fs : List Field} {a b : Value} {r s : Bool} {w : World}
end
def SV.plain : SV → Bool
  | .int _ _ | .bool _ | .str _ => true
  | _ => false
section
variable {P : Program} {T : Nat → Option TI} {C : Ctx} {σ : St} {n : Nat} {objs : Xa2} {ops : Array Oper} {o : Oper} {l : List Oper} {rs : List Rec} {K : List Rec → St → Prop}
end
end Go.Proofs.YtlebkepfhdjnmacAL
/- An abstract logic for Go functions: rows that are shut as soon as they are made. Conditions: as each statement tells. -/
namespace Go.Proofs.YtlebkepfhdjnmacAL
open Go.RowKit
set_option linter.unusedVariables false
section
variable {P : Program} {T : Nat → Option TI} {C : Ctx} {σ : St} {n : Nat} {objs : Xa2} {ops : Array Oper} {o : Oper} {l : List Oper} {rs : List Rec} {K : List Rec → St → Prop}
end
end Go.Proofs.YtlebkepfhdjnmacAL
/- An abstract logic for Go functions: a part of a row becomes a row. Conditions: as each statement tells. -/
namespace Go.Proofs.YtlebkepfhdjnmacAL
open Go.RowKit
set_option linter.unusedVariables false
section
variable {P : Program} {T : Nat → Option TI} {C : Ctx} {σ : St} {n : Nat} {objs : Xa2} {w : World} {A : Nat → Prop} {μ : Nat → Value}
end
end Go.Proofs.YtlebkepfhdjnmacAL
/- An abstract logic for Go functions: arrays, and copy. Conditions: as each statement tells. -/
namespace Go.Proofs.YtlebkepfhdjnmacAL
open Go.RowKit
set_option linter.unusedVariables false
section
variable {P : Program} {T : Nat → Option TI} {C : Ctx} {σ : St} {n : Nat} {objs : Xa2} {ops : Array Oper} {o : Oper} {l : List Oper} {rs : List Rec} {K : List Rec → St → Prop} {w : World} {A : Nat → Prop} {μ : Nat → Value} {a : Act}
def aiL {α : Type 1} (kd : IntKind) : List AV → (List Int → RM α) → RM α
  | [], k => k []
  | .sv (.int k' n) :: l, k => if k' = kd then aiL kd l fun ns => k (n :: ns) else .fail
  | _, _ => .fail
theorem Xxx {α : Type 1} {kd : IntKind} : ∀ {l : List AV} {k : List Int → RM α} {ks : List Key} {r : α × List Key}, (aiL kd l k).run σ ks = some r → ∃ ns, l = ns.map (fun n => .sv (.int kd n)) ∧ (k ns).run σ ks = some r
  | [], k, ks, r, h => ⟨[], rfl, h⟩
  | .sv (.int k' n) :: l, k, ks, r, h => by
    rw [aiL] at h
    split at h
    · rename_i e
      subst e
      obtain ⟨ns, e, h⟩ := Xxx h
      exact ⟨n :: ns, by rw [e]; rfl, h⟩
    · simp [RM.run] at h
  | .sv (.bool _) :: l, _, _, _, h => by simp [aiL, RM.run] at h
  | .sv (.str _) :: l, _, _, _, h => by simp [aiL, RM.run] at h
  | .sv .nil :: l, _, _, _, h => by simp [aiL, RM.run] at h
  | .sv (.ints _ _) :: l, _, _, _, h => by simp [aiL, RM.run] at h
  | .sv (.sl _ _ _ _ _) :: l, _, _, _, h => by simp [aiL, RM.run] at h
  | .any :: l, _, _, _, h => by simp [aiL, RM.run] at h
  | .own _ :: l, _, _, _, h => by simp [aiL, RM.run] at h
  | .sub _ _ _ _ :: l, _, _, _, h => by simp [aiL, RM.run] at h
  | .ptr _ _ :: l, _, _, _, h => by simp [aiL, RM.run] at h
  | .eptr _ _ _ _ :: l, _, _, _, h => by simp [aiL, RM.run] at h
  | .iptr _ _ :: l, _, _, _, h => by simp [aiL, RM.run] at h
  | .agg _ :: l, _, _, _, h => by simp [aiL, RM.run] at h
  | .tup _ :: l, _, _, _, h => by simp [aiL, RM.run] at h
  | .fn _ _ :: l, _, _, _, h => by simp [aiL, RM.run] at h
def Yb1 (T : Nat → Option TI) (t : Nat) : Option (Nat × IntKind) := match T t with
  | some ⟨.arr m e, _, _, _, _⟩ => (match T e with | some ⟨.int k, 1, _, _, _⟩ => some (m, k) | _ => none)
  | _ => none
def Ydb (T : Nat → Option TI) (t : Nat) : Option IntKind := match T t with | some ⟨.int k, 1, _, _, _⟩ => some k | _ => none
theorem Xv9 {t m : Nat} {k : IntKind} (h : Yb1 T t = some (m, k)) : ∃ e n b z ek b' z' ek', T t = some ⟨.arr m e, n, b, z, ek⟩ ∧ T e = some ⟨.int k, 1, b', z', ek'⟩ := by
  unfold Yb1 at h
  split at h
  · rename_i h1
    split at h
    · rename_i h2; cases h; exact ⟨_, _, _, _, _, _, _, _, h1, h2⟩
    · cases h
  · cases h
theorem Xwc {t : Nat} {k : IntKind} (h : Ydb T t = some k) : ∃ b z ek, T t = some ⟨.int k, 1, b, z, ek⟩ := by
  unfold Ydb at h
  split at h
  · rename_i h1; cases h; exact ⟨_, _, _, h1⟩
  · cases h
structure R3 : Type 1 where
  l : List Int
  i : Int
  j : Nat
/-! An array of numbers, read at a place that is reckoned. -/
def Yhl (kd : IntKind) (x i : Operand) : RM R3 := ev x fun a => ev i fun b => match a, b with
  | .agg cs, .sv (.int _ i) => aiL kd cs fun l => .ret ⟨l, i, 0⟩
  | _, _ => .fail
theorem Ye6 (hT : TOk P T) {t m d : Nat} {x ix : Operand} {kd : IntKind} {l : List Int} {i : Int} {ks : List Key} (hd : ∀ d, o.dst = some d → d < C.n) (ho : o.op = .index t x ix) (ht : Yb1 T t = some (m, kd)) (hr : (Yhl kd x ix).run σ [] = some (⟨l, i, 0⟩, ks))
    (hdst : o.dst = some d) (hl : l.length = m) (hc : 0 ≤ i ∧ i < l.length) : Yee P C o ⟨ks, [(d, .sv (.int kd (l.getD i.toNat 0)))], [], []⟩ σ := by
  intro τ ha hf a w ⟨μ, A, h⟩
  obtain ⟨e, n, b, z, ek, b', z', ek', h1, h2⟩ := Xv9 ht
  obtain ⟨v, k1, hv, hr1⟩ := Xbc (Xex hr ha)
  obtain ⟨u, k2, hu, hr2⟩ := Xbc hr1
  split at hr2
  · rename_i cs kx i'
    obtain ⟨ns, e1, hr2⟩ := Xxx hr2
    simp only [RM.run, Option.some.injEq, Prod.mk.injEq, R3.mk.injEq] at hr2
    obtain ⟨⟨rfl, rfl, _⟩, _⟩ := hr2
    have g1 := h.ev hv
    have g2 := Xbr (h.ev hu)
    generalize hx : a.eval x = y at g1
    cases g1 with
    | agg _ vs hsz hall =>
      have hlt : i'.toNat < vs.size := by rw [hsz, e1, List.length_map]; omega
      have hcell := hall i'.toNat (.sv (.int kd (ns.getD i'.toNat 0))) vs[i'.toNat] (by rw [e1, List.getElem?_map]; simp [List.getD, show i'.toNat < ns.length by omega]) (Array.getElem?_eq_getElem hlt)
      have he := Xbr hcell
      refine Xat (v := .sv (.int kd (ns.getD i'.toNat 0))) (u := .int kd (ns.getD i'.toNat 0)) (c := True) (ks := []) (ks' := []) h (by simp only [Xdb, hdst]; rfl) hd (fun _ => ?_) (fun _ => .sv (.int _ _)) trivial
      have hm : 0 ≤ i' ∧ i' < (m : Int) := by rw [← hl]; exact hc
      have hpart : (part e vs (i'.toNat * 1)).run P w = .ok (.int kd (ns.getD i'.toNat 0)) w := by
        unfold part
        simp only [Sem.run_bind, Xwh hT h2, Result.andThen_ok, TI.isAgg, Nat.mul_one, Array.getElem?_eq_getElem hlt, Bool.false_eq_true, if_false, Sem.run_pure, he]
      simp only [execOp, ho, hx, g2, Instr.index, asIntOf, Sem.run_bind, Sem.run_pure, Result.andThen_ok, run_underlying (Yf8 hT h1), if_pos hm, Xbj hT h2, hpart]
  · cases hr2
theorem Yik (hT : TOk P T) (hC : Xfj C n objs) {t m d : Nat} {x ix : Operand} {kd : IntKind} {li : List Int} {i : Int} {ks : List Key} (hg : o.guard = none) (ho : o.op = .index t x ix) (ht : Yb1 T t = some (m, kd)) (hr : (Yhl kd x ix).get σ [] = some (⟨li, i, 0⟩, ks))
    (hdst : o.dst = some d) (hd : Xwz n o.dst = true) (hl : li.length = m) (hc : 0 ≤ i ∧ i < li.length)
    (k : Vc P C ops l (rs ++ [⟨ks, [(d, .sv (.int kd (li.getD i.toNat 0)))], [], []⟩]) (Rec.app ⟨ks, [(d, .sv (.int kd (li.getD i.toNat 0)))], [], []⟩ σ) K) : Vc P C ops (o :: l) rs σ K :=
  .cons _ (Xte hg (Ye6 hT (Xir hC hd) ho ht (Xe5 hr) hdst hl hc)) (fun _ h => by simp at h) k
/-! A box of numbers, read at a place that is reckoned. -/
def Yht (kd : IntKind) (x : Operand) : RM R3 := ev x fun
  | .ptr id off => .obj id fun
    | some (.box cells) => aiL kd cells fun l => .ret ⟨l, 0, off⟩
    | _ => .fail
  | _ => .fail
theorem Ye7 (hT : TOk P T) {t d : Nat} {x : Operand} {kd : IntKind} {l : List Int} {i : Nat} {ks : List Key} (hd : ∀ d, o.dst = some d → d < C.n) (ho : o.op = .load t x) (ht : Ydb T t = some kd) (hr : (Yht kd x).run σ [] = some (⟨l, 0, i⟩, ks))
    (hdst : o.dst = some d) (hc : i < l.length) : Yee P C o ⟨ks, [(d, .sv (.int kd (l.getD i 0)))], [], []⟩ σ := by
  intro τ ha hf a w ⟨μ, A, h⟩
  obtain ⟨b, z, ek, h1⟩ := Xwc ht
  obtain ⟨v, k1, hv, hr1⟩ := Xbc (Xex hr ha)
  split at hr1
  · rename_i id off
    simp only [RM.run] at hr1
    split at hr1
    · rename_i cells hob
      obtain ⟨ns, e1, hr2⟩ := Xxx hr1
      simp only [RM.run, Option.some.injEq, Prod.mk.injEq, R3.mk.injEq] at hr2
      obtain ⟨⟨rfl, _, rfl⟩, _⟩ := hr2
      obtain ⟨g, cs, E, fr, hm, hg, hnf, hl, hcell⟩ := h.box hob
      have g1 := h.ev hv
      generalize hx : a.eval x = y at g1
      cases g1 with
      | ptr _ _ g' hm' =>
        rw [hm] at hm'
        injection hm' with e2
        injection e2 with e2
        injection e2 with e2
        subst e2
        have hdrop : ∃ tl, cells.drop off = .sv (.int kd (ns.getD off 0)) :: tl := by
          rw [e1, ← List.map_drop]
          refine ⟨(ns.drop (off + 1)).map (fun n => AV.sv (SV.int kd n)), ?_⟩
          rw [List.drop_eq_getElem_cons hc, List.map_cons]
          simp [List.getD, hc]
        obtain ⟨tl, htl⟩ := hdrop
        obtain ⟨u, hu, hrep⟩ := Xmr (P := P) (w := w) (g := g) (b := 0) (A := A) (μ := μ) (cells := cells) (off := off) (v := .sv (.int kd (ns.getD off 0))) hT h1 (fun j y hj => by
          have hlt : j < cs.size := by rw [hl]; exact (List.getElem?_eq_some_iff.1 hj).1
          refine ⟨cs[j], ?_, (hcell j y _ hj (Array.getElem?_eq_getElem hlt)).1⟩
          rw [cell_of_row w g _ cs E fr hg, Nat.zero_add]; exact Array.getElem?_eq_getElem hlt) (by simp only [Xlv, TI.isAgg, Bool.false_eq_true, if_false, htl])
        rw [Nat.zero_add] at hu
        have he := Xbr hrep
        subst he
        refine Xat (v := .sv (.int kd (ns.getD off 0))) (u := .int kd (ns.getD off 0)) (c := True) (ks := []) (ks' := []) h (by simp only [Xdb, hdst]; rfl) hd (fun _ => ?_) (fun _ => .sv (.int _ _)) trivial
        simp [execOp, ho, hx, Instr.loadAt, Instr.sureAddr, hu]
    · simp [RM.run] at hr1
  · simp [RM.run] at hr1
theorem Yim (hT : TOk P T) (hC : Xfj C n objs) {t d : Nat} {x : Operand} {kd : IntKind} {li : List Int} {i : Nat} {ks : List Key} (hg : o.guard = none) (ho : o.op = .load t x) (ht : Ydb T t = some kd) (hr : (Yht kd x).get σ [] = some (⟨li, 0, i⟩, ks))
    (hdst : o.dst = some d) (hd : Xwz n o.dst = true) (hc : i < li.length)
    (k : Vc P C ops l (rs ++ [⟨ks, [(d, .sv (.int kd (li.getD i 0)))], [], []⟩]) (Rec.app ⟨ks, [(d, .sv (.int kd (li.getD i 0)))], [], []⟩ σ) K) : Vc P C ops (o :: l) rs σ K :=
  .cons _ (Xte hg (Ye7 hT (Xir hC hd) ho ht (Xe5 hr) hdst hc)) (fun _ h => by simp at h) k
/-! A whole array as a row. -/
def Yhi (kd : IntKind) (x : Operand) : RM R3 := ev x fun
  | .ptr id 0 => .obj id fun
    | some (.box cells) => aiL kd cells fun l => .ret ⟨l, 0, id⟩
    | _ => .fail
  | _ => .fail
theorem Ye5 (hT : TOk P T) {t m d id : Nat} {x : Operand} {kd : IntKind} {l : List Int} {ks : List Key} (hd : ∀ d, o.dst = some d → d < C.n) (ho : o.op = .slice t x none none none) (ht : Yb1 T t = some (m, kd)) (hr : (Yhi kd x).run σ [] = some (⟨l, 0, id⟩, ks))
    (hdst : o.dst = some d) (hl : l.length = m) (hm : m ≤ maxLen) : Yee P C o ⟨ks, [(d, .own (d * 16))], [(d * 16, some (.ints kd l)), (id, none)], [d * 16]⟩ σ := by
  intro τ ha hf a w ⟨μ, A, h⟩
  obtain ⟨e, n, b, z, ek, b', z', ek', h1, h2⟩ := Xv9 ht
  obtain ⟨v, k1, hv, hr1⟩ := Xbc (Xex hr ha)
  split at hr1
  · rename_i id' 
    simp only [RM.run] at hr1
    split at hr1
    · rename_i cells hob
      obtain ⟨ns, e1, hr2⟩ := Xxx hr1
      simp only [RM.run, Option.some.injEq, Prod.mk.injEq, R3.mk.injEq] at hr2
      obtain ⟨⟨rfl, _, rfl⟩, _⟩ := hr2
      obtain ⟨g, cs, E, fr, hmu, hg, hnf, hcl, hcell⟩ := h.box hob
      have g1 := h.ev hv
      generalize hx : a.eval x = y at g1
      cases g1 with
      | ptr _ _ g' hm' =>
        rw [hmu] at hm'
        injection hm' with e2
        injection e2 with e2
        injection e2 with e2
        subst e2
        have hfr := hf (d * 16) (by simp)
        have hdr := h.drop id'
        have hobr : Xg8 w A (upd μ (d * 16) (.slice (some ⟨g, 0, none⟩) m m)) (.ints kd ns) (.slice (some ⟨g, 0, none⟩) m m) := by
          have hxl : (ns.map fun n => [SV.int kd n]).length = m := by rw [List.length_map]; exact hl
          have := Xg8.row (w := w) (A := A) (μ := upd μ (d * 16) (.slice (some ⟨g, 0, none⟩) m m)) (.ints kd ns) 1 (ns.map fun n => [SV.int kd n]) rfl trivial g 0 m cs E fr hg hnf (by omega) hm (by rw [hcl, e1, List.length_map]; omega) (fun x hx => by obtain ⟨n, _, rfl⟩ := List.mem_map.1 hx; rfl) ?_
          · rw [hxl] at this; exact this
          · intro i j x y hi hj
            rw [List.getElem?_map] at hi
            obtain ⟨q, hq, rfl⟩ := Option.map_eq_some_iff.1 hi
            cases j with
            | zero =>
              cases hj
              have hil := (List.getElem?_eq_some_iff.1 hq).1
              have hlt : i < cs.size := by rw [hcl, e1, List.length_map]; exact hil
              refine ⟨cs[i], by rw [Nat.zero_add, Nat.mul_one, Nat.add_zero]; exact Array.getElem?_eq_getElem hlt, ?_⟩
              have := (hcell i (.sv (.int kd q)) cs[i] (by rw [e1, List.getElem?_map, hq]; rfl) (Array.getElem?_eq_getElem hlt)).1
              cases this with | sv h => exact h
            | succ j => simp at hj
        have hnm := hdr.name (id := d * 16) (ob := .ints kd ns) (v := .slice (some ⟨g, 0, none⟩) m m)
          ⟨hfr.1.1, fun k ob hk => by rw [St.obj_setO] at hk; split at hk; · cases hk
                                      · exact hfr.1.2 k ob hk⟩ hfr.2
          (fun g' hg' => by
            cases hg'
            have hown : Xem (μ id') = some g := by rw [hmu]; rfl
            refine ⟨(h.own id' _ g hob hown).1, (h.own id' _ g hob hown).2, fun k ob hk e => ?_⟩
            rw [St.obj_setO] at hk
            split at hk
            · cases hk
            · rename_i hne; exact h.sep id' k _ ob g hne hob hk hown e) hobr
        have hput := hnm.put (d := o.dst) (x := .own (d * 16)) (v := .slice (some ⟨g, 0, none⟩) m m) (by have := Rep.own (w := w) (A := A) (μ := upd μ (d * 16) (.slice (some ⟨g, 0, none⟩) m m)) (d * 16); rw [Xe3] at this; exact this) hd
        rw [hdst] at hput
        refine Xhu (w' := w) (v := .slice (some ⟨g, 0, none⟩) m m) ?_ ⟨upd μ (d * 16) (.slice (some ⟨g, 0, none⟩) m m), A, ?_⟩
        · simp only [execOp, ho, hx, Option.map_none, Instr.sliceAt, Sem.run_bind, Sem.run_pure, run_underlying (Yf8 hT h1), Result.andThen_ok, Instr.sureAddr, Instr.sliceBounds, Xbj hT h2]
          simp [Xgn]
        · rw [hdst]; exact hput
    · simp [RM.run] at hr1
  · simp [RM.run] at hr1
theorem Yij (hT : TOk P T) (hC : Xfj C n objs) {t m d id : Nat} {x : Operand} {kd : IntKind} {li : List Int} {ks : List Key} (hg : o.guard = none) (ho : o.op = .slice t x none none none) (ht : Yb1 T t = some (m, kd)) (hr : (Yhi kd x).get σ [] = some (⟨li, 0, id⟩, ks))
    (hdst : o.dst = some d) (hd : Xwz n o.dst = true) (hf : frs objs σ [d * 16] = true) (hl : li.length = m) (hm : Nat.ble m 1000 = true)
    (k : Vc P C ops l (rs ++ [⟨ks, [(d, .own (d * 16))], [(d * 16, some (.ints kd li)), (id, none)], [d * 16]⟩]) (Rec.app ⟨ks, [(d, .own (d * 16))], [(d * 16, some (.ints kd li)), (id, none)], [d * 16]⟩ σ) K) : Vc P C ops (o :: l) rs σ K :=
  .cons _ (Xte hg (Ye5 hT (Xir hC hd) ho ht (Xe5 hr) hdst hl (Nat.le_trans (Nat.le_of_ble_eq_true hm) (by decide)))) (Xjn hC hf) k
/-! Numbers are copied into a part of a row. -/
structure R6 : Type 1 where
  id : Nat
  off : Nat
  len : Nat
  l : List Int
  l' : List Int
  c : Prop
def Yhj (kd : IntKind) (s x : Operand) : RM R6 := ev s fun a => ev x fun b => match a with
  | .sub id sz off len => if Nat.beq sz 1 then .obj id fun
    | some (.ints k l) => if k = kd then Xzd kd b fun l' c => .ret ⟨id, off, len, l, l', c⟩ else .fail
    | _ => .fail else .fail
  | _ => .fail
def Yev (T : Nat → Option TI) (t : Nat) : Option IntKind := match T t with
  | some ⟨.slice e, _, _, _, _⟩ => Ydb T e
  | _ => none
theorem Yb4 {t : Nat} {k : IntKind} (h : Yev T t = some k) : ∃ e n b z ek b' z' ek', T t = some ⟨.slice e, n, b, z, ek⟩ ∧ T e = some ⟨.int k, 1, b', z', ek'⟩ := by
  unfold Yev at h
  split at h
  · rename_i h1
    obtain ⟨b', z', ek', h2⟩ := Xwc h
    exact ⟨_, _, _, _, _, _, _, _, h1, h2⟩
  · cases h
def over (l : List Int) (i : Nat) (m : List Int) : List Int := l.take i ++ m ++ l.drop (i + m.length)
theorem Xth {l m : List Int} {i : Nat} (h : i + m.length ≤ l.length) : (over l i m).length = l.length := by
  simp only [over, List.length_append, List.length_take, List.length_drop]; omega
theorem Ybp {l m : List Int} {i : Nat} (h : i + m.length ≤ l.length) (j : Nat) : (over l i m)[j]? = if i ≤ j ∧ j < i + m.length then m[j - i]? else l[j]? := by
  unfold over
  have h1 : (l.take i).length = i := by rw [List.length_take]; omega
  rw [List.append_assoc, List.getElem?_append, h1]
  by_cases ha : j < i
  · rw [if_pos ha, if_neg (by omega), List.getElem?_take_of_lt ha]
  · rw [if_neg ha, List.getElem?_append]
    by_cases hb : j < i + m.length
    · rw [if_pos (by omega), if_pos (by omega)]
    · rw [if_neg (by omega), if_neg (by omega), List.getElem?_drop]
      congr 1; omega
theorem Ydf (hT : TOk P T) {t tx : Nat} {d id off len : Nat} {s x : Operand} {c : Call} {kd : IntKind} {li li' : List Int} {cd : Prop} {ks : List Key} (hd : ∀ d, o.dst = some d → d < C.n) (ho : o.op = .call c) (hcal : c.callee = .builtin .copy) (hty : c.argTypes = #[t, tx]) (hargs : c.args = #[s, x]) (ht : Yev T t = some kd)
    (hr : (Yhj kd s x).run σ [] = some (⟨id, off, len, li, li', cd⟩, ks)) (hdst : o.dst = some d) (hc : (cd ∧ off + len ≤ li.length) ∧ li'.length ≤ len) : Yee P C o ⟨ks, [(d, .sv (.int .i64 (li'.length : Int)))], [(id, some (.ints kd (over li off li')))], []⟩ σ := by
  intro τ ha hf a w ⟨μ, A, h⟩
  obtain ⟨e, n, b, z, ek, b', z', ek', h1, h2⟩ := Yb4 ht
  obtain ⟨v, k1, hv, hr1⟩ := Xbc (Xex hr ha)
  obtain ⟨u, k2, hu, hr2⟩ := Xbc hr1
  obtain ⟨⟨hcd, hle⟩, hlen⟩ := hc
  split at hr2
  · rename_i id' sz off' len'
    split at hr2
    · rename_i hsz
      have hsz := Nat.eq_of_beq_eq_true hsz
      subst hsz
      simp only [RM.run] at hr2
      split at hr2
      · rename_i kd' l0 hob
        split at hr2
        · rename_i hk
          subst hk
          obtain ⟨l2, c2, k3, hr3, hapd⟩ := Xph (P := P) h (h.ev hu) hr2
          simp only [RM.run, Option.some.injEq, Prod.mk.injEq, R6.mk.injEq] at hr3
          obtain ⟨⟨rfl, rfl, rfl, rfl, rfl, rfl⟩, _⟩ := hr3
          obtain ⟨news, n1, n2, n3, n4, n5, n6⟩ := hapd hcd
          rw [List.length_map, Nat.mul_one] at n1
          have g1 := h.ev hv
          generalize hx : a.eval s = y at g1
          cases g1 with
          | sub _ _ _ _ ad0 ad nn cap cap' hm hc1 hc2 hada hadz =>
            have hexec : ∀ {v' : Value} {w' : World}, (Builtin.copy_ #[t, tx] o.type #[a.eval s, a.eval x]).run P w = .ok v' w' → (execOp a.eval o).run P w = .ok (.value v') w' := by
              intro v' w' hh
              simp [execOp, ho, resolve, hcal, invoke, hty, hargs, builtin, hh]
            have hlo : (Builtin.lenOf (a.eval x)).run P w = .ok l2.length w := by have := n4 w; rwa [List.length_map] at this
            have hfc : (Builtin.firstCells 1 l2.length (a.eval x)).run P w = .ok news.toArray w := by have := n3 w (fun _ _ => rfl); rwa [List.length_map] at this
            have hmin : Nat.min l2.length len' = l2.length := Nat.min_eq_left hlen
            by_cases hne : l2 = []
            · subst hne
              have hnews : news = [] := List.eq_nil_of_length_eq_zero (by simpa using n1)
              subst hnews
              have hov : over l0 off' [] = l0 := by simp [over]
              rw [hov]
              refine Xhu (w' := w) (v := .int .i64 0) (hexec ?_) ⟨μ, A, ?_⟩
              · rw [hx]
                simp only [List.length_nil] at hlo hfc hmin
                cases ad with
                | none => simp [Builtin.copy_, run_underlying (Xe4 hT h1), hlo, Xbj hT h2, hmin, hfc, goInt]
                | some ad => simp [Builtin.copy_, run_underlying (Xe4 hT h1), hlo, Xbj hT h2, hmin, hfc, goInt, storeCells]
              · have hp := h.put (d := o.dst) (x := .sv (.int .i64 0)) (v := .int .i64 0) (.sv (.int _ _)) hd
                rw [hdst] at hp ⊢
                refine hp.weaken (fun t v hv => .inl hv) fun k ob hk => ?_
                have hk' : (τ.setO id' (some (.ints kd' l0))).obj k = some ob := hk
                rw [St.obj_setO] at hk'
                show τ.obj k = some ob
                split at hk'
                · rename_i e; subst e; cases hk'; exact hob
                · exact hk'
            · have hpos : 0 < l2.length := List.length_pos_iff.2 hne
              obtain ⟨g0, o0, e1, e2⟩ := hada (by omega)
              rcases Xef (h.objs id' _ hob) (sz := 1) (xs := l0.map fun n => [SV.int kd' n]) rfl with ⟨hnil, hn0⟩ | ⟨g, o2, capx, cur, E, fr, hm2, hg, hnf, hxc, hcm, hs, hxl, hcell⟩
              · rw [hm, e1] at hnil; cases hnil
              · rw [hm, e1] at hm2
                injection hm2 with e3 e4 e5
                injection e3 with e3
                injection e3 with e3 e6
                subst e3; subst e6; subst e5
                rw [e2] at hx
                rw [List.length_map] at hxc
                have hown : Xem (μ id') = some g0 := by rw [hm, e1]; rfl
                have hb : o0 + off' * 1 + news.length ≤ cur.size := by omega
                have hst := Xeg (P := P) g0 (o0 + off' * 1) E fr news 0 cur w hg hnf (by omega) n2
                simp only [Nat.add_zero] at hst
                have hA := Xy3 h hob hown (cur.toList.take (o0 + off' * 1) ++ news ++ cur.toList.drop (o0 + off' * 1 + news.length)).toArray
                have hw := h.write hob hown (Xsc w g0 (cur.toList.take (o0 + off' * 1) ++ news ++ cur.toList.drop (o0 + off' * 1 + news.length)).toArray) (ob' := .ints kd' (over l0 off' l2)) (by
                  rw [hm, e1]
                  have hol : (over l0 off' l2).length = l0.length := Xth (by omega)
                  have := Xg8.row (w := w.setRow g0 (cur.toList.take (o0 + off' * 1) ++ news ++ cur.toList.drop (o0 + off' * 1 + news.length)).toArray) (A := A) (μ := μ) (.ints kd' (over l0 off' l2)) 1 ((over l0 off' l2).map fun n => [SV.int kd' n]) rfl trivial g0 o0 cap _ E fr (setRow_heap w g0 cur _ E fr hg)
                    (fun k hk => hnf k (by rwa [Xdy _ _ _ hb] at hk)) (by rw [List.length_map, hol]; exact hxc) hcm (by rw [Xdy _ _ _ hb]; exact hs) (fun z hz => by obtain ⟨q, _, rfl⟩ := List.mem_map.1 hz; rfl) ?_
                  · rw [List.length_map, hol] at this
                    rw [List.length_map] at e4
                    rw [e4]; exact this
                  · intro i j z v hz hv'
                    rw [List.getElem?_map] at hz
                    obtain ⟨q, hq, rfl⟩ := Option.map_eq_some_iff.1 hz
                    cases j with
                    | succ j => simp at hv'
                    | zero =>
                      cases hv'
                      rw [Ybp (by omega)] at hq
                      rw [Xlb _ _ _ hb]
                      by_cases hin : off' ≤ i ∧ i < off' + l2.length
                      · rw [if_pos hin] at hq
                        rw [if_pos (by omega)]
                        obtain ⟨v, hv1, hr1⟩ := n6 (i - off') 0 [SV.int kd' q] (.int kd' q) (by rw [List.getElem?_map, hq]; rfl) rfl
                        refine ⟨v, ?_, hr1.frame (fun _ h => h) hA⟩
                        rw [← hv1]; congr 1; omega
                      · rw [if_neg hin] at hq
                        rw [if_neg (by omega)]
                        obtain ⟨v, hv1, hr1⟩ := hcell i 0 [SV.int kd' q] (.int kd' q) (by rw [List.getElem?_map, hq]; rfl) rfl
                        exact ⟨v, hv1, hr1.frame (fun _ h => h) hA⟩)
                have hp := hw.put (d := o.dst) (x := .sv (.int .i64 (l2.length : Int))) (v := .int .i64 (l2.length : Int)) (.sv (.int _ _)) hd
                rw [hdst] at hp
                refine Xhu (w' := w.setRow g0 (cur.toList.take (o0 + off' * 1) ++ news ++ cur.toList.drop (o0 + off' * 1 + news.length)).toArray) (v := .int .i64 (l2.length : Int)) (hexec ?_) ⟨μ, A, ?_⟩
                · rw [hx]
                  simp only [Nat.mul_one] at hst ⊢
                  simp [Builtin.copy_, run_underlying (Xe4 hT h1), hlo, Xbj hT h2, hmin, hfc, goInt, hst]
                · rw [hdst]; exact hp
        · simp [RM.run] at hr2
      · simp [RM.run] at hr2
    · simp [RM.run] at hr2
  · cases hr2
theorem Yh5 (hT : TOk P T) (hC : Xfj C n objs) {t tx d id off len : Nat} {s x : Operand} {c : Call} {kd : IntKind} {li li' : List Int} {cd : Prop} {ks : List Key} (hg : o.guard = none) (ho : o.op = .call c) (hcal : c.callee = .builtin .copy) (hty : c.argTypes = #[t, tx]) (hargs : c.args = #[s, x]) (ht : Yev T t = some kd)
    (hr : (Yhj kd s x).get σ [] = some (⟨id, off, len, li, li', cd⟩, ks)) (hdst : o.dst = some d) (hd : Xwz n o.dst = true) (hc : (cd ∧ off + len ≤ li.length) ∧ li'.length ≤ len)
    (k : Vc P C ops l (rs ++ [⟨ks, [(d, .sv (.int .i64 (li'.length : Int)))], [(id, some (.ints kd (over li off li')))], []⟩]) (Rec.app ⟨ks, [(d, .sv (.int .i64 (li'.length : Int)))], [(id, some (.ints kd (over li off li')))], []⟩ σ) K) : Vc P C ops (o :: l) rs σ K :=
  .cons _ (Xte hg (Ydf hT (Xir hC hd) ho hcal hty hargs ht (Xe5 hr) hdst hc)) (fun _ h => by simp at h) k
end
end Go.Proofs.YtlebkepfhdjnmacAL
