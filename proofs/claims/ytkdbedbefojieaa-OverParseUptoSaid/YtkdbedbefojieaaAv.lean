/-
  ABSTRACT VALUES, and what memory holds of them: slices as plain lists, boxes and arrays under numbers of their own; who owns a block is counted. Nothing here names a function of the program.
-/
import Derived.WalkKit
import Derived.ProofKit
import Derived.Below
import Derived.Laws.OwnMore
import Derived.Deep.MidRow
import Derived.Maps.AppendAt
namespace Go.Proofs.Ytkdbedbefojieaa
set_option linter.unusedVariables false
set_option linter.unusedSimpArgs false
open Go.RowKit

/-- abstract values -/
inductive AV where
  | sc (v : Value)
  | sl (o : Option TypeId) (k : Nat) (s : List (List AV))
  | bp (b u off : Nat)
  | hd (b u : Nat)
  | ep (b u k i off : Nat)
  | rp (k : Nat) (s : List (List AV)) (i off : Nat)
  | ag (l : List AV)
  | tu (l : List AV)
  | gd (p : Bool) (a : AV)
  | fs (k : Nat) (s : List (List AV))
  | fn (f : Nat) (c : List AV)
  | hf (b u : Nat)
  | sb (b u k n : Nat)
  | de

/-- what lies in a slice's cells: plain values and slices -/
def AV.leaf : AV → Bool
  | .sc _ | .sl _ _ _ => true
  | _ => false

instance : Inhabited AV := ⟨.de⟩

/-- blocks: how often each is owned -/
abbrev Ct := Nat → Nat
abbrev Ct.z : Ct := fun _ => 0
abbrev Fi := Nat → Nat → Option Nat
abbrev Ka := Nat → Nat → Option Value

mutual
inductive RV (w : World) (φ : Fi) (κ : Ka) (R : Nat → Prop) : AV → Value → Ct → Prop
  | sc {v} : v.oneCell' = true → RV w φ κ R (.sc v) v Ct.z
  | bp {b u off g} : φ b u = some g → RV w φ κ R (.bp b u off) (.pointer (some ⟨g, off, none⟩)) Ct.z
  | ni {o k} : RV w φ κ R (.sl o k []) (.slice none 0 0) Ct.z
  | ne {o k A} : RV w φ κ R (.sl o k []) (.slice (some A) 0 0) Ct.z
  | ro {k s b o c us} : RE w φ κ R k s us Ct.z → s.length ≤ c → c ≤ maxLen → (s ≠ [] → R b) → (∀ j u, us[j]? = some u → w.cell? ⟨b, o + j, none⟩ = some u) → RV w φ κ R (.sl none k s) (.slice (some ⟨b, o, none⟩) s.length c) Ct.z
  | ow {e k s g cap cur us S T} : RE w φ κ R k s us S → w.heap[g]? = some (.cells cur e (0, 0)) → s.length ≤ cap → cap ≤ maxLen → cur.size = cap * k → cur.toList.take (s.length * k) = us → (∀ x, T x = (if x = g then 1 else 0) + S x) → RV w φ κ R (.sl (some e) k s) (.slice (some ⟨g, 0, none⟩) s.length cap) T
  | hd {b u v} : κ b u = some v → v.oneCell' = true → RV w φ κ R (.hd b u) v Ct.z
  | ep {b u k i off g n c} : κ b u = some (.slice (some ⟨g, 0, none⟩) n c) → RV w φ κ R (.ep b u k i off) (.pointer (some ⟨g, i * k + off, none⟩)) Ct.z
  | rp {k s b o i off us} : RE w φ κ R k s us Ct.z → R b → (∀ j u, us[j]? = some u → w.cell? ⟨b, o + j, none⟩ = some u) → RV w φ κ R (.rp k s i off) (.pointer (some ⟨b, o + (i * k + off), none⟩)) Ct.z
  | ag {l vs S} : RC w φ κ R l vs S → (∀ u ∈ vs, u.oneCell' = true) → RV w φ κ R (.ag l) (.agg vs.toArray) S
  | tu {l vs S} : RC w φ κ R l vs S → RV w φ κ R (.tu l) (.tuple vs.toArray) S
  | de {v} : RV w φ κ R .de v Ct.z
  | gt {a v S} : RV w φ κ R a v S → RV w φ κ R (.gd true a) v S
  | gf {a} : RV w φ κ R (.gd false a) undef Ct.z
  | hf {b u A n c} : κ b u = some (.slice A n c) → RV w φ κ R (.hf b u) (.slice A n n) Ct.z
  | sb {b u k n g} : φ b u = some g → n ≤ maxLen → RV w φ κ R (.sb b u k n) (.slice (some ⟨g, 0, none⟩) n n) Ct.z
  | fn {f c vs S} : RC w φ κ R c vs S → RV w φ κ R (.fn f c) (.func (.func f) #[] vs.toArray) S
  | fs {k s v} : RV w φ κ R (.sl none k s) v Ct.z → (∃ A, v = .slice A s.length s.length) → RV w φ κ R (.fs k s) v Ct.z
inductive RE (w : World) (φ : Fi) (κ : Ka) (R : Nat → Prop) : Nat → List (List AV) → List Value → Ct → Prop
  | nil {k} : RE w φ κ R k [] [] Ct.z
  | cons {k c s us vs S T U} : RC w φ κ R c us S → us.length = k → (∀ u ∈ us, u.oneCell' = true) ∧ (∀ x ∈ c, x.leaf = true) → RE w φ κ R k s vs T → (∀ x, U x = S x + T x) → RE w φ κ R k (c :: s) (us ++ vs) U
inductive RC (w : World) (φ : Fi) (κ : Ka) (R : Nat → Prop) : List AV → List Value → Ct → Prop
  | nil : RC w φ κ R [] [] Ct.z
  | cons {a l v vs S T U} : RV w φ κ R a v S → RC w φ κ R l vs T → (∀ x, U x = S x + T x) → RC w φ κ R (a :: l) (v :: vs) U
end

theorem Ct.ext {S T : Ct} (h : ∀ x, S x = T x) : S = T := funext h
theorem Ct.split {S T : Ct} (h : ∀ x, Ct.z x = S x + T x) : S = Ct.z ∧ T = Ct.z :=
  ⟨funext fun x => by have := h x; simp only [Ct.z] at *; omega, funext fun x => by have := h x; simp only [Ct.z] at *; omega⟩

section
variable {w w' : World} {φ φ' : Fi} {κ κ' : Ka} {R R' : Nat → Prop}

/-! a longer history, more that may be read, another world -/
mutual
theorem RV.hist (hφ : ∀ b u g, φ b u = some g → φ' b u = some g) (hκ : ∀ b u v, κ b u = some v → κ' b u = some v) (h : ∀ b, R b → R' b) : ∀ {a v S}, RV w φ κ R a v S → RV w φ' κ' R' a v S
  | _, _, _, .sc h1 => .sc h1
  | _, _, _, .bp h1 => .bp (hφ _ _ _ h1)
  | _, _, _, .ni => .ni
  | _, _, _, .ne => .ne
  | _, _, _, .ro he a b c d => .ro (RE.hist hφ hκ h he) a b (fun e => h _ (c e)) d
  | _, _, _, .ow he a b c d e f => .ow (RE.hist hφ hκ h he) a b c d e f
  | _, _, _, .hd h1 h2 => .hd (hκ _ _ _ h1) h2
  | _, _, _, .ep h1 => .ep (hκ _ _ _ h1)
  | _, _, _, .rp he h1 h2 => .rp (RE.hist hφ hκ h he) (h _ h1) h2
  | _, _, _, .ag hc h1 => .ag (RC.hist hφ hκ h hc) h1
  | _, _, _, .tu hc => .tu (RC.hist hφ hκ h hc)
  | _, _, _, .de => .de
  | _, _, _, .gt h1 => .gt (RV.hist hφ hκ h h1)
  | _, _, _, .gf => .gf
  | _, _, _, .fs h1 h2 => .fs (RV.hist hφ hκ h h1) h2
  | _, _, _, .fn hc => .fn (RC.hist hφ hκ h hc)
  | _, _, _, .hf h1 => .hf (hκ _ _ _ h1)
  | _, _, _, .sb h1 h2 => .sb (hφ _ _ _ h1) h2
theorem RE.hist (hφ : ∀ b u g, φ b u = some g → φ' b u = some g) (hκ : ∀ b u v, κ b u = some v → κ' b u = some v) (h : ∀ b, R b → R' b) : ∀ {k s us S}, RE w φ κ R k s us S → RE w φ' κ' R' k s us S
  | _, _, _, _, .nil => .nil
  | _, _, _, _, .cons a b o c d => .cons (RC.hist hφ hκ h a) b o (RE.hist hφ hκ h c) d
theorem RC.hist (hφ : ∀ b u g, φ b u = some g → φ' b u = some g) (hκ : ∀ b u v, κ b u = some v → κ' b u = some v) (h : ∀ b, R b → R' b) : ∀ {l us S}, RC w φ κ R l us S → RC w φ' κ' R' l us S
  | _, _, _, .nil => .nil
  | _, _, _, .cons a b c => .cons (RV.hist hφ hκ h a) (RC.hist hφ hκ h b) c
end

theorem RE.one {k : Nat} : ∀ {s : List (List AV)} {us : List Value} {S : Ct}, RE w φ κ R k s us S → ∀ u ∈ us, u.oneCell' = true
  | _, _, _, .nil => fun u hu => by cases hu
  | _, _, _, .cons _ _ o c _ => fun u hu => (List.mem_append.1 hu).elim (o.1 u) (RE.one c u)
theorem RE.length {k : Nat} : ∀ {s : List (List AV)} {us : List Value} {S : Ct}, RE w φ κ R k s us S → us.length = s.length * k
  | _, _, _, .nil => by simp
  | _, _, _, .cons a b o c d => by simp [RE.length c, b, Nat.add_mul, Nat.add_comm]
theorem RE.nils {k : Nat} {us : List Value} {S : Ct} (h : RE w φ κ R k [] us S) : us = [] := by cases h; rfl

mutual
theorem RV.keep (h : ∀ b, R b → w'.heap[b]? = w.heap[b]?) : ∀ {a v S}, RV w φ κ R a v S → (∀ b, S b ≠ 0 → w'.heap[b]? = w.heap[b]?) → RV w' φ κ R a v S
  | _, _, _, .sc h1, _ => .sc h1
  | _, _, _, .bp h1, _ => .bp h1
  | _, _, _, .ni, _ => .ni
  | _, _, _, .ne, _ => .ne
  | _, _, _, .ro (k := k) (s := s) (us := us) he a b c d, _ => .ro (RE.keep h he (fun b hb => absurd rfl hb)) a b c (fun j u hj => by
      have hs : s ≠ [] := by rintro rfl; rw [RE.nils he] at hj; simp at hj
      rw [World.cell?_of_block (a := ⟨_, _, none⟩) (h _ (c hs))]; exact d j u hj)
  | _, _, _, .ow he a b c d e f, hS => .ow (RE.keep h he (fun x hx => hS x (by rw [f x]; omega))) ((hS _ (by rw [f]; simp)).trans a) b c d e f
  | _, _, _, .hd h1 h2, _ => .hd h1 h2
  | _, _, _, .ep h1, _ => .ep h1
  | _, _, _, .rp he h1 h2, _ => .rp (RE.keep h he (fun b hb => absurd rfl hb)) h1 (fun j u hj => by
      rw [World.cell?_of_block (a := ⟨_, _, none⟩) (h _ h1)]; exact h2 j u hj)
  | _, _, _, .ag hc h1, hS => .ag (RC.keep h hc hS) h1
  | _, _, _, .tu hc, hS => .tu (RC.keep h hc hS)
  | _, _, _, .de, _ => .de
  | _, _, _, .gt h1, hS => .gt (RV.keep h h1 hS)
  | _, _, _, .gf, _ => .gf
  | _, _, _, .fs h1 h2, _ => .fs (RV.keep h h1 fun b hb => absurd rfl hb) h2
  | _, _, _, .fn hc, hS => .fn (RC.keep h hc hS)
  | _, _, _, .hf h1, _ => .hf h1
  | _, _, _, .sb h1 h2, _ => .sb h1 h2
theorem RE.keep (h : ∀ b, R b → w'.heap[b]? = w.heap[b]?) : ∀ {k s us S}, RE w φ κ R k s us S → (∀ b, S b ≠ 0 → w'.heap[b]? = w.heap[b]?) → RE w' φ κ R k s us S
  | _, _, _, _, .nil, _ => .nil
  | _, _, _, _, .cons a b o c d, hS => .cons (RC.keep h a (fun x hx => hS x (by rw [d x]; omega))) b o (RE.keep h c (fun x hx => hS x (by rw [d x]; omega))) d
theorem RC.keep (h : ∀ b, R b → w'.heap[b]? = w.heap[b]?) : ∀ {l us S}, RC w φ κ R l us S → (∀ b, S b ≠ 0 → w'.heap[b]? = w.heap[b]?) → RC w' φ κ R l us S
  | _, _, _, .nil, _ => .nil
  | _, _, _, .cons a b c, hS => .cons (RV.keep h a (fun x hx => hS x (by rw [c x]; omega))) (RC.keep h b (fun x hx => hS x (by rw [c x]; omega))) c
end

/-- what reads nothing of what may be read -/
inductive NR : AV → Prop
  | sc {v} : NR (.sc v)
  | bp {b u off} : NR (.bp b u off)
  | ni {o k} : NR (.sl o k [])
  | ow {e k s} : (∀ c ∈ s, ∀ a ∈ c, NR a) → NR (.sl (some e) k s)
  | ag {l} : (∀ a ∈ l, NR a) → NR (.ag l)
  | tu {l} : (∀ a ∈ l, NR a) → NR (.tu l)
  | hd {b u} : NR (.hd b u)
  | fn {f c} : (∀ a ∈ c, NR a) → NR (.fn f c)
  | hf {b u} : NR (.hf b u)
  | sb {b u k n} : NR (.sb b u k n)
  | ep {b u k i off} : NR (.ep b u k i off)
  | de : NR .de
  | gd {p a} : NR a → NR (.gd p a)

mutual
theorem RV.nr (R' : Nat → Prop) : ∀ {a v S}, RV w φ κ R a v S → NR a → RV w φ κ R' a v S
  | _, _, _, .sc h1, _ => .sc h1
  | _, _, _, .bp h1, _ => .bp h1
  | _, _, _, .ni, _ => .ni
  | _, _, _, .ne, _ => .ne
  | _, _, _, .ro he a b c d, hn => by
      cases hn
      have := RE.nils he
      subst this
      exact .ro .nil a b (fun e => absurd rfl e) d
  | _, _, _, .ow he a b c d e f, hn => .ow (RE.nr R' he (by cases hn with | ni => (intro c hc; cases hc) | ow h => exact h)) a b c d e f
  | _, _, _, .hd h1 h2, _ => .hd h1 h2
  | _, _, _, .ep h1, _ => .ep h1
  | _, _, _, .rp he h1 h2, hn => by cases hn
  | _, _, _, .ag hc h1, hn => .ag (RC.nr R' hc (by cases hn with | ag h => exact h)) h1
  | _, _, _, .tu hc, hn => .tu (RC.nr R' hc (by cases hn with | tu h => exact h))
  | _, _, _, .de, _ => .de
  | _, _, _, .gt h1, hn => .gt (RV.nr R' h1 (by cases hn with | gd h => exact h))
  | _, _, _, .gf, _ => .gf
  | _, _, _, .fs _ _, hn => by cases hn
  | _, _, _, .fn hc, hn => .fn (RC.nr R' hc (by cases hn with | fn h => exact h))
  | _, _, _, .hf h1, _ => .hf h1
  | _, _, _, .sb h1 h2, _ => .sb h1 h2
theorem RE.nr (R' : Nat → Prop) : ∀ {k s us S}, RE w φ κ R k s us S → (∀ c ∈ s, ∀ a ∈ c, NR a) → RE w φ κ R' k s us S
  | _, _, _, _, .nil, _ => .nil
  | _, _, _, _, .cons a b o c d, hn => .cons (RC.nr R' a (hn _ (by simp))) b o (RE.nr R' c (fun c hc => hn c (List.mem_cons_of_mem _ hc))) d
theorem RC.nr (R' : Nat → Prop) : ∀ {l us S}, RC w φ κ R l us S → (∀ a ∈ l, NR a) → RC w φ κ R' l us S
  | _, _, _, .nil, _ => .nil
  | _, _, _, .cons a b c, hn => .cons (RV.nr R' a (hn _ (by simp))) (RC.nr R' b (fun c hc => hn c (List.mem_cons_of_mem _ hc))) c
end

/-! lent: what is owned, as what may be read -/
mutual
def AV.ro : AV → AV
  | .sl _ k s => .sl none k (roE s)
  | .ag l => .ag (roC l)
  | .tu l => .tu (roC l)
  | .fn f l => .fn f (roC l)
  | .gd p a => .gd p a.ro
  | .sc v => .sc v
  | .bp b u off => .bp b u off
  | .hd b u => .hd b u
  | .ep b u k i off => .ep b u k i off
  | .rp k s i off => .rp k s i off
  | .fs k s => .fs k s
  | .hf b u => .hf b u
  | .sb b u k n => .sb b u k n
  | .de => .de
def roE : List (List AV) → List (List AV)
  | [] => []
  | c :: s => roC c :: roE s
def roC : List AV → List AV
  | [] => []
  | a :: l => a.ro :: roC l
end
theorem AV.ro_leaf : ∀ a : AV, a.leaf = true → a.ro.leaf = true
  | .sc _, _ => rfl
  | .sl _ _ _, _ => rfl
theorem leaf_roC : ∀ {c : List AV}, (∀ x ∈ c, x.leaf = true) → ∀ x ∈ roC c, x.leaf = true
  | [], _ => fun x hx => by simp [roC] at hx
  | a :: l, h => fun x hx => by
    simp only [roC, List.mem_cons] at hx
    rcases hx with rfl | hx
    · exact AV.ro_leaf a (h a (by simp))
    · exact leaf_roC (fun y hy => h y (List.mem_cons_of_mem _ hy)) x hx
theorem roE_length : ∀ s, (roE s).length = s.length
  | [] => rfl
  | _ :: s => by simp [roE, roE_length s]
theorem roE_map {α : Type} (enc : α → List AV) : ∀ l : List α, roE (l.map enc) = l.map fun x => roC (enc x)
  | [] => rfl
  | x :: l => by simp [roE, roE_map enc l]

mutual
theorem RV.ro_ : ∀ {a v S}, RV w φ κ R a v S → RV w φ κ (fun b => R b ∨ S b ≠ 0) a.ro v Ct.z
  | _, _, _, .sc h1 => .sc h1
  | _, _, _, .bp h1 => .bp h1
  | _, _, _, .ni => .ni
  | _, _, _, .ne => .ne
  | _, _, _, .ro (s := s) he a b c d => by
      have := RV.ro (RE.ro_ he) (by rw [roE_length]; exact a) b (fun h => .inl (c (by rintro rfl; exact h rfl))) d
      rw [roE_length] at this; exact this
  | _, _, T, .ow (k := k) (s := s) (g := g) (cur := cur) he a b c d e f => by
      have hg : T g ≠ 0 := by rw [f]; simp
      have he' := RE.hist (φ' := φ) (κ' := κ) (R' := fun b => R b ∨ T b ≠ 0) (fun _ _ _ h => h) (fun _ _ _ h => h) (fun x hx => hx.imp id (fun h0 => by rw [f x]; omega)) (RE.ro_ he)
      have := RV.ro he' (by rw [roE_length]; exact b) c (fun h => .inr hg) (b := g) (o := 0) (fun j u hj => by
        rw [cell_of_row w g (0 + j) cur _ (0, 0) a]
        have h1 : (cur.toList.take (s.length * k))[j]? = some u := by rw [e]; exact hj
        rw [List.getElem?_take] at h1
        split at h1
        · simpa using h1
        · cases h1)
      rw [roE_length] at this; exact this
  | _, _, _, .hd h1 h2 => .hd h1 h2
  | _, _, _, .ep h1 => .ep h1
  | _, _, _, .rp he h1 h2 => .rp (RE.hist (fun _ _ _ h => h) (fun _ _ _ h => h) (fun _ h => .inl h) he) (.inl h1) h2
  | _, _, _, .ag hc h1 => .ag (RC.ro_ hc) h1
  | _, _, _, .tu hc => .tu (RC.ro_ hc)
  | _, _, _, .de => .de
  | _, _, _, .gt (a := a) h1 => .gt (RV.ro_ h1)
  | _, _, _, .gf => .gf
  | _, _, _, .fs h1 h2 => .fs (RV.hist (fun _ _ _ h => h) (fun _ _ _ h => h) (fun _ h => .inl h) h1) h2
  | _, _, _, .fn hc => .fn (RC.ro_ hc)
  | _, _, _, .hf h1 => .hf h1
  | _, _, _, .sb h1 h2 => .sb h1 h2
theorem RE.ro_ : ∀ {k s us S}, RE w φ κ R k s us S → RE w φ κ (fun b => R b ∨ S b ≠ 0) k (roE s) us Ct.z
  | _, _, _, _, .nil => .nil
  | _, _, _, _, .cons a b o c d => .cons (S := Ct.z) (T := Ct.z) (RC.hist (fun _ _ _ h => h) (fun _ _ _ h => h) (fun x hx => hx.imp id (fun h0 => by rw [d x]; omega)) (RC.ro_ a)) b ⟨o.1, leaf_roC o.2⟩
      (RE.hist (fun _ _ _ h => h) (fun _ _ _ h => h) (fun x hx => hx.imp id (fun h0 => by rw [d x]; omega)) (RE.ro_ c)) (fun _ => rfl)
theorem RC.ro_ : ∀ {l us S}, RC w φ κ R l us S → RC w φ κ (fun b => R b ∨ S b ≠ 0) (roC l) us Ct.z
  | _, _, _, .nil => .nil
  | _, _, _, .cons a b c => .cons (S := Ct.z) (T := Ct.z) (RV.hist (fun _ _ _ h => h) (fun _ _ _ h => h) (fun x hx => hx.imp id (fun h0 => by rw [c x]; omega)) (RV.ro_ a))
      (RC.hist (fun _ _ _ h => h) (fun _ _ _ h => h) (fun x hx => hx.imp id (fun h0 => by rw [c x]; omega)) (RC.ro_ b)) (fun _ => rfl)
end

/-! lists of values, one by one -/
theorem RC.length : ∀ {l us S}, RC w φ κ R l us S → us.length = l.length
  | _, _, _, .nil => rfl
  | _, _, _, .cons _ b _ => by simp [RC.length b]
theorem RC.at_ : ∀ {l : List AV} {us : List Value}, RC w φ κ R l us Ct.z → ∀ {i : Nat} {a : AV}, l[i]? = some a → ∃ v, us[i]? = some v ∧ RV w φ κ R a v Ct.z
  | _, _, .nil, i, a, h => by simp at h
  | _, _, .cons (S := S) (T := T) h1 b c, i, a, h => by
    obtain ⟨rfl, rfl⟩ := Ct.split c
    cases i with
    | zero => simp at h; subst h; exact ⟨_, by simp, h1⟩
    | succ i => simp at h; obtain ⟨v, hv, hr⟩ := RC.at_ b h; exact ⟨v, by simpa using hv, hr⟩
theorem RC.of_at {l : List AV} {us : List Value} (hl : us.length = l.length) (h : ∀ (i : Nat) (a : AV), l[i]? = some a → ∃ v, us[i]? = some v ∧ RV w φ κ R a v Ct.z) : RC w φ κ R l us Ct.z := by
  induction l generalizing us with
  | nil => cases us with
    | nil => exact .nil
    | cons _ _ => simp at hl
  | cons a l ih => cases us with
    | nil => simp at hl
    | cons v us =>
      obtain ⟨v', hv, hr⟩ := h 0 a rfl
      simp at hv; subst hv
      exact .cons (S := Ct.z) (T := Ct.z) hr (ih (by simpa using hl) fun i a hi => by simpa using h (i + 1) a (by simpa using hi)) fun _ => rfl
theorem RC.set_ {l : List AV} {us : List Value} {i : Nat} {a : AV} {v : Value} (h : RC w φ κ R l us Ct.z) (ha : RV w φ κ R a v Ct.z) : RC w φ κ R (l.set i a) (us.set i v) Ct.z :=
  RC.of_at (by simp [h.length]) fun j b hb => by
    rw [List.getElem?_set] at hb ⊢
    by_cases hij : i = j
    · rw [if_pos hij] at hb ⊢
      by_cases hil : i < l.length
      · rw [if_pos hil] at hb; rw [if_pos (by rw [h.length]; exact hil)]
        injection hb with hb; subst hb
        exact ⟨v, rfl, ha⟩
      · rw [if_neg hil] at hb; cases hb
    · rw [if_neg hij] at hb ⊢
      exact h.at_ hb
theorem RC.append {l m : List AV} {us vs : List Value} {S T U : Ct} (h : RC w φ κ R l us S) (k : RC w φ κ R m vs T) (hU : ∀ x, U x = S x + T x) : RC w φ κ R (l ++ m) (us ++ vs) U := by
  induction l generalizing us S U with
  | nil =>
    cases h
    have : U = T := funext fun x => by have := hU x; simp only [Ct.z] at this; omega
    subst this; exact k
  | cons a l ih =>
    cases h with
    | cons h1 h2 h3 => exact .cons h1 (ih h2 fun _ => rfl) fun x => by rw [hU, h3]; omega
theorem RE.append {k : Nat} {s r : List (List AV)} {us vs : List Value} {S T U : Ct} (h : RE w φ κ R k s us S) (h' : RE w φ κ R k r vs T) (hU : ∀ x, U x = S x + T x) : RE w φ κ R k (s ++ r) (us ++ vs) U := by
  induction s generalizing us S U with
  | nil =>
    cases h
    have : U = T := funext fun x => by have := hU x; simp only [Ct.z] at this; omega
    subst this; exact h'
  | cons a l ih =>
    cases h with
    | cons h1 h2 o h3 h4 => rw [List.append_assoc]; exact .cons h1 h2 o (ih h3 fun _ => rfl) fun x => by rw [hU, h4]; omega
theorem RE.at_ {k : Nat} : ∀ {s : List (List AV)} {us : List Value}, RE w φ κ R k s us Ct.z → ∀ {i : Nat} {c : List AV}, s[i]? = some c → ∃ cs, RC w φ κ R c cs Ct.z ∧ cs.length = k ∧ ((∀ u ∈ cs, u.oneCell' = true) ∧ ∀ x ∈ c, x.leaf = true) ∧ ∀ j u, cs[j]? = some u → us[i * k + j]? = some u
  | _, _, .nil, i, a, h => by simp at h
  | _, _, .cons (us := us) (vs := vs) h1 hk o b c, i, a, h => by
    obtain ⟨rfl, rfl⟩ := Ct.split c
    cases i with
    | zero =>
      simp at h; subst h
      refine ⟨us, h1, hk, o, fun j u hu => ?_⟩
      have hj : j < us.length := (List.getElem?_eq_some_iff.1 hu).1
      simpa [List.getElem?_append_left hj] using hu
    | succ i =>
      simp at h
      obtain ⟨cs, hr, hl, ho, hc⟩ := RE.at_ b h
      refine ⟨cs, hr, hl, ho, fun j u hu => ?_⟩
      rw [List.getElem?_append_right (by rw [hk, Nat.add_mul]; omega), hk]
      rw [show (i + 1) * k + j - k = i * k + j by rw [Nat.add_mul]; omega]
      exact hc j u hu

/-! slices hang on no number -/
mutual
theorem RV.any (φ' : Fi) (κ' : Ka) : ∀ {a v S}, RV w φ κ R a v S → a.leaf = true → RV w φ' κ' R a v S
  | _, _, _, .sc h1, _ => .sc h1
  | _, _, _, .ni, _ => .ni
  | _, _, _, .ne, _ => .ne
  | _, _, _, .ro he a b c d, _ => .ro (RE.any φ' κ' he) a b c d
  | _, _, _, .ow he a b c d e f, _ => .ow (RE.any φ' κ' he) a b c d e f
theorem RE.any (φ' : Fi) (κ' : Ka) : ∀ {k s us S}, RE w φ κ R k s us S → RE w φ' κ' R k s us S
  | _, _, _, _, .nil => .nil
  | _, _, _, _, .cons a b o c d => .cons (RC.any φ' κ' a o.2) b o (RE.any φ' κ' c) d
theorem RC.any (φ' : Fi) (κ' : Ka) : ∀ {l us S}, RC w φ κ R l us S → (∀ x ∈ l, x.leaf = true) → RC w φ' κ' R l us S
  | _, _, _, .nil, _ => .nil
  | _, _, _, .cons a b c, h => .cons (RV.any φ' κ' a (h _ (by simp))) (RC.any φ' κ' b fun x hx => h x (List.mem_cons_of_mem _ hx)) c
end
/-- what can be handed on: an owned slice alone cannot -/
def AV.cp : AV → AV
  | .sl (some _) _ _ => .de
  | a => a
theorem RV.cp {a : AV} {v : Value} {S : Ct} (h : RV w φ κ R a v S) (hl : a.leaf = true) : RV w φ κ R a.cp v Ct.z := by
  cases h with
  | sc h => exact .sc h
  | @ni o k => cases o; exact .ni; exact .de
  | @ne o k => cases o; exact .ne; exact .de
  | ro a b c d e => exact .ro a b c d e
  | ow => exact .de
  | _ => cases hl
theorem RC.cp : ∀ {l : List AV} {us : List Value} {S : Ct}, RC w φ κ R l us S → (∀ x ∈ l, x.leaf = true) → RC w φ κ R (l.map AV.cp) us Ct.z
  | _, _, _, .nil, _ => .nil
  | _, _, _, .cons a b _, h => .cons (S := Ct.z) (T := Ct.z) (RV.cp a (h _ (by simp))) (RC.cp b fun x hx => h x (List.mem_cons_of_mem _ hx)) fun _ => rfl
end
end Go.Proofs.Ytkdbedbefojieaa
