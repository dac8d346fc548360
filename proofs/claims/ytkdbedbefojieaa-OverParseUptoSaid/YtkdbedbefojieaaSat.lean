/-
  A FRAME AND ITS MEMORY, as abstract values: slots of the frame, numbered boxes and arrays; what it means that a world holds them. Nothing here names a function of the program.
-/
import Derived.Test.YtkdbedbefojieaaAv
namespace Go.Proofs.Ytkdbedbefojieaa
set_option linter.unusedVariables false
set_option linter.unusedSimpArgs false
open Go.RowKit

/-- what lies under a number: cells of a variable, an array that a slice owns, nothing any more -/
inductive Bx where
  | c (T : TypeId) (l : List AV)
  | r (e : TypeId) (k : Nat) (s : List (List AV))
  | x
  | o
structure Sl where
  u : Nat
  b : Bx
instance : Inhabited Sl := ⟨⟨0, .x⟩⟩
/-- the frame's slots; the numbered things -/
structure AS where
  t : List AV
  b : List Sl

/-- what an activation stands on: what it may read, the world at its beginning, what it owns there -/
structure Cx where
  R : Nat → Prop
  w0 : World
  S0 : Ct
  g0 : List Nat

/-- what a callee may turn: nothing that was there and that it does not own -/
structure Fr (w w' : World) (S : Ct) : Prop where
  os : w'.os = w.os
  tape : w'.tape = w.tape
  output : w'.output = w.output
  size : w.heap.size ≤ w'.heap.size
  block : ∀ b, b < w.heap.size → S b = 0 → w'.heap[b]? = w.heap[b]?
theorem Fr.refl (w : World) (S : Ct) : Fr w w S := ⟨rfl, rfl, rfl, Nat.le_refl _, fun _ _ _ => rfl⟩

def sumF (f : Nat → Ct) : Nat → Nat → Nat
  | 0, _ => 0
  | n + 1, x => sumF f n x + f n x
def updF (f : Nat → Ct) (j : Nat) (g : Ct) : Nat → Ct := fun i => if i = j then g else f i
theorem sumF_congr {f g : Nat → Ct} {x : Nat} : ∀ n, (∀ i, i < n → f i x = g i x) → sumF f n x = sumF g n x
  | 0, _ => rfl
  | n + 1, h => by simp only [sumF]; rw [sumF_congr n fun i hi => h i (by omega), h n (by omega)]
theorem sumF_upd (f : Nat → Ct) (j : Nat) (g : Ct) (x : Nat) : ∀ n, j < n → sumF (updF f j g) n x + f j x = sumF f n x + g x
  | 0, h => by omega
  | n + 1, h => by
    simp only [sumF]
    by_cases hj : j = n
    · subst hj
      have : sumF (updF f j g) j x = sumF f j x := sumF_congr j fun i hi => by simp [updF, show i ≠ j by omega]
      rw [this]; simp [updF]; omega
    · have := sumF_upd f j g x n (by omega)
      have h2 : updF f j g n = f n := by simp [updF, Ne.symm hj]
      rw [h2]; omega
theorem sumF_le (f : Nat → Ct) (x : Nat) : ∀ n i, i < n → f i x ≤ sumF f n x
  | 0, i, h => by omega
  | n + 1, i, h => by
    simp only [sumF]
    by_cases hi : i = n
    · subst hi; omega
    · have := sumF_le f x n i (by omega); omega
theorem sumF_le2 (f : Nat → Ct) (x : Nat) : ∀ n i j, i < n → j < n → i ≠ j → f i x + f j x ≤ sumF f n x
  | 0, i, j, h, _, _ => by omega
  | n + 1, i, j, h, h', hij => by
    simp only [sumF]
    by_cases hi : i = n
    · subst hi; have := sumF_le f x i j (by omega); omega
    · by_cases hj : j = n
      · subst hj; have := sumF_le f x j i (by omega); omega
      · have := sumF_le2 f x n i j (by omega) (by omega) hij; omega

/-- slot i holds B at its version u -/
inductive RS (w : World) (φ : Fi) (κ : Ka) (R : Nat → Prop) (i u : Nat) : Bx → Ct → Prop
  | c {T l vs g S} : φ i u = some g → w.heap[g]? = some (.cells vs.toArray T (0, 0)) → RC w φ κ R l vs Ct.z → (∀ v ∈ vs, v.oneCell' = true) → (∀ x, S x = if x = g then 1 else 0) → RS w φ κ R i u (.c T l) S
  | r {e k s v S} : κ i u = some v → RV w φ κ R (.sl (some e) k s) v S → RS w φ κ R i u (.r e k s) S
  | x : RS w φ κ R i u .x Ct.z
  | o : RS w φ κ R i u .o Ct.z
theorem RS.hist {w : World} {φ φ' : Fi} {κ κ' : Ka} {R : Nat → Prop} {i u : Nat} {B : Bx} {S : Ct} (hφ : ∀ b u g, φ b u = some g → φ' b u = some g) (hκ : ∀ b u v, κ b u = some v → κ' b u = some v) (h : RS w φ κ R i u B S) : RS w φ' κ' R i u B S := by
  cases h with
  | c a b c d e => exact .c (hφ _ _ _ a) b (RC.hist hφ hκ (fun _ h => h) c) d e
  | r a b => exact .r (hκ _ _ _ a) (RV.hist hφ hκ (fun _ h => h) b)
  | x => exact .x
  | o => exact .o
theorem RS.keep {w w' : World} {φ : Fi} {κ : Ka} {R : Nat → Prop} {i u : Nat} {B : Bx} {S : Ct} (hR : ∀ b, R b → w'.heap[b]? = w.heap[b]?) (h : RS w φ κ R i u B S) (hS : ∀ b, S b ≠ 0 → w'.heap[b]? = w.heap[b]?) : RS w' φ κ R i u B S := by
  cases h with
  | c a b c d e => exact .c a ((hS _ (by rw [e]; simp)).trans b) (RC.keep hR c fun b hb => absurd rfl hb) d e
  | r a b => exact .r a (RV.keep hR b hS)
  | x => exact .x
  | o => exact .o

theorem RS.rmono {w : World} {φ : Fi} {κ : Ka} {R R' : Nat → Prop} {i u : Nat} {B : Bx} {S : Ct} (hR : ∀ x, R x → R' x) (h : RS w φ κ R i u B S) : RS w φ κ R' i u B S := by
  cases h with
  | c a b c d e => exact .c a b (RC.hist (fun _ _ _ h => h) (fun _ _ _ h => h) hR c) d e
  | r a b => exact .r a (RV.hist (fun _ _ _ h => h) (fun _ _ _ h => h) hR b)
  | x => exact .x
  | o => exact .o
/-- the world holds the state; L: what is held besides -/
structure SatW (X : Cx) (φ : Fi) (κ : Ka) (f : Nat → Ct) (L : Ct) (s : AS) (a : Act) (w : World) : Prop where
  tm : RC w φ κ X.R s.t a.tmps.toList Ct.z
  df : a.defers = []
  sl : ∀ (i : Nat) (e : Sl), s.b[i]? = some e → RS w φ κ X.R i e.u e.b (f i)
  one : ∀ x, sumF f s.b.length x + L x ≤ 1
  own : ∀ x, sumF f s.b.length x + L x ≠ 0 → x < w.heap.size ∧ (X.S0 x ≠ 0 ∨ X.w0.heap.size ≤ x)
  rd : ∀ x, X.R x → x < w.heap.size ∧ sumF f s.b.length x + L x = 0
  fr : Fr X.w0 w X.S0
  bas : ∀ (i g : Nat), X.g0[i]? = some g → φ i 0 = some g
  new : ∀ (i v : Nat), (∀ e, s.b[i]? = some e → e.u < v) → φ i v = none ∧ κ i v = none
/-- more may be read than at the beginning: what was one's own -/
structure Cx.le (X X' : Cx) : Prop where
  w0 : X'.w0 = X.w0
  S0 : X'.S0 = X.S0
  g0 : X'.g0 = X.g0
  up : ∀ x, X.R x → X'.R x
  dn : ∀ x, X'.R x → X.R x ∨ X.S0 x ≠ 0 ∨ X.w0.heap.size ≤ x
theorem Cx.le.rfl {X : Cx} : X.le X := ⟨.refl _, .refl _, .refl _, fun _ h => h, fun _ h => .inl h⟩
theorem Cx.le.trans {X Y Z : Cx} (h : X.le Y) (k : Y.le Z) : X.le Z :=
  ⟨k.w0.trans h.w0, k.S0.trans h.S0, k.g0.trans h.g0, fun x hx => k.up x (h.up x hx), fun x hx => (k.dn x hx).elim (h.dn x) fun h' => .inr (by rw [h.S0, h.w0] at h'; exact h')⟩
def Sat (X : Cx) (s : AS) (a : Act) (w : World) : Prop := ∃ X' φ κ f, X.le X' ∧ SatW X' φ κ f Ct.z s a w

section
variable {X : Cx} {φ φ' : Fi} {κ κ' : Ka} {f : Nat → Ct} {L L' : Ct} {s : AS} {a : Act} {w w' : World}
theorem SatW.size (h : SatW X φ κ f L s a w) : a.tmps.size = s.t.length := by simpa using h.tm.length
theorem SatW.not_rd (h : SatW X φ κ f L s a w) {x : Nat} (hx : X.R x) : sumF f s.b.length x + L x = 0 := by
  exact (h.rd x hx).2
/-- a slot of the frame is written -/
theorem SatW.put (h : SatW X φ κ f L s a w) (d : Nat) {av : AV} {v : Value} (hv : RV w φ κ X.R av v Ct.z) : SatW X φ κ f L ⟨s.t.set d av, s.b⟩ (a.put (some d) v) w :=
  { tm := by
      simp only [Act.put]
      rw [Array.toList_setIfInBounds]
      exact h.tm.set_ hv
    df := h.df, sl := h.sl, one := h.one, own := h.own, rd := h.rd, fr := h.fr, bas := h.bas, new := h.new }
theorem SatW.putN (h : SatW X φ κ f L s a w) (v : Value) : SatW X φ κ f L s (a.put none v) w := h
/-- one numbered thing turns, and with it the world, in its own blocks and new ones alone -/
theorem SatW.turn (h : SatW X φ κ f L s a w) {j : Nat} {e : Sl} (hj : s.b[j]? = some e) {u : Nat} {B : Bx} {g L' : Ct}
    (hφ : ∀ b u g, φ b u = some g → φ' b u = some g) (hκ : ∀ b u v, κ b u = some v → κ' b u = some v)
    (hsz : w.heap.size ≤ w'.heap.size) (hos : w'.os = w.os) (htp : w'.tape = w.tape) (hou : w'.output = w.output)
    (hblk : ∀ x, x < w.heap.size → f j x + L x = 0 → w'.heap[x]? = w.heap[x]?)
    (hB : RS w' φ' κ' X.R j u B g) (hone : ∀ x, x < w.heap.size → g x + L' x ≤ f j x + L x) (hnew : ∀ x, w.heap.size ≤ x → g x + L' x ≤ 1 ∧ (g x + L' x ≠ 0 → x < w'.heap.size))
    (hu : e.u ≤ u) (hn : ∀ i v, (i ≠ j ∨ u < v) → φ i v = none → φ' i v = none) (hn' : ∀ i v, (i ≠ j ∨ u < v) → κ i v = none → κ' i v = none) :
    SatW X φ' κ' (updF f j g) L' ⟨s.t, s.b.set j ⟨u, B⟩⟩ a w' := by
  have hjl : j < s.b.length := (List.getElem?_eq_some_iff.1 hj).1
  have hlen : (s.b.set j ⟨u, B⟩).length = s.b.length := by simp
  have hR : ∀ b, X.R b → w'.heap[b]? = w.heap[b]? := fun b hb => by
    have h1 := h.not_rd hb
    have h2 := sumF_le f b s.b.length j hjl
    have h3 := (h.rd b hb).1
    have h4 := h.fr.size
    exact hblk b (by omega) (by omega)
  have hzero : ∀ x, w.heap.size ≤ x → sumF f s.b.length x + L x = 0 := fun x hx => by
    have := h.own x
    omega
  have hsum : ∀ x, sumF (updF f j g) s.b.length x + f j x = sumF f s.b.length x + g x := fun x => sumF_upd f j g x _ hjl
  have hrd : ∀ x, X.R x → x < w'.heap.size ∧ sumF (updF f j g) (s.b.set j ⟨u, B⟩).length x + L' x = 0 := fun x hx => by
    have h1 := h.rd x hx
    have h2 := hone x h1.1
    have h3 := hsum x
    have h4 := sumF_le f x s.b.length j hjl
    rw [hlen]
    exact ⟨by omega, by omega⟩
  refine ⟨(RC.hist hφ hκ (fun _ h => h) (RC.keep hR h.tm fun b hb => absurd rfl hb)), h.df, ?_, ?_, ?_, hrd, ?_, fun i g hi => hφ _ _ _ (h.bas i g hi), ?_⟩
  · intro i e' hi
    by_cases hij : i = j
    · subst hij
      rw [List.getElem?_set_self hjl] at hi
      injection hi with hi; subst hi
      simpa [updF] using hB
    · rw [List.getElem?_set_ne (Ne.symm hij)] at hi
      have hil : i < s.b.length := (List.getElem?_eq_some_iff.1 hi).1
      simp only [updF, hij, if_false]
      refine RS.hist hφ hκ (RS.keep hR (h.sl i e' hi) fun b hb => ?_)
      have h1 := sumF_le2 f b s.b.length i j hil hjl hij
      have h2 := h.one b
      have h3 := h.own b
      have h4 : b < w.heap.size := (h3 (by omega)).1
      exact hblk b h4 (by omega)
  · intro x
    rw [hlen]
    have h1 := hsum x
    have h2 := h.one x
    have h4 := sumF_le f x s.b.length j hjl
    rcases Nat.lt_or_ge x w.heap.size with h3 | h3
    · have := hone x h3; omega
    · have := hnew x h3; have := hzero x h3; omega
  · intro x hx
    rw [hlen] at hx
    have h1 := hsum x
    have h4 := sumF_le f x s.b.length j hjl
    rcases Nat.lt_or_ge x w.heap.size with h3 | h3
    · have := hone x h3
      have := h.own x (by omega)
      exact ⟨by omega, this.2⟩
    · have := hnew x h3
      have := hzero x h3
      have h5 := h.fr.size
      exact ⟨by omega, .inr (by omega)⟩
  · have h0 := h.fr
    refine ⟨hos.trans h0.os, htp.trans h0.tape, hou.trans h0.output, Nat.le_trans h0.size hsz, fun b hb hS => ?_⟩
    have h1 := h.own b
    have h4 := sumF_le f b s.b.length j hjl
    rw [hblk b (Nat.lt_of_lt_of_le hb h0.size) (by omega)]
    exact h0.block b hb hS
  · intro i v hiv
    have hlt : ∀ e, s.b[i]? = some e → e.u < v := by
      intro e' he'
      by_cases hij : i = j
      · subst hij
        have := hiv (⟨u, B⟩ : Sl) (List.getElem?_set_self hjl)
        rw [hj] at he'; injection he' with he'; subst he'
        simp only at this; omega
      · exact hiv e' (by rw [List.getElem?_set_ne (Ne.symm hij)]; exact he')
    have hc : i ≠ j ∨ u < v := by
      by_cases hij : i = j
      · subst hij; exact .inr (hiv (⟨u, B⟩ : Sl) (List.getElem?_set_self hjl))
      · exact .inl hij
    obtain ⟨n1, n2⟩ := h.new i v hlt
    exact ⟨hn i v hc n1, hn' i v hc n2⟩
/-- a number more, with nothing under it -/
theorem SatW.slot (h : SatW X φ κ f L s a w) : SatW X φ κ (updF f s.b.length Ct.z) L ⟨s.t, s.b ++ [⟨0, .x⟩]⟩ a w := by
  have hs : ∀ x, sumF (updF f s.b.length Ct.z) (s.b ++ [(⟨0, .x⟩ : Sl)]).length x = sumF f s.b.length x := fun x => by
    simp only [List.length_append, List.length_cons, List.length_nil, sumF]
    rw [sumF_congr (g := f) _ fun i hi => by simp [updF, show i ≠ s.b.length by omega]]
    simp [updF]
  refine ⟨h.tm, h.df, ?_, fun x => by rw [hs]; exact h.one x, fun x hx => h.own x (by rw [hs] at hx; exact hx), fun x hx => by rw [hs]; exact h.rd x hx, h.fr, h.bas, ?_⟩
  · intro i e hi
    by_cases hil : i < s.b.length
    · rw [List.getElem?_append_left hil] at hi
      simp only [updF, show i ≠ s.b.length by omega, if_false]
      exact h.sl i e hi
    · have : i = s.b.length := by
        have := (List.getElem?_eq_some_iff.1 hi).1; simp at this; omega
      subst this
      simp at hi; subst hi
      simp only [updF, if_true]
      exact .x
  · intro i v hiv
    refine h.new i v fun e he => hiv e ?_
    rw [List.getElem?_append_left (List.getElem?_eq_some_iff.1 he).1]; exact he
theorem SatW.drop (h : SatW X φ κ f L s a w) (hL : ∀ x, L' x ≤ L x) : SatW X φ κ f L' s a w :=
  { tm := h.tm, df := h.df, sl := h.sl, one := fun x => by have := h.one x; have := hL x; omega, own := fun x hx => h.own x (by have := hL x; omega), rd := fun x hx => by have := h.rd x hx; have := hL x; exact ⟨by omega, by omega⟩, fr := h.fr, bas := h.bas, new := h.new }
/-- more may be read -/
theorem SatW.grow (h : SatW X φ κ f L s a w) {R' : Nat → Prop} (hup : ∀ x, X.R x → R' x) (hrd : ∀ x, R' x → x < w.heap.size ∧ sumF f s.b.length x + L x = 0) : SatW ⟨R', X.w0, X.S0, X.g0⟩ φ κ f L s a w :=
  { tm := RC.hist (fun _ _ _ h => h) (fun _ _ _ h => h) hup h.tm, df := h.df, sl := fun i e he => RS.rmono hup (h.sl i e he), one := h.one, own := h.own, rd := hrd, fr := h.fr, bas := h.bas, new := h.new }
/-- a draw -/
theorem SatW.world (h : SatW X φ κ f L s a w) (hh : w'.heap = w.heap) (hos : w'.os = w.os) (htp : w'.tape = w.tape) (hou : w'.output = w.output) : SatW X φ κ f L s a w' := by
  have hb : ∀ b : Nat, w'.heap[b]? = w.heap[b]? := fun b => by rw [hh]
  refine ⟨RC.keep (fun b _ => hb b) h.tm fun b _ => hb b, h.df, fun i e he => RS.keep (fun b _ => hb b) (h.sl i e he) fun b _ => hb b, h.one, fun x hx => by rw [hh]; exact h.own x hx, fun x hx => by rw [hh]; exact h.rd x hx, ?_, h.bas, h.new⟩
  have h0 := h.fr
  exact ⟨hos.trans h0.os, htp.trans h0.tape, hou.trans h0.output, by rw [hh]; exact h0.size, fun b hb' hS => (hb b).trans (h0.block b hb' hS)⟩
end
end Go.Proofs.Ytkdbedbefojieaa
