/-
  CALLS: what is handed over, lent and handed back, by abstract values. Nothing here names a function of the program.
-/
import Derived.Test.YtkdbedbefojieaaOp4
namespace Go.Proofs.Ytkdbedbefojieaa
set_option linter.unusedVariables false
set_option linter.unusedSimpArgs false
open Go.RowKit
set_option maxRecDepth 100000

section
variable {X : Cx} {φ φ' : Fi} {κ κ' : Ka} {f : Nat → Ct} {L L' : Ct} {s : AS} {a : Act} {w w' : World}

/-- other things in the frame's slots -/
theorem SatW.retm (h : SatW X φ κ f L s a w) {t : List AV} {a' : Act} (ht : RC w φ κ X.R t a'.tmps.toList Ct.z) (hd : a'.defers = []) : SatW X φ κ f L ⟨t, s.b⟩ a' w :=
  { tm := ht, df := hd, sl := h.sl, one := h.one, own := h.own, rd := h.rd, fr := h.fr, bas := h.bas, new := h.new }
theorem SatW.lim (h : SatW X φ κ f L s a w) (e : ∀ x, L x = L' x) : SatW X φ κ f L' s a w := (funext e : L = L') ▸ h

/-- an array of one's own is taken out -/
theorem SatW.take (h : SatW X φ κ f L s a w) {j u : Nat} {B : Bx} (hj : s.b[j]? = some ⟨u, B⟩) (B' : Bx) (hB : ∀ φ κ, RS w φ κ X.R j u B' Ct.z) :
    RS w φ κ X.R j u B (f j) ∧ SatW X φ κ (updF f j Ct.z) (fun x => f j x + L x) ⟨s.t, s.b.set j ⟨u, B'⟩⟩ a w := by
  refine ⟨h.sl j _ hj, h.turn (w' := w) hj (fun _ _ _ h => h) (fun _ _ _ h => h) (Nat.le_refl _) rfl rfl rfl (fun _ _ _ => rfl) (hB _ _) (fun x _ => by simp [Ct.z]) (fun x hx => ?_) (Nat.le_refl _) (fun _ _ _ h => h) (fun _ _ _ h => h)⟩
  have hjl : j < s.b.length := (List.getElem?_eq_some_iff.1 hj).1
  have h1 := sumF_le f x _ j hjl
  have h2 := h.own x
  have h3 := h.one x
  simp only [Ct.z]
  exact ⟨by omega, fun h0 => by have := h2 (by omega); exact this.1⟩

/-- an array of one's own is one's own no more: it may be read, by all -/
theorem SatW.frz (h : SatW X φ κ f L s a w) {j u : Nat} {e : TypeId} {k : Nat} {rows : List (List AV)} (hj : s.b[j]? = some ⟨u, .r e k rows⟩) :
    ∃ X' v, X.le X' ∧ κ j u = some v ∧ RV w φ κ X'.R (.sl none k (roE rows)) v Ct.z ∧ SatW X' φ κ (updF f j Ct.z) L ⟨s.t, s.b.set j ⟨u, .x⟩⟩ a w := by
  obtain ⟨hrs, ht⟩ := h.take hj .x fun _ _ => .x
  generalize hF : f j = F at hrs ht
  cases hrs with
  | r hκ hv =>
    have hgr : ∀ x, F x ≠ 0 → x < w.heap.size ∧ (X.S0 x ≠ 0 ∨ X.w0.heap.size ≤ x) ∧ sumF (updF f j Ct.z) (s.b.set j ⟨u, .x⟩).length x + L x = 0 := fun x hx => by
      have h1 := ht.own x (by dsimp only; omega)
      have h2 := ht.one x
      dsimp only at h2
      exact ⟨h1.1, h1.2, by omega⟩
    refine ⟨⟨fun x => X.R x ∨ F x ≠ 0, X.w0, X.S0, X.g0⟩, _, ⟨rfl, rfl, rfl, fun x hx => .inl hx, fun x hx => hx.imp id fun h0 => (hgr x h0).2.1⟩, hκ, RV.ro_ hv, ?_⟩
    refine SatW.grow (ht.drop fun x => by (try dsimp only); omega) (fun x hx => .inl hx) fun x hx => ?_
    rcases hx with hx | hx
    · have := ht.rd x hx; dsimp only at this ⊢; exact ⟨this.1, by omega⟩
    · exact ⟨(hgr x hx).1, (hgr x hx).2.2⟩

/-- cells are closed: what they own goes with them -/
inductive ClsC : List Sl → List AV → List AV → List Sl → Prop
  | nil {b} : ClsC b [] [] b
  | hd {b i u e k s l l' b'} : b[i]? = some ⟨u, .r e k s⟩ → ClsC (b.set i ⟨u, .x⟩) l l' b' → ClsC b (.hd i u :: l) (.sl (some e) k s :: l') b'
  | nl {b o k l l' b'} : ClsC b l l' b' → ClsC b (.sc (.slice none 0 0) :: l) (.sl o k [] :: l') b'
  | leaf {b a l l' b'} : a.leaf = true → ClsC b l l' b' → ClsC b (a :: l) (a :: l') b'
  | fn {b f l l' b'} : ClsC b l l' b' → ClsC b (.fn f [] :: l) (.sc (.func (.func f) #[] #[]) :: l') b'
  | fz {b i u e k s s' l l' b'} : b[i]? = some ⟨u, .r e k s⟩ → roE s = s' → ClsC (b.set i ⟨u, .x⟩) l l' b' → ClsC b (.hd i u :: l) (.sl none k s' :: l') b'
theorem RV.nil_sl {R : Nat → Prop} {v : Value} {S : Ct} {o : Option TypeId} {k : Nat} (h : RV w φ κ R (.sc (.slice none 0 0)) v S) : RV w φ κ R (.sl o k []) v S := by cases h; exact .ni
theorem SatW.cls {b : List Sl} {l l' : List AV} {b' : List Sl} (hc : ClsC b l l' b') : ∀ {f : Nat → Ct} {L : Ct} {t : List AV} {vs : List Value}, SatW X φ κ f L ⟨t, b⟩ a w → RC w φ κ X.R l vs Ct.z →
    ∃ X' S f', X.le X' ∧ RC w φ κ X'.R l' vs S ∧ (∀ x ∈ l', x.leaf = true) ∧ SatW X' φ κ f' (fun x => S x + L x) ⟨t, b'⟩ a w := by
  induction hc generalizing X with
  | nil => exact fun h hr => ⟨X, Ct.z, _, .rfl, hr, (fun _ h => by cases h), h.lim fun x => by simp [Ct.z]⟩
  | @hd b i u e k s l l' b' hi _ ih =>
    intro f L t vs h hr
    cases hr with
    | cons h1 h2 h3 =>
      obtain ⟨rfl, rfl⟩ := Ct.split h3
      obtain ⟨hrs, ht⟩ := h.take hi .x fun _ _ => .x
      obtain ⟨X1, S, f', hX, h4, h4', h5⟩ := ih ht h2
      cases hrs with
      | r hκ hv =>
        cases h1 with
        | hd hκ' _ =>
          rw [hκ] at hκ'; injection hκ' with e; subst e
          exact ⟨X1, fun x => f i x + S x, f', hX, .cons (RV.hist (fun _ _ _ h => h) (fun _ _ _ h => h) hX.up hv) h4 fun _ => rfl, (fun x hx => by rcases List.mem_cons.1 hx with rfl | hx; rfl; exact h4' x hx), h5.lim fun x => by (try dsimp only); omega⟩
  | nl _ ih =>
    intro f L t vs h hr
    cases hr with
    | cons h1 h2 h3 =>
      obtain ⟨rfl, rfl⟩ := Ct.split h3
      obtain ⟨X1, S, f', hX, h4, h4', h5⟩ := ih h h2
      exact ⟨X1, S, f', hX, .cons (RV.nil_sl (RV.hist (fun _ _ _ h => h) (fun _ _ _ h => h) hX.up h1)) h4 fun x => by simp [Ct.z], (fun x hx => by rcases List.mem_cons.1 hx with rfl | hx; rfl; exact h4' x hx), h5⟩
  | leaf hl _ ih =>
    intro f L t vs h hr
    cases hr with
    | cons h1 h2 h3 =>
      obtain ⟨rfl, rfl⟩ := Ct.split h3
      obtain ⟨X1, S, f', hX, h4, h4', h5⟩ := ih h h2
      exact ⟨X1, S, f', hX, .cons (RV.hist (fun _ _ _ h => h) (fun _ _ _ h => h) hX.up h1) h4 fun x => by simp [Ct.z], (fun x hx => by rcases List.mem_cons.1 hx with rfl | hx; exact hl; exact h4' x hx), h5⟩
  | fn _ ih =>
    intro f L t vs h hr
    cases hr with
    | cons h1 h2 h3 =>
      obtain ⟨rfl, rfl⟩ := Ct.split h3
      obtain ⟨X1, S, f', hX, h4, h4', h5⟩ := ih h h2
      exact ⟨X1, S, f', hX, .cons (T := S) (S := Ct.z) (by cases h1 with | fn hc => cases hc; exact .sc rfl) h4 fun x => by simp [Ct.z], (fun x hx => by rcases List.mem_cons.1 hx with rfl | hx; rfl; exact h4' x hx), h5⟩
  | fz hi hs _ ih =>
    intro f L t vs h hr
    cases hr with
    | cons h1 h2 h3 =>
      obtain ⟨rfl, rfl⟩ := Ct.split h3
      subst hs
      obtain ⟨X0, v0, hX0, hκ, hv0, ht⟩ := h.frz hi
      obtain ⟨X1, S, f', hX, h4, h4', h5⟩ := ih ht (RC.hist (fun _ _ _ h => h) (fun _ _ _ h => h) hX0.up h2)
      cases h1 with
      | hd hκ' _ =>
        rw [hκ] at hκ'; injection hκ' with e; subst e
        exact ⟨X1, S, f', hX0.trans hX, .cons (S := Ct.z) (T := S) (RV.hist (fun _ _ _ h => h) (fun _ _ _ h => h) hX.up hv0) h4 fun x => by simp [Ct.z], (fun x hx => by rcases List.mem_cons.1 hx with rfl | hx; rfl; exact h4' x hx), h5⟩

/-- boxes are taken out, closed -/
inductive Out : List Sl → List (Nat × Nat) → List Bx → List Sl → Prop
  | nil {b} : Out b [] [] b
  | cons {b k u T l l' b1 ks bs b2} : b[k]? = some ⟨u, .c T l⟩ → ClsC (b.set k ⟨u, .o⟩) l l' b1 → Out b1 ks bs b2 → Out b ((k, u) :: ks) (.c T l' :: bs) b2
/-- a box, closed, in block g -/
inductive RX (w : World) (R : Nat → Prop) : Bx → Nat → Ct → Prop
  | c {T l vs g S S'} : w.heap[g]? = some (.cells vs.toArray T (0, 0)) → RC w (fun _ _ => none) (fun _ _ => none) R l vs S' → (∀ x ∈ l, x.leaf = true) → (∀ v ∈ vs, v.oneCell' = true) → (∀ x, S x = (if x = g then 1 else 0) + S' x) → RX w R (.c T l) g S
inductive RXs (w : World) (R : Nat → Prop) : List Bx → List Nat → Ct → Prop
  | nil : RXs w R [] [] Ct.z
  | cons {B g S bs gs T U} : RX w R B g S → RXs w R bs gs T → (∀ x, U x = S x + T x) → RXs w R (B :: bs) (g :: gs) U
theorem RXs.length {R : Nat → Prop} : ∀ {bs gs S}, RXs w R bs gs S → gs.length = bs.length
  | _, _, _, .nil => rfl
  | _, _, _, .cons _ h _ => by simp [RXs.length h]
theorem SatW.out {b : List Sl} {ks : List (Nat × Nat)} {bs : List Bx} {b' : List Sl} (hc : Out b ks bs b') : ∀ {f : Nat → Ct} {L : Ct} {t : List AV}, SatW X φ κ f L ⟨t, b⟩ a w →
    ∃ X' gs S f', X.le X' ∧ RXs w X'.R bs gs S ∧ SatW X' φ κ f' (fun x => S x + L x) ⟨t, b'⟩ a w ∧ ∀ (i k u : Nat), ks[i]? = some (k, u) → ∃ g, gs[i]? = some g ∧ φ k u = some g := by
  induction hc generalizing X with
  | nil => exact fun h => ⟨X, [], Ct.z, _, .rfl, .nil, h.lim fun x => by simp [Ct.z], fun i k u h => by simp at h⟩
  | @cons b k u T l l' b1 ks bs b2 hk hcl _ ih =>
    intro f L t h
    obtain ⟨hrs, ht⟩ := h.take hk .o fun _ _ => .o
    generalize hF : f k = F at hrs ht
    cases hrs with
    | c hφ hh hr ho hS =>
      rename_i vs g
      obtain ⟨X1, S1, f1, hX1, h1, h1', h2⟩ := SatW.cls hcl ht hr
      obtain ⟨X2, gs, S2, f2, hX2, h3, h4, h5⟩ := ih h2
      refine ⟨X2, g :: gs, fun x => ((if x = g then 1 else 0) + S1 x) + S2 x, f2, hX1.trans hX2, .cons (.c hh (RC.any _ _ (RC.hist (fun _ _ _ h => h) (fun _ _ _ h => h) hX2.up h1) h1') h1' ho fun _ => rfl) h3 fun _ => rfl, h4.lim fun x => by (try dsimp only); rw [hS x]; omega, ?_⟩
      intro i k' u' hi
      cases i with
      | zero => simp at hi; obtain ⟨rfl, rfl⟩ := hi; exact ⟨g, rfl, hφ⟩
      | succ i => simpa using h5 i k' u' (by simpa using hi)

/-- a call went by: what was not handed over is as it was -/
theorem SatW.went (h : SatW X φ κ f L s a w) (hfr : Fr w w' L) (h1 : ∀ x, L' x ≤ 1) (h2 : ∀ x, L' x ≠ 0 → x < w'.heap.size ∧ (L x ≠ 0 ∨ w.heap.size ≤ x)) : SatW X φ κ f L' s a w' := by
  have hR : ∀ x, X.R x → w'.heap[x]? = w.heap[x]? := fun x hx => hfr.block x (h.blk (.inl hx)) (by have := h.not_rd hx; omega)
  have hf : ∀ i, i < s.b.length → ∀ x, f i x ≠ 0 → w'.heap[x]? = w.heap[x]? := fun i hi x hx => by
    have := sumF_le f x _ i hi
    have h3 := h.one x
    exact hfr.block x (h.blk (.inr ⟨i, hi, hx⟩)) (by omega)
  refine ⟨RC.keep hR h.tm fun x hx => absurd rfl hx, h.df, fun i e he => RS.keep hR (h.sl i e he) (hf i (List.getElem?_eq_some_iff.1 he).1), ?_, ?_, fun x hx => ?_, ?_, h.bas, h.new⟩
  · intro x
    have h3 := h.one x
    have h4 := h1 x
    have h5 := h2 x
    have h6 := h.own x
    omega
  · intro x hx
    have h5 := h2 x
    have h6 := h.own x
    have h7 := h.fr.size
    have h8 := hfr.size
    have h9 := h.one x
    by_cases hL' : L' x = 0
    · have := h6 (by omega); omega
    · have h10 := h5 hL'
      rcases h10.2 with h11 | h11
      · have := h6 (by omega); exact ⟨h10.1, this.2⟩
      · exact ⟨h10.1, .inr (by omega)⟩
  · have h5 := h.rd x hx
    have h6 := h2 x
    have h7 := hfr.size
    exact ⟨by omega, by omega⟩
  · have h0 := h.fr
    refine ⟨hfr.os.trans h0.os, hfr.tape.trans h0.tape, hfr.output.trans h0.output, Nat.le_trans h0.size hfr.size, fun x hx hS => ?_⟩
    have h6 := h.own x
    rw [hfr.block x (Nat.lt_of_lt_of_le hx h0.size) (by omega)]
    exact h0.block x hx hS

/-! opened: what comes owned gets numbers -/
def opnC : List AV → List Sl → List AV × List Sl
  | [], b => ([], b)
  | .sl (some e) k s :: l, b =>
    ((.hd (newS b (.r e k s)).1.1 (newS b (.r e k s)).1.2) :: (opnC l (newS b (.r e k s)).2).1, (opnC l (newS b (.r e k s)).2).2)
  | a :: l, b => (a :: (opnC l b).1, (opnC l b).2)
def opnV : AV → List Sl → AV × List Sl
  | .ag l, b => (.ag (opnC l b).1, (opnC l b).2)
  | .sl (some e) k s, b => (.hd (newS b (.r e k s)).1.1 (newS b (.r e k s)).1.2, (newS b (.r e k s)).2)
  | a, b => (a, b)
def opnL : List AV → List Sl → List AV × List Sl
  | [], b => ([], b)
  | a :: l, b => ((opnV a b).1 :: (opnL l (opnV a b).2).1, (opnL l (opnV a b).2).2)
def opnR : AV → List Sl → AV × List Sl
  | .tu l, b => (.tu (opnL l b).1, (opnL l b).2)
  | a, b => opnV a b

theorem SatW.opn1 (h : SatW X φ κ f L s a w) {e k : Nat} {s' : List (List AV)} {v : Value} {S : Ct} (hv : RV w φ κ X.R (.sl (some e) k s') v S) (hL : ∀ x, L x = S x + L' x) :
    ∃ φ' κ' f', (∀ b u g, φ b u = some g → φ' b u = some g) ∧ (∀ b u v, κ b u = some v → κ' b u = some v) ∧ RV w φ' κ' X.R (.hd (newS s.b (.r e k s')).1.1 (newS s.b (.r e k s')).1.2) v Ct.z ∧ SatW X φ' κ' f' L' ⟨s.t, (newS s.b (.r e k s')).2⟩ a w := by
  have h1 : v.oneCell' = true := by cases hv <;> rfl
  obtain ⟨φ', κ', f', h2, h3, h4, h5, h6⟩ := h.newS_ (w' := w) (B := .r e k s') (g := S) (L' := L') none (some v) (Nat.le_refl _) rfl rfl rfl (fun _ _ _ => rfl)
    (fun φ' κ' j u a b c d => .r d (RV.hist a b (fun _ h => h) hv)) (fun x _ => by have := hL x; omega)
    (fun x hx => by
      have h1 := h.one x
      have h2 := h.own x
      have h3 := hL x
      exact ⟨by omega, fun h0 => (h2 (by omega)).1⟩)
  exact ⟨φ', κ', f', h2, h3, .hd h5 h1, h6⟩
/-- what a result's cells can be -/
def AV.fl : AV → Bool
  | .sc _ | .sl _ _ _ | .bp _ _ _ | .de => true
  | .fn _ c => c.all fun a => match a with | .sc _ | .sl none _ _ | .bp _ _ _ | .de => true | _ => false
  | _ => false
def AV.tree : AV → Bool
  | .sl (some _) _ _ => true
  | _ => false
theorem RV.flz {R : Nat → Prop} {a : AV} {v : Value} {S : Ct} (h : RV w φ κ R a v S) (hf : a.fl = true) (ht : a.tree = false) : S = Ct.z := by
  have key : ∀ {l : List AV} {vs : List Value} {T : Ct}, RC w φ κ R l vs T → (l.all fun a => match a with | .sc _ | .sl none _ _ | .bp _ _ _ | .de => true | _ => false) = true → T = Ct.z := by
    intro l
    induction l with
    | nil => intro vs T h _; cases h; rfl
    | cons b l ih =>
      intro vs T h hl
      simp only [List.all_cons, Bool.and_eq_true] at hl
      cases h with
      | cons h1 h2 h3 =>
        have := ih h2 hl.2
        subst this
        have hz : ∀ {v : Value} {S1 : Ct}, RV w φ κ R b v S1 → S1 = Ct.z := fun h => by
          have hl1 := hl.1
          clear hl h1 ih
          cases h <;> first | rfl | (cases hl1; done)
        have := hz h1
        subst this
        exact funext fun x => by rw [h3]; simp [Ct.z]
  cases h with
  | fn hc => exact key hc hf
  | _ => first | rfl | (cases hf; done) | (cases ht; done)
theorem RV.tree_one {R : Nat → Prop} {a : AV} {v : Value} {S : Ct} (h : RV w φ κ R a v S) (ht : a.tree = true) : ∃ e k s', a = .sl (some e) k s' := by
  cases a <;> first | (cases ht; done) | skip
  rename_i o k s'
  cases o with
  | none => cases ht
  | some e => exact ⟨e, k, s', rfl⟩
theorem opnC_tree {e k : Nat} {s' : List (List AV)} {l : List AV} {b : List Sl} : opnC (.sl (some e) k s' :: l) b = ((.hd (newS b (.r e k s')).1.1 (newS b (.r e k s')).1.2) :: (opnC l (newS b (.r e k s')).2).1, (opnC l (newS b (.r e k s')).2).2) := by rw [opnC]
theorem opnC_flat {a : AV} {l : List AV} {b : List Sl} (ht : a.tree = false) : opnC (a :: l) b = (a :: (opnC l b).1, (opnC l b).2) := by
  cases a <;> first | rfl | skip
  rename_i o k s'
  cases o with
  | none => rfl
  | some e => cases ht
theorem SatW.opnC_ : ∀ {l : List AV} {vs : List Value} {S : Ct} {φ : Fi} {κ : Ka} {f : Nat → Ct} {L L' : Ct} {s : AS}, SatW X φ κ f L s a w → RC w φ κ X.R l vs S → (∀ x, L x = S x + L' x) →
    (∀ x ∈ l, x.fl = true) → ∃ φ' κ' f', (∀ b u g, φ b u = some g → φ' b u = some g) ∧ (∀ b u v, κ b u = some v → κ' b u = some v) ∧ RC w φ' κ' X.R (opnC l s.b).1 vs Ct.z ∧ SatW X φ' κ' f' L' ⟨s.t, (opnC l s.b).2⟩ a w := by
  intro l
  induction l with
  | nil =>
    intro vs S φ κ f L L' s h hr hL _
    cases hr
    exact ⟨φ, κ, f, fun _ _ _ h => h, fun _ _ _ h => h, .nil, h.lim fun x => by have := hL x; simp only [Ct.z] at this; omega⟩
  | cons b l ih =>
    intro vs S φ κ f L L' s h hr hL hfl
    cases hr with
    | @cons _ _ v vs S1 S2 _ h1 h2 h3 =>
      cases ht : b.tree with
      | true =>
        obtain ⟨e, k, s', rfl⟩ := h1.tree_one ht
        obtain ⟨φ1, κ1, f1, e1, e2, e3, e4⟩ := h.opn1 (L' := fun x => S2 x + L' x) h1 (fun x => by (try dsimp only); rw [hL, h3]; omega)
        obtain ⟨φ2, κ2, f2, e5, e6, e7, e8⟩ := ih e4 (RC.hist e1 e2 (fun _ h => h) h2) (fun x => rfl) fun x hx => hfl x (List.mem_cons_of_mem _ hx)
        rw [opnC_tree]
        exact ⟨φ2, κ2, f2, fun _ _ _ h => e5 _ _ _ (e1 _ _ _ h), fun _ _ _ h => e6 _ _ _ (e2 _ _ _ h), .cons (S := Ct.z) (T := Ct.z) (RV.hist e5 e6 (fun _ h => h) e3) e7 fun _ => rfl, e8⟩
      | false =>
        have hz := h1.flz (hfl b (by simp)) ht
        subst hz
        obtain ⟨φ2, κ2, f2, e5, e6, e7, e8⟩ := ih h h2 (L' := L') (fun x => by rw [hL, h3]; simp [Ct.z]) fun x hx => hfl x (List.mem_cons_of_mem _ hx)
        rw [opnC_flat ht]
        exact ⟨φ2, κ2, f2, e5, e6, .cons (S := Ct.z) (T := Ct.z) (RV.hist e5 e6 (fun _ h => h) h1) e7 fun _ => rfl, e8⟩
/-- a value of a call's: plain, a struct's cells, several -/
def AV.fl1 : AV → Prop
  | .ag l => ∀ x ∈ l, x.fl = true
  | a => a.fl = true
theorem SatW.opnV_ {v : Value} {S : Ct} {b : AV} (h : SatW X φ κ f L s a w) (hr : RV w φ κ X.R b v S) (hL : ∀ x, L x = S x + L' x) (hfl : b.fl1) :
    ∃ φ' κ' f', (∀ b u g, φ b u = some g → φ' b u = some g) ∧ (∀ b u v, κ b u = some v → κ' b u = some v) ∧ RV w φ' κ' X.R (opnV b s.b).1 v Ct.z ∧ SatW X φ' κ' f' L' ⟨s.t, (opnV b s.b).2⟩ a w := by
  by_cases hag : ∃ l, b = .ag l
  · obtain ⟨l, rfl⟩ := hag
    cases hr with
    | ag hc ho =>
      obtain ⟨φ2, κ2, f2, e5, e6, e7, e8⟩ := h.opnC_ hc hL hfl
      exact ⟨φ2, κ2, f2, e5, e6, .ag e7 ho, e8⟩
  · have hf : b.fl = true := by cases b <;> first | exact hfl | exact absurd ⟨_, rfl⟩ hag
    cases ht : b.tree with
    | true =>
      obtain ⟨e, k, s', rfl⟩ := hr.tree_one ht
      exact h.opn1 hr hL
    | false =>
      have hz := hr.flz hf ht
      subst hz
      have e : opnV b s.b = (b, s.b) := by
        cases b <;> first | rfl | (cases hf; done) | skip
        rename_i o k s'
        cases o with
        | none => rfl
        | some e => cases ht
      rw [e]
      exact ⟨φ, κ, f, fun _ _ _ h => h, fun _ _ _ h => h, hr, h.lim fun x => by have := hL x; simp only [Ct.z] at this; omega⟩
theorem SatW.opnL_ : ∀ {l : List AV} {vs : List Value} {S : Ct} {φ : Fi} {κ : Ka} {f : Nat → Ct} {L L' : Ct} {s : AS}, SatW X φ κ f L s a w → RC w φ κ X.R l vs S → (∀ x, L x = S x + L' x) →
    (∀ x ∈ l, x.fl1) → ∃ φ' κ' f', (∀ b u g, φ b u = some g → φ' b u = some g) ∧ (∀ b u v, κ b u = some v → κ' b u = some v) ∧ RC w φ' κ' X.R (opnL l s.b).1 vs Ct.z ∧ SatW X φ' κ' f' L' ⟨s.t, (opnL l s.b).2⟩ a w := by
  intro l
  induction l with
  | nil =>
    intro vs S φ κ f L L' s h hr hL _
    cases hr
    exact ⟨φ, κ, f, fun _ _ _ h => h, fun _ _ _ h => h, .nil, h.lim fun x => by have := hL x; simp only [Ct.z] at this; omega⟩
  | cons b l ih =>
    intro vs S φ κ f L L' s h hr hL hfl
    cases hr with
    | @cons _ _ v vs S1 S2 _ h1 h2 h3 =>
      obtain ⟨φ1, κ1, f1, e1, e2, e3, e4⟩ := h.opnV_ (L' := fun x => S2 x + L' x) h1 (fun x => by (try dsimp only); rw [hL, h3]; omega) (hfl b (by simp))
      obtain ⟨φ2, κ2, f2, e5, e6, e7, e8⟩ := ih e4 (RC.hist e1 e2 (fun _ h => h) h2) (fun x => rfl) fun x hx => hfl x (List.mem_cons_of_mem _ hx)
      exact ⟨φ2, κ2, f2, fun _ _ _ h => e5 _ _ _ (e1 _ _ _ h), fun _ _ _ h => e6 _ _ _ (e2 _ _ _ h), .cons (S := Ct.z) (T := Ct.z) (RV.hist e5 e6 (fun _ h => h) e3) e7 fun _ => rfl, e8⟩
def AV.fl2 : AV → Prop
  | .tu l => ∀ x ∈ l, x.fl1
  | a => a.fl1
theorem SatW.opnR_ {v : Value} {S : Ct} {b : AV} (h : SatW X φ κ f L s a w) (hr : RV w φ κ X.R b v S) (hL : ∀ x, L x = S x + L' x) (hfl : b.fl2) :
    ∃ φ' κ' f', (∀ b u g, φ b u = some g → φ' b u = some g) ∧ (∀ b u v, κ b u = some v → κ' b u = some v) ∧ RV w φ' κ' X.R (opnR b s.b).1 v Ct.z ∧ SatW X φ' κ' f' L' ⟨s.t, (opnR b s.b).2⟩ a w := by
  by_cases htu : ∃ l, b = .tu l
  · obtain ⟨l, rfl⟩ := htu
    cases hr with
    | tu hc =>
      obtain ⟨φ2, κ2, f2, e5, e6, e7, e8⟩ := h.opnL_ hc hL hfl
      exact ⟨φ2, κ2, f2, e5, e6, .tu e7, e8⟩
  · have e : opnR b s.b = opnV b s.b := by cases b <;> first | rfl | exact absurd ⟨_, rfl⟩ htu
    rw [e]
    exact h.opnV_ hr hL (by cases b <;> first | exact hfl | exact absurd ⟨_, rfl⟩ htu)

/-- boxes are put back, opened -/
inductive Bk : List Sl → List (Nat × Nat) → List Bx → List Sl → Prop
  | nil {b} : Bk b [] [] b
  | cons {b k u T l l' b1 ks bs b2} : b[k]? = some ⟨u, .o⟩ → opnC l b = (l', b1) → b1[k]? = some ⟨u, .o⟩ → Bk (b1.set k ⟨u, .c T l'⟩) ks bs b2 → Bk b ((k, u) :: ks) (.c T l :: bs) b2
theorem SatW.bk {b : List Sl} {ks : List (Nat × Nat)} {bs : List Bx} {b' : List Sl} (hc : Bk b ks bs b') : ∀ {φ : Fi} {κ : Ka} {f : Nat → Ct} {L L' S : Ct} {t : List AV} {gs : List Nat}, SatW X φ κ f L ⟨t, b⟩ a w → RXs w X.R bs gs S → (∀ x, L x = S x + L' x) →
    (∀ (i k u : Nat), ks[i]? = some (k, u) → ∃ g, gs[i]? = some g ∧ φ k u = some g) →
    ∃ φ' κ' f', (∀ b u g, φ b u = some g → φ' b u = some g) ∧ (∀ b u v, κ b u = some v → κ' b u = some v) ∧ SatW X φ' κ' f' L' ⟨t, b'⟩ a w := by
  induction hc with
  | nil =>
    intro φ κ f L L' S t gs h hr hL _
    cases hr
    exact ⟨φ, κ, f, fun _ _ _ h => h, fun _ _ _ h => h, h.lim fun x => by have := hL x; simp only [Ct.z] at this; omega⟩
  | @cons b k u T l l' b1 ks bs b2 hk hop hk1 _ ih =>
    intro φ κ f L L' S t gs h hr hL hks
    cases hr with
    | @cons _ g S1 _ gs S2 _ h1 h2 h3 =>
      cases h1 with
      | @c _ _ vs _ _ S3 hh hrc hlf ho hS1 =>
        have hlf' : ∀ x ∈ l, x.fl = true := fun x hx => by have := hlf x hx; cases x <;> first | rfl | (cases this; done)
        obtain ⟨φ1, κ1, f1, e1, e2, e3, e4⟩ := h.opnC_ (L' := fun x => (if x = g then 1 else 0) + (S2 x + L' x)) (RC.any φ κ hrc hlf) (fun x => by (try dsimp only); rw [hL, h3, hS1]; omega) hlf'
        simp only [hop] at e3 e4
        obtain ⟨g', hg', hφ⟩ := hks 0 k u rfl
        simp at hg'; subst hg'
        have hz : ∀ x, f1 k x = 0 := fun x => by
          have := e4.sl k _ hk1
          generalize f1 k = F at this
          cases this; rfl
        have hgl : g < w.heap.size := (Array.getElem?_eq_some_iff.1 hh).1
        have e5 := e4.turn (w' := w) (B := .c T l') (u := u) (g := fun x => if x = g then 1 else 0) (L' := fun x => S2 x + L' x) hk1 (fun _ _ _ h => h) (fun _ _ _ h => h) (Nat.le_refl _) rfl rfl rfl (fun _ _ _ => rfl)
          (.c (e1 _ _ _ hφ) hh e3 ho fun _ => rfl) (fun x _ => by (try dsimp only); rw [hz x]; omega)
          (fun x hx => by
            have h7 := e4.one x
            have h8 := e4.own x
            dsimp only at h7 h8
            exact ⟨by omega, fun h0 => (h8 (by omega)).1⟩) (Nat.le_refl _) (fun _ _ _ h => h) (fun _ _ _ h => h)
        obtain ⟨φ2, κ2, f2, e6, e7, e8⟩ := ih e5 h2 (fun x => rfl) fun i k' u' hi => by
          obtain ⟨g2, h9, h10⟩ := hks (i + 1) k' u' (by simpa using hi)
          exact ⟨g2, by simpa using h9, e1 _ _ _ h10⟩
        exact ⟨φ2, κ2, f2, fun _ _ _ h => e6 _ _ _ (e1 _ _ _ h), fun _ _ _ h => e7 _ _ _ (e2 _ _ _ h), e8⟩
end
end Go.Proofs.Ytkdbedbefojieaa
