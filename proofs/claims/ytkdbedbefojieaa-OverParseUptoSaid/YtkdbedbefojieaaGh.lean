/-
  WHAT A STATE MAY FORGET, loops and cuts by states; nil as an empty array of one's own. Nothing here names a function of the program.
-/
import Derived.Test.YtkdbedbefojieaaOp5
namespace Go.Proofs.Ytkdbedbefojieaa
set_option linter.unusedVariables false
set_option linter.unusedSimpArgs false
open Go.RowKit
set_option maxRecDepth 100000

inductive Wk : List AV → List AV → Prop
  | nil : Wk [] []
  | same {a l l'} : Wk l l' → Wk (a :: l) (a :: l')
  | de {a l l'} : Wk l l' → Wk (a :: l) (.de :: l')
  | nl {o k l l'} : Wk l l' → Wk (.sc (.slice none 0 0) :: l) (.sl o k [] :: l')
inductive WkB : List Sl → List Sl → Prop
  | nil : WkB [] []
  | same {e l l'} : WkB l l' → WkB (e :: l) (e :: l')
  | drop {u B l l'} : WkB l l' → WkB (⟨u, B⟩ :: l) (⟨u, .x⟩ :: l')
  | cell {u T c c' l l'} : Wk c c' → WkB l l' → WkB (⟨u, .c T c⟩ :: l) (⟨u, .c T c'⟩ :: l')
structure Wks (s s' : AS) : Prop where
  t : Wk s.t s'.t
  b : WkB s.b s'.b
theorem Wk.refl : ∀ l, Wk l l
  | [] => .nil
  | _ :: l => .same (Wk.refl l)
theorem WkB.refl : ∀ l, WkB l l
  | [] => .nil
  | _ :: l => .same (WkB.refl l)
/-- slots by number, nothing known of the others -/
def tm (n : Nat) (l : List (Nat × AV)) : List AV := l.foldl (fun t p => t.set p.1 p.2) (List.replicate n .de)
section
variable {P : Program} {X : Cx} {φ φ' : Fi} {κ κ' : Ka} {f : Nat → Ct} {L L' : Ct} {s s' : AS} {a : Act} {w w' : World} {R : Nat → Prop}
theorem RC.wk : ∀ {l l' : List AV}, Wk l l' → ∀ {us : List Value}, RC w φ κ R l us Ct.z → RC w φ κ R l' us Ct.z
  | _, _, .nil, _, h => h
  | _, _, .same hw, _, h => by
    cases h with
    | cons h1 h2 h3 => obtain ⟨rfl, rfl⟩ := Ct.split h3; exact .cons (S := Ct.z) (T := Ct.z) h1 (RC.wk hw h2) fun _ => rfl
  | _, _, .de hw, _, h => by
    cases h with
    | cons h1 h2 h3 => obtain ⟨rfl, rfl⟩ := Ct.split h3; exact .cons (S := Ct.z) (T := Ct.z) .de (RC.wk hw h2) fun _ => rfl
  | _, _, .nl hw, _, h => by
    cases h with
    | cons h1 h2 h3 => obtain ⟨rfl, rfl⟩ := Ct.split h3; exact .cons (S := Ct.z) (T := Ct.z) (RV.nil_sl h1) (RC.wk hw h2) fun _ => rfl
theorem WkB.length : ∀ {l l' : List Sl}, WkB l l' → l'.length = l.length
  | _, _, .nil => rfl
  | _, _, .same h => by simp [WkB.length h]
  | _, _, .drop h => by simp [WkB.length h]
  | _, _, .cell _ h => by simp [WkB.length h]
theorem WkB.rs : ∀ {l l' : List Sl}, WkB l l' → ∀ {n : Nat} {f : Nat → Ct}, (∀ (i : Nat) (e : Sl), l[i]? = some e → RS w φ κ R (n + i) e.u e.b (f (n + i))) →
    ∃ f' : Nat → Ct, (∀ (i : Nat) (e : Sl), l'[i]? = some e → RS w φ κ R (n + i) e.u e.b (f' (n + i))) ∧ (∀ i x, f' i x ≤ f i x) ∧ (∀ (i : Nat) (e' : Sl), l'[i]? = some e' → ∃ e, l[i]? = some e ∧ e.u = e'.u)
  | _, _, .nil, n, f, _ => ⟨f, fun i e h => by simp at h, fun _ _ => Nat.le_refl _, fun i e h => by simp at h⟩
  | e0 :: l, _ :: l', .same hw, n, f, h => by
    obtain ⟨f', h1, h2, h3⟩ := WkB.rs hw (n := n + 1) (f := f) fun i e hi => by have := h (i + 1) e (by simpa using hi); rwa [show n + 1 + i = n + (i + 1) by omega]
    refine ⟨fun i => if i = n then f n else f' i, fun i e hi => ?_, fun i x => ?_, fun i e' hi => ?_⟩
    · cases i with
      | zero => simp at hi; subst hi; simpa using h 0 e0 rfl
      | succ i => simp at hi; have := h1 i e hi; rw [show n + 1 + i = n + (i + 1) by omega] at this; simpa [show ¬ n + (i + 1) = n by omega] using this
    · dsimp only; split
      · rename_i h; subst h; exact Nat.le_refl _
      · exact h2 i x
    · cases i with
      | zero => simp at hi; subst hi; exact ⟨e0, rfl, rfl⟩
      | succ i => simp at hi; simpa using h3 i e' hi
  | ⟨u, B⟩ :: l, _ :: l', .drop hw, n, f, h => by
    obtain ⟨f', h1, h2, h3⟩ := WkB.rs hw (n := n + 1) (f := f) fun i e hi => by have := h (i + 1) e (by simpa using hi); rwa [show n + 1 + i = n + (i + 1) by omega]
    refine ⟨fun i => if i = n then Ct.z else f' i, fun i e hi => ?_, fun i x => ?_, fun i e' hi => ?_⟩
    · cases i with
      | zero => simp at hi; subst hi; simp only [Nat.add_zero, if_true]; exact .x
      | succ i => simp at hi; have := h1 i e hi; rw [show n + 1 + i = n + (i + 1) by omega] at this; simpa [show ¬ n + (i + 1) = n by omega] using this
    · dsimp only; split
      · exact Nat.zero_le _
      · exact h2 i x
    · cases i with
      | zero => simp at hi; subst hi; exact ⟨⟨u, B⟩, rfl, rfl⟩
      | succ i => simp at hi; simpa using h3 i e' hi
  | ⟨u, .c T c⟩ :: l, ⟨_, .c _ c'⟩ :: l', .cell hc hw, n, f, h => by
    obtain ⟨f', h1, h2, h3⟩ := WkB.rs hw (n := n + 1) (f := f) fun i e hi => by have := h (i + 1) e (by simpa using hi); rwa [show n + 1 + i = n + (i + 1) by omega]
    refine ⟨fun i => if i = n then f n else f' i, fun i e hi => ?_, fun i x => ?_, fun i e' hi => ?_⟩
    · cases i with
      | zero =>
        simp at hi; subst hi
        have := h 0 _ rfl
        simp only [Nat.add_zero, if_true] at this ⊢
        generalize f n = S at this
        cases this with
        | c a b c d e => exact .c a b (RC.wk hc c) d e
      | succ i => simp at hi; have := h1 i e hi; rw [show n + 1 + i = n + (i + 1) by omega] at this; simpa [show ¬ n + (i + 1) = n by omega] using this
    · dsimp only; split
      · rename_i h; subst h; exact Nat.le_refl _
      · exact h2 i x
    · cases i with
      | zero => simp at hi; subst hi; exact ⟨_, rfl, rfl⟩
      | succ i => simp at hi; simpa using h3 i e' hi
theorem sumF_mono {f g : Nat → Ct} (h : ∀ i x, f i x ≤ g i x) (x : Nat) : ∀ n, sumF f n x ≤ sumF g n x
  | 0 => Nat.le_refl _
  | n + 1 => by simp only [sumF]; have := sumF_mono h x n; have := h n x; omega
theorem SatW.wk (h : SatW X φ κ f L s a w) (hw : Wks s s') : ∃ f', SatW X φ κ f' L s' a w := by
  obtain ⟨f', h1, h2, h3⟩ := WkB.rs hw.b (n := 0) (f := f) fun i e hi => by simpa using h.sl i e hi
  have hlen := hw.b.length
  refine ⟨f', RC.wk hw.t h.tm, h.df, fun i e hi => by simpa using h1 i e hi, fun x => ?_, fun x hx => ?_, fun x hx => ?_, h.fr, h.bas, fun i v hv => h.new i v fun e he => ?_⟩
  · rw [hlen]; have := h.one x; have := sumF_mono h2 x s.b.length; omega
  · rw [hlen] at hx; exact h.own x (by have := sumF_mono h2 x s.b.length; omega)
  · rw [hlen]; have := h.rd x hx; have := sumF_mono h2 x s.b.length; exact ⟨by omega, by omega⟩
  · have hil : i < s'.b.length := by rw [hlen]; exact (List.getElem?_eq_some_iff.1 he).1
    obtain ⟨e2, h4, h5⟩ := h3 i _ (List.getElem?_eq_getElem hil)
    rw [he] at h4; injection h4 with h4; subst h4
    rw [h5]; exact hv _ (List.getElem?_eq_getElem hil)
theorem Sat.wk (h : Sat X s a w) (hw : Wks s s') : Sat X s' a w := by
  obtain ⟨X', φ, κ, f, hX, h⟩ := h
  obtain ⟨f', h⟩ := h.wk hw
  exact ⟨_, φ, κ, f', hX, h⟩

/-- a state may be taken for another -/
def Gh (s s' : AS) : Prop := ∀ X a w, Sat X s a w → Sat X s' a w
theorem CP.gh {c : Code} {Q : Exit → AS → Prop} (hg : Gh s s') (h : CP P X c Q s') : CP P X c Q s := fun a w hs => h a w (hg X a w hs)
theorem AP.gh {ops : Array Oper} {l : List Oper} {Q : Exit → AS → Prop} (hg : Gh s s') (h : AP P X ops Q l s') : AP P X ops Q l s := fun a w hs => h a w (hg X a w hs)
theorem gh_wk (hw : Wks s s') : Gh s s' := fun _ _ _ hs => hs.wk hw
/-- nil, as an array of one's own -/
theorem gh_nil {t e k : Nat} (ht : s.t.getD t .de = .sc (.slice none 0 0)) : Gh s ⟨s.t.set t (.hd (newS s.b (.r e k [])).1.1 (newS s.b (.r e k [])).1.2), (newS s.b (.r e k [])).2⟩ := by
  rintro X a w ⟨X', φ, κ, f, hX, h⟩
  obtain ⟨φ', κ', f', e1, e2, e3, e4, e5⟩ := h.newS_ (w' := w) (B := .r e k []) (g := Ct.z) (L' := Ct.z) none (some (.slice none 0 0)) (Nat.le_refl _) rfl rfl rfl (fun _ _ _ => rfl) (fun φ' κ' j u a b c d => .r d .ni) (fun x _ => by simp [Ct.z]) (fun x _ => by simp [Ct.z])
  have h1 := h.tmp t
  rw [ht] at h1
  have hv := RV.sc_inv h1
  refine ⟨X', φ', κ', f', hX, e5.retm ?_ e5.df⟩
  by_cases htl : t < s.t.length
  · have := RC.set_ (i := t) (RC.hist e1 e2 (fun _ h => h) h.tm) (RV.hd (φ := φ') (w := w) (R := X'.R) e4 rfl)
    have hl := h.size
    have e : a.tmps.toList.set t (.slice none 0 0) = a.tmps.toList := by
      rw [Array.getD_eq_getD_getElem?] at hv
      have htl' : t < a.tmps.size := by omega
      rw [Array.getElem?_eq_getElem htl'] at hv
      simp only [Option.getD_some] at hv
      apply List.ext_getElem (by simp)
      intro i h2 h3
      rw [List.getElem_set]
      split
      · rename_i hi; subst hi; simpa using hv.symm
      · rfl
    rwa [e] at this
  · rw [List.set_eq_of_length_le (by omega)]; exact RC.hist e1 e2 (fun _ h => h) h.tm
/-- a number more -/
theorem gh_slot : Gh s ⟨s.t, s.b ++ [⟨0, .x⟩]⟩ := fun _ _ _ ⟨X', φ, κ, f, hX, h⟩ => ⟨X', φ, κ, _, hX, h.slot⟩

/-- a loop; its state at each round's head, forgotten what need not be known -/
theorem cp_loopW {c : Code} {Q : Exit → AS → Prop} (I : Nat → AS → Prop) (n : Nat) (s0 : AS) (hw : Wks s s0) (h0 : I n s0) (round : ∀ n s, I n s → CP P X c (thenQ (fun s' => ∃ m s'', m < n ∧ Wks s' s'' ∧ I m s'') Q) s) : CP P X (.loop c) Q s :=
  CP.gh (gh_wk hw) (cp_loop (fun n s' => ∃ s'', Wks s' s'' ∧ I n s'') n ⟨s0, ⟨Wk.refl _, WkB.refl _⟩, h0⟩ fun n s' ⟨s'', h1, h2⟩ => CP.gh (gh_wk h1) ((round n s'' h2).mono fun e s3 h3 => by
    cases e with
    | normal => obtain ⟨m, s4, a, b, c⟩ := h3; exact ⟨m, a, s4, b, c⟩
    | _ => exact h3))
/-- a piece of the code, and what is known behind it -/
theorem cp_cut {x y : Code} {Q : Exit → AS → Prop} (J : AS → Prop) (hx : CP P X x (thenQ (fun s' => ∃ s'', Wks s' s'' ∧ J s'') Q) s) (hy : ∀ s', J s' → CP P X y Q s') : CP P X (.seq x y) Q s :=
  cp_seq (hx.mono fun e s' h => by
    cases e with
    | normal => obtain ⟨s'', h1, h2⟩ := h; exact CP.gh (gh_wk h1) (hy s'' h2)
    | _ => exact h)
end
end Go.Proofs.Ytkdbedbefojieaa
