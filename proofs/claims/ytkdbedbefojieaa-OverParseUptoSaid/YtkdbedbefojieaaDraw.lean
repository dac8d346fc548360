/-
  GUARDED OPERATIONS, and regions that draw their order, by abstract values. Nothing here names a function of the program.
-/
import Derived.Test.YtkdbedbefojieaaGh
namespace Go.Proofs.Ytkdbedbefojieaa
set_option linter.unusedVariables false
set_option linter.unusedSimpArgs false
open Go.RowKit
set_option maxRecDepth 100000

section
variable {P : Program} {X : Cx} {φ φ' : Fi} {κ κ' : Ka} {f : Nat → Ct} {L L' : Ct} {s s' : AS} {a : Act} {w w' : World} {R : Nat → Prop} {ops : Array Oper} {rest : List Oper} {o : Oper} {av : AV} {Q : Exit → AS → Prop}
theorem tmp_of {ts : Array Value} {d : Nat} {v : Value} (hv : v ≠ undef) (hc : ts.getD d undef = v) : ts[d]? = some v := by
  rw [Array.getD_eq_getD_getElem?] at hc
  cases h : ts[d]? with
  | none => rw [h] at hc; exact absurd hc.symm hv
  | some u => rw [h] at hc; simp at hc; rw [hc]
theorem wanted_bool {a : Act} {j d : Nat} {b c : Bool} (hg : o.guard = some (j, b)) (hd : (ops[j]?).bind (·.dst) = some d) (hc : a.tmps.getD d undef = .bool c) : Region.wanted o (yielded ops a.tmps) = (c == b) := by
  have := tmp_of (v := .bool c) (by simp [undef]) hc
  unfold Region.wanted yielded
  cases c <;> cases b <;> simp [hg, hd, this]
theorem wanted_und {a : Act} {j d : Nat} {b : Bool} (hg : o.guard = some (j, b)) (hd : (ops[j]?).bind (·.dst) = some d) (hc : a.tmps.getD d undef = undef) : Region.wanted o (yielded ops a.tmps) = false := by
  unfold Region.wanted yielded
  rw [Array.getD_eq_getD_getElem?] at hc
  cases h : a.tmps[d]? with
  | none => simp [hg, hd, h]
  | some u => rw [h] at hc; simp at hc; subst hc; simp [hg, hd, h, undef]
theorem SatW.set_true (h : SatW X φ κ f L s a w) {d : Nat} {c b : Bool} (hs : s.t.getD d .de = .sc (.bool c)) (hc : c = b) : SatW X φ κ f L ⟨s.t.set d (.sc (.bool b)), s.b⟩ a w := by
  subst hc
  have : s.t.set d (.sc (.bool c)) = s.t := by
    apply List.ext_getElem (by simp)
    intro i h2 h3
    rw [List.getElem_set]
    split
    · rename_i hi; subst hi
      rw [List.getD_eq_getElem?_getD, List.getElem?_eq_getElem h3] at hs
      simpa using hs.symm
    · rfl
  rw [this]; exact h

/-! in a region whose order is fixed -/
theorem AP.gyes {j d : Nat} {b : Bool} (hg : o.guard = some (j, b)) (hd : (ops[j]?).bind (·.dst) = some d) (hs : s.t.getD d .de = .sc (.bool b)) (h : AP P X ops Q ({ o with guard := none } :: rest) s) : AP P X ops Q (o :: rest) s := by
  rintro a w ⟨X', φ, κ, f, hX, hh⟩
  have h1 := hh.tmp d
  rw [hs] at h1
  have h2 := wanted_bool (a := a) hg hd (RV.sc_inv h1)
  have h3 := h a w ⟨X', φ, κ, f, hX, hh⟩
  unfold wpList at h3 ⊢
  rw [if_pos (by simp [Region.wanted])] at h3
  rw [if_pos (by simpa using h2)]
  exact h3
theorem AP.gno {j d : Nat} {b c : Bool} (hg : o.guard = some (j, b)) (hd : (ops[j]?).bind (·.dst) = some d) (hs : s.t.getD d .de = .sc (.bool c)) (hn : (c == b) = false) (h : AP P X ops Q rest (s.put o.dst (.tu []))) : AP P X ops Q (o :: rest) s := by
  rintro a w ⟨X', φ, κ, f, hX, hh⟩
  have h1 := hh.tmp d
  rw [hs] at h1
  have h2 := wanted_bool (a := a) hg hd (RV.sc_inv h1)
  unfold wpList
  rw [if_neg (by rw [h2, hn]; simp)]
  exact h _ _ ⟨X', φ, κ, f, hX, hh.puts o.dst (.tu .nil)⟩
theorem AP.gund {j d : Nat} {b : Bool} (hg : o.guard = some (j, b)) (hd : (ops[j]?).bind (·.dst) = some d) (hs : s.t.getD d .de = .tu []) (h : AP P X ops Q rest (s.put o.dst (.tu []))) : AP P X ops Q (o :: rest) s := by
  rintro a w ⟨X', φ, κ, f, hX, hh⟩
  have h1 := hh.tmp d
  rw [hs] at h1
  have hu : a.tmps.getD d undef = undef := by
    generalize a.tmps.getD d undef = v at h1
    cases h1 with | tu hc => cases hc; rfl
  have h2 := wanted_und (a := a) hg hd hu
  unfold wpList
  rw [if_neg (by rw [h2]; simp)]
  exact h _ _ ⟨X', φ, κ, f, hX, hh.puts o.dst (.tu .nil)⟩
/-- a guard that is not decided: both ways -/
theorem AP.gsplit {j d : Nat} {b c : Bool} (hg : o.guard = some (j, b)) (hd : (ops[j]?).bind (·.dst) = some d) (hs : s.t.getD d .de = .sc (.bool c))
    (h1 : c = true → AP P X ops Q (o :: rest) ⟨s.t.set d (.sc (.bool true)), s.b⟩) (h2 : c = false → AP P X ops Q (o :: rest) ⟨s.t.set d (.sc (.bool false)), s.b⟩) : AP P X ops Q (o :: rest) s := by
  rintro a w ⟨X', φ, κ, f, hX, hh⟩
  cases hc : c with
  | true => exact h1 hc a w ⟨X', φ, κ, f, hX, hh.set_true hs hc⟩
  | false => exact h2 hc a w ⟨X', φ, κ, f, hX, hh.set_true hs hc⟩

/-! in a region that draws its order: operations that turn nothing -/
def AQ (P : Program) (X : Cx) (ops : Array Oper) (Q : AS → Prop) (l : List Oper) (s : AS) : Prop :=
  ∀ X' φ κ f a w, X.le X' → SatW X' φ κ f Ct.z s a w → wpQuiet P ops (Below w.heap.size w) (fun a' => ∃ s', Q s' ∧ SatW X' φ κ f Ct.z s' a' w) l a
theorem AQ.nil {Q : AS → Prop} (h : Q s) : AQ P X ops Q [] s := fun X' φ κ f a w _ hs => ⟨s, h, hs⟩
theorem AQ.pure {Q : AS → Prop} (hg : o.guard = none) (h : Pq P X s o av) (K : AQ P X ops Q rest (s.put o.dst av)) : AQ P X ops Q (o :: rest) s := fun X' φ κ f a w hX hs => by
  obtain ⟨v, hv, hq⟩ := h X' φ κ f a w hX hs
  unfold wpQuiet
  rw [if_pos (by simp [Region.wanted, hg])]
  exact ⟨v, hq, K X' φ κ f _ w hX (hs.puts _ hv)⟩
theorem AQ.gyes {Q : AS → Prop} {j d : Nat} {b : Bool} (hg : o.guard = some (j, b)) (hd : (ops[j]?).bind (·.dst) = some d) (hs : s.t.getD d .de = .sc (.bool b)) (h : AQ P X ops Q ({ o with guard := none } :: rest) s) : AQ P X ops Q (o :: rest) s := by
  intro X' φ κ f a w hX hh
  have h1 := hh.tmp d
  rw [hs] at h1
  have h2 := wanted_bool (a := a) hg hd (RV.sc_inv h1)
  have h3 := h X' φ κ f a w hX hh
  unfold wpQuiet at h3 ⊢
  rw [if_pos (by simp [Region.wanted])] at h3
  rw [if_pos (by simpa using h2)]
  exact h3
theorem AQ.gno {Q : AS → Prop} {j d : Nat} {b c : Bool} (hg : o.guard = some (j, b)) (hd : (ops[j]?).bind (·.dst) = some d) (hs : s.t.getD d .de = .sc (.bool c)) (hn : (c == b) = false) (h : AQ P X ops Q rest (s.put o.dst (.tu []))) : AQ P X ops Q (o :: rest) s := by
  intro X' φ κ f a w hX hh
  have h1 := hh.tmp d
  rw [hs] at h1
  have h2 := wanted_bool (a := a) hg hd (RV.sc_inv h1)
  unfold wpQuiet
  rw [if_neg (by rw [h2, hn]; simp)]
  exact h X' φ κ f _ w hX (hh.puts o.dst (.tu .nil))
theorem AQ.gund {Q : AS → Prop} {j d : Nat} {b : Bool} (hg : o.guard = some (j, b)) (hd : (ops[j]?).bind (·.dst) = some d) (hs : s.t.getD d .de = .tu []) (h : AQ P X ops Q rest (s.put o.dst (.tu []))) : AQ P X ops Q (o :: rest) s := by
  intro X' φ κ f a w hX hh
  have h1 := hh.tmp d
  rw [hs] at h1
  have hu : a.tmps.getD d undef = undef := by
    generalize a.tmps.getD d undef = v at h1
    cases h1 with | tu hc => cases hc; rfl
  have h2 := wanted_und (a := a) hg hd hu
  unfold wpQuiet
  rw [if_neg (by rw [h2]; simp)]
  exact h X' φ κ f _ w hX (hh.puts o.dst (.tu .nil))
theorem AQ.gsplit {Q : AS → Prop} {j d : Nat} {b c : Bool} (hg : o.guard = some (j, b)) (hd : (ops[j]?).bind (·.dst) = some d) (hs : s.t.getD d .de = .sc (.bool c))
    (h1 : c = true → AQ P X ops Q (o :: rest) ⟨s.t.set d (.sc (.bool true)), s.b⟩) (h2 : c = false → AQ P X ops Q (o :: rest) ⟨s.t.set d (.sc (.bool false)), s.b⟩) : AQ P X ops Q (o :: rest) s := by
  intro X' φ κ f a w hX hh
  cases hc : c with
  | true => exact h1 hc X' φ κ f a w hX (hh.set_true hs hc)
  | false => exact h2 hc X' φ κ f a w hX (hh.set_true hs hc)
theorem cp_draw {id : Nat} {l : List Oper} (hm : P.follows .mixedOrders = true) (hB : Region.lexB .any l.toArray = true) (h : AQ P X l.toArray (fun s' => Q .normal s') l s) : CP P X (.region id l.toArray true) Q s := by
  rintro a w ⟨X', φ, κ, f, hX, hs⟩
  refine wp_region_quiet (C := Below w.heap.size w) hm hB (Below.refl _ _).drew ?_
  have := h X' φ κ f a w hX hs
  have key : ∀ (ops : Array Oper) (l : List Oper) (a : Act), wpQuiet P ops (Below w.heap.size w) (fun a' => ∃ s', Q .normal s' ∧ SatW X' φ κ f Ct.z s' a' w) l a →
      wpQuiet P ops (Below w.heap.size w) (fun a' => ∀ w', Below w.heap.size w w' → lift X Q .normal a' w') l a := by
    intro ops l
    induction l with
    | nil => rintro a ⟨s', h1, h2⟩ w' hw'; exact ⟨s', h1, X', φ, κ, f, hX, h2.below hw'⟩
    | cons o l ih =>
      intro a h
      unfold wpQuiet at h ⊢
      split
      · rename_i hw; rw [if_pos hw] at h
        obtain ⟨v, h1, h2⟩ := h
        exact ⟨v, h1, ih _ h2⟩
      · rename_i hw; rw [if_neg hw] at h
        exact ih _ h
  simpa using key _ _ _ this
theorem cp_drw {id : Nat} {l : List Oper} {y : Code} (hm : P.follows .mixedOrders = true) (hB : Region.lexB .any l.toArray = true) (h : ∀ Q' : AS → Prop, (∀ s', CP P X y Q s' → Q' s') → AQ P X l.toArray Q' l s) : CP P X (.seq (.region id l.toArray true) y) Q s :=
  cp_seq (cp_draw hm hB (h (fun s' => CP P X y Q s') fun _ h => h))

mutual
/-- owns nothing -/
def AV.nt : AV → Bool
  | .sl (some _) _ _ => false
  | .ag l => ntC l
  | .tu l => ntC l
  | .fn _ l => ntC l
  | .gd _ a => a.nt
  | .sc _ => true
  | .sl none _ _ => true
  | .bp _ _ _ => true
  | .hd _ _ => true
  | .ep _ _ _ _ _ => true
  | .rp _ _ _ _ => true
  | .fs _ _ => true
  | .hf _ _ => true
  | .sb _ _ _ _ => true
  | .de => true
def ntC : List AV → Bool
  | [] => true
  | a :: l => a.nt && ntC l
end
mutual
theorem RV.nt : ∀ {a : AV} {v : Value} {S : Ct}, RV w φ κ R a v S → a.nt = true → S = Ct.z
  | _, _, _, .sc _, _ => rfl
  | _, _, _, .bp _, _ => rfl
  | _, _, _, .ni, _ => rfl
  | _, _, _, .ro _ _ _ _ _, _ => rfl
  | _, _, _, .ow _ _ _ _ _ _ _, h => by simp [AV.nt] at h
  | _, _, _, .hd _ _, _ => rfl
  | _, _, _, .ep _, _ => rfl
  | _, _, _, .rp _ _ _, _ => rfl
  | _, _, _, .ag hc _, h => RC.nt hc (by simpa [AV.nt] using h)
  | _, _, _, .tu hc, h => RC.nt hc (by simpa [AV.nt] using h)
  | _, _, _, .de, _ => rfl
  | _, _, _, .gt h1, h => RV.nt h1 (by simpa [AV.nt] using h)
  | _, _, _, .gf, _ => rfl
  | _, _, _, .fs _ _, _ => rfl
  | _, _, _, .ne, _ => rfl
  | _, _, _, .hf _, _ => rfl
  | _, _, _, .sb _ _, _ => rfl
  | _, _, _, .fn hc, h => RC.nt hc (by simpa [AV.nt] using h)
theorem RC.nt : ∀ {l : List AV} {us : List Value} {S : Ct}, RC w φ κ R l us S → ntC l = true → S = Ct.z
  | _, _, _, .nil, _ => rfl
  | _, _, _, .cons h1 h2 h3, h => by
    simp only [ntC, Bool.and_eq_true] at h
    have e1 := RV.nt h1 h.1
    have e2 := RC.nt h2 h.2
    subst e1 e2
    exact funext fun x => by rw [h3]; simp [Ct.z]
end
/-- plain values: cells, structs of cells, several -/
def pvl : List AV → Option (List Value)
  | [] => some []
  | .sc v :: l => match v.oneCell', pvl l with | true, some vs => some (v :: vs) | _, _ => none
  | _ => none
def AV.pv1 : AV → Option Value
  | .sc v => match v.oneCell' with | true => some v | false => none
  | .ag l => match pvl l with | some vs => some (.agg vs.toArray) | none => none
  | _ => none
def pvt : List AV → Option (List Value)
  | [] => some []
  | a :: l => match a.pv1, pvt l with | some v, some vs => some (v :: vs) | _, _ => none
def AV.pv : AV → Option Value
  | .tu l => match pvt l with | some vs => some (.tuple vs.toArray) | none => none
  | a => a.pv1
theorem pvl_rc {w : World} {φ : Fi} {κ : Ka} {R : Nat → Prop} : ∀ {l : List AV} {vs : List Value}, pvl l = some vs → RC w φ κ R l vs Ct.z ∧ (∀ v ∈ vs, v.oneCell' = true) ∧ ∀ {w φ κ R us S}, RC w φ κ R l us S → us = vs
  | [], vs, h => by
    simp only [pvl, Option.some.injEq] at h; subst h
    exact ⟨.nil, fun v hv => by simp at hv, fun h => by cases h; rfl⟩
  | a :: l, vs, h => by
    cases a <;> first | (simp [pvl] at h; done) | skip
    rename_i v
    simp only [pvl] at h
    split at h
    · rename_i us hv hl
      injection h with h; subst h
      obtain ⟨h1, h2, h3⟩ := pvl_rc hl
      refine ⟨.cons (S := Ct.z) (T := Ct.z) (.sc hv) h1 fun _ => rfl, fun x hx => ?_, fun hr => ?_⟩
      · rcases List.mem_cons.1 hx with rfl | hx
        · exact hv
        · exact h2 x hx
      · cases hr with
        | cons a b c => cases a; rw [h3 b]
    · cases h
theorem pv1_rv {w : World} {φ : Fi} {κ : Ka} {R : Nat → Prop} {r : AV} {v : Value} (h : r.pv1 = some v) : RV w φ κ R r v Ct.z ∧ ∀ {w φ κ R u S}, RV w φ κ R r u S → u = v := by
  cases r <;> first | (simp [AV.pv1] at h; done) | skip
  · rename_i x
    simp only [AV.pv1] at h
    split at h
    · rename_i hx
      injection h with h; subst h
      exact ⟨.sc hx, fun hr => by cases hr; rfl⟩
    · cases h
  · rename_i l
    simp only [AV.pv1] at h
    split at h
    · rename_i vs hl
      injection h with h; subst h
      obtain ⟨h1, h2, h3⟩ := pvl_rc (w := w) (φ := φ) (κ := κ) (R := R) hl
      exact ⟨.ag h1 h2, fun hr => by cases hr with | ag a b => rw [h3 a]⟩
    · cases h
theorem pvt_rc {w : World} {φ : Fi} {κ : Ka} {R : Nat → Prop} : ∀ {l : List AV} {vs : List Value}, pvt l = some vs → RC w φ κ R l vs Ct.z ∧ ∀ {w φ κ R us S}, RC w φ κ R l us S → us = vs
  | [], vs, h => by
    simp only [pvt, Option.some.injEq] at h; subst h
    exact ⟨.nil, fun h => by cases h; rfl⟩
  | a :: l, vs, h => by
    simp only [pvt] at h
    split at h
    · rename_i v us hv hl
      injection h with h; subst h
      obtain ⟨h1, h2⟩ := pv1_rv (w := w) (φ := φ) (κ := κ) (R := R) hv
      obtain ⟨h3, h4⟩ := pvt_rc (w := w) (φ := φ) (κ := κ) (R := R) hl
      exact ⟨.cons (S := Ct.z) (T := Ct.z) h1 h3 fun _ => rfl, fun hr => by cases hr with | cons a b c => rw [h2 a, h4 b]⟩
    · cases h
theorem pv_rv {w : World} {φ : Fi} {κ : Ka} {R : Nat → Prop} {r : AV} {v : Value} (h : r.pv = some v) : RV w φ κ R r v Ct.z ∧ ∀ {w φ κ R u S}, RV w φ κ R r u S → u = v := by
  by_cases ht : ∃ l, r = .tu l
  · obtain ⟨l, rfl⟩ := ht
    simp only [AV.pv] at h
    split at h
    · rename_i vs hl
      injection h with h; subst h
      obtain ⟨h1, h2⟩ := pvt_rc (w := w) (φ := φ) (κ := κ) (R := R) hl
      exact ⟨.tu h1, fun hr => by cases hr with | tu a => rw [h2 a]⟩
    · cases h
  · have e : r.pv = r.pv1 := by cases r <;> first | rfl | exact absurd ⟨_, rfl⟩ ht
    rw [e] at h
    exact pv1_rv h
/-- a call that yields a plain value and turns nothing -/
theorem pq_call {fn : Nat} {fo : Operand} {cap : List AV} {xs : Array Operand} {tys : Array TypeId} {al : List AV} {v : Value} (ho : o.op = .call { callee := .value fo, args := xs, argTypes := tys }) (hfo : aev s fo = .fn fn cap) {r0 : AV} (hc : AC P fn al [] (fun r bs' => r = r0 ∧ bs' = []))
    (hv1 : r0.pv = some v) (hnt : ntC al = true) (hp : PasC true [] s.b s.b (xs.toList.map (aev s) ++ cap) al s.b) : Pq P X s o r0 := by
  intro X φ κ f a w _ h
  have hfv := h.evs hfo
  obtain ⟨cvs, hcv, hcr⟩ : ∃ cvs : List Value, a.eval fo = .func (.func fn) #[] cvs.toArray ∧ RC w φ κ X.R cap cvs Ct.z := by
    generalize a.eval fo = v at hfv
    cases hfv with | fn h => exact ⟨_, rfl, h⟩
  refine ⟨v, (pv_rv hv1).1, fun w' hw' => ?_⟩
  have h' := h.below hw'
  have hcr' := RC.keep (w' := w') (fun x hx => hw'.block x (h.blk (.inl hx))) hcr fun x hx => absurd rfl hx
  obtain ⟨S1, f1, h1, hfin⟩ := SatW.pasC (t := s.t) hp h' ((h'.evl xs.toList).append hcr' (U := Ct.z) fun _ => rfl)
  have hargs := hfin X f1 _ (fun _ _ => none) (fun _ _ => none) .rfl h1 (fun i k u g hi _ => by simp at hi)
  have hz := RC.nt hargs hnt
  subst hz
  have hcalls := hc.2 w' _ _ (lendR true X f1 s.b.length) _ [] Ct.z Ct.z hargs .nil (fun i g hi => by simp at hi) (fun _ _ _ => rfl) (fun _ _ => rfl) (fun x => by simp [Ct.z]) (fun x hx => absurd rfl hx) (fun x hx => by
    refine ⟨?_, rfl⟩
    rcases hx with hx | ⟨_, hx⟩
    · exact h1.blk (.inl hx)
    · exact (h1.own x (by omega)).1)
  have e0 : (xs.toList.map a.eval ++ cvs).toArray = xs.map a.eval ++ cvs.toArray := by cases xs; simp
  rw [e0] at hcalls
  have hrun := run_callv (P := P) (w := w') ho hcv hc.1
  unfold Oper.quietAt
  rw [hrun]
  refine ⟨rfl, hcalls.mono ?_⟩
  rintro e w'' ⟨u, r, bs', gs', Sr, Sb', φ', F, rfl, ⟨rfl, rfl⟩, hr, _, _, _, _, _, _, h9⟩
  refine ⟨by rw [(pv_rv (w := w) (φ := φ) (κ := κ) (R := X.R) hv1).2 hr], ?_⟩
  exact ⟨h9.os.trans hw'.os, h9.tape.trans hw'.tape, h9.output.trans hw'.output, Nat.le_trans hw'.size h9.size, fun x hx => (h9.block x (Nat.lt_of_lt_of_le hx hw'.size) rfl).trans (hw'.block x hx)⟩
end
end Go.Proofs.Ytkdbedbefojieaa
