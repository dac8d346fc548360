/-
  REGIONS WALKED ONCE IN THE ORDER OF THE TEXT, guards left undecided: a guarded operation leaves 'if p then v else undef'. Nothing here names a function of the program.
-/
import Derived.Test.YtkdbedbefojieaaBase
import Derived.Deep.QuietTactic
import Derived.BigQuiet
import Derived.Laws.StructEq
import Derived.WalkSpells
import Derived.WalkLawsBesides
import Derived.Deep.DeepCutAuto
namespace Go.Proofs.Ytkdbedbefojieaa
set_option linter.unusedVariables false
set_option linter.unusedSimpArgs false
open Go.RowKit

/-- what a guarded operation leaves in its slot -/
def gd (p : Bool) (v : Value) : Value := if p = true then v else undef
theorem gd_true (v : Value) : gd true v = v := rfl
theorem gd_gd (p : Bool) (v : Value) : gd p (gd p v) = gd p v := by cases p <;> rfl

section
variable {P : Program} {ops : Array Oper} {C : World → Prop} {Q : Act → Prop}

/-- one operation, its guard p: what it yields under p -/
theorem wpQuiet_if {a : Act} {o : Oper} {rest : List Oper} {p : Bool} (hp : Region.wanted o (yielded ops a.tmps) = p)
    (h : ∃ v, (p = true → ∀ w, C w → o.quietAt P a C w v) ∧ wpQuiet P ops C Q rest (a.put o.dst (gd p v))) : wpQuiet P ops C Q (o :: rest) a := by
  obtain ⟨v, h1, h2⟩ := h
  unfold wpQuiet
  cases p with
  | true => rw [if_pos hp]; exact ⟨v, h1 rfl, h2⟩
  | false => rw [if_neg (by simp [hp])]; exact h2
theorem tmp_bool {ts : Array Value} {d : Nat} {c : Bool} (hc : ts.getD d undef = .bool c) : ts[d]? = some (.bool c) := by
  rw [Array.getD_eq_getD_getElem?] at hc
  cases h : ts[d]? with
  | none => rw [h] at hc; cases hc
  | some v => rw [h] at hc; simp at hc; rw [hc]
theorem tmp_undef {ts : Array Value} {d : Nat} (hc : ts.getD d undef = undef) : ts[d]? = none ∨ ts[d]? = some undef := by
  rw [Array.getD_eq_getD_getElem?] at hc
  cases h : ts[d]? with
  | none => exact .inl rfl
  | some v => rw [h] at hc; simp at hc; rw [hc]; exact .inr rfl
theorem wanted_t {a : Act} {o : Oper} {j d : Nat} {c : Bool} (hg : o.guard = some (j, true)) (hd : (ops[j]?).bind (·.dst) = some d) (hc : a.tmps.getD d undef = .bool c) : Region.wanted o (yielded ops a.tmps) = c := by
  unfold Region.wanted yielded
  cases c <;> simp [hg, hd, tmp_bool hc]
theorem wanted_f {a : Act} {o : Oper} {j d : Nat} {c : Bool} (hg : o.guard = some (j, false)) (hd : (ops[j]?).bind (·.dst) = some d) (hc : a.tmps.getD d undef = .bool c) : Region.wanted o (yielded ops a.tmps) = !c := by
  unfold Region.wanted yielded
  cases c <;> simp [hg, hd, tmp_bool hc]
theorem wanted_gt {a : Act} {o : Oper} {j d : Nat} {p c : Bool} (hg : o.guard = some (j, true)) (hd : (ops[j]?).bind (·.dst) = some d) (hc : a.tmps.getD d undef = gd p (.bool c)) : Region.wanted o (yielded ops a.tmps) = (p && c) := by
  cases p with
  | true => simpa using wanted_t hg hd hc
  | false =>
    unfold Region.wanted yielded
    rcases tmp_undef hc with h | h <;> simp [hg, hd, h, undef]
theorem wanted_gf {a : Act} {o : Oper} {j d : Nat} {p c : Bool} (hg : o.guard = some (j, false)) (hd : (ops[j]?).bind (·.dst) = some d) (hc : a.tmps.getD d undef = gd p (.bool c)) : Region.wanted o (yielded ops a.tmps) = (p && !c) := by
  cases p with
  | true => simpa using wanted_f hg hd hc
  | false =>
    unfold Region.wanted yielded
    rcases tmp_undef hc with h | h <;> simp [hg, hd, h, undef]
/-- one operation without a guard -/
theorem wpQuiet_go {a : Act} {o : Oper} {rest : List Oper} (hp : o.guard = none)
    (h : ∃ v, (∀ w, C w → o.quietAt P a C w v) ∧ wpQuiet P ops C Q rest (a.put o.dst v)) : wpQuiet P ops C Q (o :: rest) a := by
  obtain ⟨v, h1, h2⟩ := h
  unfold wpQuiet
  rw [if_pos (by simp [Region.wanted, hp])]
  exact ⟨v, h1, h2⟩
theorem quietAt_move {a : Act} {o : Oper} {w : World} {x : Operand} (ho : o.op = .move x) : o.quietAt P a C w (a.eval x) := by
  simp [Oper.quietAt, execOp, ho, go_sem]
theorem quietAt_assign {a : Act} {o : Oper} {w : World} {x : Operand} (ho : o.op = .assign x) : o.quietAt P a C w (a.eval x) := by
  simp [Oper.quietAt, execOp, ho, go_sem]
theorem quietAt_pick {a : Act} {o : Oper} {w : World} {x y z : Operand} {c : Bool} {v : Value} (ho : o.op = .pick x y z) (hx : a.eval x = .bool c) (hv : (if c = true then a.eval y else a.eval z) = v) : o.quietAt P a C w v := by
  subst hv
  unfold Oper.quietAt
  generalize a.eval = ρ at *
  cases c <;> simp [execOp, ho, hx, Oper.quietUpon, go_sem]
theorem quietAt_or {a : Act} {o : Oper} {w : World} {x y : Operand} {c q : Bool} (ho : o.op = .pick x (.const (.bool true)) y) (hx : a.eval x = .bool c) (hy : a.eval y = gd (!c) (.bool q)) : o.quietAt P a C w (.bool (c || q)) :=
  quietAt_pick ho hx (by rw [hy]; cases c <;> rfl)
theorem quietAt_and {a : Act} {o : Oper} {w : World} {x y : Operand} {c q : Bool} (ho : o.op = .pick x y (.const (.bool false))) (hx : a.eval x = .bool c) (hy : a.eval y = gd c (.bool q)) : o.quietAt P a C w (.bool (c && q)) :=
  quietAt_pick ho hx (by rw [hy]; cases c <;> rfl)
theorem quietAt_gor {a : Act} {o : Oper} {w : World} {x y : Operand} {p c q : Bool} (ho : o.op = .pick x (.const (.bool true)) y) (hx : a.eval x = gd p (.bool c)) (hy : a.eval y = gd (p && !c) (.bool q)) (hp : p = true) : o.quietAt P a C w (.bool (c || q)) := by
  subst hp; exact quietAt_pick ho hx (by rw [hy]; cases c <;> rfl)
theorem quietAt_gand {a : Act} {o : Oper} {w : World} {x y : Operand} {p c q : Bool} (ho : o.op = .pick x y (.const (.bool false))) (hx : a.eval x = gd p (.bool c)) (hy : a.eval y = gd (p && c) (.bool q)) (hp : p = true) : o.quietAt P a C w (.bool (c && q)) := by
  subst hp; exact quietAt_pick ho hx (by rw [hy]; cases c <;> rfl)

theorem quietAt_absurd {a : Act} {o : Oper} {w : World} (h : False) : o.quietAt P a C w undef := h.elim
attribute [irreducible] gd
theorem wpList_of_quiet {Q' : Exit → Act → World → Prop} : ∀ (l : List Oper) (a : Act) (w : World), C w →
    wpQuiet P ops C (fun a' => ∀ w', C w' → Q' .normal a' w') l a → wpList P ops Q' l a w
  | [], _, w, hw, h => h w hw
  | o :: l, a, w, hw, h => by
    unfold wpQuiet at h
    unfold wpList
    by_cases hp : Region.wanted o (yielded ops a.tmps) = true
    · rw [if_pos hp] at h ⊢
      exact .inl (Oper.wp_of_quiet hw (fun a' w' hw' hk => wpList_of_quiet l a' w' hw' hk) h)
    · rw [if_neg hp] at h ⊢
      exact wpList_of_quiet l _ w hw h

theorem wp_region_q {id : Nat} {d : Bool} {Q' : Exit → Act → World → Prop} {a : Act} {w : World} {l : List Oper} (hm : d = true → P.follows .mixedOrders = true) (hB : d = true → Region.lexB .any l.toArray = true)
    (hC : C w) (hC' : C w.drew) (h : wpQuiet P l.toArray C (fun a' => ∀ w', C w' → Q' .normal a' w') l a) : (Code.region id l.toArray d).wp P Q' a w := by
  cases d with
  | true => exact wp_region_quiet (hm rfl) (hB rfl) hC' (by simpa using h)
  | false => exact wp_region_lit (wpList_of_quiet l a w hC h)
end

/-- the class: what was there stays -/
def Bw (w0 w : World) : Prop := Below w0.heap.size w0 w
theorem Bw.refl (w : World) : Bw w w := Below.refl _ _
theorem Bw.drew (w : World) : Bw w w.drew := (Below.refl _ _).drew
theorem Bw.cell {w0 w : World} (h : Bw w0 w) {b o : Nat} {v : Value} (hc : w0.cell? ⟨b, o, none⟩ = some v) : w.cell? ⟨b, o, none⟩ = some v :=
  (Below.cell h (p := ⟨b, o, none⟩) (lt_of_cell hc)).trans hc
/-- a callee that only makes memory, met in a world of the class -/
theorem Bw.call {P : Program} {f : FuncId} {args : Array Value} {w0 w : World} {v : Value} (hw : Bw w0 w)
    (h : Calls P f args w fun e w' => e = .returned v ∧ Below w.heap.size w w') : Calls P f args w fun e w' => e = .returned v ∧ Bw w0 w' :=
  h.mono fun _ _ ⟨he, hb⟩ => ⟨he, Below.trans hw (hb.mono (Below.size hw))⟩

/-- out of the class -/
theorem Bw.out {B : Nat} {w w0 w1 : World} (h : Bw w0 w1) (k : Below B w w0) (hB : B ≤ w0.heap.size) : Below B w w1 := k.trans (Below.mono h hB)
theorem Bw.trans {a b c : World} (h : Bw a b) (k : Bw b c) : Bw a c := Below.trans h (Below.mono k h.size)
theorem Bw.size {a b : World} (h : Bw a b) : a.heap.size ≤ b.heap.size := Below.size h
/-- the world under a name -/
theorem wp_name {P : Program} {c : Code} {Q : Exit → Act → World → Prop} {a : Act} {w : World} (h : ∀ W, W = w → c.wp P Q a W) : c.wp P Q a w := h w rfl
theorem Bw.below {w0 w w' : World} (h : Bw w0 w) (k : Below w.heap.size w w') : Bw w0 w' := Bw.trans h k
theorem Bw.frz {w0 w : World} (h : Bw w0 w) {b o : Nat} (hb : b < w0.heap.size) (hf : w0.frozen? ⟨b, o, none⟩ = false) : w.frozen? ⟨b, o, none⟩ = false :=
  (Below.frozen h (p := ⟨b, o, none⟩) hb).trans hf
end Go.Proofs.Ytkdbedbefojieaa
