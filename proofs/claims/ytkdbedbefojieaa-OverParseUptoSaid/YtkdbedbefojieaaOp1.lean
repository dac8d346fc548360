/-
  OPERATIONS THAT TURN NOTHING, by abstract values. Nothing here names a function of the program.
-/
import Derived.Test.YtkdbedbefojieaaSat
import Derived.Test.YtkdbedbefojieaaTy
import Derived.Tactics
import Derived.Deep.Quiet
import Derived.Laws.Small
import Derived.Laws.Cover3
import Derived.Laws.Pointers
namespace Go.Proofs.Ytkdbedbefojieaa
set_option linter.unusedVariables false
set_option linter.unusedSimpArgs false
open Go.RowKit
set_option maxRecDepth 100000

def aev (s : AS) : Operand → AV
  | .tmp t => s.t.getD t .de
  | .const v => match v.oneCell' with
    | true => .sc v
    | false => .de
  | .global _ => .de
  | .func f => .fn f []
def AS.put (s : AS) (d : Option Nat) (a : AV) : AS :=
  match d with
  | some d => ⟨s.t.set d a, s.b⟩
  | none => s

section
variable {P : Program} {X : Cx} {φ : Fi} {κ : Ka} {f : Nat → Ct} {L : Ct} {s : AS} {a : Act} {w w' : World}
theorem SatW.tmp (h : SatW X φ κ f L s a w) (t : Nat) : RV w φ κ X.R (s.t.getD t .de) (a.tmps.getD t undef) Ct.z := by
  rw [List.getD_eq_getElem?_getD]
  cases hs : s.t[t]? with
  | none => exact .de
  | some av =>
    obtain ⟨v, hv, hr⟩ := h.tm.at_ hs
    have : a.tmps.getD t undef = v := by
      rw [Array.getD_eq_getD_getElem?]
      rw [Array.getElem?_toList] at hv; rw [hv]; rfl
    rw [this]; exact hr
theorem SatW.ev (h : SatW X φ κ f L s a w) (x : Operand) : RV w φ κ X.R (aev s x) (a.eval x) Ct.z := by
  cases x with
  | tmp t => exact h.tmp t
  | const v =>
    show RV w φ κ X.R (match v.oneCell' with | true => AV.sc v | false => .de) v Ct.z
    cases hv : v.oneCell' with
    | true => exact .sc hv
    | false => exact .de
  | global g => exact .de
  | func f => exact .fn .nil
theorem SatW.evs (h : SatW X φ κ f L s a w) {x : Operand} {av : AV} (e : aev s x = av) : RV w φ κ X.R av (a.eval x) Ct.z := e ▸ h.ev x
theorem RV.sc_inv {R : Nat → Prop} {u v : Value} {S : Ct} (h : RV w φ κ R (.sc u) v S) : v = u := by cases h; rfl
theorem SatW.evc (h : SatW X φ κ f L s a w) {x : Operand} {v : Value} (e : aev s x = .sc v) : a.eval x = v := RV.sc_inv (h.evs e)
theorem SatW.puts (h : SatW X φ κ f L s a w) (d : Option Nat) {av : AV} {v : Value} (hv : RV w φ κ X.R av v Ct.z) : SatW X φ κ f L (s.put d av) (a.put d v) w := by
  cases d with
  | none => exact h
  | some d => exact h.put d hv
theorem SatW.blk (h : SatW X φ κ f L s a w) {x : Nat} (hx : X.R x ∨ ∃ i, i < s.b.length ∧ f i x ≠ 0) : x < w.heap.size := by
  rcases hx with hx | ⟨i, hi, hx⟩
  · exact (h.rd x hx).1
  · have := sumF_le f x _ i hi
    exact (h.own x (by omega)).1
theorem SatW.below (h : SatW X φ κ f L s a w) (hb : Below w.heap.size w w') : SatW X φ κ f L s a w' := by
  have hR : ∀ x, X.R x → w'.heap[x]? = w.heap[x]? := fun x hx => hb.block x (h.blk (.inl hx))
  refine ⟨RC.keep hR h.tm fun x hx => absurd rfl hx, h.df, fun i e he => RS.keep hR (h.sl i e he) fun x hx => hb.block x (h.blk (.inr ⟨i, (List.getElem?_eq_some_iff.1 he).1, hx⟩)), h.one, fun x hx => ⟨Nat.lt_of_lt_of_le (h.own x hx).1 hb.size, (h.own x hx).2⟩, fun x hx => ⟨Nat.lt_of_lt_of_le (h.rd x hx).1 hb.size, (h.rd x hx).2⟩, ?_, h.bas, h.new⟩
  have h0 := h.fr
  exact ⟨hb.os.trans h0.os, hb.tape.trans h0.tape, hb.output.trans h0.output, Nat.le_trans h0.size hb.size, fun x hx hS => (hb.block x (Nat.lt_of_lt_of_le hx h0.size)).trans (h0.block x hx hS)⟩
theorem SatW.rvb (h : SatW X φ κ f L s a w) (hb : Below w.heap.size w w') {av : AV} {v : Value} (hv : RV w φ κ X.R av v Ct.z) : RV w' φ κ X.R av v Ct.z :=
  RV.keep (fun x hx => hb.block x (h.blk (.inl hx))) hv fun x hx => absurd rfl hx

/-- the walk of a list of operations, from a state -/
def lift (X : Cx) (Q : Exit → AS → Prop) : Exit → Act → World → Prop := fun e a w => ∃ s, Q e s ∧ Sat X s a w
def AP (P : Program) (X : Cx) (ops : Array Oper) (Q : Exit → AS → Prop) (l : List Oper) (s : AS) : Prop := ∀ a w, Sat X s a w → wpList P ops (lift X Q) l a w

/-- an operation that yields av and turns nothing -/
def Pq (P : Program) (X : Cx) (s : AS) (o : Oper) (av : AV) : Prop :=
  ∀ X' φ κ f a w, X.le X' → SatW X' φ κ f Ct.z s a w → ∃ v, RV w φ κ X'.R av v Ct.z ∧ ∀ w', Below w.heap.size w w' → o.quietAt P a (Below w.heap.size w) w' v
theorem Pq.of_run {o : Oper} {av : AV} (h : ∀ X φ κ f a w, SatW X φ κ f Ct.z s a w → ∃ v, RV w φ κ X.R av v Ct.z ∧ ∀ w', Below w.heap.size w w' → (execOp a.eval o).run P w' = .ok (.value v) w') : Pq P X s o av :=
  fun X' φ κ f a w _ hs => by
    obtain ⟨v, hv, hr⟩ := h X' φ κ f a w hs
    exact ⟨v, hv, fun w' hw' => by simp [Oper.quietAt, hr w' hw', Oper.quietUpon]⟩

variable {ops : Array Oper} {rest : List Oper} {o : Oper} {av : AV} {Q : Exit → AS → Prop}
theorem AP.nil (h : Q .normal s) : AP P X ops Q [] s := fun _ _ hs => ⟨s, h, hs⟩
theorem AP.pure (hg : o.guard = none) (h : Pq P X s o av) (K : AP P X ops Q rest (s.put o.dst av)) : AP P X ops Q (o :: rest) s := by
  rintro a w ⟨X', φ, κ, f, hX, hs⟩
  obtain ⟨v, hv, hq⟩ := h X' φ κ f a w hX hs
  refine wpList_plain hg fun K' hK' => ?_
  refine Oper.wp_of_quiet (C := Below w.heap.size w) (K := fun a' => a' = a.put o.dst v) (Below.refl _ _) ?_ ⟨v, hq, rfl⟩
  intro a' w' hw' e
  subst e
  exact hK' _ _ (K _ _ ⟨X', φ, κ, f, hX, (hs.below hw').puts _ (hs.rvb hw' hv)⟩)

/-! moves -/
theorem pq_move {x : Operand} (ho : o.op = .move x) : Pq P X s o (aev s x) := .of_run fun X φ κ f a w hs => ⟨_, hs.ev x, fun w' _ => by simp [execOp, ho, go_sem]⟩
theorem pq_assign {x : Operand} (ho : o.op = .assign x) : Pq P X s o (aev s x) := .of_run fun X φ κ f a w hs => ⟨_, hs.ev x, fun w' _ => by simp [execOp, ho, go_sem]⟩
theorem pq_pick {c x y : Operand} {b : Bool} (ho : o.op = .pick c x y) (hc : aev s c = .sc (.bool b)) : Pq P X s o (match b with | true => aev s x | false => aev s y) := .of_run fun X φ κ f a w hs => by
  have h1 := hs.evc hc
  cases b with
  | true => exact ⟨_, hs.ev x, fun w' _ => by simp only [execOp, ho, h1]; simp [go_sem]⟩
  | false => exact ⟨_, hs.ev y, fun w' _ => by simp only [execOp, ho, h1]; simp [go_sem]⟩
theorem RV.gd_inv {R : Nat → Prop} {p : Bool} {a : AV} {v : Value} {S : Ct} (h : RV w φ κ R (.gd p a) v S) : (p = true ∧ RV w φ κ R a v S) ∨ (p = false ∧ v = undef) := by
  cases h with
  | gt h => exact .inl ⟨rfl, h⟩
  | gf => exact .inr ⟨rfl, rfl⟩
theorem pq_or {x y : Operand} {c q : Bool} (ho : o.op = .pick x (.const (.bool true)) y) (hx : aev s x = .sc (.bool c)) (hy : aev s y = .gd (!c) (.sc (.bool q))) : Pq P X s o (.sc (.bool (c || q))) := .of_run fun X φ κ f a w hs => by
  have h1 := hs.evc hx
  have h2 := hs.evs hy
  refine ⟨_, .sc rfl, fun w' _ => ?_⟩
  rcases h2.gd_inv with ⟨h3, h4⟩ | ⟨h3, _⟩
  · have h5 := RV.sc_inv h4
    cases c with
    | true => simp at h3
    | false => simp only [execOp, ho, h1, h5]; simp [go_sem]
  · cases c with
    | true => simp only [execOp, ho, h1]; simp [go_sem, Act.eval]
    | false => simp at h3
theorem pq_and {x y : Operand} {c q : Bool} (ho : o.op = .pick x y (.const (.bool false))) (hx : aev s x = .sc (.bool c)) (hy : aev s y = .gd c (.sc (.bool q))) : Pq P X s o (.sc (.bool (c && q))) := .of_run fun X φ κ f a w hs => by
  have h1 := hs.evc hx
  have h2 := hs.evs hy
  refine ⟨_, .sc rfl, fun w' _ => ?_⟩
  rcases h2.gd_inv with ⟨h3, h4⟩ | ⟨h3, _⟩
  · have h5 := RV.sc_inv h4
    subst h3
    simp only [execOp, ho, h1, h5]; simp [go_sem]
  · subst h3
    simp only [execOp, ho, h1]; simp [go_sem, Act.eval]

/-! integers, bools, strings -/
def binI (op : BinOp) (k : IntKind) (a b : Int) : Option Value :=
  match op with
  | .add => some (.int k (k.wrap (a + b)))
  | .sub => some (.int k (k.wrap (a - b)))
  | .mul => some (.int k (k.wrap (a * b)))
  | .and => some (.int k (k.wrap ((BitVec.ofInt k.bits a) &&& (BitVec.ofInt k.bits b)).toNat))
  | .or => some (.int k (k.wrap ((BitVec.ofInt k.bits a) ||| (BitVec.ofInt k.bits b)).toNat))
  | .xor => some (.int k (k.wrap ((BitVec.ofInt k.bits a) ^^^ (BitVec.ofInt k.bits b)).toNat))
  | .eql => some (.bool (a == b))
  | .neq => some (.bool (a != b))
  | .lss => some (.bool (decide (a < b)))
  | .leq => some (.bool (decide (a ≤ b)))
  | .gtr => some (.bool (decide (b < a)))
  | .geq => some (.bool (decide (b ≤ a)))
  | _ => none
theorem binI_one {op : BinOp} {k : IntKind} {a b : Int} {v : Value} (h : binI op k a b = some v) : v.oneCell' = true := by
  unfold binI at h
  split at h <;> first | (injection h with h; subst h; rfl) | cases h
theorem pq_bin {op : BinOp} {T T' : TypeId} {x y : Operand} {k : IntKind} {i j : Int} {v : Value} (ho : o.op = .binOp op T x y T') (hx : aev s x = .sc (.int k i)) (hy : aev s y = .sc (.int k j)) (hv : binI op k i j = some v) : Pq P X s o (.sc v) := .of_run fun X φ κ f a w hs => by
  have h1 := hs.evc hx
  have h2 := hs.evc hy
  refine ⟨v, .sc (binI_one hv), fun w' _ => ?_⟩
  unfold binI at hv
  cases op <;> simp only [Option.some.injEq, reduceCtorEq] at hv <;> subst hv <;> simp only [execOp, ho, h1, h2] <;>
    simp [eqGuard, binOp, Op.intArith, Op.intCmp, Op.intBits, Sem.run_bind, Sem.run_pure, go_sem]
/-- division by what is not zero -/
theorem pq_quo {T T' : TypeId} {x y : Operand} {k : IntKind} {i j : Int} (ho : o.op = .binOp .quo T x y T') (hx : aev s x = .sc (.int k i)) (hy : aev s y = .sc (.int k j)) (hj : j ≠ 0) : Pq P X s o (.sc (.int k (k.wrap (i.tdiv j)))) := .of_run fun X φ κ f a w hs => by
  have h1 := hs.evc hx
  have h2 := hs.evc hy
  refine ⟨_, .sc rfl, fun w' _ => ?_⟩
  simp only [execOp, ho, h1, h2]; simp [eqGuard, binOp, Op.intDiv, hj, go_sem]
theorem pq_rem {T T' : TypeId} {x y : Operand} {k : IntKind} {i j : Int} (ho : o.op = .binOp .rem T x y T') (hx : aev s x = .sc (.int k i)) (hy : aev s y = .sc (.int k j)) (hj : j ≠ 0) : Pq P X s o (.sc (.int k (i.tmod j))) := .of_run fun X φ κ f a w hs => by
  have h1 := hs.evc hx
  have h2 := hs.evc hy
  refine ⟨_, .sc rfl, fun w' _ => ?_⟩
  simp only [execOp, ho, h1, h2]; simp [eqGuard, binOp, Op.intDiv, hj, go_sem]
theorem pq_shl {T T' : TypeId} {x y : Operand} {k k' : IntKind} {i j : Int} (ho : o.op = .binOp .shl T x y T') (hx : aev s x = .sc (.int k i)) (hy : aev s y = .sc (.int k' j)) (hj : 0 ≤ j) : Pq P X s o (.sc (.int k (k.wrap (i * 2 ^ (min j.toNat k.bits))))) := .of_run fun X φ κ f a w hs => by
  have h1 := hs.evc hx
  have h2 := hs.evc hy
  refine ⟨_, .sc rfl, fun w' _ => ?_⟩
  simp only [execOp, ho, h1, h2]; simp [eqGuard, binOp, Op.shift, show ¬ j < 0 by omega, go_sem]
theorem pq_shr {T T' : TypeId} {x y : Operand} {k k' : IntKind} {i j : Int} (ho : o.op = .binOp .shr T x y T') (hx : aev s x = .sc (.int k i)) (hy : aev s y = .sc (.int k' j)) (hj : 0 ≤ j) : Pq P X s o (.sc (.int k (i.fdiv (2 ^ (min j.toNat k.bits))))) := .of_run fun X φ κ f a w hs => by
  have h1 := hs.evc hx
  have h2 := hs.evc hy
  refine ⟨_, .sc rfl, fun w' _ => ?_⟩
  simp only [execOp, ho, h1, h2]; simp [eqGuard, binOp, Op.shift, show ¬ j < 0 by omega, go_sem]
def binB (op : BinOp) (a b : Bool) : Option Bool :=
  match op with
  | .eql => some (a == b)
  | .neq => some (a != b)
  | _ => none
theorem pq_binB {op : BinOp} {T T' : TypeId} {x y : Operand} {p q r : Bool} (ho : o.op = .binOp op T x y T') (hx : aev s x = .sc (.bool p)) (hy : aev s y = .sc (.bool q)) (hv : binB op p q = some r) (ht : P.underlying T = some .bool) : Pq P X s o (.sc (.bool r)) := .of_run fun X φ κ f a w hs => by
  have h1 := hs.evc hx
  have h2 := hs.evc hy
  refine ⟨_, .sc rfl, fun w' _ => ?_⟩
  unfold binB at hv
  cases op <;> simp only [Option.some.injEq, reduceCtorEq] at hv <;> subst hv <;> simp only [execOp, ho, h1, h2] <;>
    simp [eqGuard, binOp, run_equal_bool, ht, go_sem] <;> (cases p <;> cases q <;> rfl)
theorem pq_not {T : TypeId} {x : Operand} {p : Bool} (ho : o.op = .unOp .not T x) (hx : aev s x = .sc (.bool p)) : Pq P X s o (.sc (.bool (!p))) := .of_run fun X φ κ f a w hs => by
  have h1 := hs.evc hx
  exact ⟨_, .sc rfl, fun w' _ => by simp only [execOp, ho, h1]; simp [Op.unary, go_sem]⟩
theorem pq_neg {T : TypeId} {x : Operand} {k : IntKind} {i : Int} (ho : o.op = .unOp .neg T x) (hx : aev s x = .sc (.int k i)) : Pq P X s o (.sc (.int k (k.wrap (0 - i)))) := .of_run fun X φ κ f a w hs => by
  have h1 := hs.evc hx
  exact ⟨_, .sc rfl, fun w' _ => by simp only [execOp, ho, h1]; simp [Op.unary, Op.intArith, go_sem]⟩
theorem pq_conv {S T : TypeId} {x : Operand} {k k' : IntKind} {i : Int} {j : TI} (ho : o.op = .convert S T x) (hx : aev s x = .sc (.int k' i)) (hS : ∃ d, P.underlying S = some d) (hT : P.underlying T = some (.int k)) : Pq P X s o (.sc (.int k (k.wrap i))) := .of_run fun X φ κ f a w hs => by
  have h1 := hs.evc hx
  obtain ⟨d, hS⟩ := hS
  exact ⟨_, .sc rfl, fun w' _ => by simp only [execOp, ho, h1]; simp [convert, run_underlying hS, run_underlying hT, Conv.intToInt, go_sem]⟩
theorem pq_extract {x : Operand} {n : Nat} {l : List AV} (ho : o.op = .extract x n) (hx : aev s x = .tu l) (hn : l[n]? = some av) : Pq P X s o av := .of_run fun X φ κ f a w hs => by
  have h1 := hs.evs hx
  generalize hv : a.eval x = v at h1
  cases h1 with
  | tu hc =>
    obtain ⟨u, hu, hr⟩ := hc.at_ hn
    refine ⟨u, hr, fun w' _ => ?_⟩
    simp only [execOp, ho, hv]
    simp [Instr.extract, hu, go_sem]
end
end Go.Proofs.Ytkdbedbefojieaa
