/-
  REGIONS THAT DRAW THEIR ORDER, one state for each set of operations done. Nothing here names a function of the program.
-/
import Derived.Test.YtkdbedbefojieaaOp7
namespace Go.Proofs.Ytkdbedbefojieaa
set_option linter.unusedVariables false
set_option linter.unusedSimpArgs false
open Go.RowKit
set_option maxRecDepth 100000

def depsOk (b : List Bool) (o : Oper) : Bool := o.after.toList.all fun e => !Region.binds .any e || b.getD e.on false
/-- whatever is done, what it waits for is done -/
def closedB : List Oper → List Bool → List Bool → Bool
  | [], _, _ => true
  | o :: l, b, x :: xs => (!x || depsOk b o) && closedB l b xs
  | _ :: _, _, [] => true
def fwdB : Nat → List Oper → Bool
  | _, [] => true
  | n, o :: l => o.after.toList.all (fun e => !Region.binds .any e || Nat.blt e.on n) && fwdB (n + 1) l
theorem closedB.at_ {b : List Bool} : ∀ {l : List Oper} {xs : List Bool} {i : Nat} {o : Oper}, closedB l b xs = true → l[i]? = some o → xs[i]? = some true → depsOk b o = true
  | [], _, _, _, _, h, _ => by simp at h
  | _ :: _, [], _, _, _, _, h => by simp at h
  | o' :: l, x :: xs, 0, o, h, ho, hx => by
    simp at ho hx; subst ho hx
    simp only [closedB, Bool.and_eq_true] at h
    simpa using h.1
  | o' :: l, x :: xs, i + 1, o, h, ho, hx => by
    simp only [closedB, Bool.and_eq_true] at h
    exact closedB.at_ h.2 (by simpa using ho) (by simpa using hx)
theorem closedB.mk {b : List Bool} : ∀ {l : List Oper} {xs : List Bool}, (∀ (i : Nat) (o : Oper), l[i]? = some o → xs[i]? = some true → depsOk b o = true) → closedB l b xs = true
  | [], _, _ => by simp [closedB]
  | _ :: _, [], _ => by simp [closedB]
  | o' :: l, x :: xs, h => by
    simp only [closedB, Bool.and_eq_true]
    refine ⟨?_, closedB.mk fun i o h1 h2 => h (i + 1) o (by simpa using h1) (by simpa using h2)⟩
    cases x with
    | false => rfl
    | true => simpa using h 0 o' rfl rfl
theorem depsOk.mono {b : List Bool} {o : Oper} {i : Nat} (h : depsOk b o = true) : depsOk (b.set i true) o = true := by
  unfold depsOk at *
  rw [List.all_eq_true] at *
  intro e he
  have := h e he
  simp only [Bool.or_eq_true] at this ⊢
  refine this.imp id fun h1 => ?_
  rw [List.getD_eq_getElem?_getD] at h1 ⊢
  rw [List.getElem?_set]
  split
  · split
    · rfl
    · rename_i h2 h3; subst h2
      rw [List.getElem?_eq_none (by omega)] at h1; simp at h1
  · exact h1
theorem fwdB.at_ : ∀ {n : Nat} {l : List Oper} {i : Nat} {o : Oper}, fwdB n l = true → l[i]? = some o → ∀ e ∈ o.after.toList, Region.binds .any e = true → e.on < n + i
  | _, [], _, _, _, h, _, _, _ => by simp at h
  | n, o' :: l, 0, o, h, ho, e, he, hb => by
    simp at ho; subst ho
    simp only [fwdB, Bool.and_eq_true] at h
    have := List.all_eq_true.1 h.1 e he
    rw [hb] at this
    have : e.on < n := by simpa using this
    omega
  | n, o' :: l, i + 1, o, h, ho, e, he, hb => by
    simp only [fwdB, Bool.and_eq_true] at h
    have := fwdB.at_ h.2 (by simpa using ho) e he hb
    omega
theorem not_all {b : List Bool} (h : b ≠ List.replicate b.length true) : ∃ i : Nat, b[i]? = some false ∧ ∀ j, j < i → b[j]? = some true := by
  induction b with
  | nil => exact absurd rfl h
  | cons x xs ih =>
    cases x with
    | false => exact ⟨0, rfl, fun j hj => by omega⟩
    | true =>
      obtain ⟨i, h1, h2⟩ := ih fun h3 => h (by rw [List.length_cons, List.replicate_succ, ← h3])
      refine ⟨i + 1, by simpa using h1, fun j hj => ?_⟩
      cases j with
      | zero => rfl
      | succ j => simpa using h2 j (by omega)
theorem filter_set : ∀ {b : List Bool} {i : Nat}, b[i]? = some false → (b.filter (fun x => !x)).length = ((b.set i true).filter (fun x => !x)).length + 1
  | [], _, h => by simp at h
  | x :: xs, 0, h => by simp at h; subst h; simp
  | x :: xs, i + 1, h => by
    have := filter_set (b := xs) (i := i) (by simpa using h)
    cases x <;> simp only [List.set_cons_succ, List.filter_cons, Bool.not_true, Bool.not_false, if_true, List.length_cons, Bool.false_eq_true, if_false] <;> omega
section
variable {P : Program} {X : Cx} {s : AS} {Q : Exit → AS → Prop}
/-- the goals, one for each operation -/
def StepsP (P : Program) (X : Cx) (ops : Array Oper) (I : List Bool → AS) (b : List Bool) : Nat → List Oper → Prop
  | _, [] => True
  | i, o :: l => (b.getD i true = false → depsOk b o = true → AP P X ops (fun e s' => e = .normal ∧ s' = I (b.set i true)) [o] (I b)) ∧ StepsP P X ops I b (i + 1) l
theorem StepsP.at_ {ops : Array Oper} {I : List Bool → AS} {b : List Bool} : ∀ {l : List Oper} {n i : Nat} {o : Oper}, StepsP P X ops I b n l → l[i]? = some o → b.getD (n + i) true = false → depsOk b o = true →
    AP P X ops (fun e s' => e = .normal ∧ s' = I (b.set (n + i) true)) [o] (I b)
  | [], _, _, _, _, h => by simp at h
  | o' :: l, n, 0, o, h, ho => by simp at ho; subst ho; exact h.1
  | o' :: l, n, i + 1, o, h, ho => by
    intro h1 h2
    have e : n + (i + 1) = n + 1 + i := by omega
    rw [e] at h1 ⊢
    exact StepsP.at_ h.2 (by simpa using ho) h1 h2
theorem wpOp_of_list {ops : Array Oper} {K : Exit → Act → World → Prop} {Q' : Exit → Act → World → Prop} {i : Nat} {o : Oper} {a : Act} {w : World} (hi : ops[i]? = some o) (h : wpList P ops K [o] a w) (hK : ∀ e a w, K e a w → e = .normal) : wpOp P ops Q' i (fun a w => K .normal a w) a w := by
  unfold wpOp
  rw [hi]
  simp only
  unfold wpList at h
  split
  · rename_i hw
    rw [if_pos hw] at h
    rcases h with h | h
    · refine .inl ?_
      unfold Oper.wp at *
      generalize (execOp a.eval o).run P w = r at *
      cases r with
      | ok n w' =>
        cases n <;> simp only [Oper.upon] at h ⊢
        all_goals first
          | exact h
          | exact Calls.mono h fun e w'' he => by
              cases e with
              | returned u => exact he
              | panicked c => cases hK _ _ _ he
              | outgrown => (obtain ⟨a', w', h'⟩ := he; cases hK _ _ _ h')
          | exact Rows.mono h fun u w'' he => he
      | halt x w' =>
        cases x <;> simp only [Oper.upon] at h ⊢
        case panic u => cases hK _ _ _ h
    · obtain ⟨_, a', w', h'⟩ := h
      cases hK _ _ _ h'
  · rename_i hw
    rw [if_neg hw] at h
    exact h
theorem any_of_steps {l : List Oper} {I : List Bool → AS} (hf : fwdB 0 l = true) (hst : ∀ b : List Bool, b.length = l.length → closedB l b b = true → StepsP P X l.toArray I b 0 l) (hend : ∀ a w, Sat X (I (List.replicate l.length true)) a w → lift X Q .normal a w) :
    ∀ (n : Nat) (b : List Bool) (a : Act) (w : World), b.length = l.length → closedB l b b = true → (b.filter (fun x => !x)).length ≤ n → Sat X (I b) a w → wpAny P .any l.toArray (lift X Q) n b.toArray a w := by
  intro n
  have hdep : ∀ (b : List Bool) (o : Oper), depsOk b o = true ↔ ∀ e ∈ o.after, Region.binds .any e = true → b.toArray.getD e.on false = true := fun b o => by
    unfold depsOk
    rw [List.all_eq_true]
    simp only [Array.mem_toList_iff, Bool.or_eq_true, Bool.not_eq_true']
    constructor
    · intro h e he hb
      rcases h e he with h | h
      · rw [hb] at h; cases h
      · simpa [Array.getD_eq_getD_getElem?, List.getD_eq_getElem?_getD] using h
    · intro h e he
      cases hb : Region.binds .any e with
      | false => exact .inl rfl
      | true => refine .inr ?_; have := h e he hb; simpa [Array.getD_eq_getD_getElem?, List.getD_eq_getElem?_getD] using this
  have hnone : ∀ (b : List Bool), b.length = l.length → Region.ready .any l.toArray b.toArray = [] → b = List.replicate l.length true := fun b hb hr => by
    by_cases hall : b = List.replicate b.length true
    · rw [hb] at hall; exact hall
    · obtain ⟨i, h1, h2⟩ := not_all hall
      have hi : i < l.length := by rw [← hb]; exact (List.getElem?_eq_some_iff.1 h1).1
      have : i ∈ Region.ready .any l.toArray b.toArray := by
        refine mem_ready.2 ⟨by simp [Array.getD_eq_getD_getElem?, h1], l[i], by simp [hi], fun e he hbi => ?_⟩
        have := fwdB.at_ hf (List.getElem?_eq_getElem hi) e (by simpa using he) hbi
        have := h2 e.on (by omega)
        simp [Array.getD_eq_getD_getElem?, this]
      rw [hr] at this; cases this
  induction n with
  | zero =>
    intro b a w hb hc hn hs
    have hall : b = List.replicate l.length true := by
      by_cases hall : b = List.replicate b.length true
      · rw [hb] at hall; exact hall
      · obtain ⟨i, h1, _⟩ := not_all hall
        have : false ∈ b.filter (fun x => !x) := List.mem_filter.2 ⟨List.mem_of_getElem? h1, rfl⟩
        have : 0 < (b.filter (fun x => !x)).length := List.length_pos_of_mem this
        omega
    refine ⟨?_, by subst hall; exact hend a w hs⟩
    cases hr : Region.ready .any l.toArray b.toArray with
    | nil => rfl
    | cons i rs =>
      have hi : i ∈ Region.ready .any l.toArray b.toArray := by rw [hr]; simp
      obtain ⟨h1, o, h2, _⟩ := mem_ready.1 hi
      have hil : i < l.length := by simpa using (Array.getElem?_eq_some_iff.1 h2).1
      rw [hall] at h1
      simp [Array.getD_eq_getD_getElem?, hil] at h1
  | succ n ih =>
    intro b a w hb hc hn hs
    refine ⟨fun hr => by rw [hnone b hb hr] at hs; exact hend a w hs, fun i hi => ?_⟩
    obtain ⟨h1, o, h2, h3⟩ := mem_ready.1 hi
    have hil : i < l.length := by simpa using (Array.getElem?_eq_some_iff.1 h2).1
    have h2' : l[i]? = some o := by simpa using h2
    have hbi : b[i]? = some false := by
      rw [List.getElem?_eq_getElem (by omega)]
      simpa [Array.getD_eq_getD_getElem?, hb, hil] using h1
    have hd := (hdep b o).2 h3
    have hap := (hst b hb hc).at_ (i := i) h2' (by rw [Nat.zero_add, List.getD_eq_getElem?_getD, hbi]; rfl) hd
    rw [Nat.zero_add] at hap
    have hop := wpOp_of_list (Q' := lift X Q) h2 (hap a w hs) fun e a w ⟨s', h, _⟩ => h.1
    refine wpOp_mono (fun a' w' ⟨s', ⟨_, h5⟩, h6⟩ => ?_) hop
    subst h5
    have := ih (b.set i true) a' w' (by simpa using hb) ?_ ?_ h6
    · simpa using this
    · refine closedB.mk fun j o' hj hx => ?_
      rw [List.getElem?_set] at hx
      by_cases hij : i = j
      · subst hij
        rw [h2'] at hj; injection hj with hj; subst hj
        exact depsOk.mono hd
      · rw [if_neg hij] at hx
        exact depsOk.mono (closedB.at_ hc hj hx)
    · have := filter_set hbi
      omega
theorem cp_drwI {id : Nat} {l : List Oper} {y : Code} (I : List Bool → AS) (hm : P.follows .mixedOrders = true) (hf : fwdB 0 l = true) (h0 : s = I (List.replicate l.length false))
    (hst : ∀ b : List Bool, b.length = l.length → closedB l b b = true → StepsP P X l.toArray I b 0 l) (hend : CP P X y Q (I (List.replicate l.length true))) : CP P X (.seq (.region id l.toArray true) y) Q s := by
  refine cp_seq fun a w hs => wp_region_any hm ?_
  obtain ⟨X', φ, κ, f, hX, hs⟩ := hs
  subst h0
  have := any_of_steps (Q := thenQ (CP P X y Q) Q) hf hst (fun a w hs => ⟨_, hend, hs⟩) l.length (List.replicate l.length false) a _ (by simp) (closedB.mk fun i o _ hx => by
    rw [List.getElem?_replicate] at hx; split at hx <;> simp at hx) (by simp) ⟨X', φ, κ, f, hX, hs.world (w' := { w with drawn := w.drawn + 1 }) rfl rfl rfl rfl⟩
  simpa using this
theorem cp_drawI {id : Nat} {l : List Oper} (J : AS → List Bool → AS) (hm : P.follows .mixedOrders = true) (hf : fwdB 0 l = true) (h0 : J s (List.replicate l.length false) = s)
    (hst : ∀ b : List Bool, b.length = l.length → closedB l b b = true → StepsP P X l.toArray (J s) b 0 l) (hend : Q .normal (J s (List.replicate l.length true))) : CP P X (.region id l.toArray true) Q s := by
  refine fun a w hs => wp_region_any hm ?_
  obtain ⟨X', φ, κ, f, hX, hs⟩ := hs
  rw [← h0] at hs
  have := any_of_steps (Q := Q) hf hst (fun a w hs => ⟨_, hend, hs⟩) l.length (List.replicate l.length false) a _ (by simp) (closedB.mk fun i o _ hx => by
    rw [List.getElem?_replicate] at hx; split at hx <;> simp at hx) (by simp) ⟨X', φ, κ, f, hX, hs.world (w' := { w with drawn := w.drawn + 1 }) rfl rfl rfl rfl⟩
  simpa using this
end
/-! functions held against nil, and called out of a cell -/
section
variable {X : Cx} {s : AS} {Q : Exit → AS → Prop} {w : World} {ops : Array Oper} {rest l : List Oper} {o : Oper}
theorem run_fneq {op : BinOp} {T T' : TypeId} {x y : Operand} {a : Act} {v : Value} {r e : Bool} (hT : (match Try.prog.underlying T with | some (.func _ _ _) => true | _ => false) = true) (ho : o.op = .binOp op T x y T') (hx : a.eval x = v) (hv : (v = .nilFunc ∧ e = true) ∨ ((∃ c f g, v = .func c f g) ∧ e = false)) (hy : a.eval y = .nilFunc) (hr : nilB op e = some r) (w : World) :
    (execOp a.eval o).run Try.prog w = .ok (.value (.bool r)) w := by
  obtain ⟨p1, p2, p3, hu⟩ : ∃ p1 p2 p3, Try.prog.underlying T = some (.func p1 p2 p3) := by
    split at hT
    · exact ⟨_, _, _, by assumption⟩
    · cases hT
  have heq : (Op.equal T v .nilFunc).run Try.prog w = .ok e w := by
    have key : ∀ d, (Op.equalIn (d + 1) T v .nilFunc).run Try.prog w = .ok e w := fun d => by
      rcases hv with ⟨rfl, rfl⟩ | ⟨⟨c, f, g, rfl⟩, rfl⟩ <;> simp [Op.equalIn, run_underlying hu]
    exact key 9999
  unfold nilB at hr
  rcases hv with ⟨rfl, rfl⟩ | ⟨⟨c, f, g, rfl⟩, rfl⟩ <;>
  (cases op <;> simp only [Option.some.injEq, reduceCtorEq] at hr <;> subst hr <;> simp only [execOp, ho, hx, hy] <;>
    simp [eqGuard, binOp, heq, go_sem])
theorem pq_fneq {op : BinOp} {T T' : TypeId} {x y : Operand} {fn : Nat} {r : Bool} (ho : o.op = .binOp op T x y T') (hx : aev s x = .sc (.func (.func fn) #[] #[])) (hy : aev s y = .sc .nilFunc) (hr : nilB op false = some r) (hT : (match Try.prog.underlying T with | some (.func _ _ _) => true | _ => false) = true) : Pq Try.prog X s o (.sc (.bool r)) := .of_run fun X φ κ f a w h =>
  ⟨_, .sc rfl, fun w' _ => run_fneq hT ho (h.evc hx) (.inr ⟨⟨_, _, _, rfl⟩, rfl⟩) (h.evc hy) hr w'⟩
theorem pq_fneqN {op : BinOp} {T T' : TypeId} {x y : Operand} {r : Bool} (ho : o.op = .binOp op T x y T') (hx : aev s x = .sc .nilFunc) (hy : aev s y = .sc .nilFunc) (hr : nilB op true = some r) (hT : (match Try.prog.underlying T with | some (.func _ _ _) => true | _ => false) = true) : Pq Try.prog X s o (.sc (.bool r)) := .of_run fun X φ κ f a w h =>
  ⟨_, .sc rfl, fun w' _ => run_fneq hT ho (h.evc hx) (.inl ⟨rfl, rfl⟩) (h.evc hy) hr w'⟩
theorem RC.setw {R : Nat → Prop} {φ : Fi} {κ : Ka} {w : World} : ∀ {l : List AV} {us : List Value} {S : Ct} {d : Nat} {a a' : AV}, RC w φ κ R l us S → l[d]? = some a → (∀ v S, RV w φ κ R a v S → RV w φ κ R a' v S) → RC w φ κ R (l.set d a') us S
  | [], _, _, _, _, _, _, h, _ => by simp at h
  | _ :: _, _, _, 0, _, _, .cons h1 h2 h3, h, hw => by simp at h; subst h; exact .cons (hw _ _ h1) h2 h3
  | _ :: l, _, _, d + 1, _, _, .cons h1 h2 h3, h, hw => .cons h1 (RC.setw h2 (by simpa using h) hw) h3
theorem AP.fnt {P : Program} {d fn : Nat} (h : s.t[d]? = some (.sc (.func (.func fn) #[] #[]))) (K : AP P X ops (fun e s' => Q e s') l ⟨s.t.set d (.fn fn []), s.b⟩) : AP P X ops Q l s := by
  rintro a w ⟨X', φ, κ, f, hX, hs⟩
  exact K a w ⟨X', φ, κ, f, hX, { tm := RC.setw hs.tm h fun v S hv => (by cases hv; exact .fn .nil), df := hs.df, sl := hs.sl, one := hs.one, own := hs.own, rd := hs.rd, fr := hs.fr, bas := hs.bas, new := hs.new }⟩
/-- nil in a cell, as an array of one's own -/
theorem gh_nilc {j u off : Nat} {T e k : Nat} {c : List AV} (hj : (newS s.b (.r e k [])).2[j]? = some ⟨u, .c T c⟩) (hc : c[off]? = some (.sc (.slice none 0 0))) :
    Gh s ⟨s.t, (newS s.b (.r e k [])).2.set j ⟨u, .c T (c.set off (.hd (newS s.b (.r e k [])).1.1 (newS s.b (.r e k [])).1.2))⟩⟩ := by
  rintro X a w ⟨X', φ, κ, f, hX, h⟩
  obtain ⟨φ', κ', f', e1, e2, e3, e4, e5⟩ := h.newS_ (w' := w) (B := .r e k []) (g := Ct.z) (L' := Ct.z) none (some (.slice none 0 0)) (Nat.le_refl _) rfl rfl rfl (fun _ _ _ => rfl) (fun φ' κ' j u a b c d => .r d .ni) (fun x _ => by simp [Ct.z]) (fun x _ => by simp [Ct.z])
  have hjl := (List.getElem?_eq_some_iff.1 hj).1
  refine ⟨X', φ', κ', f', hX, { tm := e5.tm, df := e5.df, sl := fun i e' hi => ?_, one := fun x => ?_, own := fun x hx => ?_, rd := fun x hx => by simpa using e5.rd x hx, fr := e5.fr, bas := e5.bas, new := fun i v hv => e5.new i v fun e' he => ?_ }⟩
  · rw [List.getElem?_set] at hi
    split at hi
    · rename_i hij; subst hij
      injection hi with hi; subst hi
      have h2 := e5.sl j _ hj
      generalize f' j = S at h2
      cases h2 with
      | c a b c d e => exact .c a b (RC.setw c hc fun v S hv => by cases hv; exact .hd e4 rfl) d e
    · exact e5.sl i e' hi
  · simpa using e5.one x
  · exact e5.own x (by simpa using hx)
  · by_cases hij : j = i
    · subst hij
      rw [hj] at he; injection he with he; subst he
      exact hv ⟨u, .c T (c.set off (.hd (newS s.b (.r e k [])).1.1 (newS s.b (.r e k [])).1.2))⟩ (by rw [List.getElem?_set]; simp [hjl])
    · exact hv e' (by rw [List.getElem?_set_ne hij]; exact he)
/-- an array of one's own that a cell holds takes the first free number -/
theorem gh_mvc {i ui j u off : Nat} {T e k : Nat} {c : List AV} {rows : List (List AV)} (hi : s.b[i]? = some ⟨ui, .r e k rows⟩) (hj : (newS (s.b.set i ⟨ui, .x⟩) (.r e k rows)).2[j]? = some ⟨u, .c T c⟩) (hc : c[off]? = some (.hd i ui)) :
    Gh s ⟨s.t, (newS (s.b.set i ⟨ui, .x⟩) (.r e k rows)).2.set j ⟨u, .c T (c.set off (.hd (newS (s.b.set i ⟨ui, .x⟩) (.r e k rows)).1.1 (newS (s.b.set i ⟨ui, .x⟩) (.r e k rows)).1.2))⟩⟩ := by
  rintro X a w ⟨X', φ, κ, f, hX, h⟩
  obtain ⟨hrs, ht⟩ := h.take hi .x fun _ _ => .x
  obtain ⟨v0, hκ0, hv0⟩ : ∃ v0, κ i ui = some v0 ∧ RV w φ κ X'.R (.sl (some e) k rows) v0 (f i) := by
    generalize f i = S at hrs
    cases hrs with | r a b => exact ⟨_, a, b⟩
  obtain ⟨φ', κ', f', e1, e2, e3, e4, e5⟩ := ht.newS_ (w' := w) (B := .r e k rows) (g := f i) (L' := Ct.z) none (some v0) (Nat.le_refl _) rfl rfl rfl (fun _ _ _ => rfl) (fun φ' κ' j u a b c d => .r d (RV.hist a b (fun _ h => h) hv0)) (fun x _ => by simp [Ct.z]) (fun x hx => by
    by_cases h0 : f i x = 0
    · simp [h0, Ct.z]
    · have := ht.own x (by omega); omega)
  have hjl := (List.getElem?_eq_some_iff.1 hj).1
  refine ⟨X', φ', κ', f', hX, { tm := e5.tm, df := e5.df, sl := fun i' e' hi' => ?_, one := fun x => ?_, own := fun x hx => ?_, rd := fun x hx => by simpa using e5.rd x hx, fr := e5.fr, bas := e5.bas, new := fun i2 v hv => e5.new i2 v fun e' he => ?_ }⟩
  · rw [List.getElem?_set] at hi'
    split at hi'
    · rename_i hij; subst hij
      injection hi' with hi'; subst hi'
      have h2 := e5.sl j _ hj
      generalize f' j = S at h2
      cases h2 with
      | c a b c d e =>
        refine .c a b (RC.setw c hc fun v S hv => ?_) d e
        cases hv with
        | hd hκ hs =>
          rw [e2 _ _ _ hκ0] at hκ; injection hκ with hκ; subst hκ
          exact .hd e4 hs
    · exact e5.sl i' e' hi'
  · simpa using e5.one x
  · exact e5.own x (by simpa using hx)
  · by_cases hij : j = i2
    · subst hij
      rw [hj] at he; injection he with he; subst he
      exact hv ⟨u, .c T (c.set off (.hd (newS (s.b.set i ⟨ui, .x⟩) (.r e k rows)).1.1 (newS (s.b.set i ⟨ui, .x⟩) (.r e k rows)).1.2))⟩ (by rw [List.getElem?_set]; simp [hjl])
    · exact hv e' (by rw [List.getElem?_set_ne hij]; exact he)
end
end Go.Proofs.Ytkdbedbefojieaa
