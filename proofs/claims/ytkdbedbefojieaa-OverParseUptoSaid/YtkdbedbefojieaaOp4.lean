/-
  OPERATIONS THAT MAKE AND TURN MEMORY, by abstract values. Nothing here names a function of the program.
-/
import Derived.Test.YtkdbedbefojieaaOp2
namespace Go.Proofs.Ytkdbedbefojieaa
set_option linter.unusedVariables false
set_option linter.unusedSimpArgs false
open Go.RowKit
set_option maxRecDepth 100000

/-- the first number under which nothing lies -/
def findX : List Sl → Nat → Option (Nat × Nat)
  | [], _ => none
  | ⟨u, .x⟩ :: _, n => some (n, u)
  | _ :: l, n => findX l (n + 1)
theorem findX_at : ∀ {l : List Sl} {n j u : Nat}, findX l n = some (j, u) → n ≤ j ∧ l[j - n]? = some ⟨u, .x⟩
  | [], _, _, _, h => by simp [findX] at h
  | ⟨v, .x⟩ :: l, n, j, u, h => by
    simp only [findX, Option.some.injEq, Prod.mk.injEq] at h
    obtain ⟨rfl, rfl⟩ := h
    simp
  | ⟨v, .c T c⟩ :: l, n, j, u, h => by
    have := findX_at (l := l) (n := n + 1) (by simpa [findX] using h)
    refine ⟨by omega, ?_⟩
    rw [show j - n = (j - (n + 1)) + 1 by omega]; simpa using this.2
  | ⟨v, .r e k c⟩ :: l, n, j, u, h => by
    have := findX_at (l := l) (n := n + 1) (by simpa [findX] using h)
    refine ⟨by omega, ?_⟩
    rw [show j - n = (j - (n + 1)) + 1 by omega]; simpa using this.2
  | ⟨v, .o⟩ :: l, n, j, u, h => by
    have := findX_at (l := l) (n := n + 1) (by simpa [findX] using h)
    refine ⟨by omega, ?_⟩
    rw [show j - n = (j - (n + 1)) + 1 by omega]; simpa using this.2
/-- a new thing: its number, its version, the table behind it -/
def newS (b : List Sl) (B : Bx) : (Nat × Nat) × List Sl :=
  match findX b 0 with
  | some (j, u) => ((j, u + 1), b.set j ⟨u + 1, B⟩)
  | none => ((b.length, 1), b ++ [⟨1, B⟩])
def Fi.on (φ : Fi) (j u : Nat) (g : Option Nat) : Fi := fun i v => if i = j ∧ v = u then g else φ i v
def Ka.on (κ : Ka) (j u : Nat) (g : Option Value) : Ka := fun i v => if i = j ∧ v = u then g else κ i v

section
variable {X : Cx} {φ : Fi} {κ : Ka} {f : Nat → Ct} {L L' g : Ct} {s : AS} {a : Act} {w w' : World}
theorem SatW.newAt (h : SatW X φ κ f L s a w) {j u : Nat} {B : Bx} (hj : s.b[j]? = some ⟨u, .x⟩) (gφ : Option Nat) (gκ : Option Value)
    (hsz : w.heap.size ≤ w'.heap.size) (hos : w'.os = w.os) (htp : w'.tape = w.tape) (hou : w'.output = w.output)
    (hblk : ∀ x, x < w.heap.size → L x = 0 → w'.heap[x]? = w.heap[x]?)
    (hB : ∀ φ' κ', (∀ b u g, φ b u = some g → φ' b u = some g) → (∀ b u v, κ b u = some v → κ' b u = some v) → φ' j (u + 1) = gφ → κ' j (u + 1) = gκ → RS w' φ' κ' X.R j (u + 1) B g)
    (hone : ∀ x, x < w.heap.size → g x + L' x ≤ L x) (hnew : ∀ x, w.heap.size ≤ x → g x + L' x ≤ 1 ∧ (g x + L' x ≠ 0 → x < w'.heap.size)) :
    ∃ φ' κ' f', (∀ b u g, φ b u = some g → φ' b u = some g) ∧ (∀ b u v, κ b u = some v → κ' b u = some v) ∧ φ' j (u + 1) = gφ ∧ κ' j (u + 1) = gκ ∧ SatW X φ' κ' f' L' ⟨s.t, s.b.set j ⟨u + 1, B⟩⟩ a w' := by
  have hnone := h.new j (u + 1) (fun e he => by rw [hj] at he; injection he with he; subst he; simp)
  have hφ : ∀ b v g, φ b v = some g → (φ.on j (u + 1) gφ) b v = some g := fun b v g hg => by
    unfold Fi.on
    by_cases hc : b = j ∧ v = u + 1
    · rw [hc.1, hc.2, hnone.1] at hg; cases hg
    · rw [if_neg hc]; exact hg
  have hκ : ∀ b v g, κ b v = some g → (κ.on j (u + 1) gκ) b v = some g := fun b v g hg => by
    unfold Ka.on
    by_cases hc : b = j ∧ v = u + 1
    · rw [hc.1, hc.2, hnone.2] at hg; cases hg
    · rw [if_neg hc]; exact hg
  have e1 : (φ.on j (u + 1) gφ) j (u + 1) = gφ := by simp [Fi.on]
  have e2 : (κ.on j (u + 1) gκ) j (u + 1) = gκ := by simp [Ka.on]
  have hz : ∀ x, f j x = 0 := fun x => by
    have := h.sl j _ hj
    generalize f j = S at this
    cases this; rfl
  refine ⟨φ.on j (u + 1) gφ, κ.on j (u + 1) gκ, updF f j g, hφ, hκ, e1, e2, ?_⟩
  refine h.turn hj hφ hκ hsz hos htp hou (fun x hx h0 => hblk x hx (by omega)) (hB _ _ hφ hκ e1 e2) (fun x hx => by have := hone x hx; omega) hnew (by simp) ?_ ?_
  · intro i v hv hn
    unfold Fi.on
    rw [if_neg (by omega)]; exact hn
  · intro i v hv hn
    unfold Ka.on
    rw [if_neg (by omega)]; exact hn
theorem SatW.newS_ (h : SatW X φ κ f L s a w) {B : Bx} (gφ : Option Nat) (gκ : Option Value)
    (hsz : w.heap.size ≤ w'.heap.size) (hos : w'.os = w.os) (htp : w'.tape = w.tape) (hou : w'.output = w.output)
    (hblk : ∀ x, x < w.heap.size → L x = 0 → w'.heap[x]? = w.heap[x]?)
    (hB : ∀ φ' κ' j u, (∀ b u g, φ b u = some g → φ' b u = some g) → (∀ b u v, κ b u = some v → κ' b u = some v) → φ' j u = gφ → κ' j u = gκ → RS w' φ' κ' X.R j u B g)
    (hone : ∀ x, x < w.heap.size → g x + L' x ≤ L x) (hnew : ∀ x, w.heap.size ≤ x → g x + L' x ≤ 1 ∧ (g x + L' x ≠ 0 → x < w'.heap.size)) :
    ∃ φ' κ' f', (∀ b u g, φ b u = some g → φ' b u = some g) ∧ (∀ b u v, κ b u = some v → κ' b u = some v) ∧ φ' (newS s.b B).1.1 (newS s.b B).1.2 = gφ ∧ κ' (newS s.b B).1.1 (newS s.b B).1.2 = gκ ∧ SatW X φ' κ' f' L' ⟨s.t, (newS s.b B).2⟩ a w' := by
  unfold newS
  cases hf : findX s.b 0 with
  | some p =>
    obtain ⟨j, u⟩ := p
    have hj := (findX_at hf).2
    simp only [Nat.sub_zero] at hj
    exact h.newAt hj gφ gκ hsz hos htp hou hblk (fun φ' κ' a b c d => hB φ' κ' j (u + 1) a b c d) hone hnew
  | none =>
    have h' := h.slot
    have hj : (s.b ++ [(⟨0, .x⟩ : Sl)])[s.b.length]? = some ⟨0, .x⟩ := by simp
    obtain ⟨φ', κ', f', h1, h2, h3, h4, h5⟩ := h'.newAt (B := B) (j := s.b.length) (u := 0) hj gφ gκ hsz hos htp hou hblk (fun φ' κ' a b c d => hB φ' κ' s.b.length 1 a b c d) hone hnew
    refine ⟨φ', κ', f', h1, h2, h3, h4, ?_⟩
    have e : (s.b ++ [(⟨0, .x⟩ : Sl)]).set s.b.length ⟨0 + 1, B⟩ = s.b ++ [⟨1, B⟩] := by
      rw [List.set_append_right _ _ (Nat.le_refl _)]; simp
    simp only [e] at h5
    exact h5

/-- the cells of a value -/
def AV.cells : AV → List AV
  | .ag l => l
  | a => [a]
/-- a value whose cells are known -/
def AV.known : AV → Bool
  | .ag _ | .sc _ | .sl _ _ _ | .bp _ _ _ | .hd _ _ | .ep _ _ _ _ _ | .rp _ _ _ _ | .fn _ _ | .sb _ _ _ _ => true
  | _ => false
theorem RV.cells_ {R : Nat → Prop} {a : AV} {v : Value} (h : RV w φ κ R a v Ct.z) (hk : a.known = true) : RC w φ κ R a.cells v.cells.toList Ct.z ∧ ∀ u ∈ v.cells.toList, u.oneCell' = true := by
  have one : ∀ {a : AV} {v : Value}, RV w φ κ R a v Ct.z → v.oneCell' = true → v.cells.toList = [v] → a.cells = [a] → RC w φ κ R a.cells v.cells.toList Ct.z ∧ ∀ u ∈ v.cells.toList, u.oneCell' = true := by
    intro a v h h1 h2 h3
    rw [h2, h3]
    exact ⟨.cons (S := Ct.z) (T := Ct.z) h .nil fun _ => rfl, fun u hu => by simp at hu; subst hu; exact h1⟩
  generalize hz : Ct.z = S at h
  cases h with
  | @sc v h1 => exact one (.sc h1) h1 (by cases v <;> first | rfl | simp [Value.oneCell'] at h1) rfl
  | bp h1 => exact one (.bp h1) rfl rfl rfl
  | ni => exact one .ni rfl rfl rfl
  | ne => exact one .ne rfl rfl rfl
  | ro a b c d e => exact one (.ro a b c d e) rfl rfl rfl
  | ow a b c d e f h => subst hz; exact one (.ow a b c d e f h) rfl rfl rfl
  | @hd _ _ v h1 h2 => exact one (.hd h1 h2) h2 (by cases v <;> first | rfl | simp [Value.oneCell'] at h2) rfl
  | ep h1 => exact one (.ep h1) rfl rfl rfl
  | rp h1 h2 h3 => exact one (.rp h1 h2 h3) rfl rfl rfl
  | ag h1 h2 => subst hz; exact ⟨by simpa [AV.cells, Value.cells] using h1, by simpa [Value.cells] using h2⟩
  | tu h1 => cases hk
  | de => cases hk
  | gt h1 => cases hk
  | gf => cases hk
  | fs h1 h2 => cases hk
  | hf h1 => cases hk
  | sb h1 h2 => exact one (.sb h1 h2) rfl rfl rfl
  | fn h1 => subst hz; exact one (.fn h1) rfl rfl rfl

variable {P : Program} {ops : Array Oper} {rest : List Oper} {o : Oper} {av : AV} {Q : Exit → AS → Prop}
/-- an operation that runs to a value and a world -/
theorem AP.run (hg : o.guard = none) {s' : AS} (h : ∀ X φ κ f a w, SatW X φ κ f Ct.z s a w → ∃ v w' φ' κ' f', (execOp a.eval o).run P w = .ok (.value v) w' ∧ SatW X φ' κ' f' Ct.z s' (a.put o.dst v) w')
    (K : AP P X ops Q rest s') : AP P X ops Q (o :: rest) s := by
  rintro a w ⟨X', φ, κ, f, hX, hs⟩
  obtain ⟨v, w', φ', κ', f', hr, hs'⟩ := h X' φ κ f a w hs
  refine wpList_plain hg fun K' hK' => ?_
  unfold Oper.wp
  rw [hr]
  exact hK' _ _ (K _ _ ⟨X', φ', κ', f', hX, hs'⟩)
theorem AP.runG (hg : o.guard = none) {s' : AS} (h : ∀ X φ κ f a w, SatW X φ κ f Ct.z s a w → ∃ X1 v w' φ' κ' f', X.le X1 ∧ (execOp a.eval o).run P w = .ok (.value v) w' ∧ SatW X1 φ' κ' f' Ct.z s' (a.put o.dst v) w')
    (K : AP P X ops Q rest s') : AP P X ops Q (o :: rest) s := by
  rintro a w ⟨X', φ, κ, f, hX, hs⟩
  obtain ⟨X1, v, w', φ', κ', f', hX1, hr, hs'⟩ := h X' φ κ f a w hs
  refine wpList_plain hg fun K' hK' => ?_
  unfold Oper.wp
  rw [hr]
  exact hK' _ _ (K _ _ ⟨X1, φ', κ', f', hX.trans hX1, hs'⟩)
theorem AP.runU (hg : o.guard = none) {s' : AS} (h : ∀ X φ κ f a w, SatW X φ κ f Ct.z s a w → ∃ w' φ' κ' f', (execOp a.eval o).run P w = .ok .skip w' ∧ SatW X φ' κ' f' Ct.z s' (a.put o.dst undef) w')
    (K : AP P X ops Q rest s') : AP P X ops Q (o :: rest) s := by
  rintro a w ⟨X', φ, κ, f, hX, hs⟩
  obtain ⟨w', φ', κ', f', hr, hs'⟩ := h X' φ κ f a w hs
  refine wpList_plain hg fun K' hK' => ?_
  unfold Oper.wp
  rw [hr]
  exact hK' _ _ (K _ _ ⟨X', φ', κ', f', hX, hs'⟩)

theorem run_newVar (T : TypeId) (v : Value) (w : World) : (newVar T v).run P w = .ok ⟨w.heap.size, 0, none⟩ (w.alloc (.cells v.cells T)) := by
  rfl
/-- cells that were just made -/
theorem RS.made {R : Nat → Prop} {j u : Nat} {T : TypeId} {l : List AV} {vs : List Value} (hr : RC w φ κ R l vs Ct.z) (h1 : ∀ v ∈ vs, v.oneCell' = true) (hR : ∀ x, R x → x < w.heap.size) (φ' : Fi) (κ' : Ka)
    (hφ : ∀ b u g, φ b u = some g → φ' b u = some g) (hκ : ∀ b u v, κ b u = some v → κ' b u = some v) (hj : φ' j u = some w.heap.size) :
    RS (w.alloc (.cells vs.toArray T)) φ' κ' R j u (.c T l) (fun x => if x = w.heap.size then 1 else 0) :=
  .c hj (heap_alloc_new w _) (RC.hist hφ hκ (fun _ h => h) (RC.keep (fun x hx => Below.heap_alloc w _ x (hR x hx)) hr fun x hx => absurd rfl hx)) h1 fun _ => rfl
theorem SatW.make (h : SatW X φ κ f Ct.z s a w) (T : TypeId) {l : List AV} {vs : List Value} (hr : RC w φ κ X.R l vs Ct.z) (h1 : ∀ v ∈ vs, v.oneCell' = true) (d : Option Nat) :
    ∃ φ' κ' f', SatW X φ' κ' f' Ct.z (AS.put ⟨s.t, (newS s.b (.c T l)).2⟩ d (.bp (newS s.b (.c T l)).1.1 (newS s.b (.c T l)).1.2 0)) (a.put d (.pointer (some ⟨w.heap.size, 0, none⟩))) (w.alloc (.cells vs.toArray T)) := by
  obtain ⟨φ', κ', f', h2, h3, h4, h5, h6⟩ := h.newS_ (w' := w.alloc (.cells vs.toArray T)) (B := .c T l) (L' := Ct.z) (g := fun x => if x = w.heap.size then 1 else 0) (some w.heap.size) none (by simp) rfl rfl rfl
    (fun x hx _ => Below.heap_alloc w _ x hx) (fun φ' κ' j u a b c d => RS.made hr h1 (fun x hx => h.blk (.inl hx)) φ' κ' a b c)
    (fun x hx => by simp [Ct.z]; omega) (fun x hx => by simp only [Ct.z]; split <;> simp_all)
  exact ⟨φ', κ', f', h6.puts d (.bp h4)⟩
/-- box: a variable with a value -/
theorem ap_box {T : TypeId} {x : Operand} (hg : o.guard = none) (ho : o.op = .box T x) (hx : aev s x = av) (hk : av.known = true)
    (K : AP P X ops Q rest (AS.put ⟨s.t, (newS s.b (.c T av.cells)).2⟩ o.dst (.bp (newS s.b (.c T av.cells)).1.1 (newS s.b (.c T av.cells)).1.2 0))) : AP P X ops Q (o :: rest) s :=
  .run hg (fun X φ κ f a w h => by
    obtain ⟨hr, h1⟩ := (h.evs hx).cells_ hk
    obtain ⟨φ', κ', f', hs⟩ := h.make T hr h1 o.dst
    have hrun : (execOp a.eval o).run P w = .ok (.value (.pointer (some ⟨w.heap.size, 0, none⟩))) (w.alloc (.cells (a.eval x).cells T)) := by
      simp only [execOp, ho, Instr.box, Sem.run_bind, run_newVar]; rfl
    exact ⟨_, _, φ', κ', f', hrun, by simpa only [Array.toArray_toList] using hs⟩) K
/-- alloc: a variable with its zero value -/
theorem ap_alloc {T : TypeId} {i : TI} {z : List ZC} (hg : o.guard = none) (ho : o.op = .alloc T) (hT : tt[T]? = some i) (hz : i.zero = some z)
    (K : AP Try.prog X ops Q rest (AS.put ⟨s.t, (newS s.b (.c T (z.map fun c => .sc c.val))).2⟩ o.dst (.bp (newS s.b (.c T (z.map fun c => .sc c.val))).1.1 (newS s.b (.c T (z.map fun c => .sc c.val))).1.2 0))) : AP Try.prog X ops Q (o :: rest) s :=
  .run hg (fun X φ κ f a w h => by
    obtain ⟨d, j, hd, hj, _, _, _, hzz⟩ := TI.parts (ty hT)
    obtain ⟨v, hv, hvc, _⟩ := hzz z hz
    have one : ∀ c : ZC, c.val.oneCell' = true := fun c => by cases c <;> rfl
    have hr : RC w φ κ X.R (z.map fun c => .sc c.val) (z.map ZC.val) Ct.z := RC.of_at (by simp) fun i av hi => by
      simp only [List.getElem?_map, Option.map_eq_some_iff] at hi ⊢
      obtain ⟨c, hc, rfl⟩ := hi
      exact ⟨_, ⟨c, hc, rfl⟩, .sc (one c)⟩
    obtain ⟨φ', κ', f', hs⟩ := h.make T hr (fun v hv => by simp only [List.mem_map] at hv; obtain ⟨c, _, rfl⟩ := hv; exact one c) o.dst
    have e : v.cells = (z.map ZC.val).toArray := by rw [← hvc]
    have hzv : (zeroValue T).run Try.prog w = .ok v w := by simp [zeroValue, typeInfo, hj, hv, go_sem]
    have hrun : (execOp a.eval o).run Try.prog w = .ok (.value (.pointer (some ⟨w.heap.size, 0, none⟩))) (w.alloc (.cells (z.map ZC.val).toArray T)) := by
      simp only [execOp, ho, Instr.alloc, Sem.run_bind, hzv, Result.andThen_ok, run_newVar, e]; rfl
    exact ⟨_, _, φ', κ', f', hrun, hs⟩) K

/-! stores -/
def spl {α : Type} : List α → Nat → List α → List α
  | l, _, [] => l
  | l, o, a :: r => spl (l.set o a) (o + 1) r
theorem spl_length {α : Type} : ∀ (r : List α) (l : List α) (o : Nat), (spl l o r).length = l.length
  | [], _, _ => rfl
  | a :: r, l, o => by simp [spl, spl_length r]
theorem RC.spl_ {R : Nat → Prop} : ∀ {r : List AV} {us : List Value} {l : List AV} {vs : List Value} {o : Nat}, RC w φ κ R l vs Ct.z → RC w φ κ R r us Ct.z → RC w φ κ R (spl l o r) (spl vs o us) Ct.z
  | [], us, l, vs, o, h, hr => by cases us with
    | nil => exact h
    | cons _ _ => have := hr.length; simp at this
  | a :: r, us, l, vs, o, h, hr => by cases us with
    | nil => have := hr.length; simp at this
    | cons u us =>
      have h0 := hr.at_ (i := 0) (a := a) rfl
      obtain ⟨v, hv, hrv⟩ := h0
      simp at hv; subst hv
      have hr' : RC w φ κ R r us Ct.z := RC.of_at (by simpa using hr.length) fun i b hb => by simpa using hr.at_ (i := i + 1) (a := b) (by simpa using hb)
      exact RC.spl_ (l := l.set o a) (vs := vs.set o u) (h.set_ hrv) hr'
theorem spl_one : ∀ {us : List Value} {vs : List Value} {o : Nat}, (∀ v ∈ vs, v.oneCell' = true) → (∀ v ∈ us, v.oneCell' = true) → ∀ v ∈ spl vs o us, v.oneCell' = true
  | [], vs, o, h, _ => h
  | u :: us, vs, o, h, h' => spl_one (vs := vs.set o u) (fun v hv => (List.mem_or_eq_of_mem_set hv).elim (h v) (fun e => e ▸ h' u (by simp))) fun v hv => h' v (by simp [hv])
theorem heap_setCells (b : Nat) (T : TypeId) : ∀ (us vs : List Value) (o : Nat) (w : World), w.heap[b]? = some (.cells vs.toArray T (0, 0)) → (w.setCells b o us).heap[b]? = some (.cells (spl vs o us).toArray T (0, 0))
  | [], vs, o, w, h => h
  | u :: us, vs, o, w, h => by
    refine heap_setCells b T us (vs.set o u) (o + 1) (w.setCell ⟨b, o, none⟩ u) ?_
    simp [World.setCell, Array.getElem?_modify, h]
theorem size_setCells (b : Nat) : ∀ (us : List Value) (o : Nat) (w : World), (w.setCells b o us).heap.size = w.heap.size
  | [], _, _ => rfl
  | u :: us, o, w => by rw [World.setCells, size_setCells b us]; simp [World.setCell]
theorem heap_setCells_ne (b : Nat) : ∀ (us : List Value) (o : Nat) (w : World) (x : Nat), x ≠ b → (w.setCells b o us).heap[x]? = w.heap[x]?
  | [], _, _, _, _ => rfl
  | u :: us, o, w, x, h => by rw [World.setCells, heap_setCells_ne b us _ _ x h]; exact Below.heap_setCell w _ u x h
theorem os_setCells' (b : Nat) : ∀ (us : List Value) (o : Nat) (w : World), (w.setCells b o us).os = w.os
  | [], _, _ => rfl
  | u :: us, o, w => by rw [World.setCells, os_setCells' b us]; rfl
theorem out_setCells (b : Nat) : ∀ (us : List Value) (o : Nat) (w : World), (w.setCells b o us).output = w.output
  | [], _, _ => rfl
  | u :: us, o, w => by rw [World.setCells, out_setCells b us]; rfl
theorem tape_setCells (b : Nat) : ∀ (us : List Value) (o : Nat) (w : World), (w.setCells b o us).tape = w.tape
  | [], _, _ => rfl
  | u :: us, o, w => by rw [World.setCells, tape_setCells b us]; rfl
theorem run_storeAny {T : TypeId} {v : Value} {b off n : Nat} (w : World) (hi : (P.info? T).map (·.size) = some n) (hn : v.cells.size = n) (h1 : ∀ u ∈ v.cells.toList, u.oneCell' = true) (hth : w.there b off n) :
    (Instr.storeAt T (.pointer (some ⟨b, off, none⟩)) v).run P w = .ok () (w.setCells b off v.cells.toList) := by
  subst hn
  have hs : (sizeOf T).run P w = .ok v.cells.size w := by
    cases hq : P.info? T with
    | none => simp [hq] at hi
    | some j => simp [hq] at hi; simp [sizeOf, typeInfo, hq, hi, go_sem]
  have := run_storeCells_cells (P := P) b off v.cells.toList 0 w (fun j hj => by simpa using (hth j (by simpa using hj)).1) (fun j hj => by simpa using (hth j (by simpa using hj)).2) h1
  simp only [Nat.add_zero] at this
  simp only [Instr.storeAt, Instr.sureAddr, Sem.run_bind, Sem.run_pure, Result.andThen_ok, storeVar, hs, ne_eq, not_true_eq_false, if_false]
  exact this
/-- a store into a variable -/
theorem ap_store {T T' : TypeId} {x y : Operand} {b u off : Nat} {l : List AV} {i : TI} (hg : o.guard = none) (ho : o.op = .store T x y) (hx : aev s x = .bp b u off) (hs : s.b[b]? = some ⟨u, .c T' l⟩) (hy : aev s y = av) (hk : av.known = true)
    (hT : tt[T]? = some i) (hn : av.cells.length = i.size) (hl : Nat.ble (off + i.size) l.length = true)
    (K : AP Try.prog X ops Q rest (AS.put ⟨s.t, s.b.set b ⟨u, .c T' (spl l off av.cells)⟩⟩ o.dst (.tu []))) : AP Try.prog X ops Q (o :: rest) s :=
  .runU hg (fun X φ κ f a w h => by
    have hl := Nat.le_of_ble_eq_true hl
    obtain ⟨hr, h1⟩ := (h.evs hy).cells_ hk
    obtain ⟨g, vs, he, hh, hc, hv1⟩ := h.cells (Below.refl _ _) hx hs
    obtain ⟨d, j, hd, hj, _, hsz, _⟩ := TI.parts (ty hT)
    have hlen := hr.length
    have hvl := hc.length
    have hS := h.sl b _ hs
    have hbp := h.evs hx
    rw [he] at hbp
    have hφ : φ b u = some g := by cases hbp with | bp h => exact h
    have hth : w.there g off i.size := fun j hj => by
      refine ⟨?_, by simp [World.frozen?, hh]⟩
      rw [cell_of_row w g (off + j) vs.toArray T' (0, 0) hh]
      simp; omega
    have hrun := run_storeAny (P := Try.prog) (T := T) (b := g) (off := off) w (n := i.size) (by rw [hj]; simp [hsz]) (by rw [← hn, ← hlen]; simp) h1 hth
    have hb : b < s.b.length := (List.getElem?_eq_some_iff.1 hs).1
    have hf : ∀ x, f b x = if x = g then 1 else 0 := by
      generalize f b = F at hS
      cases hS with
      | c hφ' _ _ _ hSx => rw [hφ] at hφ'; injection hφ' with e; subst e; exact hSx
    have hgl : g < w.heap.size := (Array.getElem?_eq_some_iff.1 hh).1
    have hrun' : (execOp a.eval o).run Try.prog w = .ok .skip (w.setCells g off (a.eval y).cells.toList) := by
      simp only [execOp, ho, he, Sem.run_bind, hrun]; rfl
    refine ⟨_, φ, κ, updF f b (fun x => if x = g then 1 else 0), hrun', SatW.puts ?_ o.dst (RV.tu RC.nil)⟩
    refine h.turn (w' := w.setCells g off (a.eval y).cells.toList) hs (fun _ _ _ h => h) (fun _ _ _ h => h) (by rw [size_setCells]; exact Nat.le_refl _) (os_setCells' g _ off w) (tape_setCells g _ off w) (out_setCells g _ off w) ?_ ?_ (g := fun x => if x = g then 1 else 0) (L' := Ct.z) ?_ ?_ (Nat.le_refl _) (fun _ _ _ h => h) (fun _ _ _ h => h)
    · intro x hx h0
      have := hf x
      have hne : x ≠ g := by rintro rfl; simp at this; omega
      exact heap_setCells_ne g _ off w x hne
    · have hR : ∀ x, X.R x → (w.setCells g off (a.eval y).cells.toList).heap[x]? = w.heap[x]? := fun x hx => by
        have h3 := h.not_rd hx
        have h4 := sumF_le f x _ b hb
        have h5 := hf x
        have hne : x ≠ g := by rintro rfl; simp at h5; omega
        exact heap_setCells_ne g _ off w x hne
      exact .c hφ (heap_setCells g T' _ vs off w hh) (RC.keep hR (hc.spl_ hr) fun x hx => absurd rfl hx) (spl_one hv1 h1) fun _ => rfl
    · intro x hx; have := hf x; simp only [Ct.z]; omega
    · intro x hx; simp only [Ct.z]; split
      · omega
      · simp) K
end
end Go.Proofs.Ytkdbedbefojieaa
