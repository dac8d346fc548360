/-
  APPEND ONTO A ROW OF THE CALL'S OWN, as rules of the walk; slices that are copied. Nothing here names a function of the program.
-/
import Derived.Test.YtkdbedbefojieaaReg
namespace Go.Proofs.Ytkdbedbefojieaa
set_option linter.unusedVariables false
set_option linter.unusedSimpArgs false
open Go.RowKit
set_option maxRecDepth 100000

/-- a type whose readings hang on nothing but the cells -/
def Ty.Flat {α : Type} (T : Ty α) : Prop := ∀ (w w' : World) (F F' : Nat → Prop) (cs : List Value) (x : α), T.rd w F cs x → T.rd w' F' cs x

section
variable {α : Type} {T : Ty α} {w w' : World} {F G : Nat → Prop} {A : Option Addr} {n c lo : Nat} {l : List α} {e : TypeId} {v : Value}
theorem Cells.flat (hf : T.Flat) {vs : List Value} (h : Cells T w F vs l) (w' : World) (F' : Nat → Prop) : Cells T w' F' vs l := by
  induction h with
  | nil => exact .nil
  | cons hr _ ih => exact .cons (hf _ _ _ _ _ _ hr) ih
theorem Own.flat (hf : T.Flat) (h : Own T e w lo F v l) (F' : Nat → Prop) : Own T e w lo F' v l := by
  obtain ⟨vs, ho, hc⟩ := h
  exact ⟨vs, ho, hc.flat hf _ _⟩
/-- kept where its own block is -/
theorem Own.fkeep (hf : T.Flat) (h : Own T e w lo F v l) (hb : ∀ g, v.ownBlock = some g → w'.heap[g]? = w.heap[g]?) : Own T e w' lo F v l := by
  obtain ⟨vs, ho, hc⟩ := h
  refine ⟨vs, ⟨ho.1, ?_⟩, hc.flat hf _ _⟩
  rcases ho.2 with h0 | ⟨g, cap, cur, rfl, hg, hh, rest⟩
  · exact .inl h0
  · exact .inr ⟨g, cap, cur, rfl, hg, (hb g rfl).trans hh, rest⟩
theorem Own.fbelow (hf : T.Flat) (h : Own T e w lo F v l) (hb : Below w.heap.size w w') : Own T e w' lo F v l :=
  h.fkeep hf fun g hg => hb.block g (h.lt g hg).2
theorem Own.fset (hf : T.Flat) (h : Own T e w lo F v l) {p : Addr} (hp : p.block < lo) (u : Value) : Own T e (w.setCell p u) lo F v l :=
  h.fkeep hf fun g hg => Below.heap_setCell w p u g (by have := (h.lt g hg).1; omega)
theorem Own.fag (hf : T.Flat) (h : Own T e w lo F v l) (ha : Ag (fun g => lo ≤ g ∧ g < w.heap.size) w w') : Own T e w' lo F v l :=
  h.fkeep hf fun g hg => ha g (h.lt g hg)
theorem Ag.via {B : Nat} {a w w' : World} (hb : Below B w w') (h : Ag F a w) (hF : ∀ g, F g → g < B) : Ag F a w' := h.trans (Ag.below hb hF)
/-- as a slice that reads, fresh -/
theorem Own.fsl (hT : 0 < T.size) (hf : T.Flat) (h : Own T e w lo F v l) : ∃ A n c, v = .slice A n c ∧ Sl T w (fun b => lo ≤ b) A n c l :=
  Own.sl hT (h.flat hf fun _ => False) (fun _ h => h.elim) (fun _ h _ => h)
theorem Own.form' (h : Own T e w lo F v l) : ∃ A n c, v = .slice A n c := by
  obtain ⟨vs, ho, _⟩ := h
  rcases ho.2 with ⟨rfl, _⟩ | ⟨g, cap, cur, rfl, _⟩
  · exact ⟨_, _, _, rfl⟩
  · exact ⟨_, _, _, rfl⟩
theorem Own.len' {A : Option Addr} {n c : Nat} (h : Own T e w lo F (.slice A n c) l) : n = l.length := by
  obtain ⟨vs, ho, _⟩ := h
  rcases ho.2 with ⟨hv, h0⟩ | ⟨g, cap, cur, hv, _⟩ <;> injection hv <;> omega
/-- the empty literal -/
theorem Own.lit0 (hlo : lo ≤ w.heap.size) : Own T e (w.alloc (.cells #[] e)) lo F (.slice (some ⟨w.heap.size, 0, none⟩) 0 0) [] :=
  ⟨[], World.ownsRow_made w #[] 0 hlo (Nat.zero_le _) (by simp), .nil⟩
/-- a literal of one element -/
theorem Sl.lit1 {cs : List Value} {x : α} (hT : 0 < T.size) (h : T.rd w F cs x) (hF : ∀ b, F b → b < w.heap.size) : Sl T (w.alloc (.cells cs.toArray e)) (fun b => F b ∨ b = w.heap.size) (some ⟨w.heap.size, 0, none⟩) 1 1 [x] := by
  refine ⟨rfl, Nat.le_refl _, by decide, (fun e => by cases e), fun i y hy => ?_⟩
  cases i with
  | succ i => simp at hy
  | zero =>
    simp at hy; subst hy
    refine ⟨w.heap.size, 0, cs, rfl, .inr rfl, T.mono (T.keep h ((Ag.refl _ _).alloc hF _)) (fun _ h => .inl h), fun j u hu => ?_⟩
    have hh : (w.alloc (.cells cs.toArray e)).heap[w.heap.size]? = some (.cells cs.toArray e (0, 0)) := heap_alloc_new w _
    rw [cell_of_row _ w.heap.size _ cs.toArray e (0, 0) hh]
    simpa using hu
theorem Sl.nilAny (hn : n = 0) (hc : n ≤ c) (hm : c ≤ maxLen) (hA : A = none → c = 0) : Sl T w F A n c [] := ⟨by simp [hn], hc, hm, hA, fun i x h => by simp at h⟩

variable {P : Program}
theorem wpList_append_sl {ops : Array Oper} {rest : List Oper} {o : Oper} {a : Act} {Q : Exit → Act → World → Prop} (hgd : o.guard = none) (s x : Operand) (t : TypeId)
    (ho : o.op = .call { callee := .builtin .append, args := #[s, x], argTypes := #[t, t] })
    (i : TypeInfo) (z : Value) (size bytes : Nat) (ht : P.underlying t = some (.slice e)) (hi : P.info? e = some i) (hz : i.zero = some z)
    (hsize : i.size = size) (hby : i.bytes = bytes) (hTs : size = T.size) (hzs : z.cells.size = size) (hsz : 0 < size)
    (l2 : List α) (m : Nat) (hown : Own T e w lo F v l) (hsl : Sl T w G A m c l2) (hs : a.eval s = v) (hx : a.eval x = .slice A m c)
    (h63 : l.length + m ≤ 9223372036854775807) (hbytes : (l.length + m) * bytes ≤ 140737488355328) (hlo : lo ≤ w.heap.size) (hG : ∀ b, F b → G b)
    (hFown : ∀ g, v.ownBlock = some g → ¬ G g) (hGlt : ∀ b, G b → b < w.heap.size)
    (h : ∀ v' w', Own T e w' lo G v' (l ++ l2) → w.grownBy w' v.ownBlock → (v'.ownBlock = v.ownBlock ∨ v'.ownBlock = some w.heap.size) → wpList P ops Q rest (a.put o.dst v') w') : wpList P ops Q (o :: rest) a w := by
  subst hTs
  obtain ⟨v', w', hrun, h2, h3, h4⟩ := run_append_sl (P := P) w lo t o.type e i z bytes ht hi hz hsize hby hzs hsz v l hown A m c l2 hsl h63 hbytes hlo hG hFown hGlt
  refine wpList_plain hgd fun K hK => ?_
  unfold Oper.wp execOp
  simp only [ho, resolve, invoke, builtin, Sem.run_bind, Sem.run_pure, Result.andThen_ok, List.map_toArray, List.map_cons, List.map_nil, hs, hx, hrun]
  exact hK _ _ (h v' w' h2 h3 h4)
end
theorem flat_int (k : IntKind) : (tI k).Flat := fun _ _ _ _ _ _ h => h
theorem flat_u8 : tU8.Flat := fun _ _ _ _ _ _ h => h
end Go.Proofs.Ytkdbedbefojieaa
