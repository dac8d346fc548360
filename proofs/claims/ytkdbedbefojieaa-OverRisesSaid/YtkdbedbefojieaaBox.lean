/-
  BLOCKS KNOWN WHOLE, and results that lie in one. Nothing here names a function of the program.
-/
import Derived.Test.YtkdbedbefojieaaApp
import Derived.Laws.ResultCell
namespace Go.Proofs.Ytkdbedbefojieaa
set_option linter.unusedVariables false
set_option linter.unusedSimpArgs false
open Go.RowKit
set_option maxRecDepth 100000

/-- block b is just the cells cs of element type t, none frozen -/
def Box (w : World) (b : Nat) (t : TypeId) (cs : List Value) : Prop := w.heap[b]? = some (.cells cs.toArray t (0, 0))
section
variable {w w' : World} {b : Nat} {t : TypeId} {cs : List Value}
theorem Box.lt (h : Box w b t cs) : b < w.heap.size := (Array.getElem?_eq_some_iff.1 h).1
theorem Box.new (h : b = w.heap.size) : Box (w.alloc (.cells cs.toArray t)) b t cs := by subst h; exact heap_alloc_new w _
theorem Box.alloc (h : Box w b t cs) (o : Obj) : Box (w.alloc o) b t cs := (Below.heap_alloc w o b h.lt).trans h
theorem Box.set_ {cs' : List Value} {i : Nat} {u : Value} (h : Box w b t cs) (hcs : cs.set i u = cs') : Box (w.setCell ⟨b, i, none⟩ u) b t cs' := by
  subst hcs
  unfold Box at h ⊢
  simp [World.setCell, Array.getElem?_modify, h]
theorem Box.far (h : Box w b t cs) {p : Addr} (hp : b ≠ p.block) (u : Value) : Box (w.setCell p u) b t cs := (Below.heap_setCell w p u b hp).trans h
theorem Box.drew (h : Box w b t cs) : Box w.drew b t cs := h
theorem Box.via {B : Nat} (hb : Below B w w') (h : Box w b t cs) (hlt : b < B) : Box w' b t cs := (hb.block b hlt).trans h
theorem Box.ag {F : Nat → Prop} (ha : Ag F w w') (h : Box w b t cs) (hF : F b) : Box w' b t cs := (ha b hF).trans h
theorem Box.cell (h : Box w b t cs) (i : Nat) : w.cell? ⟨b, i, none⟩ = cs[i]? := by
  rw [cell_of_row w b i cs.toArray t (0, 0) h]; simp
theorem Box.frozen (h : Box w b t cs) (i : Nat) : w.frozen? ⟨b, i, none⟩ = false := by
  unfold Box at h
  simp [World.frozen?, h]
end
section
variable {P : Program} {fn : Func} {w : World} {b r i j : Nat} {T : TypeId} {cs : List Value} {d : TypeDesc} {tmps : Array Value}
theorem results_c1 (h : fn.results = #[.cell r T]) (hp : tmps.getD r undef = .pointer (some ⟨b, 0, none⟩)) (hb : Box w b T cs) (hd : (match d with | .struct _ | .array _ _ => true | _ => false) = true)
    (hu : P.underlying T = some d) (hi : (P.info? T).map (·.size) = some cs.length) : (results fn tmps).run P w = .ok (.agg cs.toArray) w := by
  have := run_loadVar_row (P := P) w b T T cs.toArray (0, 0) d hb hu (by cases d <;> first | rfl | exact hd) (by simpa using hi)
  rw [Array.getD_eq_getD_getElem?] at hp
  simp [results, h, hp, this, asAddr]
theorem results_c2 {v1 : Value} (h : fn.results = #[.cell r T, .tmp i]) (h1 : tmps.getD i undef = v1) (hp : tmps.getD r undef = .pointer (some ⟨b, 0, none⟩)) (hb : Box w b T cs) (hd : (match d with | .struct _ | .array _ _ => true | _ => false) = true)
    (hu : P.underlying T = some d) (hi : (P.info? T).map (·.size) = some cs.length) : (results fn tmps).run P w = .ok (.tuple #[.agg cs.toArray, v1]) w := by
  subst h1
  have := run_loadVar_row (P := P) w b T T cs.toArray (0, 0) d hb hu (by cases d <;> first | rfl | exact hd) (by simpa using hi)
  rw [Array.getD_eq_getD_getElem?] at hp
  simp [results, h, hp, this, asAddr]
theorem results_c3 {v1 v2 : Value} (h : fn.results = #[.cell r T, .tmp i, .tmp j]) (h1 : tmps.getD i undef = v1) (h2 : tmps.getD j undef = v2) (hp : tmps.getD r undef = .pointer (some ⟨b, 0, none⟩)) (hb : Box w b T cs) (hd : (match d with | .struct _ | .array _ _ => true | _ => false) = true)
    (hu : P.underlying T = some d) (hi : (P.info? T).map (·.size) = some cs.length) : (results fn tmps).run P w = .ok (.tuple #[.agg cs.toArray, v1, v2]) w := by
  subst h1 h2
  have := run_loadVar_row (P := P) w b T T cs.toArray (0, 0) d hb hu (by cases d <;> first | rfl | exact hd) (by simpa using hi)
  rw [Array.getD_eq_getD_getElem?] at hp
  simp [results, h, hp, this, asAddr]
end
theorem Own.slc {α : Type} {T : Ty α} {w : World} {e : TypeId} {lo n c : Nat} {F : Nat → Prop} {A : Option Addr} {l : List α} (hT : 0 < T.size) (hf : T.Flat) (h : Own T e w lo F (.slice A n c) l) : Sl T w (fun b => lo ≤ b) A n c l := by
  obtain ⟨A', n', c', hv, hs⟩ := Own.fsl hT hf h
  injection hv with h1 h2 h3
  subst h1 h2 h3
  exact hs
/-- a block of at least m cells, none frozen -/
def Shape (w : World) (g : Nat) (e : TypeId) (m : Nat) : Prop := ∃ cs : Array Value, w.heap[g]? = some (.cells cs e (0, 0)) ∧ m ≤ cs.size
section
variable {w w' : World} {g m : Nat} {e : TypeId}
theorem Shape.cell (h : Shape w g e m) {j : Nat} (hj : j < m) : ∃ v, w.cell? ⟨g, j, none⟩ = some v := by
  obtain ⟨cs, hh, hm⟩ := h
  exact ⟨cs[j], by rw [cell_of_row w g j cs e (0, 0) hh]; exact Array.getElem?_eq_getElem (by omega)⟩
theorem Shape.frozen (h : Shape w g e m) (j : Nat) : w.frozen? ⟨g, j, none⟩ = false := by
  obtain ⟨cs, hh, _⟩ := h
  simp [World.frozen?, hh]
theorem Shape.set_ (h : Shape w g e m) (p : Addr) (u : Value) : Shape (w.setCell p u) g e m := by
  obtain ⟨cs, hh, hm⟩ := h
  by_cases hp : g = p.block
  · subst hp
    refine ⟨if p.spot.isSome then cs else cs.setIfInBounds p.off u, by simp [World.setCell, Array.getElem?_modify, hh], ?_⟩
    split <;> simpa using hm
  · exact ⟨cs, (Below.heap_setCell w p u g hp).trans hh, hm⟩
theorem Shape.ag {F : Nat → Prop} (h : Shape w g e m) (ha : Ag F w w') (hF : F g) : Shape w' g e m := by
  obtain ⟨cs, hh, hm⟩ := h
  exact ⟨cs, (ha g hF).trans hh, hm⟩
theorem Own.shape {α : Type} {T : Ty α} {lo n c : Nat} {F : Nat → Prop} {A : Option Addr} {l : List α} (h : Own T e w lo F (.slice A n c) l) (hn : 0 < n) : ∃ g, A = some ⟨g, 0, none⟩ ∧ lo ≤ g ∧ g < w.heap.size ∧ Shape w g e (n * T.size) := by
  have hl := h.len'
  obtain ⟨vs, ho, _⟩ := h
  rcases ho.2 with ⟨_, h0⟩ | ⟨g, cap, cur, hv, hg, hh, hle, _, hsz, _⟩
  · omega
  · injection hv with h1 h2 h3
    exact ⟨g, h1, hg, (Array.getElem?_eq_some_iff.1 hh).1, cur, hh, by rw [hsz, hl]; exact Nat.mul_le_mul_right _ hle⟩
end
end Go.Proofs.Ytkdbedbefojieaa
