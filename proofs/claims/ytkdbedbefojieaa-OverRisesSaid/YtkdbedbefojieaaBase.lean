/-
  WORDS FOR MEMORY: footprints, readings of typed data, slices. Nothing here names a function of the program.
-/
import Derived.Test.YtkdbedbefojieaaRows
import Derived.WalkKit
import Derived.ProofKit
import Derived.Lib.Hide
import Derived.Below
import Derived.Laws.OwnMore
import Derived.Deep.AppendLies
import Derived.Deep.Draws
import Derived.Deep.Slices
import Derived.Maps.AppendAt
import Derived.Carry
import Derived.ChangeSame
import Derived.ChangeArms
import Derived.JoinedCond
namespace Go.Proofs.Ytkdbedbefojieaa
set_option linter.unusedVariables false
set_option linter.unusedSimpArgs false
open Go.RowKit Go.ChangeShapes Go.WideShapes Go.ChangeAt Go.Deep

/-! ### footprints -/
def Ag (F : Nat → Prop) (w w' : World) : Prop := ∀ b, F b → w'.heap[b]? = w.heap[b]?
theorem Ag.refl (F : Nat → Prop) (w : World) : Ag F w w := fun _ _ => rfl
theorem Ag.trans {F : Nat → Prop} {a b c : World} (h : Ag F a b) (k : Ag F b c) : Ag F a c := fun i hi => (k i hi).trans (h i hi)
theorem Ag.mono {F G : Nat → Prop} {a b : World} (h : Ag F a b) (k : ∀ i, G i → F i) : Ag G a b := fun i hi => h i (k i hi)
theorem Ag.alloc {F : Nat → Prop} {a w : World} (h : Ag F a w) (hF : ∀ b, F b → b < w.heap.size) (o : Obj) : Ag F a (w.alloc o) :=
  fun b hb => (Below.heap_alloc w o b (hF b hb)).trans (h b hb)
theorem Ag.drew {F : Nat → Prop} {a w : World} (h : Ag F a w) : Ag F a w.drew := h
theorem Ag.drewN {F : Nat → Prop} {a w : World} (h : Ag F a w) (n : Nat) : Ag F a (w.drewN n) := h
theorem Ag.setCell {F : Nat → Prop} {a w : World} (h : Ag F a w) {p : Addr} (hp : ¬ F p.block) (u : Value) : Ag F a (w.setCell p u) :=
  fun b hb => (Below.heap_setCell w p u b (fun e => hp (e ▸ hb))).trans (h b hb)
theorem Ag.below {F : Nat → Prop} {w w' : World} {B : Nat} (hb : Below B w w') (hF : ∀ b, F b → b < B) : Ag F w w' := fun b h => hb.block b (hF b h)
theorem Ag.grown {F : Nat → Prop} {w w' : World} {row : Option Nat} (hg : w.grownBy w' row) (hF : ∀ b, F b → b < w.heap.size ∧ some b ≠ row) : Ag F w w' :=
  fun b h => hg.block b (hF b h).1 (hF b h).2

theorem below_drewN {B : Nat} {a w : World} (h : Below B a w) (n : Nat) : Below B a (w.drewN n) := ⟨h.os, h.tape, h.output, h.size, h.block⟩
theorem cell_of_ag {F : Nat → Prop} {w w' : World} {b o : Nat} (h : Ag F w w') (hb : F b) : w'.cell? ⟨b, o, none⟩ = w.cell? ⟨b, o, none⟩ :=
  World.cell?_of_block (a := ⟨b, o, none⟩) (h b hb)
/-- what a callee that makes memory leaves alone -/
theorem bcell {W w1 : World} {B : Nat} (hb : Below B W w1) : (∀ b o, b < B → w1.cell? ⟨b, o, none⟩ = W.cell? ⟨b, o, none⟩) ∧ (∀ b o, b < B → w1.frozen? ⟨b, o, none⟩ = W.frozen? ⟨b, o, none⟩) :=
  ⟨fun b o h => hb.cell (p := ⟨b, o, none⟩) h, fun b o h => hb.frozen (p := ⟨b, o, none⟩) h⟩
theorem lt_of_cell {w : World} {b o : Nat} {u : Value} (h : w.cell? ⟨b, o, none⟩ = some u) : b < w.heap.size := World.block_lt_of_cell? w ⟨b, o, none⟩ h

theorem addr_add (b o j : Nat) : (⟨b, o, none⟩ : Addr).add j = ⟨b, o + j, none⟩ := by
  unfold Addr.add
  by_cases h : j = 0 <;> simp [h]

/-! ### typed readings -/
structure Ty (α : Type) where
  size : Nat
  rd : World → (Nat → Prop) → List Value → α → Prop
  len : ∀ {w F cs x}, rd w F cs x → cs.length = size
  one : ∀ {w F cs x}, rd w F cs x → ∀ u ∈ cs, u.oneCell' = true
  keep : ∀ {w w' F cs x}, rd w F cs x → Ag F w w' → rd w' F cs x
  mono : ∀ {w F G cs x}, rd w F cs x → (∀ b, F b → G b) → rd w G cs x
  lt : ∀ {w F cs x}, rd w F cs x → rd w (fun b => F b ∧ b < w.heap.size) cs x

theorem Ty.below {α : Type} (T : Ty α) {w w' : World} {F : Nat → Prop} {cs : List Value} {x : α} (h : T.rd w F cs x) (hb : Below w.heap.size w w') : T.rd w' F cs x :=
  T.mono (T.keep (T.lt h) (Ag.below hb fun _ k => k.2)) fun _ k => k.1

/-- a slice value reads as a list -/
def Sl {α : Type} (T : Ty α) (w : World) (F : Nat → Prop) (A : Option Addr) (n c : Nat) (l : List α) : Prop :=
  n = l.length ∧ n ≤ c ∧ c ≤ maxLen ∧ (A = none → c = 0) ∧
  ∀ i x, l[i]? = some x → ∃ b o cs, A = some ⟨b, o, none⟩ ∧ F b ∧ T.rd w F cs x ∧ ∀ j u, cs[j]? = some u → w.cell? ⟨b, o + (i * T.size + j), none⟩ = some u

section
variable {α : Type} {T : Ty α} {w w' : World} {F G : Nat → Prop} {A : Option Addr} {n c : Nat} {l : List α}
theorem Sl.nil : Sl T w F none 0 0 [] := ⟨rfl, Nat.le_refl _, Nat.zero_le _, fun _ => rfl, fun i x h => by simp at h⟩
theorem Sl.length (h : Sl T w F A n c l) : n = l.length := h.1
theorem Sl.cap (h : Sl T w F A n c l) : n ≤ c := h.2.1
theorem Sl.max (h : Sl T w F A n c l) : c ≤ 9223372036854775807 := h.2.2.1
theorem Sl.facts (h : Sl T w F A n c l) : n ≤ c ∧ c ≤ 9223372036854775807 ∧ n ≤ l.length ∧ l.length ≤ n := ⟨h.2.1, h.2.2.1, by have := h.1; omega, by have := h.1; omega⟩
theorem Sl.keep (h : Sl T w F A n c l) (hk : Ag F w w') : Sl T w' F A n c l :=
  ⟨h.1, h.2.1, h.2.2.1, h.2.2.2.1, fun i x hx => by
    obtain ⟨b, o, cs, hA, hF, hr, hc⟩ := h.2.2.2.2 i x hx
    exact ⟨b, o, cs, hA, hF, T.keep hr hk, fun j u hu => (cell_of_ag hk hF).trans (hc j u hu)⟩⟩
theorem Sl.mono (h : Sl T w F A n c l) (hk : ∀ b, F b → G b) : Sl T w G A n c l :=
  ⟨h.1, h.2.1, h.2.2.1, h.2.2.2.1, fun i x hx => by
    obtain ⟨b, o, cs, hA, hF, hr, hc⟩ := h.2.2.2.2 i x hx
    exact ⟨b, o, cs, hA, hk b hF, T.mono hr hk, hc⟩⟩
theorem Sl.lt (hT : 0 < T.size) (h : Sl T w F A n c l) : Sl T w (fun b => F b ∧ b < w.heap.size) A n c l :=
  ⟨h.1, h.2.1, h.2.2.1, h.2.2.2.1, fun i x hx => by
    obtain ⟨b, o, cs, hA, hF, hr, hc⟩ := h.2.2.2.2 i x hx
    have hl := T.len hr
    have h0 : cs[0]? = some (cs[0]'(by omega)) := List.getElem?_eq_getElem (by omega)
    exact ⟨b, o, cs, hA, ⟨hF, lt_of_cell (hc 0 _ h0)⟩, T.lt hr, hc⟩⟩
theorem Sl.below (hT : 0 < T.size) (h : Sl T w F A n c l) (hb : Below w.heap.size w w') : Sl T w' F A n c l :=
  ((Sl.lt hT h).keep (Ag.below hb fun _ k => k.2)).mono fun _ k => k.1
theorem Sl.take (h : Sl T w F A n c l) {k k' : Nat} (hk : k ≤ n) (hk' : k ≤ k') (hc : k' ≤ c) : Sl T w F A k k' (l.take k) :=
  ⟨by have := h.1; simp; omega, hk', Nat.le_trans hc h.2.2.1, fun e => by have := h.2.2.2.1 e; omega, fun i x hx => h.2.2.2.2 i x (by
    rw [List.getElem?_take] at hx
    split at hx
    · exact hx
    · cases hx)⟩
/-- the k-th element -/
theorem Sl.at_ (h : Sl T w F A n c l) {k : Nat} (hk : k < n) : ∃ b o cs x, A = some ⟨b, o, none⟩ ∧ F b ∧ l[k]? = some x ∧ T.rd w F cs x ∧ ∀ j u, cs[j]? = some u → w.cell? ⟨b, o + (k * T.size + j), none⟩ = some u := by
  have hl : k < l.length := by have := h.1; omega
  obtain ⟨b, o, cs, hA, hF, hr, hc⟩ := h.2.2.2.2 k l[k] (List.getElem?_eq_getElem hl)
  exact ⟨b, o, cs, l[k], hA, hF, List.getElem?_eq_getElem hl, hr, hc⟩
end

def tI (k : IntKind) : Ty Int where
  size := 1
  rd _ _ cs x := cs = [.int k x] ∧ (Lit.int k x).wf = true
  len := by rintro _ _ _ _ ⟨rfl, _⟩; rfl
  one := by rintro _ _ _ _ ⟨rfl, _⟩ u hu; simp at hu; subst hu; rfl
  keep h _ := h
  mono h _ := h
  lt h := h
def tB : Ty Bool where
  size := 1
  rd _ _ cs x := cs = [.bool x]
  len := by rintro _ _ _ _ rfl; rfl
  one := by rintro _ _ _ _ rfl u hu; simp at hu; subst hu; rfl
  keep h _ := h
  mono h _ := h
  lt h := h
def tU8 : Ty UInt8 where
  size := 1
  rd _ _ cs x := cs = [.int .u8 (x.toNat : Int)]
  len := by rintro _ _ _ _ rfl; rfl
  one := by rintro _ _ _ _ rfl u hu; simp at hu; subst hu; rfl
  keep h _ := h
  mono h _ := h
  lt h := h
def tSl {α : Type} (T : Ty α) (hT : 0 < T.size) : Ty (List α) where
  size := 1
  rd w F cs l := ∃ A n c, cs = [.slice A n c] ∧ Sl T w F A n c l
  len := by rintro _ _ _ _ ⟨A, n, c, rfl, _⟩; rfl
  one := by rintro _ _ _ _ ⟨A, n, c, rfl, _⟩ u hu; simp at hu; subst hu; rfl
  keep := by rintro _ _ _ _ _ ⟨A, n, c, rfl, h⟩ hk; exact ⟨A, n, c, rfl, h.keep hk⟩
  mono := by rintro _ _ _ _ _ ⟨A, n, c, rfl, h⟩ hk; exact ⟨A, n, c, rfl, h.mono hk⟩
  lt := by rintro _ _ _ _ ⟨A, n, c, rfl, h⟩; exact ⟨A, n, c, rfl, h.lt hT⟩

/-- bounds of an int -/
theorem wf_i64 {x : Int} (h : (Lit.int .i64 x).wf = true) : -9223372036854775808 ≤ x ∧ x ≤ 9223372036854775807 := by
  simpa [Lit.wf, IntKind.min, IntKind.max, IntKind.signed, IntKind.bits] using h
theorem mk_i64 {x : Int} (h : -9223372036854775808 ≤ x) (h' : x ≤ 9223372036854775807) : (Lit.int .i64 x).wf = true := by
  simpa [Lit.wf, IntKind.min, IntKind.max, IntKind.signed, IntKind.bits] using And.intro h h'
theorem wf_u8 {x : Int} (h : (Lit.int .u8 x).wf = true) : 0 ≤ x ∧ x ≤ 255 := by
  simpa [Lit.wf, IntKind.min, IntKind.max, IntKind.signed, IntKind.bits] using h

/-! ### rows of the call's own -/
/-- cells of elements, one by one -/
inductive Cells {α : Type} (T : Ty α) (w : World) (F : Nat → Prop) : List Value → List α → Prop
  | nil : Cells T w F [] []
  | cons {cs vs : List Value} {x : α} {l : List α} : T.rd w F cs x → Cells T w F vs l → Cells T w F (cs ++ vs) (x :: l)

section
variable {α : Type} {T : Ty α} {w w' : World} {F G : Nat → Prop} {A : Option Addr} {n c : Nat} {l : List α}
theorem Cells.length {vs : List Value} (h : Cells T w F vs l) : vs.length = l.length * T.size := by
  induction h with
  | nil => simp
  | cons hr _ ih => simp [ih, T.len hr, Nat.add_mul, Nat.add_comm]
theorem Cells.keep {vs : List Value} (h : Cells T w F vs l) (hk : Ag F w w') : Cells T w' F vs l := by
  induction h with
  | nil => exact .nil
  | cons hr _ ih => exact .cons (T.keep hr hk) ih
theorem Cells.mono {vs : List Value} (h : Cells T w F vs l) (hk : ∀ b, F b → G b) : Cells T w G vs l := by
  induction h with
  | nil => exact .nil
  | cons hr _ ih => exact .cons (T.mono hr hk) ih
theorem Cells.lt {vs : List Value} (h : Cells T w F vs l) : Cells T w (fun b => F b ∧ b < w.heap.size) vs l := by
  induction h with
  | nil => exact .nil
  | cons hr _ ih => exact .cons (T.lt hr) ih
theorem Cells.append {vs us : List Value} {m : List α} (h : Cells T w F vs l) (k : Cells T w F us m) : Cells T w F (vs ++ us) (l ++ m) := by
  induction h with
  | nil => exact k
  | cons hr _ ih => rw [List.append_assoc]; exact .cons hr ih
theorem Cells.single {cs : List Value} {x : α} (h : T.rd w F cs x) : Cells T w F cs [x] := by
  have := Cells.cons h (Cells.nil (T := T) (w := w) (F := F))
  simpa using this
theorem Cells.one {vs : List Value} (h : Cells T w F vs l) : ∀ u ∈ vs, u.oneCell' = true := by
  induction h with
  | nil => intro u hu; cases hu
  | cons hr _ ih => intro u hu; exact (List.mem_append.1 hu).elim (T.one hr u) (ih u)
theorem Cells.at_ {vs : List Value} (h : Cells T w F vs l) : ∀ {i : Nat} {x : α}, l[i]? = some x → ∃ cs, T.rd w F cs x ∧ ∀ j u, cs[j]? = some u → vs[i * T.size + j]? = some u := by
  induction h with
  | nil => intro i x hx; simp at hx
  | @cons cs vs y l hr hrest ih =>
    intro i x hx
    cases i with
    | zero =>
      simp at hx; subst hx
      refine ⟨cs, hr, fun j u hu => ?_⟩
      have hj : j < cs.length := (List.getElem?_eq_some_iff.1 hu).1
      simpa [List.getElem?_append_left hj] using hu
    | succ i =>
      simp at hx
      obtain ⟨ds, hd, hc⟩ := ih hx
      refine ⟨ds, hd, fun j u hu => ?_⟩
      rw [List.getElem?_append_right (by rw [T.len hr, Nat.add_mul]; omega), T.len hr]
      rw [show (i + 1) * T.size + j - T.size = i * T.size + j by rw [Nat.add_mul]; omega]
      exact hc j u hu
/-- the cells of a slice -/
theorem Sl.cells (h : Sl T w F A n c l) : ∃ vs, Cells T w F vs l ∧ vs.length = n * T.size ∧ ∀ j u, vs[j]? = some u → ∃ b o, A = some ⟨b, o, none⟩ ∧ F b ∧ w.cell? ⟨b, o + j, none⟩ = some u := by
  obtain ⟨h1, _, _, _, h5⟩ := h
  suffices hs : ∀ (m : Nat) (k : List α), (∀ i x, k[i]? = some x → l[m + i]? = some x) → ∃ vs, Cells T w F vs k ∧ ∀ j u, vs[j]? = some u → ∃ b o, A = some ⟨b, o, none⟩ ∧ F b ∧ w.cell? ⟨b, o + (m * T.size + j), none⟩ = some u by
    obtain ⟨vs, hc, hv⟩ := hs 0 l (fun i x hx => by simpa using hx)
    exact ⟨vs, hc, by rw [hc.length, h1], fun j u hu => by simpa using hv j u hu⟩
  intro m k
  induction k generalizing m with
  | nil => exact fun _ => ⟨[], .nil, fun j u hu => by simp at hu⟩
  | cons x k ih =>
    intro hk
    obtain ⟨b, o, cs, hA, hF, hr, hc⟩ := h5 m x (by simpa using hk 0 x (by simp))
    obtain ⟨vs, hcs, hv⟩ := ih (m + 1) (fun i y hy => by have := hk (i + 1) y (by simpa using hy); rwa [show m + (i + 1) = m + 1 + i by omega] at this)
    refine ⟨cs ++ vs, .cons hr hcs, fun j u hu => ?_⟩
    by_cases hj : j < cs.length
    · rw [List.getElem?_append_left hj] at hu
      exact ⟨b, o, hA, hF, hc j u hu⟩
    · rw [List.getElem?_append_right (by omega)] at hu
      obtain ⟨b', o', hA', hF', hc'⟩ := hv _ u hu
      refine ⟨b', o', hA', hF', ?_⟩
      have hl := T.len hr
      rw [show m * T.size + j = (m + 1) * T.size + (j - cs.length) by rw [Nat.add_mul]; omega]
      exact hc'

/-- a slice value owns its row: from block 'lo' on, not frozen, at offset 0 -/
def Own (T : Ty α) (e : TypeId) (w : World) (lo : Nat) (F : Nat → Prop) (v : Value) (l : List α) : Prop :=
  ∃ vs, w.ownsRow lo e T.size v l.length vs ∧ Cells T w F vs l
theorem Own.nil {e : TypeId} {lo : Nat} : Own T e w lo F (.slice none 0 0) [] := ⟨[], World.ownsRow_nil _ _ _ _, .nil⟩
/-- an owned row as a slice that reads -/
theorem Own.sl {e : TypeId} {lo : Nat} {v : Value} (hT : 0 < T.size) (h : Own T e w lo F v l) (hF : ∀ b, F b → G b) (hlo : ∀ b, lo ≤ b → b < w.heap.size → G b) : ∃ A n c, v = .slice A n c ∧ Sl T w G A n c l := by
  obtain ⟨vs, ho, hc⟩ := h
  have hl := hc.length
  rcases ho.2 with ⟨rfl, h0⟩ | ⟨g, cap, cur, rfl, hg, hh, hle, hmx, hsz, htk⟩
  · have : l = [] := List.eq_nil_of_length_eq_zero h0
    subst this
    exact ⟨none, 0, 0, rfl, Sl.nil⟩
  · refine ⟨some ⟨g, 0, none⟩, l.length, cap, rfl, rfl, hle, hmx, (fun e => by cases e), fun i x hx => ?_⟩
    have hlt : g < w.heap.size := (Array.getElem?_eq_some_iff.1 hh).1
    obtain ⟨cs, hr, hcs⟩ := hc.at_ hx
    refine ⟨g, 0, cs, rfl, hlo g hg hlt, T.mono hr hF, fun j u hu => ?_⟩
    have := ho.cells (g := g) rfl _ u (hcs j u hu)
    rw [addr_add] at this
    exact this
theorem Own.keep {e : TypeId} {lo : Nat} {v : Value} (h : Own T e w lo F v l) (hk : Ag F w w') (hb : ∀ g, v.ownBlock = some g → w'.heap[g]? = w.heap[g]?) : Own T e w' lo F v l := by
  obtain ⟨vs, ho, hc⟩ := h
  refine ⟨vs, ⟨ho.1, ?_⟩, hc.keep hk⟩
  rcases ho.2 with h0 | ⟨g, cap, cur, rfl, hg, hh, rest⟩
  · exact .inl h0
  · exact .inr ⟨g, cap, cur, rfl, hg, (hb g rfl).trans hh, rest⟩
theorem Own.mono {e : TypeId} {lo : Nat} {v : Value} (h : Own T e w lo F v l) (hk : ∀ b, F b → G b) : Own T e w lo G v l := by
  obtain ⟨vs, ho, hc⟩ := h
  exact ⟨vs, ho, hc.mono hk⟩
theorem Own.lo {e : TypeId} {lo lo' : Nat} {v : Value} (h : Own T e w lo F v l) (hk : lo' ≤ lo) : Own T e w lo' F v l := by
  obtain ⟨vs, ho, hc⟩ := h
  refine ⟨vs, ⟨ho.1, ?_⟩, hc⟩
  rcases ho.2 with h0 | ⟨g, cap, cur, rfl, hg, rest⟩
  · exact .inl h0
  · exact .inr ⟨g, cap, cur, rfl, by omega, rest⟩
theorem Own.lt {e : TypeId} {lo : Nat} {v : Value} (h : Own T e w lo F v l) : ∀ g, v.ownBlock = some g → lo ≤ g ∧ g < w.heap.size := by
  obtain ⟨vs, ho, _⟩ := h
  exact ho.lt

variable {P : Program}
/-- append of a slice that reads, onto a row of the call's own -/
theorem run_append_sl (w : World) (lo : Nat) (t ty e : TypeId) (i : TypeInfo) (z : Value) (bytes : Nat) (ht : P.underlying t = some (.slice e)) (hi : P.info? e = some i) (hz : i.zero = some z)
    (hsize : i.size = T.size) (hby : i.bytes = bytes) (hzs : z.cells.size = T.size) (hsz : 0 < T.size)
    (v : Value) (l : List α) (hown : Own T e w lo F v l) (A : Option Addr) (m c : Nat) (l2 : List α) (hs : Sl T w G A m c l2)
    (h63 : l.length + m ≤ 9223372036854775807) (hbytes : (l.length + m) * bytes ≤ 140737488355328) (hlo : lo ≤ w.heap.size) (hG : ∀ b, F b → G b)
    (hFown : ∀ g, v.ownBlock = some g → ¬ G g) (hGlt : ∀ b, G b → b < w.heap.size) :
    ∃ v' w', (Builtin.append_ #[t, t] ty #[v, .slice A m c]).run P w = .ok v' w' ∧ Own T e w' lo G v' (l ++ l2) ∧ w.grownBy w' v.ownBlock ∧ (v'.ownBlock = v.ownBlock ∨ v'.ownBlock = some w.heap.size) := by
  obtain ⟨vs, ho, hc⟩ := hown
  obtain ⟨us, hu, hul, huc⟩ := hs.cells
  have hm := hs.1
  rcases A with _ | ad
  · have h0 : m = 0 := by have := hs.2.2.2.1 rfl; have := hs.2.1; omega
    subst h0
    have hl2 : l2 = [] := List.eq_nil_of_length_eq_zero hm.symm
    subst hl2
    refine ⟨v, w, ?_, ⟨vs, by simpa using ho, by simpa using hc.mono hG⟩, World.grownBy.refl w _, .inl rfl⟩
    rcases ho.2 with ⟨rfl, h0⟩ | ⟨g, cap, cur, rfl, _, _, hnc, _⟩
    · simp [Builtin.append_, run_underlying ht, sizeOf, typeInfo, hi, Builtin.lenOf, Builtin.firstCells]
    · simp [Builtin.append_, run_underlying ht, sizeOf, typeInfo, hi, Builtin.lenOf, Builtin.firstCells, hnc, storeCells]
  · have hcells : ∀ j u, us[j]? = some u → w.cell? (ad.add j) = some u := by
      intro j u hju
      obtain ⟨b, o, hA, _, hcell⟩ := huc j u hju
      injection hA with hA
      subst hA
      rw [addr_add]
      exact hcell
    obtain ⟨v', w', hrun, h2, h3, _, h5⟩ := run_append_own_at (P := P) w lo t ty e i z T.size bytes ht hi hz hsize hby hzs hsz v l.length vs ho ad m c us hul hcells hu.one h63 hbytes hlo
    have hag : Ag G w w' := Ag.grown h3 fun b hb => ⟨hGlt b hb, fun e => hFown b e.symm hb⟩
    exact ⟨v', w', hrun, ⟨vs ++ us, by simpa [← hm] using h2, ((hc.mono hG).append hu).keep hag⟩, h3, h5⟩
end
end Go.Proofs.Ytkdbedbefojieaa
