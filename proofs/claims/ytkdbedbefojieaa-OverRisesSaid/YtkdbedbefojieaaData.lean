/-
  THE PROGRAM'S DATA AS PLAIN STRUCTURES, and how each lies in memory. Nothing here names a function of the program.
-/
import Derived.Test.YtkdbedbefojieaaReg
namespace Go.Proofs.Ytkdbedbefojieaa
set_option linter.unusedVariables false
set_option linter.unusedSimpArgs false
open Go.RowKit
set_option maxRecDepth 100000

/-- an int's range -/
def I64 (x : Int) : Prop := -9223372036854775808 ≤ x ∧ x ≤ 9223372036854775807

structure Member where
  node : Int
  since : Int
  whole : Bool
structure Config where
  epoch : Int
  members : List Member
structure Entry where
  pos : Int
  stamp : Int
  client : Int
  id : Int
  body : List UInt8

def Member.ok (x : Member) : Prop := I64 x.node ∧ I64 x.since
def Entry.ok (x : Entry) : Prop := I64 x.pos ∧ I64 x.stamp ∧ I64 x.client ∧ I64 x.id

def tMember : Ty Member where
  size := 3
  rd _ _ cs x := cs = [.int .i64 x.node, .int .i64 x.since, .bool x.whole] ∧ x.ok
  len := by rintro _ _ _ _ ⟨rfl, _⟩; rfl
  one := by rintro _ _ _ _ ⟨rfl, _⟩ u hu; simp at hu; rcases hu with rfl | rfl | rfl <;> rfl
  keep h _ := h
  mono h _ := h
  lt h := h
abbrev SlM := Sl tMember
def tConfig : Ty Config where
  size := 2
  rd w F cs x := ∃ A n c, cs = [.int .i64 x.epoch, .slice A n c] ∧ I64 x.epoch ∧ SlM w F A n c x.members
  len := by rintro _ _ _ _ ⟨A, n, c, rfl, _⟩; rfl
  one := by rintro _ _ _ _ ⟨A, n, c, rfl, _⟩ u hu; simp at hu; rcases hu with rfl | rfl <;> rfl
  keep := by rintro _ _ _ _ _ ⟨A, n, c, rfl, ho, h⟩ hk; exact ⟨A, n, c, rfl, ho, h.keep hk⟩
  mono := by rintro _ _ _ _ _ ⟨A, n, c, rfl, ho, h⟩ hk; exact ⟨A, n, c, rfl, ho, h.mono hk⟩
  lt := by rintro _ _ _ _ ⟨A, n, c, rfl, ho, h⟩; exact ⟨A, n, c, rfl, ho, h.lt (by decide)⟩
abbrev SlB := Sl tU8
def tEntry : Ty Entry where
  size := 5
  rd w F cs x := ∃ A n c, cs = [.int .i64 x.pos, .int .i64 x.stamp, .int .i64 x.client, .int .i64 x.id, .slice A n c] ∧ x.ok ∧ SlB w F A n c x.body
  len := by rintro _ _ _ _ ⟨A, n, c, rfl, _⟩; rfl
  one := by rintro _ _ _ _ ⟨A, n, c, rfl, _⟩ u hu; simp at hu; rcases hu with rfl | rfl | rfl | rfl | rfl <;> rfl
  keep := by rintro _ _ _ _ _ ⟨A, n, c, rfl, ho, h⟩ hk; exact ⟨A, n, c, rfl, ho, h.keep hk⟩
  mono := by rintro _ _ _ _ _ ⟨A, n, c, rfl, ho, h⟩ hk; exact ⟨A, n, c, rfl, ho, h.mono hk⟩
  lt := by rintro _ _ _ _ ⟨A, n, c, rfl, ho, h⟩; exact ⟨A, n, c, rfl, ho, h.lt (by decide)⟩
abbrev SlE := Sl tEntry

section
variable {w : World} {F : Nat → Prop} {A : Option Addr} {n c k : Nat}
theorem Sl.mem {l : List Member} (h : SlM w F A n c l) (hk : k < n) : ∃ b o m, A = some ⟨b, o, none⟩ ∧ F b ∧ b < w.heap.size ∧ l[k]? = some m ∧ m.ok ∧
    w.cell? ⟨b, o + k * 3, none⟩ = some (.int .i64 m.node) ∧ w.cell? ⟨b, o + k * 3 + 1, none⟩ = some (.int .i64 m.since) ∧ w.cell? ⟨b, o + k * 3 + 2, none⟩ = some (.bool m.whole) := by
  obtain ⟨b, o, cs, m, hA, hF, hl, ⟨rfl, ho⟩, hc⟩ := h.at_ hk
  exact ⟨b, o, m, hA, hF, lt_of_cell (hc 0 _ rfl), hl, ho, hc 0 _ rfl, hc 1 _ rfl, hc 2 _ rfl⟩
theorem Sl.byte {l : List UInt8} (h : SlB w F A n c l) (hk : k < n) : ∃ b o x, A = some ⟨b, o, none⟩ ∧ F b ∧ b < w.heap.size ∧ l[k]? = some x ∧
    w.cell? ⟨b, o + k, none⟩ = some (.int .u8 (x.toNat : Int)) := by
  obtain ⟨b, o, cs, x, hA, hF, hl, rfl, hc⟩ := h.at_ hk
  have h0 := hc 0 _ rfl
  simp only [tU8, Nat.mul_one, Nat.add_zero] at h0
  exact ⟨b, o, x, hA, hF, lt_of_cell h0, hl, h0⟩
theorem Sl.ent {l : List Entry} (h : SlE w F A n c l) (hk : k < n) : ∃ b o e A' n' c', A = some ⟨b, o, none⟩ ∧ F b ∧ b < w.heap.size ∧ l[k]? = some e ∧ e.ok ∧ SlB w F A' n' c' e.body ∧
    w.cell? ⟨b, o + k * 5, none⟩ = some (.int .i64 e.pos) ∧ w.cell? ⟨b, o + k * 5 + 1, none⟩ = some (.int .i64 e.stamp) ∧ w.cell? ⟨b, o + k * 5 + 2, none⟩ = some (.int .i64 e.client) ∧ w.cell? ⟨b, o + k * 5 + 3, none⟩ = some (.int .i64 e.id) ∧
    w.cell? ⟨b, o + k * 5 + 4, none⟩ = some (.slice A' n' c') := by
  obtain ⟨b, o, cs, e, hA, hF, hl, ⟨A', n', c', rfl, ho, hb⟩, hc⟩ := h.at_ hk
  exact ⟨b, o, e, A', n', c', hA, hF, lt_of_cell (hc 0 _ rfl), hl, ho, hb, hc 0 _ rfl, hc 1 _ rfl, hc 2 _ rfl, hc 3 _ rfl, hc 4 _ rfl⟩
end

/-! ### the chapter's words -/
/-- the place of a node's member; -1: it has none -/
def atS (l : List Member) (node : Int) : Int := match l.findIdx? (fun m => m.node == node) with | some i => (i : Int) | none => -1
/-- may a member stand at a place? -/
def okM (c : Config) (i : Nat) (m : Member) : Prop :=
  0 ≤ m.node ∧ m.node < 5 ∧ atS (c.members.take i) m.node < 0 ∧ 1 ≤ m.since ∧ m.since ≤ c.epoch ∧ (m.whole = true ∨ (i ≠ 0 ∧ c.members.length ≤ i + 1))
def mayP (c : Config) : Prop := 1 ≤ c.epoch ∧ c.epoch ≤ 1099511627776 ∧ 1 ≤ c.members.length ∧ c.members.length ≤ 5 ∧ ∀ (i : Nat) m, c.members[i]? = some m → okM c i m
noncomputable def mayS (c : Config) : Bool := @decide (mayP c) (Classical.propDecidable _)
theorem mayS_iff (c : Config) : mayS c = true ↔ mayP c := by unfold mayS; exact @decide_eq_true_iff _ (Classical.propDecidable _)
theorem mayS_not {c : Config} (h : ¬ mayP c) : mayS c = false := by
  cases hh : mayS c with
  | false => rfl
  | true => exact absurd ((mayS_iff c).1 hh) h
theorem atS_range (l : List Member) (node : Int) : -1 ≤ atS l node ∧ atS l node < l.length ∨ atS l node = -1 := by
  unfold atS
  cases h : l.findIdx? (fun m => m.node == node) with
  | none => exact .inr rfl
  | some i =>
    have := (List.findIdx?_eq_some_iff_getElem.1 h).1
    exact .inl ⟨by show (-1 : Int) ≤ (i : Int); omega, by show (i : Int) < _; omega⟩
/-- equality as a Bool -/
noncomputable def eqb {α : Type} (a b : α) : Bool := @decide (a = b) (Classical.propDecidable _)
theorem eqb_true {α : Type} {a b : α} : eqb a b = true ↔ a = b := by unfold eqb; exact @decide_eq_true_iff _ (Classical.propDecidable _)
theorem eqb_false {α : Type} {a b : α} : eqb a b = false ↔ a ≠ b := by
  cases h : eqb a b with
  | true => simp [eqb_true.1 h]
  | false => simp; intro e; rw [eqb_true.2 e] at h; cases h
theorem eqb_refl {α : Type} (a : α) : eqb a a = true := eqb_true.2 rfl
theorem eqb_of {α : Type} {a b : α} {p : Bool} (h : p = true ↔ a = b) : eqb a b = p := by
  cases hp : p with
  | true => exact eqb_true.2 (h.1 hp)
  | false => exact eqb_false.2 fun e => by rw [h.2 e] at hp; cases hp
theorem Member.ext_iff' {a b : Member} : a = b ↔ a.node = b.node ∧ a.since = b.since ∧ a.whole = b.whole := by
  cases a; cases b; simp
theorem Config.ext_iff' {a b : Config} : a = b ↔ a.epoch = b.epoch ∧ a.members = b.members := by
  cases a; cases b; simp
theorem Entry.ext_iff' {a b : Entry} : a = b ↔ a.pos = b.pos ∧ a.stamp = b.stamp ∧ a.client = b.client ∧ a.id = b.id ∧ a.body = b.body := by
  cases a; cases b; simp
end Go.Proofs.Ytkdbedbefojieaa
