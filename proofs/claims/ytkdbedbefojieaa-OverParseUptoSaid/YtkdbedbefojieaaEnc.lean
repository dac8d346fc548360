/-
  THE PROGRAM'S DATA as abstract values.
-/
import Derived.Test.YtkdbedbefojieaaEncB
namespace Go.Proofs.Ytkdbedbefojieaa
set_option linter.unusedVariables false
set_option linter.unusedSimpArgs false
open Go.RowKit
set_option maxRecDepth 100000

abbrev tM : TypeId := 34
abbrev tE : TypeId := 41
structure Member where
  node : Int
  since : Int
  whole : Bool
structure Config where
  epoch : Int
  members : List Member
structure Book where
  cfg : Config
  since : Int
  whole : Bool
  upto : Int
structure Entry where
  pos : Int
  stamp : Int
  client : Int
  id : Int
  body : List UInt8
structure Record where
  kind : UInt8
  book : Book
  drop : Bool
  entry : Entry
structure Life where
  book : Book
  boot : Int
  log : List Entry
abbrev eM (m : Member) : List AV := [I m.node, I m.since, B m.whole]
abbrev ms (o : Option TypeId) (l : List Member) : AV := .sl o 3 (l.map eM)
abbrev eC (o : Option TypeId) (c : Config) : List AV := [I c.epoch, ms o c.members]
abbrev eK (o : Option TypeId) (b : Book) : List AV := [I b.cfg.epoch, ms o b.cfg.members, I b.since, B b.whole, I b.upto]
abbrev eE (o : Option TypeId) (e : Entry) : List AV := [I e.pos, I e.stamp, I e.client, I e.id, bs o e.body]
abbrev eR (r : Record) : List AV := [U r.kind, I r.book.cfg.epoch, ms none r.book.cfg.members, I r.book.since, B r.book.whole, I r.book.upto, B r.drop, I r.entry.pos, I r.entry.stamp, I r.entry.client, I r.entry.id, bs none r.entry.body]
abbrev es (o q : Option TypeId) (l : List Entry) : AV := .sl o 5 (l.map (eE q))
abbrev eL (oM oE oB : Option TypeId) (x : Life) : List AV := [I x.book.cfg.epoch, ms oM x.book.cfg.members, I x.book.since, B x.book.whole, I x.book.upto, I x.boot, es oE oB x.log]

def eqM (a b : Member) : Bool := a.node == b.node && a.since == b.since && a.whole == b.whole
def eqMs : List Member → List Member → Bool
  | [], [] => true
  | a :: l, b :: m => eqM a b && eqMs l m
  | _, _ => false
def eqC (a b : Config) : Bool := a.epoch == b.epoch && eqMs a.members b.members
def eqK (a b : Book) : Bool := eqC a.cfg b.cfg && a.since == b.since && a.whole == b.whole && a.upto == b.upto
def eqE (a b : Entry) : Bool := a.pos == b.pos && a.stamp == b.stamp && a.client == b.client && a.id == b.id && decide (a.body = b.body)
def eqEs : List Entry → List Entry → Bool
  | [], [] => true
  | a :: l, b :: m => eqE a b && eqEs l m
  | _, _ => false
def eqLf (a b : Life) : Bool := eqK a.book b.book && a.boot == b.boot && eqEs a.log b.log
theorem eqM_iff {a b : Member} : eqM a b = true ↔ a = b := by
  cases a; cases b; simp [eqM, and_assoc]
theorem eqMs_iff : ∀ {l m : List Member}, eqMs l m = true ↔ l = m
  | [], [] => by simp [eqMs]
  | [], _ :: _ => by simp [eqMs]
  | _ :: _, [] => by simp [eqMs]
  | a :: l, b :: m => by simp [eqMs, eqM_iff, eqMs_iff (l := l) (m := m)]
theorem eqC_iff {a b : Config} : eqC a b = true ↔ a = b := by
  cases a; cases b; simp [eqC, eqMs_iff]
theorem eqK_iff {a b : Book} : eqK a b = true ↔ a = b := by
  cases a; cases b; simp [eqK, eqC_iff, and_assoc]
theorem eqE_iff {a b : Entry} : eqE a b = true ↔ a = b := by
  cases a; cases b; simp [eqE, and_assoc]
theorem eqEs_iff : ∀ {l m : List Entry}, eqEs l m = true ↔ l = m
  | [], [] => by simp [eqEs]
  | [], _ :: _ => by simp [eqEs]
  | _ :: _, [] => by simp [eqEs]
  | a :: l, b :: m => by simp [eqEs, eqE_iff, eqEs_iff (l := l) (m := m)]
theorem eqLf_iff {a b : Life} : eqLf a b = true ↔ a = b := by
  cases a; cases b; simp [eqLf, eqK_iff, eqEs_iff, and_assoc]
/-- two rows, held against each other one by one -/
theorem eqMs_len {l m : List Member} (h : l.length ≠ m.length) : eqMs l m = false := by
  cases he : eqMs l m with
  | false => rfl
  | true => rw [eqMs_iff] at he; subst he; exact absurd rfl h
theorem eqEs_len {l m : List Entry} (h : l.length ≠ m.length) : eqEs l m = false := by
  cases he : eqEs l m with
  | false => rfl
  | true => rw [eqEs_iff] at he; subst he; exact absurd rfl h
theorem nr_M {e k : Nat} {l : List Member} : NR (.sl (some e) k (l.map eM)) := NR.leafs fun x a ha => by simp [eM] at ha; rcases ha with rfl | rfl | rfl <;> exact .sc
theorem nr_E {e k q : Nat} {l : List Entry} : NR (.sl (some e) k (l.map (eE (some q)))) := NR.leafs fun x a ha => by
  simp [eE] at ha; rcases ha with rfl | rfl | rfl | rfl | rfl <;> first | exact .sc | exact nr_B
theorem ro_M (l : List Member) : roE (l.map eM) = l.map eM := by rw [roE_map]; rfl
theorem ro_E (q : Option TypeId) (l : List Entry) : roE (l.map (eE q)) = l.map (eE none) := by
  rw [roE_map]
  refine List.map_congr_left fun x _ => ?_
  simp only [eE, roC, AV.ro, ro_B]
end Go.Proofs.Ytkdbedbefojieaa
