/-
  The laws' arguments, opened: members, configurations, books, entries, records.
-/
import Derived.Test.YtkdbedbefojieaaBr
import Derived.Test.YtkdbedbefojieaaEnc
namespace Go.Proofs.Ytkdbedbefojieaa
set_option linter.unusedVariables false
set_option linter.unusedSimpArgs false
open Go.RowKit Go.ChangeShapes Go.WideShapes Go.ChangeAt Go.Deep
set_option maxRecDepth 100000
theorem laidOut : laidOutB Try.prog = true := by kernel_rfl
theorem own_knob : ownKnob Try.prog.godebug = none := by kernel_rfl
def I64 (x : Int) : Prop := -9223372036854775808 ≤ x ∧ x ≤ 9223372036854775807
theorem i64_of {x : Int} (h : (Lit.int .i64 x).wf = true) : I64 x := by simpa [Lit.wf, IntKind.min, IntKind.max, IntKind.signed, IntKind.bits, I64] using h
theorem u8_of {x : Int} (h : (Lit.int .u8 x).wf = true) : 0 ≤ x ∧ x ≤ 255 := by simpa [Lit.wf, IntKind.min, IntKind.max, IntKind.signed, IntKind.bits] using h
theorem oi : OA Try.prog 3 1 (fun _ x => I64 x) (fun x => [I x]) := (oa_int Try.underlying3 (by kernel_rfl)).map id (fun _ _ _ _ h => h) (fun _ _ h => i64_of h) fun _ => rfl
theorem obl : OA Try.prog 4 1 (fun _ (_ : Bool) => True) (fun x => [B x]) := oa_bool Try.underlying4 (by kernel_rfl)
theorem ou : OA Try.prog 5 1 (fun _ (_ : UInt8) => True) eB := (oa_int Try.underlying5 (by kernel_rfl)).wmap (fun x : Int => UInt8.ofNat x.toNat) (fun _ _ _ _ h => h) (fun _ _ _ => trivial) fun n x hx => by
  have h := u8_of hx
  have e : ((UInt8.ofNat x.toNat).toNat : Int) = x := by rw [UInt8.toNat_ofNat']; omega
  simp only [eB, U, e]
theorem obs : OA Try.prog 39 1 (fun N (l : List UInt8) => (∀ x ∈ l, True) ∧ l.length < N) (fun l => [bs none l]) := oa_slice (by decide) Try.underlying39 (by kernel_rfl) ou
theorem om : OA Try.prog 34 3 (fun _ m => I64 m.node ∧ I64 m.since) eM :=
  (oa_struct Try.underlying34 (by kernel_rfl) (of_cons rfl oi (of_cons rfl oi (of_cons rfl obl of_nil)))).map (fun d => ⟨d.1, d.2.1, d.2.2.1⟩) (fun _ _ _ _ h => h) (fun _ _ h => ⟨h.1, h.2.1⟩) fun _ => rfl
theorem oms : OA Try.prog 22 1 (fun N (l : List Member) => (∀ m ∈ l, I64 m.node ∧ I64 m.since) ∧ l.length < N) (fun l => [ms none l]) := oa_slice (by decide) Try.underlying22 (by kernel_rfl) om
def okC (N : Nat) (c : Config) : Prop := I64 c.epoch ∧ (∀ m ∈ c.members, I64 m.node ∧ I64 m.since) ∧ c.members.length < N
theorem okC.up {m n : Nat} {c : Config} (h : m ≤ n) (k : okC m c) : okC n c := ⟨k.1, k.2.1, Nat.lt_of_lt_of_le k.2.2 h⟩
theorem ocf : OA Try.prog 24 2 okC (eC none) :=
  (oa_struct Try.underlying24 (by kernel_rfl) (of_cons rfl oi (of_cons rfl oms of_nil))).map (fun d => ⟨d.1, d.2.1⟩) (fun _ _ _ => okC.up) (fun _ _ h => ⟨h.1, h.2.1.1, h.2.1.2⟩) fun _ => rfl
def okK (N : Nat) (b : Book) : Prop := okC N b.cfg ∧ I64 b.since ∧ I64 b.upto
theorem okK.up {m n : Nat} {b : Book} (h : m ≤ n) (k : okK m b) : okK n b := ⟨k.1.up h, k.2⟩
theorem obk : OA Try.prog 26 5 okK (eK none) :=
  (oa_struct Try.underlying26 (by kernel_rfl) (of_cons rfl ocf (of_cons rfl oi (of_cons rfl obl (of_cons rfl oi of_nil))))).map (fun d => ⟨d.1, d.2.1, d.2.2.1, d.2.2.2.1⟩) (fun _ _ _ => okK.up) (fun _ _ h => ⟨h.1, h.2.1, h.2.2.2.1⟩) fun _ => rfl
def okE (N : Nat) (e : Entry) : Prop := I64 e.pos ∧ I64 e.stamp ∧ I64 e.client ∧ I64 e.id ∧ e.body.length < N
theorem okE.up {m n : Nat} {e : Entry} (h : m ≤ n) (k : okE m e) : okE n e := ⟨k.1, k.2.1, k.2.2.1, k.2.2.2.1, Nat.lt_of_lt_of_le k.2.2.2.2 h⟩
theorem oen : OA Try.prog 41 5 okE (eE none) :=
  (oa_struct Try.underlying41 (by kernel_rfl) (of_cons rfl oi (of_cons rfl oi (of_cons rfl oi (of_cons rfl oi (of_cons rfl obs of_nil)))))).map (fun d => ⟨d.1, d.2.1, d.2.2.1, d.2.2.2.1, d.2.2.2.2.1⟩) (fun _ _ _ => okE.up) (fun _ _ h => ⟨h.1, h.2.1, h.2.2.1, h.2.2.2.1, h.2.2.2.2.1.2⟩) fun _ => rfl
def okR (N : Nat) (r : Record) : Prop := okK N r.book ∧ okE N r.entry
theorem okR.up {m n : Nat} {r : Record} (h : m ≤ n) (k : okR m r) : okR n r := ⟨k.1.up h, k.2.up h⟩
theorem orc : OA Try.prog 43 12 okR eR :=
  (oa_struct Try.underlying43 (by kernel_rfl) (of_cons rfl ou (of_cons rfl obk (of_cons rfl obl (of_cons rfl oen of_nil))))).map (fun d => ⟨d.1, d.2.1, d.2.2.1, d.2.2.2.1⟩) (fun _ _ _ => okR.up) (fun _ _ h => ⟨h.2.1, h.2.2.2.1⟩) fun _ => rfl
theorem orcs : OA Try.prog 38 1 (fun N (l : List Record) => (∀ r ∈ l, okR N r) ∧ l.length < N) (fun l => [.sl none 12 (l.map eR)]) := oa_slice (by decide) Try.underlying38 (by kernel_rfl) orc
theorem ocfs : OA Try.prog 53 1 (fun N (l : List Config) => (∀ r ∈ l, okC N r) ∧ l.length < N) (fun l => [.sl none 2 (l.map (eC none))]) := oa_slice (by decide) Try.underlying53 (by kernel_rfl) ocf
end Go.Proofs.Ytkdbedbefojieaa
