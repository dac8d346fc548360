/-
  The laws' arguments, opened: books, records.
-/
import Derived.Test.YtkdbedbefojieaaBrE
namespace Go.Proofs.Ytkdbedbefojieaa
set_option linter.unusedVariables false
set_option linter.unusedSimpArgs false
open Go.RowKit Go.ChangeShapes Go.WideShapes Go.ChangeAt Go.Deep
set_option maxRecDepth 100000
def okK (N : Nat) (b : Book) : Prop := okC N b.cfg ∧ I64 b.since ∧ I64 b.upto
theorem okK.up {m n : Nat} {b : Book} (h : m ≤ n) (k : okK m b) : okK n b := ⟨k.1.up h, k.2⟩
theorem obk : OA Try.prog 26 5 okK (eK none) :=
  (oa_struct Try.underlying26 (by kernel_rfl) (of_cons rfl ocf (of_cons rfl oi (of_cons rfl obl (of_cons rfl oi of_nil))))).map (fun d => ⟨d.1, d.2.1, d.2.2.1, d.2.2.2.1⟩) (fun _ _ _ => okK.up) (fun _ _ h => ⟨h.1, h.2.1, h.2.2.2.1⟩) fun _ => rfl
def okR (N : Nat) (r : Record) : Prop := okK N r.book ∧ okE N r.entry
theorem okR.up {m n : Nat} {r : Record} (h : m ≤ n) (k : okR m r) : okR n r := ⟨k.1.up h, k.2.up h⟩
theorem orc : OA Try.prog 43 12 okR eR :=
  (oa_struct Try.underlying43 (by kernel_rfl) (of_cons rfl ou (of_cons rfl obk (of_cons rfl obl (of_cons rfl oen of_nil))))).map (fun d => ⟨d.1, d.2.1, d.2.2.1, d.2.2.2.1⟩) (fun _ _ _ => okR.up) (fun _ _ h => ⟨h.2.1, h.2.2.2.1⟩) fun _ => rfl
theorem orcs : OA Try.prog 38 1 (fun N (l : List Record) => (∀ r ∈ l, okR N r) ∧ l.length < N) (fun l => [.sl none 12 (l.map eR)]) := oa_slice (by decide) Try.underlying38 (by kernel_rfl) orc
theorem ocfs : OA Try.prog 53 1 (fun N (l : List Config) => (∀ r ∈ l, okC N r) ∧ l.length < N) (fun l => [.sl none 2 (l.map (eC none))]) := oa_slice (by decide) Try.underlying53 (by kernel_rfl) ocf
end Go.Proofs.Ytkdbedbefojieaa
