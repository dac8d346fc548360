/-
  Plain data as abstract values: integers, truth, bytes.
-/
import Derived.Test.YtkdbedbefojieaaOp8
namespace Go.Proofs.Ytkdbedbefojieaa
set_option linter.unusedVariables false
set_option linter.unusedSimpArgs false
open Go.RowKit
set_option maxRecDepth 100000

abbrev tU : TypeId := 5
abbrev I (x : Int) : AV := .sc (.int .i64 x)
abbrev B (x : Bool) : AV := .sc (.bool x)
abbrev U (x : UInt8) : AV := .sc (.int .u8 (x.toNat : Int))
abbrev eB (x : UInt8) : List AV := [U x]
abbrev bs (o : Option TypeId) (l : List UInt8) : AV := .sl o 1 (l.map eB)
theorem wrap_i64 {x : Int} (h : -9223372036854775808 ≤ x) (h' : x ≤ 9223372036854775807) : IntKind.i64.wrap x = x := IntWalk.i64_in _ (by omega)
theorem take_ext {α : Type} {l m : List α} {k : Nat} (h : l.take k = m.take k) (h1 : k < l.length) (h2 : k < m.length) (he : l[k] = m[k]) : l.take (k + 1) = m.take (k + 1) := by
  rw [List.take_succ_eq_append_getElem h1, List.take_succ_eq_append_getElem h2, h, he]
theorem NR.leafs {e k : Nat} {α : Type} {enc : α → List AV} {l : List α} (h : ∀ x a, a ∈ enc x → NR a) : NR (.sl (some e) k (l.map enc)) :=
  .ow fun c hc a ha => by obtain ⟨x, _, rfl⟩ := List.mem_map.1 hc; exact h x a ha
theorem nr_B {e k : Nat} {l : List UInt8} : NR (.sl (some e) k (l.map eB)) := NR.leafs fun x a ha => by simp [eB] at ha; subst ha; exact .sc
theorem ro_B (l : List UInt8) : roE (l.map eB) = l.map eB := by rw [roE_map]; rfl
end Go.Proofs.Ytkdbedbefojieaa
