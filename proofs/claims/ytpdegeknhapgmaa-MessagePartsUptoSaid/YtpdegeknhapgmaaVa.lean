/-
  A writer's bytes are the document's, as long as there are few of them.
-/
import Derived.Test.YtpdegeknhapgmaaV3
import Derived.Test.YtpdegeknhapgmaaW7
namespace Go.Proofs.Ytpdegeknhapgmaa
set_option linter.unusedVariables false
set_option linter.unusedSimpArgs false
open Go.RowKit
set_option maxRecDepth 100000
theorem addS_ok {a b : List UInt8} (h : a.length + b.length ≤ 65536) : addS (false, a) b = (false, a ++ b) := by
  simp only [addS]
  rw [if_neg (by simp; omega)]
theorem putM_ok {a : List UInt8} {m : Member} (h : a.length + 17 ≤ 65536) : putM (false, a) m = (false, a ++ memF m) := by
  unfold putM
  rw [addS_ok (by rw [intS_length]; omega), addS_ok (by rw [List.length_append, intS_length, intS_length]; omega), addS_ok (by rw [List.length_append, List.length_append, intS_length, intS_length, flagS_length]; omega)]
  simp [memF, numS]
theorem foldM_ok : ∀ {l : List Member} {a : List UInt8}, a.length + 17 * l.length ≤ 65536 → l.foldl putM (false, a) = (false, a ++ (l.map memF).flatten)
  | [], a, _ => by simp
  | m :: l, a, h => by
    rw [List.length_cons] at h
    rw [List.foldl_cons, putM_ok (by omega), foldM_ok (by rw [List.length_append, memF_length]; omega)]
    simp
theorem putC_ok {a : List UInt8} {c : Config} (h : a.length + 16 + 17 * c.members.length ≤ 65536) : putC (false, a) c = (false, a ++ configF c) := by
  unfold putC
  rw [addS_ok (by rw [intS_length]; omega), addS_ok (by rw [List.length_append, intS_length, intS_length]; omega), foldM_ok (by rw [List.length_append, List.length_append, intS_length, intS_length]; omega)]
  simp [configF, numS]
theorem putR_ok {a : List UInt8} {e : Entry} (h : a.length + 28 + e.body.length ≤ 65536) : putR (false, a) e = (false, a ++ restF e) := by
  unfold putR
  rw [addS_ok (by rw [intS_length]; omega), addS_ok (by simp only [List.length_append, intS_length]; omega), addS_ok (by simp only [List.length_append, intS_length]; omega), addS_ok (by simp only [List.length_append, intS_length, putS_length]; omega), addS_ok (by simp only [List.length_append, intS_length, putS_length]; omega)]
  simp [restF, numS]
theorem putE_ok {a : List UInt8} {e : Entry} (h : a.length + 36 + e.body.length ≤ 65536) : putE (false, a) e = (false, a ++ entryF e) := by
  have : putE (false, a) e = putR (addS (false, a) (intS e.pos)) e := rfl
  rw [this, addS_ok (by rw [intS_length]; omega), putR_ok (by rw [List.length_append, intS_length]; omega)]
  simp [entryF]
end Go.Proofs.Ytpdegeknhapgmaa
