/-
  Numbers' bytes.
-/
import Derived.Test.YtkdbedbefojieaaW1
namespace Go.Proofs.Ytkdbedbefojieaa
set_option linter.unusedVariables false
set_option linter.unusedSimpArgs false
open Go.RowKit
set_option maxRecDepth 100000
/-- the last n bytes of a number -/
def putS (x : Nat) : Nat → List UInt8
  | 0 => []
  | n + 1 => UInt8.ofNat (x / 256 ^ n % 256) :: putS x n
theorem putS_length (x : Nat) : ∀ n, (putS x n).length = n
  | 0 => rfl
  | n + 1 => by simp [putS, putS_length x n]
theorem put_set (x n i : Nat) (hi : i < n) : (List.replicate (n - i) (0 : UInt8) ++ putS x i).set (n - 1 - i) (UInt8.ofNat (x / 256 ^ i % 256)) = List.replicate (n - (i + 1)) (0 : UInt8) ++ putS x (i + 1) := by
  have e : List.replicate (n - i) (0 : UInt8) = List.replicate (n - (i + 1)) 0 ++ [0] := by
    rw [show n - i = n - (i + 1) + 1 by omega, List.replicate_succ']
  rw [e, List.append_assoc, List.set_append_right _ _ (by simp; omega)]
  simp only [List.length_replicate, show n - 1 - i - (n - (i + 1)) = 0 by omega, List.cons_append, List.nil_append, List.set_cons_zero, putS]
theorem byte_of (x i : Nat) (hi : i < 8) : IntKind.u8.wrap (((x : Int)).fdiv (2 ^ (min (8 * i) 64))) = ((UInt8.ofNat (x / 256 ^ i % 256)).toNat : Int) := by
  have h1 : min (8 * i) 64 = 8 * i := by omega
  have h2 : (2 : Int) ^ (8 * i) = ((256 ^ i : Nat) : Int) := by
    rw [Int.pow_mul]; simp [Int.natCast_pow]
  rw [h1, h2, Int.fdiv_eq_ediv_of_nonneg _ (Int.natCast_nonneg _)]
  have h3 : ((x : Int) / ((256 ^ i : Nat) : Int)) = ((x / 256 ^ i : Nat) : Int) := by simp
  rw [h3]
  generalize x / 256 ^ i = y
  rw [UInt8.toNat_ofNat']
  simp [IntKind.wrap, IntKind.bits, IntKind.signed]
end Go.Proofs.Ytkdbedbefojieaa
