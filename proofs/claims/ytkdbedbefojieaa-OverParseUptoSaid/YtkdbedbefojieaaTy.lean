/-
  THE TABLE OF TYPES, as a list that is quick to read, held once against the program's own. Nothing here names a function of the program.
-/
import Derived.Test.YtkdbedbefojieaaProg
import Derived.WalkKit
namespace Go.Proofs.Ytkdbedbefojieaa
set_option linter.unusedVariables false
set_option linter.unusedSimpArgs false
set_option maxRecDepth 100000

/-- a zero cell -/
inductive ZC where
  | b | i (k : IntKind) | s | p | l | m | f | n
def ZC.val : ZC → Value
  | .b => .bool false
  | .i k => .int k 0
  | .s => .string ByteArray.empty
  | .p => .pointer none
  | .l => .slice none 0 0
  | .m => .map none
  | .f => .nilFunc
  | .n => .nilIface
inductive Kd where
  | st (f : List (Nat × Nat))
  | ar (n elem : Nat)
  | sl (elem : Nat)
  | it (k : IntKind)
  | bo | sr
  | pt (elem : Nat)
  | mp (k v : Nat)
  | ot
structure TI where
  kd : Kd
  size : Nat
  bytes : Nat
  zero : Option (List ZC)
def ZC.is : ZC → Value → Bool
  | .b, .bool false => true
  | .i k, .int k' 0 => k == k'
  | .s, .string q => q.size == 0
  | .p, .pointer none => true
  | .l, .slice none 0 0 => true
  | .m, .map none => true
  | .f, .nilFunc => true
  | .n, .nilIface => true
  | _, _ => false
def ZC.all : List ZC → List Value → Bool
  | [], [] => true
  | z :: zs, v :: vs => z.is v && ZC.all zs vs
  | _, _ => false
/-- what the program says of a type, as the table has it -/
def Kd.is (P : Program) : Kd → TypeDesc → Bool
  | .st f, .struct fs => fs.toList.map (fun x => (x.offset, ((P.info? x.type).map (·.size)).getD 0)) == f
  | .ar n e, .array n' e' => n == n' && e == e'
  | .sl e, .slice e' => e == e'
  | .it k, .int k' => k == k'
  | .bo, .bool => true
  | .sr, .string => true
  | .pt e, .pointer e' => e == e'
  | .mp k v, .map k' v' => k == k' && v == v'
  | .ot, .struct _ => false
  | .ot, .array _ _ => false
  | .ot, _ => true
  | _, _ => false
def TI.is (P : Program) (T : Nat) (i : TI) : Bool :=
  match P.underlying T, P.info? T with
  | some d, some j => i.kd.is P d && i.size == j.size && i.bytes == j.bytes && (match i.zero with
    | none => true
    | some zs => match j.zero with
      | none => false
      | some v => (match v with | .agg _ => (match d with | .struct _ => true | .array _ _ => true | _ => false) | .tuple _ => false | _ => (match d with | .struct _ => false | .array _ _ => false | _ => true)) && ZC.all zs v.cells.toList && (zs.length == i.size))
  | _, _ => false
/-- the table holds of the program -/
def TT.is (P : Program) : Nat → List TI → Bool
  | _, [] => true
  | n, i :: l => i.is P n && TT.is P (n + 1) l
theorem TT.at_ {P : Program} : ∀ {l : List TI} {n T : Nat} {i : TI}, TT.is P n l = true → l[T]? = some i → i.is P (n + T) = true
  | [], _, _, _, _, h => by simp at h
  | j :: l, n, T, i, h, hi => by
    simp only [TT.is, Bool.and_eq_true] at h
    cases T with
    | zero => simp at hi; subst hi; exact h.1
    | succ T => simp at hi; have := TT.at_ h.2 hi; rwa [show n + (T + 1) = n + 1 + T by omega]
theorem str_empty {s : ByteArray} (h : s.size = 0) : s = ByteArray.empty := by
  cases s with | mk d => have : d = #[] := Array.eq_empty_of_size_eq_zero h; subst this; rfl
theorem ZC.val_of {z : ZC} {v : Value} (h : z.is v = true) : v = z.val := by
  unfold ZC.is at h
  split at h
  all_goals first | rfl | (cases h; done) | skip
  · have := eq_of_beq h; subst this; rfl
  · rename_i q; rw [str_empty (s := q) (by simpa using h)]; rfl
theorem ZC.all_of : ∀ {zs : List ZC} {vs : List Value}, ZC.all zs vs = true → vs = zs.map ZC.val
  | [], [], _ => rfl
  | [], _ :: _, h => by simp [ZC.all] at h
  | _ :: _, [], h => by simp [ZC.all] at h
  | z :: zs, v :: vs, h => by
    simp only [ZC.all, Bool.and_eq_true] at h
    rw [ZC.val_of h.1, ZC.all_of h.2]; rfl

section
variable {P : Program} {T : Nat} {i : TI}
theorem TI.parts (h : i.is P T = true) : ∃ d j, P.underlying T = some d ∧ P.info? T = some j ∧ i.kd.is P d = true ∧ j.size = i.size ∧ j.bytes = i.bytes ∧
    (∀ zs, i.zero = some zs → ∃ v, j.zero = some v ∧ v.cells.toList = zs.map ZC.val ∧ zs.length = i.size ∧ ((∃ c, v = .agg c) ↔ (match d with | .struct _ => true | .array _ _ => true | _ => false) = true) ∧ (∀ c, v ≠ .tuple c)) := by
  unfold TI.is at h
  cases hd : P.underlying T with
  | none => simp [hd] at h
  | some d =>
    cases hj : P.info? T with
    | none => simp [hd, hj] at h
    | some j =>
      simp only [hd, hj, Bool.and_eq_true, beq_iff_eq] at h
      obtain ⟨⟨⟨h1, h2⟩, h3⟩, h4⟩ := h
      refine ⟨d, j, rfl, rfl, h1, h2.symm, h3.symm, fun zs hz => ?_⟩
      rw [hz] at h4
      cases hv : j.zero with
      | none => simp [hv] at h4
      | some v =>
        simp only [hv, Bool.and_eq_true, beq_iff_eq] at h4
        obtain ⟨⟨h5, h6⟩, h7⟩ := h4
        refine ⟨v, rfl, ZC.all_of h6, h7, ?_, ?_⟩
        · cases v <;> first | (simp at h5; done) | (cases d <;> simp at h5 ⊢)
        · rintro c rfl; simp at h5
theorem TI.row (h : i.is P T = true) {f : List (Nat × Nat)} (hk : i.kd = .st f) : ∃ fs, P.underlying T = some (.struct fs) ∧ ∀ (n o z : Nat), f[n]? = some (o, z) → ∃ x : Field, fs[n]? = some x ∧ x.offset = o ∧ ((P.info? x.type).map (·.size)).getD 0 = z := by
  obtain ⟨d, j, hd, hj, h1, _⟩ := TI.parts h
  rw [hk] at h1
  cases d with
  | struct fs =>
    simp only [Kd.is] at h1
    refine ⟨fs, hd, fun n o z hn => ?_⟩
    have := eq_of_beq h1
    rw [← this] at hn
    simp only [List.getElem?_map, Option.map_eq_some_iff, Array.getElem?_toList] at hn
    obtain ⟨x, hx, hxe⟩ := hn
    injection hxe with e1 e2
    exact ⟨x, hx, e1, e2⟩
  | _ => simp [Kd.is] at h1
end

def tt : List TI := [
  ⟨.ot, 1, 0, none⟩,
  ⟨.ot, 1, 8, some [.f]⟩,
  ⟨.it .i64, 1, 8, some [.i .i64]⟩,
  ⟨.it .i64, 1, 8, some [.i .i64]⟩,
  ⟨.bo, 1, 1, some [.b]⟩,
  ⟨.it .u8, 1, 1, some [.i .u8]⟩,
  ⟨.it .u8, 1, 1, some [.i .u8]⟩,
  ⟨.st [(0, 1), (1, 1), (2, 1), (3, 1)], 4, 24, some [.i .i64, .i .i64, .b, .i .u8]⟩,
  ⟨.st [(0, 1), (1, 1), (2, 1), (3, 1)], 4, 24, some [.i .i64, .i .i64, .b, .i .u8]⟩,
  ⟨.sr, 1, 16, some [.s]⟩,
  ⟨.sr, 1, 16, some [.s]⟩,
  ⟨.sr, 1, 16, some [.s]⟩,
  ⟨.it .u64, 1, 8, some [.i .u64]⟩,
  ⟨.st [(0, 1), (1, 1)], 2, 24, some [.s, .i .u64]⟩,
  ⟨.st [(0, 1), (1, 1)], 2, 24, some [.s, .i .u64]⟩,
  ⟨.pt 157, 1, 8, some [.p]⟩,
  ⟨.pt 160, 1, 8, some [.p]⟩,
  ⟨.pt 168, 1, 8, some [.p]⟩,
  ⟨.st [(0, 1)], 1, 8, some [.p]⟩,
  ⟨.st [(0, 1)], 1, 8, some [.p]⟩,
  ⟨.ot, 1, 16, some [.n]⟩,
  ⟨.it .i32, 1, 4, some [.i .i32]⟩,
  ⟨.sl 34, 1, 24, some [.l]⟩,
  ⟨.st [(0, 1), (1, 1)], 2, 32, some [.i .i64, .l]⟩,
  ⟨.st [(0, 1), (1, 1)], 2, 32, some [.i .i64, .l]⟩,
  ⟨.st [(0, 2), (2, 1), (3, 1), (4, 1)], 5, 56, some [.i .i64, .l, .i .i64, .b, .i .i64]⟩,
  ⟨.st [(0, 2), (2, 1), (3, 1), (4, 1)], 5, 56, some [.i .i64, .l, .i .i64, .b, .i .i64]⟩,
  ⟨.ot, 1, 8, some [.f]⟩,
  ⟨.it .i64, 1, 8, some [.i .i64]⟩,
  ⟨.ot, 1, 0, none⟩,
  ⟨.ot, 1, 8, some [.f]⟩,
  ⟨.ot, 1, 0, none⟩,
  ⟨.ot, 1, 8, some [.f]⟩,
  ⟨.st [(0, 1), (1, 1), (2, 1)], 3, 24, some [.i .i64, .i .i64, .b]⟩,
  ⟨.st [(0, 1), (1, 1), (2, 1)], 3, 24, some [.i .i64, .i .i64, .b]⟩,
  ⟨.ot, 1, 8, some [.f]⟩,
  ⟨.ot, 1, 8, some [.f]⟩,
  ⟨.ot, 1, 8, some [.f]⟩,
  ⟨.sl 43, 1, 24, some [.l]⟩,
  ⟨.sl 5, 1, 24, some [.l]⟩,
  ⟨.st [(0, 1), (1, 1), (2, 1), (3, 1), (4, 1)], 5, 56, some [.i .i64, .i .i64, .i .i64, .i .i64, .l]⟩,
  ⟨.st [(0, 1), (1, 1), (2, 1), (3, 1), (4, 1)], 5, 56, some [.i .i64, .i .i64, .i .i64, .i .i64, .l]⟩,
  ⟨.st [(0, 1), (1, 5), (6, 1), (7, 5)], 12, 128, some [.i .u8, .i .i64, .l, .i .i64, .b, .i .i64, .b, .i .i64, .i .i64, .i .i64, .i .i64, .l]⟩,
  ⟨.st [(0, 1), (1, 5), (6, 1), (7, 5)], 12, 128, some [.i .u8, .i .i64, .l, .i .i64, .b, .i .i64, .b, .i .i64, .i .i64, .i .i64, .i .i64, .l]⟩,
  ⟨.ot, 1, 8, some [.f]⟩,
  ⟨.ot, 1, 8, some [.f]⟩,
  ⟨.sl 41, 1, 24, some [.l]⟩,
  ⟨.st [(0, 5), (5, 1), (6, 1)], 7, 88, some [.i .i64, .l, .i .i64, .b, .i .i64, .i .i64, .l]⟩,
  ⟨.st [(0, 5), (5, 1), (6, 1)], 7, 88, some [.i .i64, .l, .i .i64, .b, .i .i64, .i .i64, .l]⟩,
  ⟨.ot, 1, 8, some [.f]⟩,
  ⟨.ot, 1, 8, some [.f]⟩,
  ⟨.ot, 1, 8, some [.f]⟩,
  ⟨.ot, 1, 8, some [.f]⟩,
  ⟨.sl 24, 1, 24, some [.l]⟩,
  ⟨.sl 3, 1, 24, some [.l]⟩,
  ⟨.ot, 1, 8, some [.f]⟩,
  ⟨.ot, 1, 8, some [.f]⟩,
  ⟨.ot, 1, 0, none⟩,
  ⟨.ot, 1, 8, some [.f]⟩,
  ⟨.ot, 1, 8, some [.f]⟩,
  ⟨.ot, 1, 0, none⟩,
  ⟨.ot, 1, 8, some [.f]⟩,
  ⟨.ot, 1, 8, some [.f]⟩,
  ⟨.ot, 1, 8, some [.f]⟩,
  ⟨.ot, 1, 8, some [.f]⟩,
  ⟨.ot, 1, 8, some [.f]⟩,
  ⟨.ot, 1, 0, none⟩,
  ⟨.ot, 1, 8, some [.f]⟩,
  ⟨.ot, 1, 0, none⟩,
  ⟨.ot, 1, 8, some [.f]⟩,
  ⟨.ot, 1, 8, some [.f]⟩,
  ⟨.ot, 1, 8, some [.f]⟩,
  ⟨.ot, 1, 8, some [.f]⟩,
  ⟨.ot, 1, 8, some [.f]⟩,
  ⟨.ot, 1, 8, some [.f]⟩,
  ⟨.ot, 1, 8, some [.f]⟩,
  ⟨.ot, 1, 8, some [.f]⟩,
  ⟨.ot, 1, 8, some [.f]⟩,
  ⟨.ot, 1, 8, some [.f]⟩,
  ⟨.pt 113, 1, 8, some [.p]⟩,
  ⟨.ot, 1, 8, some [.f]⟩,
  ⟨.ot, 1, 8, some [.f]⟩,
  ⟨.ot, 1, 8, some [.f]⟩,
  ⟨.ot, 1, 8, some [.f]⟩,
  ⟨.ot, 1, 8, some [.f]⟩,
  ⟨.ot, 1, 8, some [.f]⟩,
  ⟨.ot, 1, 8, some [.f]⟩,
  ⟨.ot, 1, 8, some [.f]⟩,
  ⟨.ot, 1, 8, some [.f]⟩,
  ⟨.ot, 1, 8, some [.f]⟩,
  ⟨.ot, 1, 8, some [.f]⟩,
  ⟨.ot, 1, 8, some [.f]⟩,
  ⟨.pt 124, 1, 8, some [.p]⟩,
  ⟨.ot, 1, 8, some [.f]⟩,
  ⟨.ot, 1, 8, some [.f]⟩,
  ⟨.ot, 1, 8, some [.f]⟩,
  ⟨.ot, 1, 8, some [.f]⟩,
  ⟨.ot, 1, 8, some [.f]⟩,
  ⟨.ot, 1, 8, some [.f]⟩,
  ⟨.pt 136, 1, 8, some [.p]⟩,
  ⟨.ot, 1, 8, some [.f]⟩,
  ⟨.ot, 1, 8, some [.f]⟩,
  ⟨.ot, 1, 8, some [.f]⟩,
  ⟨.ot, 1, 8, some [.f]⟩,
  ⟨.ot, 1, 8, some [.f]⟩,
  ⟨.ot, 1, 8, some [.f]⟩,
  ⟨.ot, 1, 8, some [.f]⟩,
  ⟨.ar 5 51, 5, 40, some [.f, .f, .f, .f, .f]⟩,
  ⟨.ot, 1, 8, some [.f]⟩,
  ⟨.ot, 1, 8, some [.f]⟩,
  ⟨.ot, 1, 8, some [.f]⟩,
  ⟨.ot, 1, 8, some [.f]⟩,
  ⟨.st [(0, 1), (1, 1), (2, 1)], 3, 32, some [.b, .b, .l]⟩,
  ⟨.st [(0, 1), (1, 1), (2, 1)], 3, 32, some [.b, .b, .l]⟩,
  ⟨.ot, 1, 8, some [.f]⟩,
  ⟨.ot, 1, 8, some [.f]⟩,
  ⟨.it .u64, 1, 8, some [.i .u64]⟩,
  ⟨.ot, 1, 8, some [.f]⟩,
  ⟨.ot, 1, 8, some [.f]⟩,
  ⟨.ot, 1, 8, some [.f]⟩,
  ⟨.ot, 1, 8, some [.f]⟩,
  ⟨.ot, 1, 8, some [.f]⟩,
  ⟨.ot, 1, 8, some [.f]⟩,
  ⟨.st [(0, 1), (1, 1), (2, 1)], 3, 40, some [.b, .l, .i .i64]⟩,
  ⟨.st [(0, 1), (1, 1), (2, 1)], 3, 40, some [.b, .l, .i .i64]⟩,
  ⟨.ot, 1, 8, some [.f]⟩,
  ⟨.ot, 1, 8, some [.f]⟩,
  ⟨.ot, 1, 8, some [.f]⟩,
  ⟨.ot, 1, 8, some [.f]⟩,
  ⟨.ot, 1, 0, none⟩,
  ⟨.ot, 1, 8, some [.f]⟩,
  ⟨.ot, 1, 8, some [.f]⟩,
  ⟨.ot, 1, 8, some [.f]⟩,
  ⟨.ot, 1, 8, some [.f]⟩,
  ⟨.ot, 1, 8, some [.f]⟩,
  ⟨.st [(0, 1), (1, 1), (2, 1)], 3, 40, some [.l, .i .i64, .i .i64]⟩,
  ⟨.st [(0, 1), (1, 1), (2, 1)], 3, 40, some [.l, .i .i64, .i .i64]⟩,
  ⟨.ot, 1, 0, none⟩,
  ⟨.ot, 1, 8, some [.f]⟩,
  ⟨.ot, 1, 8, some [.f]⟩,
  ⟨.ot, 1, 8, some [.f]⟩,
  ⟨.ot, 1, 8, some [.f]⟩,
  ⟨.sl 39, 1, 24, some [.l]⟩,
  ⟨.ot, 1, 8, some [.f]⟩,
  ⟨.ot, 1, 0, none⟩,
  ⟨.ot, 1, 0, none⟩,
  ⟨.ot, 1, 0, none⟩,
  ⟨.ot, 1, 8, some [.f]⟩,
  ⟨.ot, 1, 8, some [.f]⟩,
  ⟨.it .u32, 1, 4, some [.i .u32]⟩,
  ⟨.it .u64, 1, 8, some [.i .u64]⟩,
  ⟨.ot, 1, 0, none⟩,
  ⟨.ot, 1, 8, some [.f]⟩,
  ⟨.ot, 1, 8, some [.f]⟩,
  ⟨.ot, 1, 8, some [.f]⟩,
  ⟨.ot, 1, 8, some [.f]⟩,
  ⟨.st [(0, 1), (1, 1), (2, 1), (3, 1)], 4, 40, some [.p, .p, .p, .s]⟩,
  ⟨.st [(0, 1), (1, 1), (2, 1), (3, 1)], 4, 40, some [.p, .p, .p, .s]⟩,
  ⟨.ar 0 16, 0, 0, some []⟩,
  ⟨.st [(0, 0)], 0, 0, some []⟩,
  ⟨.st [(0, 0)], 0, 0, some []⟩,
  ⟨.it .u8, 1, 1, some [.i .u8]⟩,
  ⟨.it .u8, 1, 1, some [.i .u8]⟩,
  ⟨.ot, 1, 8, some [.f]⟩,
  ⟨.pt 5, 1, 8, some [.p]⟩,
  ⟨.it .i32, 1, 4, some [.i .i32]⟩,
  ⟨.it .i32, 1, 4, some [.i .i32]⟩,
  ⟨.st [(0, 1), (1, 1), (2, 1), (3, 1), (4, 1), (5, 1), (6, 1), (7, 1), (8, 1), (9, 1), (10, 1)], 11, 48, some [.i .u64, .i .u64, .i .u32, .i .u8, .i .u8, .i .u8, .i .u8, .f, .p, .i .i32, .i .i32]⟩,
  ⟨.st [(0, 1), (1, 1), (2, 1), (3, 1), (4, 1), (5, 1), (6, 1), (7, 1), (8, 1), (9, 1), (10, 1)], 11, 48, some [.i .u64, .i .u64, .i .u32, .i .u8, .i .u8, .i .u8, .i .u8, .f, .p, .i .i32, .i .i32]⟩,
  ⟨.ot, 1, 8, some [.p]⟩]
theorem tt_ok : TT.is Try.prog 0 tt = true := by kernel_rfl
theorem ty {T : Nat} {i : TI} (h : tt[T]? = some i) : i.is Try.prog T = true := by have := TT.at_ tt_ok h; rwa [Nat.zero_add] at this
end Go.Proofs.Ytkdbedbefojieaa
